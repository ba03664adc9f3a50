/-
  FnDefinedSet: all that its proof names (part 5)
-/
import Derived.Test.YtagbocafnliabaaDoorKFnDefinedSetd
import Derived.Test.YtagbocafnliabaaDoorKFnDefinedSetb
import Derived.Test.YtagbocafnliabaaDoorKFnDefinedSetc
import Derived.Test.YtagbocafnliabaaDoorKFnDefinedSeta
namespace Go.Proofs.YtagbocafnliabaaDoor
open Go.RowKit Go.Wk
set_option linter.unusedSimpArgs false
set_option maxHeartbeats 400000 in
theorem index_ok (va:Value) (xs:List Int) (y:Int) (w:World) (hva:Ints w va xs) (hs1:xs.length≤1000000) :
    Calls Tryd.prog 112 [va,i6_ y].toArray w fun en w'=>en=.returned (.int .i64 (idxI xs fun z=>decide (y=z)))∧Below w.heap.size w w':=by
 refine fnStart (n:=19) (e:=[(0,va),(1,i6_ y)]) Tryd.func112 Z Z Z Z Ends.both (zE (zB (zC 1 Z (zI (zD [0,1] [_,_] Z (zE (zE (zB (zC 1 Z (zG (v:=i6_ (xs.length:Int)) Z (xP Z yA Z (ints_length _) (fun w1 hw1=>Row.own hva hw1)) (zC 1 Z (zI (zD [0,1,7,8] [_,_,_,_] Z (qZ (jH (σ:=Nat) (fun k=>k≤xs.length∧∀ i:Nat,i<k→(fun z=>decide (y=z)) (xs.getD i 0)=false) (fun k=>[(0,va),(1,i6_ y),(7,i6_ (xs.length:Int)),(8,i6_ (k:Int))]) (fun k=>Own w.heap.size w []) (fun k=>xs.length - k) (0) ⟨by omega,fun i hi=>absurd hi (by omega)⟩ (Sub.sel [0,1,7,8] Z) (fun _ h=>h) ?_)))))))))))))))
 rintro k ⟨hk,hall⟩;refine zE (zB (zC 1 Z (zI (zD [0,1,7,8,9] [_,_,_,_,_] Z (zE (yE Z (fun h9=>?_) (fun h9=>?_)))))))
 ·
  refine qN (zD [0,1,7,8] [_,_,_,_] Z (zE (qZ (zE (zB (zC 2 Z (zI (zD [0,1,5,7,8] [_,_,_,_,_] Z (zE (zB (zC 3 Z (zG (v:=.pointer (some (sAt va (k:Int)))) Z (xX Z yA zJ Z Z (by omega) (by rw [ints_length];omega) (fun w1 hw1=>Row.own hva hw1)) (zG (v:=i6_ (xs.getD ((k:Int).toNat) 0)) Z (qU Z zU Z (fun w1 hw1=>Ints.cell (Row.own hva hw1) (by omega) (by omega))) (zC 1 Z (zI (zD [0,1,5,7,8,16] [_,_,_,_,_,_] Z (yE Z (fun h16=>?_) (fun h16=>?_))))))))))))))))))
  ·
   refine zE (zB (zC 2 Z (zI (zD [4] [_] Z (qK (qO Z Z fun w' hw=>?_))))))
   exact ⟨ret_i (idxI_at (by omega) hall (by simpa using h16)).symm,hw.below⟩
  refine qN (zD [0,1,7,8] [_,_,_,_] Z (zB (zG Z (qS Z Z Z (by omega) (by omega)) (zC 1 Z (zI (yZ (k+1) ⟨by omega,fun i hi=>(Nat.lt_succ_iff_lt_or_eq.1 hi).elim (hall i) (fun e=>by subst e;simpa using h16)⟩ (by omega) (Sub.sel [0,1,7,8] Z) (fun _ h=>h)))))))
 refine xB Z (zD [] [] Z (zE (zB (zC 1 Z (zI (zD [4] [_] Z (qK (qO Z Z fun w' hw=>?_))))))))
 exact ⟨ret_i (idxI_none (fun i hi=>hall i (by omega))).symm,hw.below⟩
set_option maxHeartbeats 400000 in
theorem contains_ok (va:Value) (xs:List Int) (y:Int) (w:World) (hva:Ints w va xs) (hs1:xs.length≤1000000) :
    Calls Tryd.prog 74 [va,i6_ y].toArray w fun en w'=>en=.returned (.bool (decide (y∈xs)))∧Below w.heap.size w w':=by
 refine fnStart (n:=9) (e:=[(0,va),(1,i6_ y)]) Tryd.func74 Z Z Z Z Ends.both (zE (zB (zC 1 Z (zI (zD [0,1] [_,_] Z (zE (zB (zC 2 Z (zG (v:=i6_ (idxI xs fun z=>decide (y=z))) Z (qR Z Tryd.call112 Z qG (fun w1 hw1=>index_ok va xs y w1 (Row.own hva hw1) (by omega))) (zC 2 Z (zI (zD [4] [_] Z (qK (qO Z Z fun w' hw=>?_))))))))))))))
 exact ⟨ret_b (has_idx xs y),hw.below⟩
set_option maxHeartbeats 400000 in
theorem placed_ok (a b:St) (va:Value) (os:List Int) (x:Int) (w:World) (ha:a.Fine) (hb:b.Fine) (hva:Ints w va os) (hs:os.length≤8) (hA:a.Els os) (hx:a.El x) (hbi:b.El os.length) :
    Calls Tryd.prog 92 [vS a,vS b,va,i6_ x].toArray w fun en w'=>en=.returned (.bool (placedB a b os x))∧Below w.heap.size w w':=by
 refine fnStart (n:=60) (e:=[(0,vS a),(1,vS b),(2,va),(3,i6_ x)]) Tryd.func92 Z Z Z Z Ends.both (zE (qF (jD (v:=vS a) Z Z Z Z Z fun p4 hp4=>?_)))
 show Ll _ _ (Own _ _ [_]) _ _ ((4,pt_ p4)::_) _ _ _;refine jD (v:=vS b) Z Z Z Z Z fun p5 hp5=>?_
 show Ll _ _ (Own _ _ [_,_]) _ _ ((5,pt_ p5)::_) _ _ _;refine qI 1 Z (zL (zD [2,3,4,5] [_,_,_,_] Z (zE (zB (zC 1 Z (zG (v:=i6_ (os.length:Int)) Z (xP Z yA Z (ints_length _) (fun w1 hw1=>Row.own hva hw1)) (zC 1 Z (zI (zD [2,3,4,5,9] [_,_,_,_,_] Z (zE (zE (jG yH (fun _ h=>h.drawn) (by kernel_rfl) (zG Z (qW (cs:=#[i6_ a.n,str a.set,str a.rel]) 1 Z qV Z Z qT) (zC 1 Z (zG (v:=bo_ (a.inSet x)) Z (qR Z Tryd.call123 Z qG (fun w1 hw1=>inSet_ok a x w1 ha (by first | assumption | exact St.Els.at (by assumption) (by omega) (by omega)))) (zG Z (qW (cs:=#[i6_ b.n,str b.set,str b.rel]) 0 Z qV Z Z qT) (zC 1 Z (zG (v:=bo_ (b.inSet (os.length:Int))) Z (qR Z Tryd.call123 Z qG (fun w1 hw1=>inSet_ok b (os.length:Int) w1 hb (by first | assumption | exact St.Els.at (by assumption) (by omega) (by omega)))) (zG Z (OpQ.bne Z xV Z Z) (zC 1 Z (xH fun b21 hg21=>?_)))))))))))))))))))))
 cases b21
 ·
  refine zG Z (qW (cs:=#[i6_ a.n,str a.set,str a.rel]) 1 Z qV Z Z qT) (zC 2 Z (zG (v:=bo_ (a.inRel x x)) Z (qR Z Tryd.call124 Z qG (fun w1 hw1=>inRel_ok a x x w1 ha (by first | assumption | exact St.Els.at (by assumption) (by omega) (by omega)) (by first | assumption | exact St.Els.at (by assumption) (by omega) (by omega)))) (zG Z (qW (cs:=#[i6_ b.n,str b.set,str b.rel]) 0 Z qV Z Z qT) (zC 2 Z (zG (v:=bo_ (b.inRel (os.length:Int) (os.length:Int))) Z (qR Z Tryd.call124 Z qG (fun w1 hw1=>inRel_ok b (os.length:Int) (os.length:Int) w1 hb (by first | assumption | exact St.Els.at (by assumption) (by omega) (by omega)) (by first | assumption | exact St.Els.at (by assumption) (by omega) (by omega)))) (zG Z (OpQ.bne Z xV Z Z) (zC 1 Z (zI (zD [2,3,4,5,9,31] [_,_,_,_,_,_] Z (yC (b:=(a.inRel x x) != (b.inRel (os.length:Int) (os.length:Int))) Z (fun h31=>?_) (fun h31=>?_)))))))))))
  ·
   refine zE (zB (zC 1 Z (zI (zD [8] [_] Z (qK (qO Z Z fun w' hw=>?_))))))
   first | exact ⟨ret_b (placed_head (.inl (by assumption))).symm,hw.below⟩ | exact ⟨ret_b (placed_head (.inr (by assumption))).symm,hw.below⟩ | exact ⟨ret_b (placed_no (k:=k) (by omega) (.inl (by simpa using hg48))).symm,hw.below⟩ | exact ⟨ret_b (placed_no (k:=k) (by omega) (.inr (by simpa using h58))).symm,hw.below⟩ | exact ⟨ret_b (placed_yes (by assumption) (by assumption) (fun i hi=>hall i (by omega))).symm,hw.below⟩
  refine qN (zD [2,3,4,5,9] [_,_,_,_,_] Z (zE (zE (zB (zC 1 Z (zG (v:=i6_ (os.length:Int)) Z (xP Z yA Z (ints_length _) (fun w1 hw1=>Row.own hva hw1)) (zC 1 Z (zI (zD [3,4,5,9,32,33,34] [_,_,_,_,_,_,_] Z (qZ (jH (σ:=Nat) (fun k=>k≤os.length∧∀ i:Nat,i<k→(a.inRel x (os.getD i 0) != b.inRel os.length i)=false∧(a.inRel (os.getD i 0) x != b.inRel i os.length)=false) (fun k=>[(3,i6_ x),(4,pt_ p4),(5,pt_ p5),(9,i6_ (os.length:Int)),(32,va),(33,i6_ (os.length:Int)),(34,i6_ (k:Int))]) (fun k=>Own w.heap.size w [bk_ p5 #[i6_ b.n,str b.set,str b.rel] 24,bk_ p4 #[i6_ a.n,str a.set,str a.rel] 24]) (fun k=>os.length - k) (0) ⟨by omega,fun i hi=>absurd hi (by omega)⟩ (Sub.sel [3,4,5,9,32,33,34] Z) (fun _ h=>h) ?_)))))))))))
  rintro k ⟨hk,hall⟩;refine zE (zB (zC 1 Z (zI (zD [3,4,5,9,32,33,34,35] [_,_,_,_,_,_,_,_] Z (zE (yC (b:=decide ((k:Int)<(os.length:Int))) Z (fun h35=>?_) (fun h35=>?_)))))))
  ·
   replace h35:=zW h35
   have hbk:b.El (k:Int):=⟨by omega,by have:=hbi.2;omega⟩;refine qN (zD [3,4,5,9,32,33,34] [_,_,_,_,_,_,_] Z (zE (qZ (zE (zB (zC 1 Z (zG (v:=.pointer (some (sAt va (k:Int)))) Z (xX Z yA zJ Z Z (by omega) (by rw [ints_length];omega) (fun w1 hw1=>Row.own hva hw1)) (zG (v:=i6_ (os.getD ((k:Int).toNat) 0)) Z (qU Z zU Z (fun w1 hw1=>Ints.cell (Row.own hva hw1) (by omega) (by omega))) (zC 2 Z (zI (zD [3,4,5,9,10,11,32,33,34] [_,_,_,_,_,_,_,_,_] Z (zE (jG yH (fun _ h=>h.drawn) (by kernel_rfl) (zG Z (qW (cs:=#[i6_ a.n,str a.set,str a.rel]) 1 Z qV Z Z qT) (zC 2 Z (zG (v:=bo_ (a.inRel x (os.getD ((k:Int).toNat) 0))) Z (qR Z Tryd.call124 Z qG (fun w1 hw1=>inRel_ok a x (os.getD ((k:Int).toNat) 0) w1 ha (by first | assumption | exact St.Els.at (by assumption) (by omega) (by omega)) (by first | assumption | exact St.Els.at (by assumption) (by omega) (by omega)))) (zG Z (qW (cs:=#[i6_ b.n,str b.set,str b.rel]) 0 Z qV Z Z qT) (zC 2 Z (zG (v:=bo_ (b.inRel (os.length:Int) (k:Int))) Z (qR Z Tryd.call124 Z qG (fun w1 hw1=>inRel_ok b (os.length:Int) (k:Int) w1 hb (by first | assumption | exact St.Els.at (by assumption) (by omega) (by omega)) (by first | assumption | exact St.Els.at (by assumption) (by omega) (by omega)))) (zG Z (OpQ.bne Z xV Z Z) (zC 1 Z (xH fun b48 hg48=>?_))))))))))))))))))))))
   cases b48
   ·
    refine zG Z (qW (cs:=#[i6_ a.n,str a.set,str a.rel]) 1 Z qV Z Z qT) (zC 2 Z (zG (v:=bo_ (a.inRel (os.getD ((k:Int).toNat) 0) x)) Z (qR Z Tryd.call124 Z qG (fun w1 hw1=>inRel_ok a (os.getD ((k:Int).toNat) 0) x w1 ha (by first | assumption | exact St.Els.at (by assumption) (by omega) (by omega)) (by first | assumption | exact St.Els.at (by assumption) (by omega) (by omega)))) (zG Z (qW (cs:=#[i6_ b.n,str b.set,str b.rel]) 0 Z qV Z Z qT) (zC 2 Z (zG (v:=bo_ (b.inRel (k:Int) (os.length:Int))) Z (qR Z Tryd.call124 Z qG (fun w1 hw1=>inRel_ok b (k:Int) (os.length:Int) w1 hb (by first | assumption | exact St.Els.at (by assumption) (by omega) (by omega)) (by first | assumption | exact St.Els.at (by assumption) (by omega) (by omega)))) (zG Z (OpQ.bne Z xV Z Z) (zC 1 Z (zI (zD [3,4,5,9,32,33,34,58] [_,_,_,_,_,_,_,_] Z (yC (b:=(a.inRel (os.getD ((k:Int).toNat) 0) x) != (b.inRel (k:Int) (os.length:Int))) Z (fun h58=>?_) (fun h58=>?_)))))))))))
    ·
     refine zE (zB (zC 1 Z (zI (zD [8] [_] Z (qK (qO Z Z fun w' hw=>?_))))))
     first | exact ⟨ret_b (placed_head (.inl (by assumption))).symm,hw.below⟩ | exact ⟨ret_b (placed_head (.inr (by assumption))).symm,hw.below⟩ | exact ⟨ret_b (placed_no (k:=k) (by omega) (.inl (by simpa using hg48))).symm,hw.below⟩ | exact ⟨ret_b (placed_no (k:=k) (by omega) (.inr (by simpa using h58))).symm,hw.below⟩ | exact ⟨ret_b (placed_yes (by assumption) (by assumption) (fun i hi=>hall i (by omega))).symm,hw.below⟩
    refine qN (zD [3,4,5,9,32,33,34] [_,_,_,_,_,_,_] Z (zB (zG Z (qS Z Z Z (by omega) (by omega)) (zC 1 Z (zI (yZ (k+1) ⟨by omega,fun i hi=>(Nat.lt_succ_iff_lt_or_eq.1 hi).elim (hall i) (fun e=>by subst e;exact ⟨by simpa using hg48,by simpa using h58⟩)⟩ (by omega) (Sub.sel [3,4,5,9,32,33,34] Z) (fun _ h=>h)))))))
   refine zR Z (zR Z (zR Z (zR Z (zR Z (zR Z (zR Z (zR Z (zR Z (zC 1 Z (zI (zD [3,4,5,9,32,33,34,58] [_,_,_,_,_,_,_,_] Z (yO Z (zE (zB (zC 1 Z (zI (zD [8] [_] Z (qK (qO Z Z fun w' hw=>?_)))))))))))))))))))
   first | exact ⟨ret_b (placed_head (.inl (by assumption))).symm,hw.below⟩ | exact ⟨ret_b (placed_head (.inr (by assumption))).symm,hw.below⟩ | exact ⟨ret_b (placed_no (k:=k) (by omega) (.inl (by simpa using hg48))).symm,hw.below⟩ | exact ⟨ret_b (placed_no (k:=k) (by omega) (.inr (by simpa using h58))).symm,hw.below⟩ | exact ⟨ret_b (placed_yes (by assumption) (by assumption) (fun i hi=>hall i (by omega))).symm,hw.below⟩
  replace h35:=zS h35;refine xB Z (zD [] [] Z (zE (zB (zC 1 Z (zI (zD [8] [_] Z (qK (qO Z Z fun w' hw=>?_))))))))
  first | exact ⟨ret_b (placed_head (.inl (by assumption))).symm,hw.below⟩ | exact ⟨ret_b (placed_head (.inr (by assumption))).symm,hw.below⟩ | exact ⟨ret_b (placed_no (k:=k) (by omega) (.inl (by simpa using hg48))).symm,hw.below⟩ | exact ⟨ret_b (placed_no (k:=k) (by omega) (.inr (by simpa using h58))).symm,hw.below⟩ | exact ⟨ret_b (placed_yes (by assumption) (by assumption) (fun i hi=>hall i (by omega))).symm,hw.below⟩
 refine zR Z (zR Z (zR Z (zR Z (zR Z (zR Z (zR Z (zR Z (zR Z (zC 1 Z (zI (zD [2,3,4,5,9,31] [_,_,_,_,_,_] Z (yO Z (zE (zB (zC 1 Z (zI (zD [8] [_] Z (qK (qO Z Z fun w' hw=>?_)))))))))))))))))))
 first | exact ⟨ret_b (placed_head (.inl (by assumption))).symm,hw.below⟩ | exact ⟨ret_b (placed_head (.inr (by assumption))).symm,hw.below⟩ | exact ⟨ret_b (placed_no (k:=k) (by omega) (.inl (by simpa using hg48))).symm,hw.below⟩ | exact ⟨ret_b (placed_no (k:=k) (by omega) (.inr (by simpa using h58))).symm,hw.below⟩ | exact ⟨ret_b (placed_yes (by assumption) (by assumption) (fun i hi=>hall i (by omega))).symm,hw.below⟩
set_option maxHeartbeats 400000 in
theorem place_zero (a b:St) {τ α:Type} (D:τ→α→List (Nat×Obj)) (okD:τ→α→Prop) (step:List Int→τ→τ×Bool) (tf:FuncId) (tcap:Array Value) (B:Nat) (w0:World) (hcf:∀ args w,(callFunc tf args).run Tryd.prog w=.ok (.enter tf args) w) (hT:Tells Tryd.prog tf tcap a b B w0 D okD step) (ha:a.Fine) (_hb:b.Fine) (hn:a.n=b.n) (pp po pt pb pa:Nat) (os:List Int) (t:τ) (al:α) (g cap:Nat) (cur:Array Value) (w:World) (hm:os.length+0=a.n.toNat) (hA:a.Els os) (hsm:sameB a os b (upto os.length)=true) (hok:okD t al) (hcg:cur.size=cap*1) (hlg:os.length≤cap) (htg:cur.toList.take os.length=ints os) (hw:Own B w0 (bk_ pp #[.func (.func 91) #[] #[pt_ po,pt_ pa,pt_ pt,pt_ pb,pt_ pp]] 73::bk_ po #[sl_ g os.length cap] 27::bk_ g cur 3::bk_ pt #[.func (.func tf) #[] tcap] 68::bk_ pb #[i6_ b.n,str b.set,str b.rel] 24::bk_ pa #[i6_ a.n,str a.set,str a.rel] 24::(D t al)) w) :
    Calls Tryd.prog 91 [pt_ po,pt_ pa,pt_ pt,pt_ pb,pt_ pp].toArray w fun en w'=>∃ (os':List Int) (g' cap':Nat) (cur':Array Value) (al':α),en=.returned (.bool (shS a b step 0 os t).2)∧okD (shS a b step 0 os t).1 al'∧((shS a b step 0 os t).2=true→os'=os)∧(cur'.size=cap'*1∧os'.length≤cap'∧cur'.toList.take os'.length=ints os')∧Own B w0 (bk_ pp #[.func (.func 91) #[] #[pt_ po,pt_ pa,pt_ pt,pt_ pb,pt_ pp]] 73::bk_ po #[sl_ g' os'.length cap'] 27::bk_ g' cur' 3::bk_ pt #[.func (.func tf) #[] tcap] 68::bk_ pb #[i6_ b.n,str b.set,str b.rel] 24::bk_ pa #[i6_ a.n,str a.set,str a.rel] 24::(D (shS a b step 0 os t).1 al')) w':=by
 refine fnStartC (Own B w0 (bk_ pp #[.func (.func 91) #[] #[pt_ po,pt_ pa,pt_ pt,pt_ pb,pt_ pp]] 73::bk_ po #[sl_ g os.length cap] 27::bk_ g cur 3::bk_ pt #[.func (.func tf) #[] tcap] 68::bk_ pb #[i6_ b.n,str b.set,str b.rel] 24::bk_ pa #[i6_ a.n,str a.set,str a.rel] 24::(D t al))) (n:=44) (e:=[(0,pt_ po),(1,pt_ pa),(2,pt_ pt),(3,pt_ pb),(4,pt_ pp)]) Tryd.func91 Z Z Z Z Ends.both hw ?_
 have hm8:=ha.hi
 have hm1:=ha.lo;refine zE (zB (zC 1 Z (zI (zD [0,1,2,3,4] [_,_,_,_,_] Z (zE (zB (zG Z (zQ 1 Z vJ Z Z Z) (zG Z (OpQ.lenS Z yA Z) (zC 1 Z (zI (zD [0,1,2,3,4,6] [_,_,_,_,_,_] Z (zE (zE (zB (zC 1 Z (zG Z (zH Z qC Z zJ Z Z) (zG Z (zQ 5 Z zU Z Z Z) (zC 1 Z (zI (zD [0,1,2,3,4,6,13] [_,_,_,_,_,_,_] Z (yC (b:=decide ((os.length:Int)=a.n)) Z (fun h13=>?_) (fun h13=>?_))))))))))))))))))))))
 ·
  replace h13:=zW h13;refine zE (qF (zM Z (zQ 3 Z Tryd.isAgg68 Z Z Z) (zM Z (zQ 1 Z vJ Z Z Z) (Ll.callFnGet (ok:=fun al'=>okD (step os t).1 al') (v:=fun _=>.bool (step os t).2) (hs':=fun al'=>([bk_ pp #[.func (.func 91) #[] #[pt_ po,pt_ pa,pt_ pt,pt_ pb,pt_ pp]] 73,bk_ po #[sl_ g os.length cap] 27,bk_ g cur 3,bk_ pt #[.func (.func tf) #[] tcap] 68,bk_ pb #[i6_ b.n,str b.set,str b.rel] 24,bk_ pa #[i6_ a.n,str a.set,str a.rel] 24]:List (Nat×Obj))++D (step os t).1 al') (xs:=[.tmp 15]) (vs:=[sl_ g os.length cap]) Z Z Z Z Z hcf Z (fun w1 hw1=>hT ([bk_ pp #[.func (.func 91) #[] #[pt_ po,pt_ pa,pt_ pt,pt_ pb,pt_ pp]] 73,bk_ po #[sl_ g os.length cap] 27,bk_ g cur 3,bk_ pt #[.func (.func tf) #[] tcap] 68,bk_ pb #[i6_ b.n,str b.set,str b.rel] 24,bk_ pa #[i6_ a.n,str a.set,str a.rel] 24]:List (Nat×Obj)) (sl_ g os.length cap) os t al w1 hok (fun w2 hw2=>(xR hw2 (i:=2) Z htg (by simp) hlg)) (by omega) hsm hA hw1) fun al16 hok2=>?_))))
  show Ll _ _ (Own _ _ (_::_::_::_::_::_::(D (step os t).1 al16))) _ _ ((16,bo_ ((step os t).2))::_) _ _ _;refine qI 1 Z (zL (zD [5] [_] Z (qK (qO Z Z fun w' hw=>?_))))
  exact ⟨os,g,cap,cur,al16,rfl,hok2,fun _=>rfl,⟨hcg,hlg,htg⟩,hw⟩
 replace h13:=zS h13
 exact absurd (by omega) h13
set_option maxHeartbeats 1000000 in
theorem place_of (a b:St) {τ α:Type} (D:τ→α→List (Nat×Obj)) (okD:τ→α→Prop) (step:List Int→τ→τ×Bool) (tf:FuncId) (tcap:Array Value) (B:Nat) (w0:World) (_hcf:∀ args w,(callFunc tf args).run Tryd.prog w=.ok (.enter tf args) w) (_hT:Tells Tryd.prog tf tcap a b B w0 D okD step) (ha:a.Fine) (hb:b.Fine) (hn:a.n=b.n) (pp po pt pb pa:Nat) (m:Nat) (ih:∀ (os:List Int) (t:τ) (al:α) (g cap:Nat) (cur:Array Value) (w:World) (_:os.length+m=a.n.toNat) (_:a.Els os) (_:sameB a os b (upto os.length)=true) (_:okD t al) (_:cur.size=cap*1) (_:os.length≤cap) (_:cur.toList.take os.length=ints os),Own B w0 (bk_ pp #[.func (.func 91) #[] #[pt_ po,pt_ pa,pt_ pt,pt_ pb,pt_ pp]] 73::bk_ po #[sl_ g os.length cap] 27::bk_ g cur 3::bk_ pt #[.func (.func tf) #[] tcap] 68::bk_ pb #[i6_ b.n,str b.set,str b.rel] 24::bk_ pa #[i6_ a.n,str a.set,str a.rel] 24::(D t al)) w→Calls Tryd.prog 91 #[pt_ po,pt_ pa,pt_ pt,pt_ pb,pt_ pp] w fun en w'=>∃ (os':List Int) (g' cap':Nat) (cur':Array Value) (al':α),en=.returned (.bool (shS a b step m os t).2)∧okD (shS a b step m os t).1 al'∧((shS a b step m os t).2=true→os'=os)∧(cur'.size=cap'*1∧os'.length≤cap'∧cur'.toList.take os'.length=ints os')∧Own B w0 (bk_ pp #[.func (.func 91) #[] #[pt_ po,pt_ pa,pt_ pt,pt_ pb,pt_ pp]] 73::bk_ po #[sl_ g' os'.length cap'] 27::bk_ g' cur' 3::bk_ pt #[.func (.func tf) #[] tcap] 68::bk_ pb #[i6_ b.n,str b.set,str b.rel] 24::bk_ pa #[i6_ a.n,str a.set,str a.rel] 24::(D (shS a b step m os t).1 al')) w') (os:List Int) (t:τ) (al:α) (g cap:Nat) (cur:Array Value) (w:World) (hm:os.length+(m+1)=a.n.toNat) (hA:a.Els os) (hsm:sameB a os b (upto os.length)=true) (hok:okD t al) (hcg:cur.size=cap*1) (hlg:os.length≤cap) (htg:cur.toList.take os.length=ints os) (hw:Own B w0 (bk_ pp #[.func (.func 91) #[] #[pt_ po,pt_ pa,pt_ pt,pt_ pb,pt_ pp]] 73::bk_ po #[sl_ g os.length cap] 27::bk_ g cur 3::bk_ pt #[.func (.func tf) #[] tcap] 68::bk_ pb #[i6_ b.n,str b.set,str b.rel] 24::bk_ pa #[i6_ a.n,str a.set,str a.rel] 24::(D t al)) w) :
    Calls Tryd.prog 91 [pt_ po,pt_ pa,pt_ pt,pt_ pb,pt_ pp].toArray w fun en w'=>∃ (os':List Int) (g' cap':Nat) (cur':Array Value) (al':α),en=.returned (.bool (shS a b step (m+1) os t).2)∧okD (shS a b step (m+1) os t).1 al'∧((shS a b step (m+1) os t).2=true→os'=os)∧(cur'.size=cap'*1∧os'.length≤cap'∧cur'.toList.take os'.length=ints os')∧Own B w0 (bk_ pp #[.func (.func 91) #[] #[pt_ po,pt_ pa,pt_ pt,pt_ pb,pt_ pp]] 73::bk_ po #[sl_ g' os'.length cap'] 27::bk_ g' cur' 3::bk_ pt #[.func (.func tf) #[] tcap] 68::bk_ pb #[i6_ b.n,str b.set,str b.rel] 24::bk_ pa #[i6_ a.n,str a.set,str a.rel] 24::(D (shS a b step (m+1) os t).1 al')) w':=by
 refine fnStartC (Own B w0 (bk_ pp #[.func (.func 91) #[] #[pt_ po,pt_ pa,pt_ pt,pt_ pb,pt_ pp]] 73::bk_ po #[sl_ g os.length cap] 27::bk_ g cur 3::bk_ pt #[.func (.func tf) #[] tcap] 68::bk_ pb #[i6_ b.n,str b.set,str b.rel] 24::bk_ pa #[i6_ a.n,str a.set,str a.rel] 24::(D t al))) (n:=44) (e:=[(0,pt_ po),(1,pt_ pa),(2,pt_ pt),(3,pt_ pb),(4,pt_ pp)]) Tryd.func91 Z Z Z Z Ends.both hw ?_
 have hm8:=ha.hi
 have hm1:=ha.lo;refine zE (zB (zC 1 Z (zI (zD [0,1,2,3,4] [_,_,_,_,_] Z (zE (zB (zG Z (zQ 1 Z vJ Z Z Z) (zG Z (OpQ.lenS Z yA Z) (zC 1 Z (zI (zD [0,1,2,3,4,6] [_,_,_,_,_,_] Z (zE (zE (zB (zC 1 Z (zG Z (zH Z qC Z zJ Z Z) (zG Z (zQ 5 Z zU Z Z Z) (zC 1 Z (zI (zD [0,1,2,3,4,6,13] [_,_,_,_,_,_,_] Z (yC (b:=decide ((os.length:Int)=a.n)) Z (fun h13=>?_) (fun h13=>?_))))))))))))))))))))))
 ·
  replace h13:=zW h13
  exact absurd h13 (by omega)
 replace h13:=zS h13;refine qN (zD [0,1,3,4,6] [_,_,_,_,_] Z (zE (zE (zB (zG Z (zH Z qC Z zJ Z Z) (zG Z (zQ 5 Z zU Z Z Z) (zC 1 Z (zI (zD [0,1,3,4,6,18,19] [_,_,_,_,_,_,_] Z (qZ (jH (σ:=Nat×Nat×Nat×Array Value×τ×α) (fun ⟨k,g1,cap1,cur1,t1,al1⟩=>(k:Int)≤a.n∧shLoop (shF a b (shS a b step m) os) k t=(t1,true)∧okD t1 al1∧(cur1.size=cap1*1∧os.length≤cap1∧cur1.toList.take os.length=ints os)) (fun ⟨k,g1,cap1,cur1,t1,al1⟩=>[(0,pt_ po),(1,pt_ pa),(3,pt_ pb),(4,pt_ pp),(6,i6_ (os.length:Int)),(18,i6_ a.n),(19,i6_ (k:Int))]) (fun ⟨k,g1,cap1,cur1,t1,al1⟩=>Own B w0 (bk_ pp #[.func (.func 91) #[] #[pt_ po,pt_ pa,pt_ pt,pt_ pb,pt_ pp]] 73::bk_ po #[sl_ g1 os.length cap1] 27::bk_ g1 cur1 3::bk_ pt #[.func (.func tf) #[] tcap] 68::bk_ pb #[i6_ b.n,str b.set,str b.rel] 24::bk_ pa #[i6_ a.n,str a.set,str a.rel] 24::(D t1 al1))) (fun ⟨k,g1,cap1,cur1,t1,al1⟩=>(a.n - k).toNat) (0,g,cap,cur,t,al) ⟨by omega,rfl,hok,⟨hcg,hlg,htg⟩⟩ (Sub.sel [0,1,3,4,6,18,19] Z) (fun _ h=>h) ?_)))))))))))
 rintro ⟨k,g1,cap1,cur1,t1,al1⟩ ⟨hk,hlp,hok1,⟨hcg1,hlg1,htg1⟩⟩
 dsimp only;refine zE (zB (zC 1 Z (zI (zD [0,1,3,4,6,18,19,20] [_,_,_,_,_,_,_,_] Z (zE (yC (b:=decide ((k:Int)<a.n)) Z (fun h20=>?_) (fun h20=>?_)))))))
 ·
  replace h20:=zW h20
  have hx:a.El (k:Int):=⟨by omega,by omega⟩
  have hbi:b.El (os.length:Int):=⟨by omega,by omega⟩;refine qN (zD [0,1,3,4,6,18,19] [_,_,_,_,_,_,_] Z (zE (qZ (zE (zB (zC 2 Z (zI (zD [0,1,3,4,6,7,18,19] [_,_,_,_,_,_,_,_] Z (zE (zE (zB (zG Z (zQ 1 Z vJ Z Z Z) (zC 1 Z (zG (v:=bo_ (decide ((k:Int)∈os))) Z (qR Z Tryd.call74 Z qG (fun w1 hw1=>contains_ok (sl_ g1 os.length cap1) os (k:Int) w1 (xR hw1 (i:=2) Z htg1 (by simp) hlg1) (by omega))) (zC 1 Z (xH fun b25 hg25=>?_))))))))))))))))
  cases b25
  ·
   replace hg25:=zS hg25;refine zG Z (qW (cs:=#[i6_ a.n,str a.set,str a.rel]) 5 Z qV Z Z qT) (zG Z (qW (cs:=#[i6_ b.n,str b.set,str b.rel]) 4 Z qV Z Z qT) (zG Z (zQ 1 Z vJ Z Z Z) (zC 1 Z (zG (v:=bo_ (placedB a b os (k:Int))) Z (qR Z Tryd.call92 Z qG (fun w1 hw1=>placed_ok a b (sl_ g1 os.length cap1) os (k:Int) w1 ha hb (xR hw1 (i:=2) Z htg1 (by simp) hlg1) (by omega) hA hx hbi)) (zC 2 Z (zI (zD [0,1,3,4,6,7,18,19,32] [_,_,_,_,_,_,_,_,_] Z (yC (b:=!(placedB a b os (k:Int))) Z (fun h32=>?_) (fun h32=>?_)))))))))
   ·
    replace h32:=not_true h32
    have hno:¬ stillB a os b (upto os.length) (k:Int) os.length=true:=by
     rw [still_placed];simp_all
    refine xB Z (zD [0,1,3,4,6,18,19] [_,_,_,_,_,_,_] Z (zB (zG Z (qS Z Z Z (by omega) (by omega)) (zC 1 Z (zI (yZ (k+1,g1,cap1,cur1,t1,al1) ⟨by omega,by rw [shLoop_step hlp,shF,if_neg hno],hok1,⟨hcg1,hlg1,htg1⟩⟩ (by omega) (Sub.sel [0,1,3,4,6,18,19] Z) (fun _ h=>h)))))))
   replace h32:=not_false h32
   have hst:stillB a os b (upto os.length) (k:Int) os.length=true:=by
    rw [still_placed];simp_all
   refine qN (zD [0,1,3,4,6,7,18,19] [_,_,_,_,_,_,_,_] Z (zE (qF (zM Z (zQ 1 Z vJ Z Z Z) (qI 1 Z (yT (xs:=[.tmp 34]) (vs:=[i6_ (k:Int)]) xL Z Z Z Z Z Z (by decide) Z fun p35 hp35=>(Ll.appendInts (xs:=os) (ys:=[(k:Int)]) xL 3 Z Z Z Z Z Z Z hcg1 hlg1 htg1 (fun w1 hw1=>(xR hw1 (i:=0) Z (n:=1) (cap:=1) (vs:=ints [(k:Int)]) Z Z (by decide))) ((os++([(k:Int)])).length) (by first | (simp;done) | (simp;omega)) (by first | (simp;done) | (simp;omega) | omega) fun p36 cap36 cur36 hp36 hcp36 hlp36 htp36=>?_)))))))
   show Ll _ _ (Own _ _ (_::_::_::_::_::_::_::(D t1 al1))) _ _ ((36,sl_ p36 (((os++([(k:Int)])).length)) cap36)::_) _ _ _;refine qM (v:=sl_ p36 (((os++([(k:Int)])).length)) cap36) (hs':=(_::_::bk_ po #[sl_ p36 (((os++([(k:Int)])).length)) cap36] 27::_::_::_::_::(D t1 al1))) 2 Z Z Z Z Z Z Tryd.sizeOf27 Z (by simp) Z (zL (zD [0,1,3,4,6,18,19] [_,_,_,_,_,_,_] Z (zE (zE (qF (zM Z (zQ 1 Z Tryd.isAgg73 Z Z Z) (Ll.callFnGet (σ:=List Int×Nat×Nat×Array Value×α) (ok:=fun (os',_,cap',cur',al')=>okD (shS a b step m (os++[(k:Int)]) t1).1 al'∧((shS a b step m (os++[(k:Int)]) t1).2=true→os'=os++[(k:Int)])∧(cur'.size=cap'*1∧os'.length≤cap'∧cur'.toList.take os'.length=ints os')) (v:=fun _=>.bool (shS a b step m (os++[(k:Int)]) t1).2) (hs':=fun (os',g',cap',cur',al')=>(bk_ pp #[.func (.func 91) #[] #[pt_ po,pt_ pa,pt_ pt,pt_ pb,pt_ pp]] 73::bk_ po #[sl_ g' os'.length cap'] 27::bk_ g' cur' 3::bk_ pt #[.func (.func tf) #[] tcap] 68::bk_ pb #[i6_ b.n,str b.set,str b.rel] 24::bk_ pa #[i6_ a.n,str a.set,str a.rel] 24::(D (shS a b step m (os++[(k:Int)]) t1).1 al'))) (xs:=[]) (vs:=[]) Z Z Z Z Z Tryd.call91 Z (fun w1 hw1=>(ih (os++[(k:Int)]) t1 al1 p36 cap36 cur36 w1 (by simp;omega) (els_more hA hx) (same_grown hsm hst) hok1 hcp36 hlp36 (by simpa using (by simpa using htp36)) (hw1.sub (qL _ (zA _ (zA _ (zA _ (zA _ (zA _ (zA _ (zO _)))))))))).mono fun en w' ⟨os',g',cap',cur',al',h1,h2,h3,h4,h5⟩=>⟨(os',g',cap',cur',al'),h1,⟨h2,h3,h4⟩,h5⟩) fun ⟨os38,g38,cap38,cur38,al38⟩ ⟨hok2,hos2,hcg2,hlg2,htg2⟩=>?_)))))))
   show Ll _ _ (Own _ _ (_::_::_::_::_::_::((D (shS a b step m (os++[(k:Int)]) t1).1 al38)))) _ _ ((38,bo_ ((shS a b step m (os++[(k:Int)]) t1).2))::_) _ _ _;refine qI 1 Z (zL (zD [0,1,3,4,6,18,19,39] [_,_,_,_,_,_,_,_] Z (yC (b:=!((shS a b step m (os++[(k:Int)]) t1).2)) Z (fun h39=>?_) (fun h39=>?_))))
   ·
    replace h39:=not_true h39;refine zE (zB (zC 1 Z (zI (zD [5] [_] Z (qK (qO Z Z fun w' hw=>?_))))))
    have hfin:shS a b step (m+1) os t=shS a b step m (os++[(k:Int)]) t1:=by
     show shLoop _ a.n.toNat t=_
     have h8:shLoop (shF a b (shS a b step m) os) (k+1) t=shS a b step m (os++[(k:Int)]) t1:=by rw [shLoop_step hlp,shF,if_pos hst]
     rw [shLoop_stop (k:=k+1) (by rw [h8];assumption) _ (by omega),h8]
    refine ⟨os38,g38,cap38,cur38,al38,?_,?_,?_,⟨hcg2,hlg2,htg2⟩,?_⟩
    · rw [hfin];congr 2;exact (by assumption:_=false).symm
    · rw [hfin];exact hok2
    · rw [hfin];intro h;simp_all
    · rw [hfin];exact hw
   replace h39:=not_false h39
   have hose:=hos2 (by first | assumption | (simp_all;done))
   have hosl:os38.length=os.length+1:=by rw [hose];simp
   refine qN (zD [0,1,3,4,6,18,19] [_,_,_,_,_,_,_] Z (qF (zM Z (zQ 1 Z vJ Z Z Z) (qI 1 Z (zM (v:=sl_ g38 ((os.length:Int).toNat) cap38) Z (OpQ.takeS (i:=(os.length:Int)) Z yA zJ Z Z (by omega) (by omega)) (qM (v:=sl_ g38 ((os.length:Int).toNat) cap38) (hs':=(_::bk_ po #[sl_ g38 ((os.length:Int).toNat) cap38] 27::_::_::_::_::((D (shS a b step m (os++[(k:Int)]) t1).1 al38)))) 1 Z Z Z Z Z Z Tryd.sizeOf27 Z (by simp) Z (zL (zD [0,1,3,4,6,18,19] [_,_,_,_,_,_,_] Z (zB (zG Z (qS Z Z Z (by omega) (by omega)) (zC 1 Z (zI (yZ ((k+1,g38,cap38,cur38,(shS a b step m (os++[(k:Int)]) t1).1,al38)) ⟨by omega,by rw [shLoop_step hlp,shF,if_pos hst];exact Prod.ext Z (by assumption),hok2,⟨by simpa using hcg2,by have:=hlg2;rw [hose] at this;simp at this;dsimp only;omega,by dsimp only;have h9:=congrArg (List.take os.length) htg2;rw [hose,List.take_take,zP,Nat.min_eq_left (by omega)] at h9;rw [h9];simp [ints]⟩⟩ (by omega) (Sub.sel [0,1,3,4,6,18,19] Z) (fun _ h=>by simpa using h))))))))))))))
  replace hg25:=zW hg25
  have hno:¬ stillB a os b (upto os.length) (k:Int) os.length=true:=by
   rw [still_placed];simp_all
  refine zR Z (zR Z (zR Z (zR Z (zR Z (zR Z (zC 1 Z (zI (zD [0,1,3,4,6,7,18,19,32] [_,_,_,_,_,_,_,_,_] Z (yO Z (xB Z (zD [0,1,3,4,6,18,19] [_,_,_,_,_,_,_] Z (zB (zG Z (qS Z Z Z (by omega) (by omega)) (zC 1 Z (zI (yZ (k+1,g1,cap1,cur1,t1,al1) ⟨by omega,by rw [shLoop_step hlp,shF,if_neg hno],hok1,⟨hcg1,hlg1,htg1⟩⟩ (by omega) (Sub.sel [0,1,3,4,6,18,19] Z) (fun _ h=>h)))))))))))))))))
 replace h20:=zS h20;refine xB Z (zD [] [] Z (zE (zB (zC 1 Z (zI (zD [5] [_] Z (qK (qO Z Z fun w' hw=>?_))))))))
 have hfin:shS a b step (m+1) os t=(t1,true):=by
  show shLoop _ a.n.toNat t=_
  rw [show a.n.toNat=k from by omega];exact hlp
 exact ⟨os,g1,cap1,cur1,al1,by rw [hfin],by rw [hfin];exact hok1,fun _=>rfl,⟨hcg1,hlg1,htg1⟩,by rw [hfin];exact hw⟩
theorem place_ok (a b:St) {τ α:Type} (D:τ→α→List (Nat×Obj)) (okD:τ→α→Prop) (step:List Int→τ→τ×Bool) (tf:FuncId) (tcap:Array Value) (B:Nat) (w0:World) (hcf:∀ args w,(callFunc tf args).run Tryd.prog w=.ok (.enter tf args) w) (hT:Tells Tryd.prog tf tcap a b B w0 D okD step) (ha:a.Fine) (hb:b.Fine) (hn:a.n=b.n) (pp po pt pb pa:Nat):∀ m:Nat,∀ (os:List Int) (t:τ) (al:α) (g cap:Nat) (cur:Array Value) (w:World) (_:os.length+m=a.n.toNat) (_:a.Els os) (_:sameB a os b (upto os.length)=true) (_:okD t al) (_:cur.size=cap*1) (_:os.length≤cap) (_:cur.toList.take os.length=ints os),Own B w0 (bk_ pp #[.func (.func 91) #[] #[pt_ po,pt_ pa,pt_ pt,pt_ pb,pt_ pp]] 73::bk_ po #[sl_ g os.length cap] 27::bk_ g cur 3::bk_ pt #[.func (.func tf) #[] tcap] 68::bk_ pb #[i6_ b.n,str b.set,str b.rel] 24::bk_ pa #[i6_ a.n,str a.set,str a.rel] 24::(D t al)) w→Calls Tryd.prog 91 #[pt_ po,pt_ pa,pt_ pt,pt_ pb,pt_ pp] w fun en w'=>∃ (os':List Int) (g' cap':Nat) (cur':Array Value) (al':α),en=.returned (.bool (shS a b step m os t).2)∧okD (shS a b step m os t).1 al'∧((shS a b step m os t).2=true→os'=os)∧(cur'.size=cap'*1∧os'.length≤cap'∧cur'.toList.take os'.length=ints os')∧Own B w0 (bk_ pp #[.func (.func 91) #[] #[pt_ po,pt_ pa,pt_ pt,pt_ pb,pt_ pp]] 73::bk_ po #[sl_ g' os'.length cap'] 27::bk_ g' cur' 3::bk_ pt #[.func (.func tf) #[] tcap] 68::bk_ pb #[i6_ b.n,str b.set,str b.rel] 24::bk_ pa #[i6_ a.n,str a.set,str a.rel] 24::(D (shS a b step m os t).1 al')) w'
  | 0,os,t,al,g,cap,cur,w,h1,h2,h3,h4,h5,h6,h7,hw=>place_zero a b D okD step tf tcap B w0 hcf hT ha hb hn pp po pt pb pa os t al g cap cur w h1 h2 h3 h4 h5 h6 h7 hw
  | m+1,os,t,al,g,cap,cur,w,h1,h2,h3,h4,h5,h6,h7,hw=>place_of a b D okD step tf tcap B w0 hcf hT ha hb hn pp po pt pb pa m (place_ok a b D okD step tf tcap B w0 hcf hT ha hb hn pp po pt pb pa m) os t al g cap cur w h1 h2 h3 h4 h5 h6 h7 hw
set_option maxHeartbeats 400000 in
theorem eachShape_ok (a b:St) {τ α:Type} (D:τ→α→List (Nat×Obj)) (okD:τ→α→Prop) (step:List Int→τ→τ×Bool) (tf:FuncId) (tcap:Array Value) (B:Nat) (w0:World) (hcf:∀ args w,(callFunc tf args).run Tryd.prog w=.ok (.enter tf args) w) (hT:Tells Tryd.prog tf tcap a b B w0 D okD step) (ha:a.Fine) (hb:b.Fine) (hn:a.n=b.n) (t:τ) (al:α) (w:World) (hok:okD t al) (hw:Own B w0 (D t al) w) :
    Calls Tryd.prog 53 [vS a,vS b,.func (.func tf) #[] tcap].toArray w fun en w'=>∃ al':α,en=.returned (.tuple #[])∧okD (shS a b step a.n.toNat [] t).1 al'∧Own B w0 (D (shS a b step a.n.toNat [] t).1 al') w':=by
 refine fnStartC (Own B w0 (D t al)) (n:=12) (e:=[(0,vS a),(1,vS b),(2,.func (.func tf) #[] tcap)]) Tryd.func53 Z Z Z Z Ends.both hw (zE (qF (jD (v:=vS a) Z Z Z Z Z fun p3 hp3=>?_)))
 show Ll _ _ (Own _ _ (_::(D t al))) _ _ ((3,pt_ p3)::_) _ _ _;refine jD (v:=vS b) Z Z Z Z Z fun p4 hp4=>?_
 show Ll _ _ (Own _ _ (_::_::(D t al))) _ _ ((4,pt_ p4)::_) _ _ _;refine jD (v:=.func (.func tf) #[] tcap) Z Z Z Z Z fun p5 hp5=>?_
 show Ll _ _ (Own _ _ (_::_::_::(D t al))) _ _ ((5,pt_ p5)::_) _ _ _;refine zL (zD [3,4,5] [_,_,_] Z (zE (qF (yT (xs:=[]) (vs:=[]) xL Z Z Z Z Z Z (by decide) Z fun p8 hp8=>(vL Z Z Z Z Tryd.zeroValue27 fun p6 hp6=>?_)))))
 show Ll _ _ (Own _ _ (bk_ p6 #[.slice none 0 0] 27::_::_::_::_::(D t al))) _ _ ((6,pt_ p6)::_) _ _ _;refine qM (v:=sl_ p8 0 0) (hs':=(bk_ p6 #[sl_ p8 0 0] 27::_::_::_::_::(D t al))) 0 Z Z Z Z Z Z Tryd.sizeOf27 Z (by simp) Z (zL (zD [3,4,5,6] [_,_,_,_] Z (zE (qF (vL Z Z Z Z Tryd.zeroValue73 fun p7 hp7=>?_)))))
 show Ll _ _ (Own _ _ (bk_ p7 #[.nilFunc] 73::_::_::_::_::_::(D t al))) _ _ ((7,pt_ p7)::_) _ _ _;refine zL (zD [3,4,5,6,7] [_,_,_,_,_] Z (zE (qF (zM (v:=.func (.func 91) #[] #[pt_ p6,pt_ p3,pt_ p5,pt_ p4,pt_ p7]) Z (OpQ.func' (cap:=[.tmp 6,.tmp 3,.tmp 5,.tmp 4,.tmp 7]) Z Z) (qM (v:=.func (.func 91) #[] #[pt_ p6,pt_ p3,pt_ p5,pt_ p4,pt_ p7]) (hs':=(bk_ p7 #[.func (.func 91) #[] #[pt_ p6,pt_ p3,pt_ p5,pt_ p4,pt_ p7]] 73::_::_::_::_::_::(D t al))) 0 Z Z Z Z Z Z Tryd.sizeOf73 Z (by simp) Z (zL (zD [7] [_] Z (qF (zM Z (zQ 0 Z Tryd.isAgg73 Z Z Z) (Ll.callFnGet (σ:=List Int×Nat×Nat×Array Value×α) (ok:=fun (os',_,cap',cur',al')=>okD (shS a b step a.n.toNat [] t).1 al') (v:=fun _=>.bool (shS a b step a.n.toNat [] t).2) (hs':=fun (os',g',cap',cur',al')=>(bk_ p7 #[.func (.func 91) #[] #[pt_ p6,pt_ p3,pt_ p5,pt_ p4,pt_ p7]] 73::bk_ p6 #[sl_ g' os'.length cap'] 27::bk_ g' cur' 3::bk_ p5 #[.func (.func tf) #[] tcap] 68::bk_ p4 #[i6_ b.n,str b.set,str b.rel] 24::bk_ p3 #[i6_ a.n,str a.set,str a.rel] 24::(D (shS a b step a.n.toNat [] t).1 al'))) (xs:=[]) (vs:=[]) Z Z Z Z Z Tryd.call91 Z (fun w1 hw1=>(place_ok a b D okD step tf tcap B w0 hcf hT ha hb hn p7 p6 p5 p4 p3 a.n.toNat [] t al p8 0 #[] w1 (by simp) (fun x hx=>by cases hx) Z hok Z (Nat.le_refl 0) Z hw1).mono fun en w' ⟨os',g',cap',cur',al',h1,h2,h3,h4,h5⟩=>⟨(os',g',cap',cur',al'),h1,h2,h5⟩) fun ⟨os9,g9,cap9,cur9,al11⟩ hok9=>?_))))))))))
 show Ll _ _ (Own _ _ (_::_::_::_::_::_::(D (shS a b step a.n.toNat [] t).1 al11))) _ _ ((11,bo_ ((shS a b step a.n.toNat [] t).2))::_) _ _ _;refine zL (Kt.end0 Z fun w' hw=>?_)
 exact ⟨al11,rfl,hok9,qA (f:=[_,_,_,_,_,_]) hw⟩
end Go.Proofs.YtagbocafnliabaaDoor
namespace Go.Proofs.YtagbocafnliabaaDoor
open Go.RowKit Go.Wk
set_option linter.unusedSimpArgs false
set_option maxHeartbeats 400000 in
theorem allDiff_ok (va:Value) (xs:List Int) (w:World) (hva:Ints w va xs) (hs1:xs.length≤1000000) (hd:xs.Nodup) :
    Calls Tryd.prog 73 [va].toArray w fun en w'=>en=.returned (.bool true)∧Below w.heap.size w w':=by
 refine fnStart (n:=18) (e:=[(0,va)]) Tryd.func73 Z Z Z Z Ends.both (zE (zB (zC 1 Z (zI (zD [0] [_] Z (zE (zE (zB (zC 1 Z (zG (v:=i6_ (xs.length:Int)) Z (xP Z yA Z (ints_length _) (fun w1 hw1=>Row.own hva hw1)) (zC 1 Z (zI (zD [0,5,6,7] [_,_,_,_] Z (qZ (jH (σ:=Nat) (fun k=>k≤xs.length) (fun k=>[(0,va),(5,va),(6,i6_ (xs.length:Int)),(7,i6_ (k:Int))]) (fun k=>Own w.heap.size w []) (fun k=>xs.length - k) (0) (by omega) (Sub.sel [0,5,6,7] Z) (fun _ h=>h) ?_)))))))))))))))
 rintro k hk;refine zE (zB (zC 1 Z (zI (zD [0,5,6,7,8] [_,_,_,_,_] Z (zE (yE Z (fun h8=>?_) (fun h8=>?_)))))))
 ·
  refine qN (zD [0,5,6,7] [_,_,_,_] Z (zE (qZ (zE (zB (zC 1 Z (zG (v:=.pointer (some (sAt va (k:Int)))) Z (xX Z yA zJ Z Z (by omega) (by rw [ints_length];omega) (fun w1 hw1=>Row.own hva hw1)) (zG (v:=i6_ (xs.getD ((k:Int).toNat) 0)) Z (qU Z zU Z (fun w1 hw1=>Ints.cell (Row.own hva hw1) (by omega) (by omega))) (zC 2 Z (zI (zD [0,3,4,5,6,7] [_,_,_,_,_,_] Z (zE (zB (zC 2 Z (zG (v:=sTake va k) Z (OpQ.takeRow (i:=(k:Int)) Z yA zJ Z Z (by omega) (by rw [ints_length];omega) (fun w1 hw1=>Row.own hva hw1)) (zC 1 Z (zG (v:=bo_ (decide ((xs.getD ((k:Int).toNat) 0)∈xs.take k))) Z (qR Z Tryd.call74 Z qG (fun w1 hw1=>contains_ok (sTake va k) (xs.take k) (xs.getD ((k:Int).toNat) 0) w1 (Ints.take (Row.own hva hw1) k (by omega)) (by rw [zT];omega))) (zI (zD [0,5,6,7,16] [_,_,_,_,_] Z (yC (b:=decide ((xs.getD ((k:Int).toNat) 0)∈xs.take k)) Z (fun h16=>?_) (fun h16=>?_)))))))))))))))))))))
  ·
   replace h16:=zW h16
   exact absurd h16 (nodup_take hd (by omega))
  replace h16:=zS h16;refine qN (zD [0,5,6,7] [_,_,_,_] Z (zB (zG Z (qS Z Z Z (by omega) (by omega)) (zC 1 Z (zI (yZ (k+1) (by omega) (by omega) (Sub.sel [0,5,6,7] Z) (fun _ h=>h)))))))
 refine xB Z (zD [] [] Z (zE (zB (zC 1 Z (zI (zD [2] [_] Z (qK (qO Z Z fun w' hw=>?_))))))))
 exact ⟨ret_b (by first | rfl | (simp_all;done) | (simp_all;omega)),hw.below⟩
set_option maxHeartbeats 800000 in
theorem iDef_ok (a:St) (f:List UInt8) (B:Nat) (w0:World) (hs:List (Nat×Obj)) (w:World) (hsa:a.Small) (hw:Own B w0 hs w) :
    Calls Tryd.prog 25 [vS a,str f].toArray w fun en w'=>∃ (v:Value) (new:List (Nat×Obj)),en=.returned (.tuple #[v,.bool (defO a f).2])∧(∀ w1,Own B w0 new w1→Ints w1 v (defO a f).1)∧Own B w0 (new++hs) w':=by
 refine fnStartC (Own B w0 hs) (n:=46) (e:=[(0,vS a),(1,str f)]) Tryd.func25 Z Z Z Z Ends.both hw (zE (qF (jD (v:=vS a) Z Z Z Z Z fun p2 hp2=>?_)))
 show Ll _ _ (Own _ _ (_::hs)) _ _ ((2,pt_ p2)::_) _ _ _;refine qI 2 Z (zL (zD [1,2] [_,_] Z (zE ?_)))
 rcases hff1:formO f with _ | fm1
 ·
  refine qF (qI 1 Z (jU (σ:=Unit) (ok:=fun _=>True) (v:=fun _=>.pointer none) (hs':=fun _=>(bk_ p2 #[i6_ a.n,str a.set,str a.rel] 24::hs)) (xs:=[.tmp 10]) (vs:=[str f]) Z Z Z Z Tryd.call66 Z (fun w1 hw1=>(pform_ok f _ _ (([bk_ p2 #[i6_ a.n,str a.set,str a.rel] 24]:List (Nat×Obj))++hs) w1 hw1).mono fun en w' hR=>by rw [hff1] at hR;exact ⟨(),hR.1,trivial,hR.2⟩) fun _ _=>?_))
  show Ll _ _ (Own _ _ (_::hs)) _ _ ((11,.pointer none)::_) _ _ _;refine qI 1 Z (zL (zD [2,6] [_,_] Z (zE (zE (zB (zC 1 Z (zG (v:=bo_ true) Z (jV (p:=none) Z yF Z Z) (zC 1 Z (zR Z (zR Z (zR Z (zC 2 Z (zR Z (zR Z (zR Z (zR Z (zR Z (zR Z (zC 1 Z (zI (zD [2,6,26] [_,_,_] Z (yO Z (zE (zB (zC 2 Z (zI (zD [4,5] [_,_] Z (qK (yU Z Z Z fun w' hw=>?_)))))))))))))))))))))))))))))
  rw [defO_no (rdy_no (.inr (.inl hff1)))]
  exact ⟨_,([bk_ p2 #[i6_ a.n,str a.set,str a.rel] 24]:List (Nat×Obj)),rfl,fun w1 h1=>Ints.nil,hw⟩
 have hwf_fm1:=formO_wf hff1
 have hfr_fm1:=frB_lt hwf_fm1;refine qF (qI 1 Z (jN (ok:=fun ((q,new):Nat×List (Nat×Obj))=>TreeB 90 new fm1 q) (v:=fun ((q,new):Nat×List (Nat×Obj))=>ptrV q) (new:=fun ((q,new):Nat×List (Nat×Obj))=>new) (hs:=hs) (xs:=[.tmp 10]) (vs:=[str f]) ([bk_ p2 #[i6_ a.n,str a.set,str a.rel] 24]:List (Nat×Obj)) Z Z Z Z Tryd.call66 Z (fun w1 hw1=>(pform_ok f _ _ (([bk_ p2 #[i6_ a.n,str a.set,str a.rel] 24]:List (Nat×Obj))++hs) w1 hw1).mono fun en w' hR=>by rw [hff1] at hR;obtain ⟨q,new,h1,h2,h3⟩:=hR;exact ⟨(q,new),h1,h2,h3⟩) fun ⟨q11,new11⟩ hTq11=>?_))
 dsimp only at hTq11
 show Ll _ _ (Own _ _ (_::(new11++hs))) _ _ ((11,ptrV q11)::_) _ _ _;refine qI 1 Z (zL (zD [2,6] [_,_] Z (zE (zE (zB (zC 1 Z (zG (v:=bo_ false) Z (jV (p:=some ⟨q11,0,none⟩) Z yF Z Z) (zC 1 Z (zG Z (qW (cs:=#[i6_ a.n,str a.set,str a.rel]) 0 Z qV Z Z qT) (zG (v:=bo_ (validB a)) Z (qR Z Tryd.call34 Z qG (fun w1 hw1=>isStructure_ok a w1 hsa)) (zC 3 Z (xH fun b19 hg19=>?_))))))))))))
 cases b19
 ·
  replace hg19:=not_false hg19;refine zC 1 Z (zG (v:=ptrV q11) Z (zN Z Z) (zG Z (zH Z zF Z zJ Z Z) (zG (v:=i6_ (frB fm1:Int)) Z (qU Z zU Z (fun w1 hw1=>tree_free (TreeB.tree (yD (qA (f:=[_]) hw1)) hTq11))) (zG (v:=i6_ ((((frB fm1) / 2 ^ 1:Nat):Int))) Z (OpQ.shr (a:=frB fm1) (b:=1) Z Z Z (by omega)) (zC 2 Z (zI (zD [2,6,26] [_,_,_] Z (yC (b:=!(decide (((((frB fm1) / 2 ^ 1:Nat):Int))=(0:Int)))) Z (fun h26=>?_) (fun h26=>?_)))))))))
  ·
   replace h26:=not_true h26
   replace h26:=zS h26;refine zE (zB (zC 2 Z (zI (zD [4,5] [_,_] Z (qK (yU Z Z Z fun w' hw=>?_))))))
   rw [defO_no (rdy_no (by first | exact .inl (by assumption) | exact .inr (.inr ⟨_,hff1,by first | assumption | omega⟩)))]
   exact ⟨_,([bk_ p2 #[i6_ a.n,str a.set,str a.rel] 24]:List (Nat×Obj))++new11,rfl,fun w1 h1=>Ints.nil,by rw [List.append_assoc];exact hw⟩
  replace h26:=not_false h26
  replace h26:=zW h26
  have hV:validB a=true:=by assumption
  have ha:=validB_fine hV
  have hm1:=ha.lo
  have hm8:=ha.hi
  have hz0:frB fm1 / 2 ^ 1=0:=by first | assumption | omega
  have hR:=rdy_of hV hff1 hz0;refine qN (zD [2,6] [_,_] Z (zE (qF (zM Z (qW (cs:=#[i6_ a.n,str a.set,str a.rel]) 0 Z qV Z Z qT) (jN (ok:=fun _=>True) (v:=fun ((h,M):Nat×Nat)=>.pointer (some ⟨h,0,none⟩)) (new:=fun ((h,M):Nat×Nat)=>[(h,Obj.cells #[.int .i64 a.n,str a.set,str a.rel,.map (some M)] 130 (0,0)),(M,mapP (memoK []))]) (hs:=new11++hs) (xs:=[.tmp 27]) (vs:=[vS a]) ([bk_ p2 #[i6_ a.n,str a.set,str a.rel] 24]:List (Nat×Obj)) Z Z Z Z Tryd.call67 Z (fun w1 hw1=>(newHold_ok a B w0 (([bk_ p2 #[i6_ a.n,str a.set,str a.rel] 24]:List (Nat×Obj))++(new11++hs)) w1 hw1).mono fun en w' ⟨h,M,h1,h2⟩=>⟨(h,M),h1,trivial,h2⟩) fun ⟨h28n,M28n⟩ _=>?_)))))
  show Ll _ _ (Own _ _ (_::_::(((M28n,mapP (memoK []))::(memoB []++(new11++hs)))))) _ _ ((28,pt_ h28n)::_) _ _ _;refine qI 1 Z (zL (zD [2,6,7] [_,_,_] Z (zE (qF (yT (xs:=[]) (vs:=[]) xL Z Z Z Z Z Z (by decide) Z fun p29 hp29=>(qI 1 Z (zL (zD [2,6,7,8] [_,_,_,_] Z (zE (zE (zB (zG Z (zH Z qC Z zJ Z Z) (zG Z (zQ 1 Z zU Z Z Z) (zC 1 Z (zI (zD [6,7,8,31,32] [_,_,_,_,_] Z (qZ (jH (σ:=Nat×Nat×Nat×Array Value×Memo) (fun ⟨x,g,c,u,K⟩=>(x:Int)≤a.n∧(u.size=c*1∧(defL a f x).length≤c∧u.toList.take (defL a f x).length=ints (defL a f x))∧MemoOk 90 a new11 K) (fun ⟨x,g,c,u,K⟩=>[(6,ptrV q11),(7,pt_ h28n),(8,sl_ g ((defL a f x).length) c),(31,i6_ a.n),(32,i6_ (x:Int))]) (fun ⟨x,g,c,u,K⟩=>Own B w0 (bk_ g u 3::bk_ p2 #[i6_ a.n,str a.set,str a.rel] 24::bk_ h28n #[i6_ a.n,str a.set,str a.rel,.map (some M28n)] 130::(((M28n,mapP (memoK K))::(memoB K++(new11++hs)))))) (fun ⟨x,g,c,u,K⟩=>(a.n - x).toNat) (0,p29,0,#[],[]) ⟨by omega,⟨rfl,Nat.le_refl 0,rfl⟩,MemoOk.nil⟩ (Sub.cons Z (Sub.cons Z (Sub.cons (by rfl) (Sub.sel [31,32] Z)))) (fun _ h=>h) ?_))))))))))))))))))
  rintro ⟨x,g,c,u,K⟩ ⟨hx,⟨hc,hl,ht⟩,hK⟩
  dsimp only
  have hdl:=defL_le (a:=a) (f:=f) x;refine zE (zB (zC 1 Z (zI (zD [6,7,8,31,32,33] [_,_,_,_,_,_] Z (zE (yC (b:=decide ((x:Int)<a.n)) Z (fun h33=>?_) (fun h33=>?_)))))))
  ·
   replace h33:=zW h33
   have hxv:=(rdy_hold hV hff1 hz0 (x:=x) (by omega)).2;refine qN (zD [6,7,8,31,32] [_,_,_,_,_] Z (zE (qZ (zE (zB (zC 2 Z (zI (zD [6,7,8,9,31,32] [_,_,_,_,_,_] Z (zE (qF (qI 3 Z (yT (xs:=[.tmp 37]) (vs:=[i6_ (x:Int)]) xL Z Z Z Z Z Z (by decide) Z fun p38 hp38=>(vA (ok:=fun K=>MemoOk 90 a new11 K) (b:=ev a fm1 (envL ([(x:Int)]))) (xs:=[.tmp 35,.tmp 36,.tmp 38]) (vs:=[pt_ h28n,ptrV q11,sl_ p38 1 1]) ([bk_ p38 #[i6_ (x:Int)] 3,bk_ g u 3,bk_ p2 #[i6_ a.n,str a.set,str a.rel] 24]:List (Nat×Obj)) Z Z Z Z Tryd.call68 Z (fun w1 hw1=>holds_ok a fm1 ha (formO_wf hff1) ([(x:Int)]) (sl_ p38 1 1) (by simp) _ _ _ new11 h28n M28n K q11 w1 (fun x hx=>List.mem_append_right _ (List.mem_append_left _ hx)) hTq11 (fun w1 h1=>(xR h1 (i:=0) Z (n:=1) (cap:=1) (vs:=ints [(x:Int)]) Z Z (by decide))) (envL_ok hm1 (by simp) (els_one ⟨by omega,by omega⟩)) hK hw1) fun K1 hM1=>?_)))))))))))))
   show Ll _ _ (Own _ _ (_::_::_::_::(((M28n,mapP (memoK K1))::(memoB K1++(new11++hs)))))) _ _ ((39,bo_ (ev a fm1 (envL ([(x:Int)]))))::_) _ _ _;refine zL (zD [6,7,8,9,31,32,39] [_,_,_,_,_,_,_] Z (yC (b:=ev a fm1 (envL ([(x:Int)]))) Z (fun h39=>?_) (fun h39=>?_)))
   ·
    have hD:=defL_yes (hxv.trans h39);refine qF (qI 2 Z (yT (xs:=[.tmp 41]) (vs:=[i6_ (x:Int)]) xL Z Z Z Z Z Z (by decide) Z fun p42 hp42=>(Ll.appendInts (xs:=(defL a f x)) (ys:=[(x:Int)]) xL 2 Z Z Z Z Z Z Z hc hl ht (fun w1 hw1=>(xR hw1 (i:=0) Z (n:=1) (cap:=1) (vs:=ints [(x:Int)]) Z Z (by decide))) (((defL a f x)++([(x:Int)])).length) (by first | (simp;done) | (simp;omega)) (by first | (simp;done) | (simp;omega) | omega) fun p43 cap43 cur43 hp43 hcp43 hlp43 htp43=>?_)))
    show Ll _ _ (Own _ _ (_::_::_::_::_::(((M28n,mapP (memoK K1))::(memoB K1++(new11++hs)))))) _ _ ((43,sl_ p43 ((((defL a f x)++([(x:Int)])).length)) cap43)::_) _ _ _;refine qI 1 Z (zL (zD [6,7,8,31,32] [_,_,_,_,_] Z (zB (zG Z (qS Z Z Z (by omega) (by omega)) (zC 1 Z (zI (yZ (x+1,p43,cap43,cur43,K1) ⟨by omega,⟨hcp43,by rw [hD];exact hlp43,by rw [hD];simpa using htp43⟩,hM1⟩ (by omega) (Sub.cons Z (Sub.cons Z (Sub.cons (by rw [hD];rfl) (Sub.sel [31,32] Z)))) (fun _ h=>h.sub (qL _ (qL _ (zA _ (zA _ (zA _ (zO _))))))))))))))
   have hD:=defL_no (hxv.trans (by simpa using h39));refine qN (zD [6,7,8,31,32] [_,_,_,_,_] Z (zB (zG Z (qS Z Z Z (by omega) (by omega)) (zC 1 Z (zI (yZ (x+1,g,c,u,K1) ⟨by omega,⟨hc,by rw [hD];exact hl,by rw [hD];simpa using ht⟩,hM1⟩ (by omega) (Sub.cons Z (Sub.cons Z (Sub.cons (by rw [hD];rfl) (Sub.sel [31,32] Z)))) (fun _ h=>h.sub (qL _ (zA _ (zA _ (zA _ (zO _))))))))))))
  replace h33:=zS h33;refine xB Z (zD [8] [_] Z (zE (zB (zC 3 Z (zI (zD [4,5] [_,_] Z (qK (yU Z Z Z fun w' hw=>?_))))))))
  obtain rfl:x=a.n.toNat:=by omega
  rw [defO_yes hR]
  exact ⟨_,([bk_ g u 3,bk_ p2 #[i6_ a.n,str a.set,str a.rel] 24,bk_ h28n #[i6_ a.n,str a.set,str a.rel,.map (some M28n)] 130]:List (Nat×Obj))++new11,rfl,fun w1 h1=>xR h1 (i:=0) rfl ht (by simp) hl,by rw [List.append_assoc];exact qD (f:=[_,_,_]) hw⟩
 replace hg19:=not_true hg19;refine zR Z (zR Z (zR Z (zR Z (zR Z (zR Z (zC 1 Z (zI (zD [2,6,26] [_,_,_] Z (yO Z (zE (zB (zC 2 Z (zI (zD [4,5] [_,_] Z (qK (yU Z Z Z fun w' hw=>?_))))))))))))))))
 rw [defO_no (rdy_no (by first | exact .inl (by assumption) | exact .inr (.inr ⟨_,hff1,by first | assumption | omega⟩)))]
 exact ⟨_,([bk_ p2 #[i6_ a.n,str a.set,str a.rel] 24]:List (Nat×Obj))++new11,rfl,fun w1 h1=>Ints.nil,by rw [List.append_assoc];exact hw⟩
set_option maxHeartbeats 400000 in
theorem rdy_ok (a:St) (f:List UInt8) (W:Nat) (w:World) (hsa:a.Small) (hf:f.length≤1048576) (hW:W≤4) :
    Calls Tryd.prog 69 [vS a,str f,i6_ (W:Int)].toArray w fun en w'=>en=.returned (.bool (rdyB a f W))∧Below w.heap.size w w':=by
 refine fnStart (n:=27) (e:=[(0,vS a),(1,str f),(2,i6_ (W:Int))]) Tryd.func69 Z Z Z Z Ends.both (zE (qF (jD (v:=vS a) Z Z Z Z Z fun p3 hp3=>?_)))
 show Ll _ _ (Own _ _ [_]) _ _ ((3,pt_ p3)::_) _ _ _;refine qI 1 Z (zL (zD [1,2,3] [_,_,_] Z (zE (zE (zB (zG Z (qW (cs:=#[i6_ a.n,str a.set,str a.rel]) 0 Z qV Z Z qT) (zG (v:=bo_ (validB a)) Z (qR Z Tryd.call38 Z qG (fun w1 hw1=>sValid_ok a w1 hsa)) (zC 2 Z (xH fun b12 hg12=>?_)))))))))
 cases b12
 ·
  replace hg12:=not_false hg12;refine zC 1 Z (zG (v:=bo_ ((formO f).isSome)) Z (qR Z Tryd.call105 Z qG (fun w1 hw1=>sFValid_ok f w1 hf)) (zC 2 Z (zI (zD [1,2,16] [_,_,_] Z (yC (b:=!((formO f).isSome)) Z (fun h16=>?_) (fun h16=>?_))))))
  ·
   replace h16:=not_true h16;refine zE (zB (zC 1 Z (zI (zD [6] [_] Z (qK (qO Z Z fun w' hw=>?_))))))
   exact ⟨ret_b (rdy_no (by first | exact .inl (by assumption) | exact .inr (.inl (by simpa using (show (formO f).isSome=false by assumption))))).symm,hw.below⟩
  replace h16:=not_false h16
  obtain ⟨p,hp⟩:=Option.isSome_iff_exists.1 (show (formO f).isSome=true by simp_all)
  have hP:=formO_pa hp
  have hfr:=frB_lt (formO_wf hp)
  have hdv:frB p / 2 ^ W≤frB p:=Nat.div_le_self _ _;refine qN (zD [1,2] [_,_] Z (zE (zB (zC 1 Z (zG (v:=.tuple #[i6_ (frB p:Int),i6_ (f.length:Int)]) Z (qR Z Tryd.call106 Z qG (fun w1 hw1=>l2Free_ok f 0 0 p f.length w1 hf (by omega) hP)) (zC 1 Z (zG (v:=i6_ (frB p:Int)) Z (qX Z Z Z) (zG (v:=i6_ (f.length:Int)) Z (qX Z Z Z) (zC 2 Z (zI (zD [2,7] [_,_] Z (zE (zB (zC 2 Z (zG (v:=.int .u64 (W:Int)) Z (jI .u64 Z yS jP Z (IntWalk.u64_in _ (by omega))) (zG (v:=i6_ ((((frB p) / 2 ^ W:Nat):Int))) Z (OpQ.shr (a:=frB p) (b:=W) Z Z Z (by omega)) (zC 2 Z (zI (zD [6] [_] Z (qK (qO Z Z fun w' hw=>?_)))))))))))))))))))))
  exact ⟨ret_b (rdy_at (by simp_all) hp).symm,hw.below⟩
 replace hg12:=not_true hg12;refine zR Z (zR Z (zR Z (zC 1 Z (zI (zD [1,2,16] [_,_,_] Z (yO Z (zE (zB (zC 1 Z (zI (zD [6] [_] Z (qK (qO Z Z fun w' hw=>?_)))))))))))))
 exact ⟨ret_b (rdy_no (by first | exact .inl (by assumption) | exact .inr (.inl (by simpa using (show (formO f).isSome=false by assumption))))).symm,hw.below⟩
set_option maxHeartbeats 800000 in
theorem sDef_ok (a:St) (f:List UInt8) (B:Nat) (w0:World) (hs:List (Nat×Obj)) (w:World) (hsa:a.Small) (hf:f.length≤1048576) (hw:Own B w0 hs w) :
    Calls Tryd.prog 26 [vS a,str f].toArray w fun en w'=>∃ (v:Value) (new:List (Nat×Obj)),en=.returned (.tuple #[v,.bool (defO a f).2])∧(∀ w1,Own B w0 new w1→Ints w1 v (defO a f).1)∧Own B w0 (new++hs) w':=by
 refine fnStartC (Own B w0 hs) (n:=30) (e:=[(0,vS a),(1,str f)]) Tryd.func26 Z Z Z Z Ends.both hw (zE (qF (jD (v:=vS a) Z Z Z Z Z fun p2 hp2=>?_)))
 show Ll _ _ (Own _ _ (_::hs)) _ _ ((2,pt_ p2)::_) _ _ _;refine qI 2 Z (zL (zD [1,2] [_,_] Z (zE (qF (yT (xs:=[]) (vs:=[]) xL Z Z Z Z Z Z (by decide) Z fun p8 hp8=>(qI 1 Z (zL (zD [1,2,6] [_,_,_] Z (zE (zE (zB (zG Z (qW (cs:=#[i6_ a.n,str a.set,str a.rel]) 1 Z qV Z Z qT) (zC 1 Z (zG (v:=bo_ (rdyB a f 1)) Z (qR Z Tryd.call69 Z qG (fun w1 hw1=>rdy_ok a f 1 w1 hsa hf (by decide))) (zC 1 Z (zI (zD [1,2,6,12] [_,_,_,_] Z (yC (b:=!(rdyB a f 1)) Z (fun h12=>?_) (fun h12=>?_)))))))))))))))))))
 ·
  replace h12:=not_true h12;refine zE (zB (zC 3 Z (zI (zD [4,5] [_,_] Z (qK (yU Z Z Z fun w' hw=>?_))))))
  rw [defO_no (by simp_all)]
  exact ⟨_,([bk_ p8 #[] 3,bk_ p2 #[i6_ a.n,str a.set,str a.rel] 24]:List (Nat×Obj)),rfl,fun w1 h1=>(xR h1 (i:=0) rfl (n:=0) (cap:=0) (vs:=ints []) rfl rfl (by decide)),hw⟩
 replace h12:=not_false h12
 have hR:rdyB a f 1=true:=by simpa using h12
 obtain ⟨hV,p,hp,hz0⟩:=rdy_parts hR
 have hP:=formO_pa hp
 have ha:=validB_fine hV
 have hm1:=ha.lo
 have hm8:=ha.hi;refine qN (zD [1,2,6] [_,_,_] Z (zE (zE (zB (zC 1 Z (zI (zD [1,2,6,7] [_,_,_,_] Z (qZ (jH (σ:=Nat×Nat×Nat×Array Value) (fun ⟨x,g,c,u⟩=>(x:Int)≤a.n∧(u.size=c*1∧(defL a f x).length≤c∧u.toList.take (defL a f x).length=ints (defL a f x))) (fun ⟨x,g,c,u⟩=>[(1,str f),(2,pt_ p2),(6,sl_ g ((defL a f x).length) c),(7,i6_ (x:Int))]) (fun ⟨x,g,c,u⟩=>Own B w0 (bk_ g u 3::bk_ p2 #[i6_ a.n,str a.set,str a.rel] 24::hs)) (fun ⟨x,g,c,u⟩=>(a.n - x).toNat) (0,p8,0,#[]) ⟨by omega,⟨rfl,Nat.le_refl 0,rfl⟩⟩ (Sub.cons Z (Sub.cons Z (Sub.cons (by rfl) (Sub.sel [7] Z)))) (fun _ h=>h) ?_)))))))))
 rintro ⟨x,g,c,u⟩ ⟨hx,⟨hc,hl,ht⟩⟩
 dsimp only
 have hdl:=defL_le (a:=a) (f:=f) x;refine zE (zE (zB (zC 1 Z (zG Z (zH Z qC Z zJ Z Z) (zG Z (zQ 1 Z zU Z Z Z) (zC 1 Z (zI (zD [1,2,6,7,17] [_,_,_,_,_] Z (yC (b:=decide ((x:Int)<a.n)) Z (fun h17=>?_) (fun h17=>?_))))))))))
 ·
  replace h17:=zW h17
  have hxv:=(rdy_hold hV hp hz0 (x:=x) (by omega)).2;refine qN (zD [1,2,6,7] [_,_,_,_] Z (zE (qZ (zE (zB (zG Z (qW (cs:=#[i6_ a.n,str a.set,str a.rel]) 1 Z qV Z Z qT) (zC 2 Z (zG (v:=.agg ((ints (envL [(x:Int)])).toArray)) Z (OpQ.build (xs:=[.tmp 22]) (vs:=[i6_ (x:Int)]) Z Z (by kernel_rfl)) (zG (v:=bo_ (ev a p (envL [(x:Int)]))) Z (qR Z Tryd.call70 Z qG (fun w1 hw1=>l2True_ok a f p (envL [(x:Int)]) w1 hf ha hsa hP (envL_ok hm1 (by simp) (els_one ⟨by omega,by omega⟩)))) (zI (zD [1,2,6,7,24] [_,_,_,_,_] Z (yC (b:=ev a p (envL [(x:Int)])) Z (fun h24=>?_) (fun h24=>?_)))))))))))))
  ·
   have hD:=defL_yes (hxv.trans h24);refine qF (qI 2 Z (yT (xs:=[.tmp 26]) (vs:=[i6_ (x:Int)]) xL Z Z Z Z Z Z (by decide) Z fun p27 hp27=>(Ll.appendInts (xs:=(defL a f x)) (ys:=[(x:Int)]) xL 1 Z Z Z Z Z Z Z hc hl ht (fun w1 hw1=>(xR hw1 (i:=0) Z (n:=1) (cap:=1) (vs:=ints [(x:Int)]) Z Z (by decide))) (((defL a f x)++([(x:Int)])).length) (by first | (simp;done) | (simp;omega)) (by first | (simp;done) | (simp;omega) | omega) fun p28 cap28 cur28 hp28 hcp28 hlp28 htp28=>?_)))
   show Ll _ _ (Own _ _ (_::_::_::hs)) _ _ ((28,sl_ p28 ((((defL a f x)++([(x:Int)])).length)) cap28)::_) _ _ _;refine qI 1 Z (zL (zD [1,2,6,7] [_,_,_,_] Z (zB (zC 1 Z (zG Z (qS Z Z Z (by omega) (by omega)) (zC 1 Z (zI (yZ (x+1,p28,cap28,cur28) ⟨by omega,⟨hcp28,by rw [hD];exact hlp28,by rw [hD];simpa using htp28⟩⟩ (by omega) (Sub.cons Z (Sub.cons Z (Sub.cons (by rw [hD];rfl) (Sub.sel [7] Z)))) (fun _ h=>h.sub (qL _ (zA _ (zA _ (zO _)))))))))))))
  have hD:=defL_no (hxv.trans (by simpa using h24));refine qN (zD [1,2,6,7] [_,_,_,_] Z (zB (zC 1 Z (zG Z (qS Z Z Z (by omega) (by omega)) (zC 1 Z (zI (yZ (x+1,g,c,u) ⟨by omega,⟨hc,by rw [hD];exact hl,by rw [hD];simpa using ht⟩⟩ (by omega) (Sub.cons Z (Sub.cons Z (Sub.cons (by rw [hD];rfl) (Sub.sel [7] Z)))) (fun _ h=>h.sub (zA _ (zA _ (zO _)))))))))))
 replace h17:=zS h17;refine xB Z (zD [6] [_] Z (zE (zB (zC 3 Z (zI (zD [4,5] [_,_] Z (qK (yU Z Z Z fun w' hw=>?_))))))))
 obtain rfl:x=a.n.toNat:=by omega
 rw [defO_yes hR]
 exact ⟨_,([bk_ g u 3,bk_ p2 #[i6_ a.n,str a.set,str a.rel] 24]:List (Nat×Obj)),rfl,fun w1 h1=>xR h1 (i:=0) rfl ht (by simp) hl,hw⟩
end Go.Proofs.YtagbocafnliabaaDoor
namespace Go.Proofs.YtagbocafnliabaaDoor
open Go.RowKit Go.Wk
set_option linter.unusedSimpArgs false
set_option maxHeartbeats 800000 in
theorem points_ok (a:St) (f:List UInt8) (w:World) (hsa:a.Small) :
    Calls Tryd.prog 75 [vS a,str f,i6_ 1].toArray w fun en w'=>match rdyB a f 1 with | true=>∃ (_v:Value) (m cap:Nat),en=.returned (.tuple #[.slice (some ⟨m,0,none⟩) (cntT (fun x=>holdV a f [(x:Int)]) a.n.toNat) cap,.bool true])∧Below w.heap.size w w' | false=>en=.returned (.tuple #[.slice none 0 0,.bool false])∧Below w.heap.size w w':=by
 refine fnStart (n:=61) (e:=[(0,vS a),(1,str f),(2,i6_ 1)]) Tryd.func75 Z Z Z Z Ends.both (zE (qF (jD (v:=vS a) Z Z Z Z Z fun p3 hp3=>?_)))
 show Ll _ _ (Own _ _ [_]) _ _ ((3,pt_ p3)::_) _ _ _;refine qI 2 Z (zL (zD [1,2,3] [_,_,_] Z (zE ?_)))
 rcases hff1:formO f with _ | fm1
 ·
  refine qF (qI 1 Z (jU (σ:=Unit) (ok:=fun _=>True) (v:=fun _=>.pointer none) (hs':=fun _=>[bk_ p3 #[i6_ a.n,str a.set,str a.rel] 24]) (xs:=[.tmp 13]) (vs:=[str f]) Z Z Z Z Tryd.call66 Z (fun w1 hw1=>(pform_ok f _ _ (([bk_ p3 #[i6_ a.n,str a.set,str a.rel] 24]:List (Nat×Obj))++([])) w1 hw1).mono fun en w' hR=>by rw [hff1] at hR;exact ⟨(),hR.1,trivial,hR.2⟩) fun _ _=>?_))
  show Ll _ _ (Own _ _ [_]) _ _ ((14,.pointer none)::_) _ _ _;refine qI 1 Z (zL (zD [2,3,8] [_,_,_] Z (zE (zE (zB (zC 1 Z (zG (v:=bo_ true) Z (jV (p:=none) Z yF Z Z) (zC 1 Z (zR Z (zR Z (zR Z (zC 2 Z (zR Z (zR Z (zC 2 Z (zR Z (zR Z (zC 2 Z (zR Z (zR Z (zR Z (zR Z (zR Z (zR Z (zR Z (zC 1 Z (zI (zD [2,3,8,38] [_,_,_,_] Z (yO Z (zE (zB (zC 2 Z (zI (zD [6,7] [_,_] Z (qK (yU Z Z Z fun w' hw=>?_))))))))))))))))))))))))))))))))))))
  rw [rdy_no (w:=1) (.inr (.inl hff1))]
  exact ⟨rfl,hw.below⟩
 have hwf_fm1:=formO_wf hff1
 have hfr_fm1:=frB_lt hwf_fm1;refine qF (qI 1 Z (jN (ok:=fun ((q,new):Nat×List (Nat×Obj))=>TreeB 90 new fm1 q) (v:=fun ((q,new):Nat×List (Nat×Obj))=>ptrV q) (new:=fun ((q,new):Nat×List (Nat×Obj))=>new) (hs:=[]) (xs:=[.tmp 13]) (vs:=[str f]) ([bk_ p3 #[i6_ a.n,str a.set,str a.rel] 24]:List (Nat×Obj)) Z Z Z Z Tryd.call66 Z (fun w1 hw1=>(pform_ok f _ _ (([bk_ p3 #[i6_ a.n,str a.set,str a.rel] 24]:List (Nat×Obj))++([])) w1 hw1).mono fun en w' hR=>by rw [hff1] at hR;obtain ⟨q,new,h1,h2,h3⟩:=hR;exact ⟨(q,new),h1,h2,h3⟩) fun ⟨q14,new14⟩ hTq14=>?_))
 dsimp only at hTq14
 show Ll _ _ (Own _ _ (_::(new14++([])))) _ _ ((14,ptrV q14)::_) _ _ _;refine qI 1 Z (zL (zD [2,3,8] [_,_,_] Z (zE (zE (zB (zC 1 Z (zG (v:=bo_ false) Z (jV (p:=some ⟨q14,0,none⟩) Z yF Z Z) (zC 1 Z (zG Z (qW (cs:=#[i6_ a.n,str a.set,str a.rel]) 0 Z qV Z Z qT) (zG (v:=bo_ (validB a)) Z (qR Z Tryd.call34 Z qG (fun w1 hw1=>isStructure_ok a w1 hsa)) (zC 3 Z (xH fun b22 hg22=>?_))))))))))))
 cases b22
 ·
  replace hg22:=not_false hg22;refine zC 4 Z (xH fun b26 hg26=>?_)
  cases b26
  ·
   replace hg26:=zS hg26;refine zC 4 Z (xH fun b30 hg30=>?_)
   cases b30
   ·
    replace hg30:=zS hg30;refine zC 1 Z (zG (v:=ptrV q14) Z (zN Z Z) (zG Z (zH Z zF Z zJ Z Z) (zG (v:=i6_ (frB fm1:Int)) Z (qU Z zU Z (fun w1 hw1=>tree_free (TreeB.tree (yD (qA (f:=[_]) hw1)) hTq14))) (zC 1 Z (zG (v:=i6_ ((((frB fm1) / 2 ^ 1:Nat):Int))) Z (OpQ.shr (a:=frB fm1) (b:=1) Z Z Z (by omega)) (zC 2 Z (zI (zD [2,3,8,38] [_,_,_,_] Z (yC (b:=!(decide (((((frB fm1) / 2 ^ 1:Nat):Int))=(0:Int)))) Z (fun h38=>?_) (fun h38=>?_))))))))))
    ·
     replace h38:=not_true h38
     replace h38:=zS h38;refine zE (zB (zC 2 Z (zI (zD [6,7] [_,_] Z (qK (yU Z Z Z fun w' hw=>?_))))))
     rw [rdy_no (w:=1) (by first | exact .inl (by assumption) | exact .inr (.inr ⟨_,hff1,by first | assumption | omega⟩))]
     exact ⟨rfl,hw.below⟩
    replace h38:=not_false h38
    replace h38:=zW h38
    have hV:validB a=true:=by assumption
    have ha:=validB_fine hV
    have hm1:=ha.lo
    have hm8:=ha.hi
    have hz0:frB fm1 / 2 ^ 1=0:=by first | assumption | omega
    have hR:=rdy_of hV hff1 hz0;refine qN (zD [2,3,8] [_,_,_] Z (zE (qF (zM Z (qW (cs:=#[i6_ a.n,str a.set,str a.rel]) 0 Z qV Z Z qT) (jN (ok:=fun _=>True) (v:=fun ((h,M):Nat×Nat)=>.pointer (some ⟨h,0,none⟩)) (new:=fun ((h,M):Nat×Nat)=>[(h,Obj.cells #[.int .i64 a.n,str a.set,str a.rel,.map (some M)] 130 (0,0)),(M,mapP (memoK []))]) (hs:=new14++([])) (xs:=[.tmp 39]) (vs:=[vS a]) ([bk_ p3 #[i6_ a.n,str a.set,str a.rel] 24]:List (Nat×Obj)) Z Z Z Z Tryd.call67 Z (fun w1 hw1=>(newHold_ok a w.heap.size w (([bk_ p3 #[i6_ a.n,str a.set,str a.rel] 24]:List (Nat×Obj))++(new14++([]))) w1 hw1).mono fun en w' ⟨h,M,h1,h2⟩=>⟨(h,M),h1,trivial,h2⟩) fun ⟨h40n,M40n⟩ _=>?_)))))
    show Ll _ _ (Own _ _ (_::_::(((M40n,mapP (memoK []))::(memoB []++(new14++([]))))))) _ _ ((40,pt_ h40n)::_) _ _ _;refine qI 1 Z (zL (zD [2,3,8,9] [_,_,_,_] Z (zE (qF (yT (xs:=[]) (vs:=[]) Base.elem63 Z Z Z Z Z Z (by decide) Z fun p41 hp41=>(qI 1 Z (zL (zD [2,3,8,9,10] [_,_,_,_,_] Z (zE (zE (qF (zM Z (zH Z qC Z zJ Z Z) (zM Z (zQ 1 Z zU Z Z Z) (qI 1 Z (jU (σ:=Nat×Nat×Array Value×List RR) (ok:=fun (g,c',u,rr)=>RowsOk rr u c'∧rr.map RR.xs=listsL a.n.toNat 1) (v:=fun (g,c',u,rr)=>.slice (some ⟨g,0,none⟩) rr.length c') (xs:=[.tmp 43,.tmp 44]) (vs:=[i6_ a.n,i6_ 1]) (hs':=fun (g,c',u,rr)=>(g,.cells u 27 (0,0))::([bk_ p41 #[] 27,bk_ p3 #[i6_ a.n,str a.set,str a.rel] 24,bk_ h40n #[i6_ a.n,str a.set,str a.rel,.map (some M40n)] 130]++((M40n,mapP (memoK []))::(memoB []++(rowsB 3 rr++(new14++([]))))))) Z Z Z Z Tryd.call46 Z (fun w1 hw1=>(listsOf_ok _ _ _ a.n 1 w1 (by omega) (by omega) (by decide) (by decide) hw1).mono fun en w' ⟨g,c',u,rr,h1,h2,h3⟩=>⟨(g,c',u,rr),h1,h2,h3.perm (rows_memo _ (rowsB 3 rr) [bk_ p41 #[] 27,bk_ p3 #[i6_ a.n,str a.set,str a.rel] 24,bk_ h40n #[i6_ a.n,str a.set,str a.rel,.map (some M40n)] 130] (memoB []) (new14++([])) _)⟩) fun ⟨gL,cL,uL,rrL⟩ ⟨hL,hLX⟩=>?_)))))))))))))))
    show Ll _ _ (Own _ _ (_::_::_::_::(((M40n,mapP (memoK []))::(memoB []++(rowsB 3 rrL++(new14++([])))))))) _ _ ((45,sl_ gL rrL.length cL)::_) _ _ _
    have hrl:rrL.length=a.n.toNat:=by rw [← Nat.pow_one a.n.toNat,← listsL_length a.n.toNat 1,← hLX,List.length_map]
    refine zM Z (OpQ.lenS Z vH Z) (qI 1 Z (zL (zD [8,9,10,45,46,47] [_,_,_,_,_,_] Z (qZ (jH (σ:=Nat×Nat×Nat×Array Value×List Value×Memo) (fun ⟨i,g,c,u,V,K⟩=>i≤rrL.length∧(u.size=c*1∧V.length≤c∧u.toList.take V.length=V)∧V.length=cntT (fun x=>holdV a f [(x:Int)]) i∧MemoOk 90 a new14 K) (fun ⟨i,g,c,u,V,K⟩=>[(8,ptrV q14),(9,pt_ h40n),(10,sl_ g V.length c),(45,sl_ gL rrL.length cL),(46,i6_ (rrL.length:Int)),(47,i6_ (i:Int))]) (fun ⟨i,g,c,u,V,K⟩=>Own w.heap.size w (bk_ gL uL 27::bk_ g u 27::bk_ p3 #[i6_ a.n,str a.set,str a.rel] 24::bk_ h40n #[i6_ a.n,str a.set,str a.rel,.map (some M40n)] 130::(((M40n,mapP (memoK K))::(memoB K++((rowsB 3 rrL++(new14++([]))))))))) (fun ⟨i,g,c,u,V,K⟩=>rrL.length - i) (0,p41,0,#[],[],[]) ⟨by omega,⟨rfl,Nat.le_refl 0,rfl⟩,rfl,MemoOk.nil⟩ (Sub.cons Z (Sub.cons Z (Sub.cons (by rfl) (Sub.sel [45,46,47] Z)))) (fun _ h=>h) ?_)))))
    rintro ⟨i,g,c,u,V,K⟩ ⟨hi,⟨hc,hl,ht⟩,hVl,hK⟩
    dsimp only
    have hcl:=cntT_le (fun x=>holdV a f [(x:Int)]) i;refine zE (zB (zC 1 Z (zI (zD [8,9,10,45,46,47,48] [_,_,_,_,_,_,_] Z (zE (yC (b:=decide ((i:Int)<(rrL.length:Int))) Z (fun h48=>?_) (fun h48=>?_)))))))
    ·
     replace h48:=zW h48
     have hxi:=rows_one hLX hrl (i:=i) (by omega)
     have hxv:=(rdy_hold hV hff1 hz0 (x:=i) (by omega)).2;refine qN (zD [8,9,10,45,46,47] [_,_,_,_,_,_] Z (zE (qZ (zE (zB (zG (v:=pf_ gL i) Z (yG (v':=pf_ gL i) (by simp) (jK (i:=(i:Int)) Z vH Tryd.sizeOf27 Z Z (by omega) (by omega))) (zG (v:=rv (rrL.getD i rd)) Z (xZ (v:=rv (rrL.getD i rd)) 0 Z vJ Z Z (by have:=rvs_at (rr:=rrL) (i:=i) (by omega);rw [← hL.vals,List.getElem?_take,if_pos (by omega)] at this;simpa using this)) ?_)))))));refine zC 1 Z (zI (zD [8,9,10,12,45,46,47] [_,_,_,_,_,_,_] Z (zE (qF (qI 3 Z (vA (ok:=fun K=>MemoOk 90 a new14 K) (b:=ev a fm1 (envL ([(i:Int)]))) (xs:=[.tmp 51,.tmp 52,.tmp 53]) (vs:=[pt_ h40n,ptrV q14,rv (rrL.getD i rd)]) ([bk_ gL uL 27,bk_ g u 27,bk_ p3 #[i6_ a.n,str a.set,str a.rel] 24]:List (Nat×Obj)) Z Z Z Z Tryd.call68 Z (fun w1 hw1=>holds_ok a fm1 ha (formO_wf hff1) ([(i:Int)]) (rv (rrL.getD i rd)) (by simp) _ _ _ new14 h40n M40n K q14 w1 (fun x hx=>List.mem_append_right _ (List.mem_append_right _ (List.mem_append_left _ hx))) hTq14 (fun w1 h1=>by rw [← hxi];exact Own.ofRows (qA (f:=[_,_,_]) h1) hL.ok (i:=i) (by omega)) (envL_ok hm1 (by simp) (els_one ⟨by omega,by omega⟩)) hK hw1) fun K1 hM1=>?_))))))
     show Ll _ _ (Own _ _ (_::_::_::_::(((M40n,mapP (memoK K1))::(memoB K1++((rowsB 3 rrL++(new14++([]))))))))) _ _ ((54,bo_ (ev a fm1 (envL ([(i:Int)]))))::_) _ _ _;refine zL (zD [8,9,10,12,45,46,47,54] [_,_,_,_,_,_,_,_] Z (yC (b:=ev a fm1 (envL ([(i:Int)]))) Z (fun h54=>?_) (fun h54=>?_)))
     ·
      have hD:=cntT_yes (F:=fun x:Nat=>holdV a f [(x:Int)]) (x:=i) (hxv.trans h54);refine qF (qI 2 Z (yT (xs:=[.tmp 56]) (vs:=[rv (rrL.getD i rd)]) Base.elem63 Z Z Z Z Z Z (by decide) Z fun p57 hp57=>(Ll.append1 (V:=rv (rrL.getD i rd)) (vs:=V) Base.elem63 2 0 Z Z Z Z Z Z Z hc hl ht Z (by rfl) (by omega) fun g2 c2 u2 hg2 hc2 hl2 ht2=>?_)))
      show Ll _ _ (Own _ _ (_::_::_::_::_::(((M40n,mapP (memoK K1))::(memoB K1++((rowsB 3 rrL++(new14++([]))))))))) _ _ ((58,sl_ g2 (V.length+1) c2)::_) _ _ _;refine qI 1 Z (zL (zD [8,9,10,45,46,47] [_,_,_,_,_,_] Z (zB (zG Z (qS Z Z Z (by omega) (by omega)) (zC 1 Z (zI (yZ (i+1,g2,c2,u2,V++[rv (rrL.getD i rd)],K1) ⟨by omega,⟨hc2,by simpa using hl2,by simpa using ht2⟩,by rw [hD];simp [hVl],hM1⟩ (by omega) (Sub.cons Z (Sub.cons Z (Sub.cons (by rw [zP];rfl) (Sub.sel [45,46,47] Z)))) (fun _ h=>h.sub (qL _ (zA _ (zA _ (zA _ (zA _ (zO _))))))))))))))
     have hD:=cntT_no (F:=fun x:Nat=>holdV a f [(x:Int)]) (x:=i) (hxv.trans (by simpa using h54));refine qN (zD [8,9,10,45,46,47] [_,_,_,_,_,_] Z (zB (zG Z (qS Z Z Z (by omega) (by omega)) (zC 1 Z (zI (yZ (i+1,g,c,u,V,K1) ⟨by omega,⟨hc,hl,ht⟩,by rw [hD];simp [hVl],hM1⟩ (by omega) (Sub.cons Z (Sub.cons Z (Sub.cons (by rfl) (Sub.sel [45,46,47] Z)))) (fun _ h=>h.sub (zA _ (zA _ (zA _ (zA _ (zO _))))))))))))
    replace h48:=zS h48;refine xB Z (zD [10] [_] Z (zE (zB (zC 3 Z (zI (zD [6,7] [_,_] Z (qK (yU Z Z Z fun w' hw=>?_))))))))
    rw [hR]
    exact ⟨.int .i64 0,g,c,by rw [show a.n.toNat=i by omega,← hVl],hw.below⟩
   replace hg30:=zW hg30;refine zR Z (zR Z (zR Z (zR Z (zR Z (zR Z (zR Z (zC 1 Z (zI (zD [2,3,8,38] [_,_,_,_] Z (yO Z (zE (zB (zC 2 Z (zI (zD [6,7] [_,_] Z (qK (yU Z Z Z fun w' hw=>?_)))))))))))))))))
   rw [rdy_no (w:=1) (by first | exact .inl (by assumption) | exact .inr (.inr ⟨_,hff1,by first | assumption | omega⟩))]
   exact ⟨rfl,hw.below⟩
  replace hg26:=zW hg26;refine zR Z (zR Z (zC 2 Z (zR Z (zR Z (zR Z (zR Z (zR Z (zR Z (zR Z (zC 1 Z (zI (zD [2,3,8,38] [_,_,_,_] Z (yO Z (zE (zB (zC 2 Z (zI (zD [6,7] [_,_] Z (qK (yU Z Z Z fun w' hw=>?_))))))))))))))))))))
  rw [rdy_no (w:=1) (by first | exact .inl (by assumption) | exact .inr (.inr ⟨_,hff1,by first | assumption | omega⟩))]
  exact ⟨rfl,hw.below⟩
 replace hg22:=not_true hg22;refine zR Z (zR Z (zC 2 Z (zR Z (zR Z (zC 2 Z (zR Z (zR Z (zR Z (zR Z (zR Z (zR Z (zR Z (zC 1 Z (zI (zD [2,3,8,38] [_,_,_,_] Z (yO Z (zE (zB (zC 2 Z (zI (zD [6,7] [_,_] Z (qK (yU Z Z Z fun w' hw=>?_)))))))))))))))))))))))
 rw [rdy_no (w:=1) (by first | exact .inl (by assumption) | exact .inr (.inr ⟨_,hff1,by first | assumption | omega⟩))]
 exact ⟨rfl,hw.below⟩
set_option maxHeartbeats 400000 in
theorem iCount_ok (a:St) (f:List UInt8) (w:World) (hsa:a.Small) :
    Calls Tryd.prog 30 [vS a,str f,i6_ 1].toArray w fun en w'=>en=.returned (.int .i64 (cntO a f))∧Below w.heap.size w w':=by
 refine fnStart (n:=20) (e:=[(0,vS a),(1,str f),(2,i6_ 1)]) Tryd.func30 Z Z Z Z Ends.both (zE (qF (jD (v:=vS a) Z Z Z Z Z fun p3 hp3=>?_)))
 show Ll _ _ (Own _ _ [_]) _ _ ((3,pt_ p3)::_) _ _ _;refine qI 1 Z (zL (zD [1,2,3] [_,_,_] Z (zE ?_)))
 cases hrd:rdyB a f 1
 ·
  refine qF (zM Z (qW (cs:=#[i6_ a.n,str a.set,str a.rel]) 0 Z qV Z Z qT) (qI 2 Z (jU (σ:=Unit) (ok:=fun _=>True) (v:=fun _=>.tuple #[.slice none 0 0,.bool false]) (hs':=fun _=>[bk_ p3 #[i6_ a.n,str a.set,str a.rel] 24]) (xs:=[.tmp 10,.tmp 11,.tmp 12]) (vs:=[vS a,str f,i6_ 1]) Z Z Z Z Tryd.call75 Z (fun w1 hw1=>(points_ok a f w1 hsa).mono fun en w' hR=>by rw [hrd] at hR;exact ⟨(),hR.1,trivial,hw1.calls hR.2⟩) fun _ _=>?_)))
  show Ll _ _ (Own _ _ [_]) _ _ ((13,.tuple #[.slice none 0 0,bo_ false])::_) _ _ _;refine qI 1 Z (zM (v:=.slice none 0 0) Z (qX Z Z Z) (zM (v:=bo_ false) Z (qX Z Z Z) (qI 2 Z (zL (zD [7,8] [_,_] Z (zE (zE (zB (zC 2 Z (zI (zD [7,17] [_,_] Z (yO Z (zE (zB (zC 1 Z (zI (zD [6] [_] Z (qK (qO Z Z fun w' hw=>?_)))))))))))))))))))
  exact ⟨ret_i (by rw [cntO_no hrd]),hw.below⟩
 refine qF (zM Z (qW (cs:=#[i6_ a.n,str a.set,str a.rel]) 0 Z qV Z Z qT) (qI 2 Z (jU (σ:=Nat×Nat) (ok:=fun _=>True) (v:=fun (m,c)=>.tuple #[.slice (some ⟨m,0,none⟩) (cntT (fun x=>holdV a f [(x:Int)]) a.n.toNat) c,.bool true]) (hs':=fun _=>[bk_ p3 #[i6_ a.n,str a.set,str a.rel] 24]) (xs:=[.tmp 10,.tmp 11,.tmp 12]) (vs:=[vS a,str f,i6_ 1]) Z Z Z Z Tryd.call75 Z (fun w1 hw1=>(points_ok a f w1 hsa).mono fun en w' hR=>by rw [hrd] at hR;obtain ⟨_,m,c,h1,h2⟩:=hR;exact ⟨(m,c),h1,trivial,hw1.calls h2⟩) fun ⟨m9,c9⟩ _=>?_)))
 show Ll _ _ (Own _ _ [_]) _ _ ((13,.tuple #[sl_ m9 ((cntT (fun x=>holdV a f [(x:Int)]) a.n.toNat)) c9,bo_ true])::_) _ _ _;refine qI 1 Z (zM (v:=sl_ m9 ((cntT (fun x=>holdV a f [(x:Int)]) a.n.toNat)) c9) Z (qX Z Z Z) (zM (v:=bo_ true) Z (qX Z Z Z) (qI 2 Z (zL (zD [7,8] [_,_] Z (zE (zE (zB (zC 2 Z (zI (zD [7,17] [_,_] Z (xO Z (qN (zD [7] [_] Z (zE (zB (zC 1 Z (zG Z (OpQ.lenS Z vH Z) (zC 1 Z (zI (zD [6] [_] Z (qK (qO Z Z fun w' hw=>?_)))))))))))))))))))))))
 exact ⟨ret_i (by rw [cntO_yes hrd]),hw.below⟩
end Go.Proofs.YtagbocafnliabaaDoor
namespace Go.Proofs.YtagbocafnliabaaDoor
open Go.RowKit Go.Wk
set_option linter.unusedSimpArgs false
set_option maxHeartbeats 400000 in
theorem mark_ok (B:Nat) (w0:World) (p5 p11 p3 n:Nat) (x:Int) (bs:List Bool) (fr:List (Nat×Obj)) (v:Value) (os:List Int) (w:World) (hva:∀ w,Own B w0 (bk_ p5 #[sl_ p11 n n] 74::bk_ p3 #[i6_ x] 3::fr) w→Ints w v os) (hx0:0≤x) (hx1:x<os.length) (hs:os.length≤8) (hn:bs.length=n) (hel:∀ o∈os,0≤o∧o<(n:Int)) (hw:Own B w0 (bk_ p5 #[sl_ p11 n n] 74::bk_ p11 ((bs.map Value.bool).toArray) 4::bk_ p3 #[i6_ x] 3::fr) w) :
    Calls Tryd.prog 87 [v,pt_ p5,pt_ p3].toArray w fun en w'=>en=.returned (.bool true)∧Own B w0 (bk_ p5 #[sl_ p11 n n] 74::bk_ p11 (((bs.set (os.getD x.toNat 0).toNat true).map Value.bool).toArray) 4::bk_ p3 #[i6_ x] 3::fr) w':=by
 refine fnStartC (Own B w0 (bk_ p5 #[sl_ p11 n n] 74::bk_ p11 ((bs.map Value.bool).toArray) 4::bk_ p3 #[i6_ x] 3::fr)) (n:=11) (e:=[(0,v),(1,pt_ p5),(2,pt_ p3)]) Tryd.func87 Z Z Z Z Ends.both hw ?_
 have hm:0≤os.getD x.toNat 0∧os.getD x.toNat 0<(n:Int):=by rw [getD_at (by omega)];exact hel _ (List.getElem_mem _)
 refine zE (zB (zC 1 Z (zI (zD [0,1,2] [_,_,_] Z (zE (jT (S:=Own B w0 (bk_ p5 #[sl_ p11 n n] 74::bk_ p3 #[i6_ x] 3::fr)) [(0,true),(1,true),(2,true),(3,true),(4,true),(5,true),(6,false)] yH (fun _ h=>h.drawn) (by kernel_rfl) (yJ Z Z Z Z Z (zQ 0 Z Tryd.isAgg74 Z Z Z) (pT 3 [0,2] Z Z) (jF 1 Z (pT 3 [0,2] Z Z) (yJ Z Z Z Z Z (zQ 1 Z zU Z Z Z) (pT 3 [0,2] Z Z) (yJ (v:=.pointer (some (sAt v x))) Z Z Z Z Z (xX Z yA zJ Z Z (by omega) (by rw [ints_length];omega) (fun w1 hw1=>hva _ hw1)) (pT 3 [0,2] Z Z) (yJ (v:=i6_ (os.getD ((x).toNat) 0)) Z Z Z Z Z (qU Z zU Z (fun w1 hw1=>Ints.cell (hva _ hw1) (by omega) (by omega))) (pT 3 [0,2] Z Z) (yJ (v:=pf_ p11 ((os.getD ((x).toNat) 0).toNat)) Z Z Z Z Z (yG (by rw [Nat.zero_add]) (jK (i:=os.getD ((x).toNat) 0) Z Tryd.runUnderlying74 Tryd.sizeOf4 Z Z (by omega) (by omega))) (pT 3 [0,2] Z Z) (yW Z ?_)))))))))))));refine qM (v:=bo_ true) (hs':=(_::bk_ p11 (((bs.map Value.bool).set ((os.getD ((x).toNat) 0).toNat) (bo_ true)).toArray) 4::_::fr)) 1 Z Z Z Z Z Z Tryd.sizeOf4 Z (by rw [List.size_toArray,List.length_map];omega) (by first | (rw [list_set];rfl) | (simp only [Nat.zero_add];rw [list_set];rfl)) ?_;refine zL (yP (pT 3 [0,2] Z Z) ?_);refine Ld.nil (zD [] [] Z (zE (zB (zC 1 Z (zI (zD [4] [_] Z (qK (qO Z Z fun w' hw=>?_))))))))
 exact ⟨rfl,by rw [List.map_set];exact hw⟩
theorem orbTells (a:St) (ha:a.Fine) (x:Int) (hx:a.El x) (B:Nat) (w0:World) (p5 p11 p3:Nat) (rest:List (Nat×Obj)):Tells Tryd.prog 87 #[.pointer (some ⟨p5,0,none⟩),.pointer (some ⟨p3,0,none⟩)] a a B w0 (fun (bs:List Bool) (_:Unit)=>(bk_ p5 #[sl_ p11 a.n.toNat a.n.toNat] 74::bk_ p11 ((bs.map Value.bool).toArray) 4::bk_ p3 #[i6_ x] 3::rest)) (fun bs _=>bs.length=a.n.toNat) (orbStep x):=by
  intro fr v os t al w hok hv hl _ hA hw
  have h8:=ha.hi
  have pm:∀ t:List Bool,(fr++(bk_ p5 #[sl_ p11 a.n.toNat a.n.toNat] 74::bk_ p11 ((t.map Value.bool).toArray) 4::bk_ p3 #[i6_ x] 3::rest)).Perm (bk_ p5 #[sl_ p11 a.n.toNat a.n.toNat] 74::bk_ p11 ((t.map Value.bool).toArray) 4::bk_ p3 #[i6_ x] 3::(fr++rest)):=fun t=>List.perm_append_comm_assoc fr [_,_,_] rest;refine (mark_ok B w0 p5 p11 p3 a.n.toNat x t (fr++rest) v os w (fun w h=>hv w (yD (qA (f:=[_,_]) h))) hx.1 (by have:=hx.2;omega) (by omega) hok (fun o ho=>by have:=hA o ho;exact ⟨this.1,by have:=this.2;omega⟩) (hw.perm (pm t))).mono fun en w' ⟨h1,h2⟩=>?_
  exact ⟨(),h1,by show (t.set _ _).length=_;rw [List.length_set];exact hok,h2.perm (pm _).symm⟩
set_option maxHeartbeats 400000 in
theorem orbit_ok (a:St) (x:Int) (B:Nat) (w0:World) (hs:List (Nat×Obj)) (w:World) (ha:a.Fine) (hx:a.El x) (hw:Own B w0 hs w) :
    Calls Tryd.prog 45 [vS a,i6_ x].toArray w fun en w'=>∃ (zs:List Int) (g c:Nat) (u:Array Value),en=.returned (.slice (some ⟨g,0,none⟩) zs.length c)∧((u.size=c*1∧zs.length≤c∧u.toList.take zs.length=ints zs)∧zs.length≤8∧(0<zs.length∧zs.getD 0 0≤x)∧∀ z∈zs,a.El z∧Moved a x z)∧Own B w0 ((g,.cells u 3 (0,0))::hs) w':=by
 refine fnStartC (Own B w0 hs) (n:=31) (e:=[(0,vS a),(1,i6_ x)]) Tryd.func45 Z Z Z Z Ends.both hw ?_
 have hm8:=ha.hi
 have hm1:=ha.lo;refine zE (qF (jD (v:=vS a) Z Z Z Z Z fun p2 hp2=>?_))
 show Ll _ _ (Own _ _ (_::hs)) _ _ ((2,pt_ p2)::_) _ _ _;refine jD (v:=i6_ x) Z Z Z Z Z fun p3 hp3=>?_
 show Ll _ _ (Own _ _ (_::_::hs)) _ _ ((3,pt_ p3)::_) _ _ _;refine qI 1 Z (zL (zD [2,3] [_,_] Z (zE (qF (zM Z (zH Z qC Z zJ Z Z) (zM Z (zQ 1 Z zU Z Z Z) (Ll.make (k:=a.n.toNat) Base.elem74 Tryd.zeroValue4 Z Z Z Z (by rw [Int.toNat_of_nonneg (by omega)];rfl) (by omega) fun p11 hp11=>?_)))))))
 rw [show madeCells (Value.cells (bo_ false)) (a.n.toNat*1)=(List.replicate a.n.toNat (bo_ false)).toArray from made_list _ _ rfl];refine vL Z Z Z Z Tryd.zeroValue74 fun p5 hp5=>?_
 show Ll _ _ (Own _ _ (bk_ p5 #[.slice none 0 0] 74::_::_::_::hs)) _ _ ((5,pt_ p5)::_) _ _ _;refine qM (v:=sl_ p11 a.n.toNat a.n.toNat) (hs':=(bk_ p5 #[sl_ p11 a.n.toNat a.n.toNat] 74::_::_::_::hs)) 0 Z Z Z Z Z Z Tryd.sizeOf74 Z (by simp) Z (zL (zD [2,3,5] [_,_,_] Z (zE (qF (zM Z (qW (cs:=#[i6_ a.n,str a.set,str a.rel]) 3 Z qV Z Z qT) (zM Z (qW (cs:=#[i6_ a.n,str a.set,str a.rel]) 3 Z qV Z Z qT) (zM (v:=.func (.func 87) #[] #[pt_ p5,pt_ p3]) Z (OpQ.func' (cap:=[.tmp 5,.tmp 3]) Z Z) (jU (σ:=Unit) (ok:=fun _=>True) (v:=fun _=>.tuple #[]) (hs':=fun _=>(bk_ p5 #[sl_ p11 a.n.toNat a.n.toNat] 74::bk_ p11 ((((shS a a (orbStep x) a.n.toNat [] (List.replicate a.n.toNat false)).1).map Value.bool).toArray) 4::bk_ p3 #[i6_ x] 3::(bk_ p2 #[i6_ a.n,str a.set,str a.rel] 24::hs))) (xs:=[.tmp 12,.tmp 13,.tmp 14]) (vs:=[vS a,vS a,.func (.func 87) #[] #[pt_ p5,pt_ p3]]) Z Z Z Z Tryd.call53 Z (fun w1 hw1=>(eachShape_ok a a (fun (bs:List Bool) (_:Unit)=>(bk_ p5 #[sl_ p11 a.n.toNat a.n.toNat] 74::bk_ p11 ((bs.map Value.bool).toArray) 4::bk_ p3 #[i6_ x] 3::(bk_ p2 #[i6_ a.n,str a.set,str a.rel] 24::hs))) (fun bs _=>bs.length=a.n.toNat) (orbStep x) 87 #[.pointer (some ⟨p5,0,none⟩),.pointer (some ⟨p3,0,none⟩)] B w0 Tryd.call87 (orbTells a ha x hx B w0 p5 p11 p3 (bk_ p2 #[i6_ a.n,str a.set,str a.rel] 24::hs)) ha ha Z (List.replicate a.n.toNat false) () w1 (by simp) (by rw [List.map_replicate];exact hw1)).mono fun en w' ⟨al,h1,_,h2⟩=>⟨al,h1,trivial,h2⟩) fun _ _=>?_))))))))
 obtain ⟨bs,hbs⟩:∃ bs,bs=(shS a a (orbStep x) a.n.toNat [] (List.replicate a.n.toNat false)).1:=⟨_,rfl⟩
 rw [← hbs]
 have hI:OrbI a x bs:=hbs ▸ orb_inv ha hx
 have hbl:=hI.1
 have hJ:bs.getD x.toNat false=true:=hbs ▸ orb_marks ha hx
 show Ll _ _ (Own _ _ (_::_::_::_::hs)) _ _ _ _ _ _;refine zL (zD [5] [_] Z (zE (qF (yT (xs:=[]) (vs:=[]) xL Z Z Z Z Z Z (by decide) Z fun p16 hp16=>(qI 1 Z (zL (zD [5,6] [_,_] Z (zE (zE (zB (zG Z (zQ 1 Z Tryd.isAgg74 Z Z Z) (zG Z (OpQ.lenS Z Tryd.runUnderlying74 Z) (zC 1 Z (zI (zD [6,17,18,19] [_,_,_,_] Z (qZ (jH (σ:=Nat×Nat×Nat×Array Value) (fun ⟨k,g,c,u⟩=>k≤a.n.toNat∧(u.size=c*1∧(trueTo bs k).length≤c∧u.toList.take (trueTo bs k).length=ints (trueTo bs k))) (fun ⟨k,g,c,u⟩=>[(6,sl_ g ((trueTo bs k).length) c),(17,sl_ p11 a.n.toNat a.n.toNat),(18,i6_ (a.n.toNat:Int)),(19,i6_ (k:Int))]) (fun ⟨k,g,c,u⟩=>Own B w0 (bk_ g u 3::bk_ p5 #[sl_ p11 a.n.toNat a.n.toNat] 74::bk_ p11 ((bs.map Value.bool).toArray) 4::bk_ p3 #[i6_ x] 3::bk_ p2 #[i6_ a.n,str a.set,str a.rel] 24::hs)) (fun ⟨k,g,c,u⟩=>a.n.toNat - k) (0,p16,0,#[]) ⟨by omega,⟨rfl,Nat.le_refl 0,rfl⟩⟩ (Sub.cons (by rfl) (Sub.sel [17,18,19] Z)) (fun _ h=>h) ?_)))))))))))))))))
 rintro ⟨k,g,c,u⟩ ⟨hk,⟨hcg,hlg,htg⟩⟩
 dsimp only
 have htl:=true_le bs k;refine zE (zB (zC 1 Z (zI (zD [6,17,18,19,20] [_,_,_,_,_] Z (zE (yE Z (fun h20=>?_) (fun h20=>?_)))))))
 ·
  refine qN (zD [6,17,18,19] [_,_,_,_] Z (zE (qZ (zE (zB (zC 1 Z (zG (v:=pf_ p11 ((k:Int).toNat)) Z (yG (by rw [Nat.zero_add]) (jK (i:=(k:Int)) Z Tryd.runUnderlying74 Tryd.sizeOf4 Z Z (by omega) (by omega))) (zG (v:=bo_ (bs.getD ((k:Int).toNat) false)) Z (xZ 2 Z Tryd.isAgg4 Z Z (cur_at (bools_all bs) (bools_at (c:=bs) (off:=(k:Int).toNat) (by first | (simp;done) | (simp;omega) | omega)))) (zC 2 Z (zI (zD [6,7,8,17,18,19] [_,_,_,_,_,_] Z (zE (zB (zC 1 Z (zI (zD [6,7,17,18,19,24] [_,_,_,_,_,_] Z (yC (b:=bs.getD ((k:Int).toNat) false) Z (fun h24=>?_) (fun h24=>?_))))))))))))))))))
  ·
   refine qF (qI 2 Z (yT (xs:=[.tmp 26]) (vs:=[i6_ (k:Int)]) xL Z Z Z Z Z Z (by decide) Z fun p27 hp27=>(Ll.appendInts (xs:=(trueTo bs k)) (ys:=[(k:Int)]) xL 1 Z Z Z Z Z Z Z hcg hlg htg (fun w1 hw1=>(xR hw1 (i:=0) Z (n:=1) (cap:=1) (vs:=ints [(k:Int)]) Z Z (by decide))) (((trueTo bs k)++([(k:Int)])).length) (by first | (simp;done) | (simp;omega)) (by first | (simp;done) | (simp;omega) | omega) fun p28 cap28 cur28 hp28 hcp28 hlp28 htp28=>?_)))
   show Ll _ _ (Own _ _ (_::_::_::_::_::_::hs)) _ _ ((28,sl_ p28 ((((trueTo bs k)++([(k:Int)])).length)) cap28)::_) _ _ _;refine qI 1 Z (zL (zD [6,17,18,19] [_,_,_,_] Z (zB (zG Z (qS Z Z Z (by omega) (by omega)) (zC 1 Z (zI (yZ (k+1,p28,cap28,cur28) ⟨by omega,⟨by simpa using hcp28,by dsimp only;rw [true_yes (k:=k) (by simpa using h24)];simpa using hlp28,by dsimp only;rw [true_yes (k:=k) (by simpa using h24)];simpa using htp28⟩⟩ (by omega) (Sub.cons (by dsimp only;rw [true_yes (k:=k) (by simpa using h24)];rfl) (Sub.sel [17,18,19] Z)) (fun _ h=>h.sub (qL _ (zA _ (zA _ (zA _ (zA _ (zA _ (zO _)))))))))))))))
  refine qN (zD [6,17,18,19] [_,_,_,_] Z (zB (zG Z (qS Z Z Z (by omega) (by omega)) (zC 1 Z (zI (yZ (k+1,g,c,u) ⟨by omega,⟨hcg,by dsimp only;rw [true_no (k:=k) (by simpa using h24)];exact hlg,by dsimp only;rw [true_no (k:=k) (by simpa using h24)];exact htg⟩⟩ (by omega) (Sub.cons (by dsimp only;rw [true_no (k:=k) (by simpa using h24)];rfl) (Sub.sel [17,18,19] Z)) (fun _ h=>h.sub (zA _ (zA _ (zA _ (zA _ (zA _ (zO _)))))))))))))
 refine xB Z (zD [6] [_] Z (zE (zB (zC 2 Z (zI (zD [4] [_] Z (qK (qO Z Z fun w' hw=>?_))))))))
 obtain rfl:k=bs.length:=by omega
 exact ⟨trueTo bs bs.length,g,c,u,rfl,⟨⟨hcg,hlg,htg⟩,by have:=ha.hi;omega,orb_first hx hbl hJ,orb_all hI⟩,hw.sub (zA _ (qL _ (qL _ (qL _ (qL _ (zO _))))))⟩
end Go.Proofs.YtagbocafnliabaaDoor
namespace Go.Proofs.YtagbocafnliabaaDoor
open Go.RowKit Go.Wk
set_option linter.unusedSimpArgs false
set_option maxHeartbeats 400000 in
theorem gsHolds_ok (a:St) (f:List UInt8) (va:Value) (xs:List Int) (w:World) (hsa:a.Small) (hva:Ints w va xs) (hxl:xs.length≤1048576) :
    Calls Tryd.prog 28 [vS a,str f,va].toArray w fun en w'=>en=.returned (.bool (holdV a f xs))∧Below w.heap.size w w':=by
 refine fnStart (n:=17) (e:=[(0,vS a),(1,str f),(2,va)]) Tryd.func28 Z Z Z Z Ends.both (zE (qF (jD (v:=vS a) Z Z Z Z Z fun p3 hp3=>?_)))
 show Ll _ _ (Own _ _ [_]) _ _ ((3,pt_ p3)::_) _ _ _;refine qI 1 Z (zL (zD [1,2,3] [_,_,_] Z (zE (zB (zG Z (qW (cs:=#[i6_ a.n,str a.set,str a.rel]) 0 Z qV Z Z qT) (zC 2 Z (zG (v:=.tuple #[bo_ (holdV a f xs),bo_ (holdK a f xs)]) Z (qR Z Tryd.call71 Z qG (fun w1 hw1=>iHolds_ok a f va xs w1 hsa (Row.own hva hw1) (by first | (simp;done) | omega))) (zC 1 Z (zG (v:=bo_ (holdV a f xs)) Z (qX Z Z Z) (zG (v:=bo_ (holdK a f xs)) Z (qX Z Z Z) (zC 2 Z (zI (zD [7] [_] Z (zE (zB (zC 2 Z (zI (zD [6] [_] Z (qK (qO Z Z fun w' hw=>?_))))))))))))))))))))
 exact ⟨ret_b (by first | rfl | (simp_all;done) | (simp_all;omega)),hw.below⟩
end Go.Proofs.YtagbocafnliabaaDoor
namespace Go.Proofs.YtagbocafnliabaaDoor
open Go.RowKit Go.Wk
set_option linter.unusedSimpArgs false
set_option maxHeartbeats 400000 in
theorem isDef_ok (a:St) (va:Value) (xs:List Int) (w:World) (hva:Ints w va xs) (hs1:xs.length≤1000000) (hv:validB a=true) (hA:a.Els xs) (hd:xs.Nodup) (hcl:∀ x∈xs,∀ z:Int,a.El z→Moved a x z→z∈xs) :
    Calls Tryd.prog 29 [vS a,va].toArray w fun en w'=>en=.returned (.bool true)∧Below w.heap.size w w':=by
 refine fnStart (n:=43) (e:=[(0,vS a),(1,va)]) Tryd.func29 Z Z Z Z Ends.both ?_
 have ha:=validB_fine hv
 have hsa:=ha.small;refine zE (qF (jD (v:=vS a) Z Z Z Z Z fun p2 hp2=>?_))
 show Ll _ _ (Own _ _ [_]) _ _ ((2,pt_ p2)::_) _ _ _;refine qI 1 Z (zL (zD [1,2] [_,_] Z (zE (zE (zB (zG Z (qW (cs:=#[i6_ a.n,str a.set,str a.rel]) 0 Z qV Z Z qT) (zG (v:=bo_ true) Z (qR Z Tryd.call34 Z qG (fun w1 hw1=>known_b hv (isStructure_ok a w1 hsa))) (zC 2 Z (zG Z (qW (cs:=#[i6_ a.n,str a.set,str a.rel]) 0 Z qV Z Z qT) (zC 1 Z (zG (v:=bo_ (xs.all (elB a))) Z (qR Z Tryd.call72 Z qG (fun w1 hw1=>areElements_ok a va xs w1 (Row.own hva hw1) (by first | (simp;done) | (simp;omega) | omega))) (zC 3 Z (xH fun b18 hg18=>?_)))))))))))))
 cases b18
 ·
  replace hg18:=not_false hg18;refine zC 1 Z (zG (v:=bo_ true) Z (qR Z Tryd.call73 Z qG (fun w1 hw1=>allDiff_ok va xs w1 (Row.own hva hw1) (by omega) hd)) (zC 2 Z (zI (zD [1,2,22] [_,_,_] Z (xO Z (qN (zD [1,2] [_,_] Z (zE (zE (zB (zC 1 Z (zG (v:=i6_ (xs.length:Int)) Z (xP Z yA Z (ints_length _) (fun w1 hw1=>Row.own hva hw1)) (zC 1 Z (zI (zD [1,2,23,24,25] [_,_,_,_,_] Z (qZ (jH (σ:=Nat) (fun k=>k≤xs.length) (fun k=>[(1,va),(2,pt_ p2),(23,va),(24,i6_ (xs.length:Int)),(25,i6_ (k:Int))]) (fun k=>Own w.heap.size w [bk_ p2 #[i6_ a.n,str a.set,str a.rel] 24]) (fun k=>xs.length - k) (0) (by omega) (Sub.sel [1,2,23,24,25] Z) (fun _ h=>h) ?_)))))))))))))))))
  rintro k hk;refine zE (zB (zC 1 Z (zI (zD [1,2,23,24,25,26] [_,_,_,_,_,_] Z (zE (yC (b:=decide ((k:Int)<(xs.length:Int))) Z (fun h26=>?_) (fun h26=>?_)))))))
  ·
   replace h26:=zW h26
   have hxk:=mem_at0 (xs:=xs) (k:=k) (by omega);refine qN (zD [1,2,23,24,25] [_,_,_,_,_] Z (zE (qZ (zE (zB (zG (v:=.pointer (some (sAt va (k:Int)))) Z (xX Z yA zJ Z Z (by omega) (by rw [ints_length];omega) (fun w1 hw1=>Row.own hva hw1)) (zG (v:=i6_ (xs.getD ((k:Int).toNat) 0)) Z (qU Z zU Z (fun w1 hw1=>Ints.cell (Row.own hva hw1) (by omega) (by omega))) (zC 1 Z (zI (zD [1,2,6,23,24,25] [_,_,_,_,_,_] Z (zE (qF (zM Z (qW (cs:=#[i6_ a.n,str a.set,str a.rel]) 0 Z qV Z Z qT) (qI 1 Z (jU (σ:=List Int×Nat×Nat×Array Value) (ok:=fun (zs,g,c,u)=>(u.size=c*1∧zs.length≤c∧u.toList.take zs.length=ints zs)∧zs.length≤8∧(0<zs.length∧zs.getD 0 0≤(xs.getD ((k:Int).toNat) 0))∧∀ z∈zs,a.El z∧Moved a (xs.getD ((k:Int).toNat) 0) z) (v:=fun (zs,g,c,u)=>.slice (some ⟨g,0,none⟩) zs.length c) (hs':=fun (zs,g,c,u)=>(g,.cells u 3 (0,0))::[bk_ p2 #[i6_ a.n,str a.set,str a.rel] 24]) (xs:=[.tmp 29,.tmp 30]) (vs:=[vS a,i6_ (xs.getD ((k:Int).toNat) 0)]) Z Z Z Z Tryd.call45 Z (fun w1 hw1=>(orbit_ok a (xs.getD ((k:Int).toNat) 0) w.heap.size w [bk_ p2 #[i6_ a.n,str a.set,str a.rel] 24] w1 ha (hA _ hxk) hw1).mono fun en w' ⟨zs,g,c,u,h1,h2,h3⟩=>⟨(zs,g,c,u),h1,h2,h3⟩) fun ⟨zs31,g31,c31,u31⟩ ⟨⟨hcg31,hlg31,htg31⟩,hz8,hzf,hzm⟩=>?_)))))))))))))))
   show Ll _ _ (Own _ _ [_,_]) _ _ ((31,sl_ g31 zs31.length c31)::_) _ _ _;refine zM Z (OpQ.lenS Z yA Z) (qI 1 Z (zL (zD [1,2,23,24,25,31,32,33] [_,_,_,_,_,_,_,_] Z (qZ (jH (σ:=Nat) (fun j=>j≤zs31.length) (fun j=>[(1,va),(2,pt_ p2),(23,va),(24,i6_ (xs.length:Int)),(25,i6_ (k:Int)),(31,sl_ g31 zs31.length c31),(32,i6_ (zs31.length:Int)),(33,i6_ (j:Int))]) (fun j=>Own w.heap.size w [bk_ g31 u31 3,bk_ p2 #[i6_ a.n,str a.set,str a.rel] 24]) (fun j=>zs31.length - j) (0) (by omega) (Sub.sel [1,2,23,24,25,31,32,33] Z) (fun _ h=>h) ?_)))))
   rintro j hj;refine zE (zB (zC 1 Z (zI (zD [1,2,23,24,25,31,32,33,34] [_,_,_,_,_,_,_,_,_] Z (zE (yC (b:=decide ((j:Int)<(zs31.length:Int))) Z (fun h34=>?_) (fun h34=>?_)))))))
   ·
    replace h34:=zW h34
    have hzk:=mem_at0 (xs:=zs31) (k:=j) (by omega);refine qN (zD [1,2,23,24,25,31,32,33] [_,_,_,_,_,_,_,_] Z (zE (qZ (zE (zB (zG (v:=pf_ g31 (0+(j:Int).toNat)) Z (jK Z yA zJ Z Z (by omega) (by omega)) (zG (v:=i6_ (zs31.getD (0+(j:Int).toNat) 0)) Z (xZ 0 Z zU Z Z (cur_at htg31 (by exact ints_at2 (by omega)))) (zC 1 Z (zI (zD [1,2,8,23,24,25,31,32,33] [_,_,_,_,_,_,_,_,_] Z (zE (zB (zC 2 Z (zG (v:=bo_ (decide ((zs31.getD (0+(j:Int).toNat) 0)∈xs))) Z (qR Z Tryd.call74 Z qG (fun w1 hw1=>contains_ok va xs (zs31.getD (0+(j:Int).toNat) 0) w1 (Row.own hva hw1) (by omega))) (zC 1 Z (zI (zD [1,2,23,24,25,31,32,33,40] [_,_,_,_,_,_,_,_,_] Z (yC (b:=!(decide ((zs31.getD (0+(j:Int).toNat) 0)∈xs))) Z (fun h40=>?_) (fun h40=>?_)))))))))))))))))))
    ·
     replace h40:=not_true h40
     replace h40:=zS h40
     exact absurd (hcl _ hxk _ (hzm _ hzk).1 (hzm _ hzk).2) (by simpa using h40)
    replace h40:=not_false h40
    replace h40:=zW h40;refine qN (zD [1,2,23,24,25,31,32,33] [_,_,_,_,_,_,_,_] Z (zB (zG Z (qS Z Z Z (by omega) (by omega)) (zC 1 Z (zI (yZ (j+1) (by omega) (by omega) (Sub.sel [1,2,23,24,25,31,32,33] Z) (fun _ h=>h)))))))
   replace h34:=zS h34;refine xB Z (zD [1,2,23,24,25] [_,_,_,_,_] Z (zB (zG Z (qS Z Z Z (by omega) (by omega)) (zC 1 Z (zI (yZ (k+1) (by omega) (by omega) (Sub.sel [1,2,23,24,25] Z) (fun _ h=>h.sub (qL _ (zA _ (zO _))))))))))
  replace h26:=zS h26;refine xB Z (zD [] [] Z (zE (zB (zC 1 Z (zI (zD [4] [_] Z (qK (qO Z Z fun w' hw=>?_))))))))
  exact ⟨rfl,hw.below⟩
 replace hg18:=not_true hg18;refine zR Z (zR Z (zR Z (zC 1 Z (zI (zD [1,2,22] [_,_,_] Z (yO Z (zE (zB (zC 1 Z (zI (zD [4] [_] Z (qK (qO Z Z fun w' hw=>?_)))))))))))))
 exact ⟨ret_b (bool_no (List.all_eq_true.2 fun x hx=>elB_true.2 (hA x hx)) (by assumption)),hw.below⟩
set_option maxHeartbeats 400000 in
theorem gsSame_ok (va vb:Value) (xs ys:List Int) (w:World) (hva:Ints w va xs) (hvb:Ints w vb ys) (hs1:xs.length≤1000000) (_hs2:ys.length≤1000000) :
    Calls Tryd.prog 9 [va,vb].toArray w fun en w'=>en=.returned (.bool (xs==ys))∧Below w.heap.size w w':=by
 refine fnStart (n:=26) (e:=[(0,va),(1,vb)]) Tryd.func9 Z Z Z Z Ends.both (zE (zB (zC 1 Z (zI (zD [0,1] [_,_] Z (zE (zE (zB (zC 1 Z (zG (v:=i6_ (xs.length:Int)) Z (xP Z yA Z (ints_length _) (fun w1 hw1=>Row.own hva hw1)) (zC 1 Z (zG (v:=i6_ (ys.length:Int)) Z (xP Z yA Z (ints_length _) (fun w1 hw1=>Row.own hvb hw1)) (zC 1 Z (zI (zD [0,1,10] [_,_,_] Z (yC (b:=!(decide ((xs.length:Int)=(ys.length:Int)))) Z (fun h10=>?_) (fun h10=>?_)))))))))))))))))
 ·
  replace h10:=not_true h10
  replace h10:=zS h10;refine zE (zB (zC 1 Z (zI (zD [4] [_] Z (qK (qO Z Z fun w' hw=>?_))))))
  exact ⟨ret_b (Eq.symm (beq_eq_false_iff_ne.2 fun e=>by rw [e] at h10;exact h10 rfl)),hw.below⟩
 replace h10:=not_false h10
 replace h10:=zW h10;refine qN (zD [0,1] [_,_] Z (zE (zE (zB (zC 1 Z (zI (zD [0,1,5] [_,_,_] Z (qZ (jH (σ:=Nat) (fun k=>k≤xs.length∧∀ i:Nat,i<k→xs.getD i 0=ys.getD i 0) (fun k=>[(0,va),(1,vb),(5,i6_ (k:Int))]) (fun k=>Own w.heap.size w []) (fun k=>xs.length - k) (0) ⟨by omega,fun i hi=>absurd hi (by omega)⟩ (Sub.sel [0,1,5] Z) (fun _ h=>h) ?_)))))))))
 rintro k ⟨hk,hall⟩;refine zE (zE (zB (zC 2 Z (zG (v:=i6_ (xs.length:Int)) Z (xP Z yA Z (ints_length _) (fun w1 hw1=>Row.own hva hw1)) (zC 1 Z (zI (zD [0,1,5,14] [_,_,_,_] Z (yE Z (fun h14=>?_) (fun h14=>?_)))))))))
 ·
  refine qN (zD [0,1,5] [_,_,_] Z (zE (qZ (zE (jG yH (fun _ h=>h.drawn) (by kernel_rfl) (zC 2 Z (zG (v:=.pointer (some (sAt va (k:Int)))) Z (xX Z yA zJ Z Z (by omega) (by rw [ints_length];omega) (fun w1 hw1=>Row.own hva hw1)) (zG (v:=i6_ (xs.getD ((k:Int).toNat) 0)) Z (qU Z zU Z (fun w1 hw1=>Ints.cell (Row.own hva hw1) (by omega) (by omega))) (zC 2 Z (zG (v:=.pointer (some (sAt vb (k:Int)))) Z (xX Z yA zJ Z Z (by omega) (by rw [ints_length];omega) (fun w1 hw1=>Row.own hvb hw1)) (zG (v:=i6_ (ys.getD ((k:Int).toNat) 0)) Z (qU Z zU Z (fun w1 hw1=>Ints.cell (Row.own hvb hw1) (by omega) (by omega))) (zC 1 Z (zI (zD [0,1,5,25] [_,_,_,_] Z (yC (b:=!(decide ((xs.getD ((k:Int).toNat) 0)=(ys.getD ((k:Int).toNat) 0)))) Z (fun h25=>?_) (fun h25=>?_))))))))))))))))
  ·
   replace h25:=not_true h25
   replace h25:=zS h25;refine zE (zB (zC 1 Z (zI (zD [4] [_] Z (qK (qO Z Z fun w' hw=>?_))))))
   exact ⟨ret_b (other_list (i:=k) (by simpa using h25)).symm,hw.below⟩
  replace h25:=not_false h25
  replace h25:=zW h25;refine qN (zD [0,1,5] [_,_,_] Z (zB (zC 1 Z (zG Z (qS Z Z Z (by omega) (by omega)) (zC 1 Z (zI (yZ (k+1) ⟨by omega,fun i hi=>(Nat.lt_succ_iff_lt_or_eq.1 hi).elim (hall i) (fun e=>by subst e;simpa using h25)⟩ (by omega) (Sub.sel [0,1,5] Z) (fun _ h=>h))))))))
 refine xB Z (zD [] [] Z (zE (zB (zC 1 Z (zI (zD [4] [_] Z (qK (qO Z Z fun w' hw=>?_))))))))
 exact ⟨ret_b (same_list (by omega) (fun i hi=>hall i (by omega))).symm,hw.below⟩
set_option maxHeartbeats 400000 in
theorem gsHas_ok (va:Value) (xs:List Int) (y:Int) (w:World) (hva:Ints w va xs) (hs1:xs.length≤1000000) :
    Calls Tryd.prog 27 [va,i6_ y].toArray w fun en w'=>en=.returned (.bool (decide (y∈xs)))∧Below w.heap.size w w':=by
 refine fnStart (n:=18) (e:=[(0,va),(1,i6_ y)]) Tryd.func27 Z Z Z Z Ends.both (zE (zB (zC 1 Z (zI (zD [0,1] [_,_] Z (zE (zE (zB (zC 1 Z (zI (zD [0,1,5] [_,_,_] Z (qZ (jH (σ:=Nat) (fun k=>k≤xs.length∧∀ i:Nat,i<k→¬ xs.getD i 0=y) (fun k=>[(0,va),(1,i6_ y),(5,i6_ (k:Int))]) (fun k=>Own w.heap.size w []) (fun k=>xs.length - k) (0) ⟨by omega,fun i hi=>absurd hi (by omega)⟩ (Sub.sel [0,1,5] Z) (fun _ h=>h) ?_)))))))))))))
 rintro k ⟨hk,hall⟩;refine zE (zE (zB (zC 2 Z (zG (v:=i6_ (xs.length:Int)) Z (xP Z yA Z (ints_length _) (fun w1 hw1=>Row.own hva hw1)) (zC 1 Z (zI (zD [0,1,5,9] [_,_,_,_] Z (yE Z (fun h9=>?_) (fun h9=>?_)))))))))
 ·
  refine qN (zD [0,1,5] [_,_,_] Z (zE (qZ (zE (zB (zC 2 Z (zG (v:=.pointer (some (sAt va (k:Int)))) Z (xX Z yA zJ Z Z (by omega) (by rw [ints_length];omega) (fun w1 hw1=>Row.own hva hw1)) (zG (v:=i6_ (xs.getD ((k:Int).toNat) 0)) Z (qU Z zU Z (fun w1 hw1=>Ints.cell (Row.own hva hw1) (by omega) (by omega))) (zC 2 Z (zI (zD [0,1,5,17] [_,_,_,_] Z (yE Z (fun h17=>?_) (fun h17=>?_)))))))))))))
  ·
   refine zE (zB (zC 1 Z (zI (zD [4] [_] Z (qK (qO Z Z fun w' hw=>?_))))))
   exact ⟨ret_b (mem_of_at (i:=k) (by omega) (by simpa using h17)).symm,hw.below⟩
  refine qN (zD [0,1,5] [_,_,_] Z (zB (zC 1 Z (zG Z (qS Z Z Z (by omega) (by omega)) (zC 1 Z (zI (yZ (k+1) ⟨by omega,fun i hi=>(Nat.lt_succ_iff_lt_or_eq.1 hi).elim (hall i) (fun e=>by subst e;simpa using h17)⟩ (by omega) (Sub.sel [0,1,5] Z) (fun _ h=>h))))))))
 refine xB Z (zD [] [] Z (zE (zB (zC 1 Z (zI (zD [4] [_] Z (qK (qO Z Z fun w' hw=>?_))))))))
 exact ⟨ret_b (not_mem_of (fun i hi=>hall i (by omega))).symm,hw.below⟩
def lawFnDef_o11x:OV:=(.one 2 (.one 7 (.take 8 .done)))
theorem lawFnDef_o11x_c:ovB (opsOf 11 Tryd.f6.body) lawFnDef_o11x 3 true #[true,true,false,true,true,true,true,false,false]=true:=(ovB_one (by kernel_rfl) (ovB_one (by kernel_rfl) (ovB_take (by kernel_rfl) (ovB_done (by kernel_rfl)))))
def lawFnDef_o11_1x:OV:=(.one 6 (.one 7 (.take 8 .done)))
theorem lawFnDef_o11_1x_c:ovB (opsOf 11 Tryd.f6.body) lawFnDef_o11_1x 3 true #[true,true,true,true,true,true,false,false,false]=true:=(ovB_one (by kernel_rfl) (ovB_one (by kernel_rfl) (ovB_take (by kernel_rfl) (ovB_done (by kernel_rfl)))))
def lawFnDef_o11_2x:OV:=(.take 0 (.take 1 (.take 3 (.take 4 (.take 5 (.alt 2 lawFnDef_o11_1x (.one 6 lawFnDef_o11x)))))))
theorem lawFnDef_o11_2x_c:ovB (opsOf 11 Tryd.f6.body) lawFnDef_o11_2x 9 true #[false,false,false,false,false,false,false,false,false]=true:=(ovB_take (by kernel_rfl) (ovB_take (by kernel_rfl) (ovB_take (by kernel_rfl) (ovB_take (by kernel_rfl) (ovB_take (by kernel_rfl) (ovB_alt (by kernel_rfl) (ovB_at (by kernel_rfl) lawFnDef_o11_1x_c) (ovB_last (ovB_at (by kernel_rfl) lawFnDef_o11x_c))))))))
def lawFnDef_o11_3x:OV:=.done
set_option maxHeartbeats 400000 in
theorem lawFnDef (bv:Value) (L:List Int) (w:World) (hbv:Row w bv (u8s L)) (hL8:Bytes8 L) (hLm:L.length≤9223372036854775807) :
    Calls Tryd.prog 6 [bv].toArray w fun en w'=>en=.returned (.bool true)∧Below w.heap.size w w':=by
 refine fnStart (n:=77) (e:=[(0,bv)]) Tryd.func6 Z Z Z Z Ends.both (zE (zB (zC 1 Z (zI (zD [0] [_] Z (zE (zE (zB (zC 1 Z (zG (v:=i6_ (L.length:Int)) Z (xP Z yN Z (u8s_length _) (fun w1 hw1=>Row.own hbv hw1)) (zC 1 Z (zI (zD [0,12] [_,_] Z (yE Z (fun h12=>?_) (fun h12=>?_)))))))))))))))
 ·
  refine zE (zB (zC 1 Z (zI (zD [2] [_] Z (qK (qO Z Z fun w' hw=>?_))))))
  exact ⟨ret_b (by first | rfl | (simp_all;done)),hw.below⟩
 refine qN (zD [0] [_] Z (zE (qF (qI 1 Z (jU (σ:=St×List UInt8) (ok:=fun (a,f)=>a.Tame∧f.length≤300) (v:=fun (a,f)=>.tuple #[vS a,str f]) (hs':=fun _=>[]) (xs:=[.tmp 14]) (vs:=[bv]) Z Z Z Z Tryd.call24 Z (fun w1 hw1=>(drawDef_ok w.heap.size w [] bv L w1 (fun w2 hw2=>Row.own hbv hw2) hL8 (by omega) hw1).mono fun en w' ⟨a,f,h1,h2,h3⟩=>⟨(a,f),h1,h2,h3⟩) fun ⟨a15,f15⟩ hK=>?_)))))
 dsimp only at hK
 obtain ⟨hta15,hlf15⟩:=hK
 have hsa15:=hta15.small
 have loa15:=hta15.lo
 have hia15:=hta15.hi
 show Ll _ _ (Own _ _ []) _ _ ((15,.tuple #[vS a15,str f15])::_) _ _ _;refine qI 1 Z (zM (v:=vS a15) Z (qX Z Z Z) (zM (v:=str f15) Z (qX Z Z Z) (vL Z Z Z Z jE fun p3 hp3=>?_)))
 show Ll _ _ (Own _ _ [bk_ p3 #[i6_ 0,str ([]),str ([])] 24]) _ _ ((3,pt_ p3)::_) _ _ _;refine jJ (cs':=#[i6_ a15.n,str a15.set,str a15.rel]) (hs':=[bk_ p3 #[i6_ a15.n,str a15.set,str a15.rel] 24]) 0 Z Z Z Z Z (by kernel_rfl:_=some Tryd.t24) Z Z Z Z Z (qI 1 Z (zL (zD [3,4] [_,_] Z (zE (qF (zM Z (qW (cs:=#[i6_ a15.n,str a15.set,str a15.rel]) 0 Z qV Z Z qT) (qI 1 Z (jN (ok:=fun ((v,new):Value×List (Nat×Obj))=>∀ w1,Own w.heap.size w new w1→Ints w1 v ((defO a15 f15).1)) (v:=fun ((v,new):Value×List (Nat×Obj))=>.tuple #[v,.bool (defO a15 f15).2]) (new:=fun ((v,new):Value×List (Nat×Obj))=>new) (hs:=[]) (xs:=[.tmp 19,.tmp 20]) (vs:=[vS a15,str f15]) ([bk_ p3 #[i6_ a15.n,str a15.set,str a15.rel] 24]:List (Nat×Obj)) Z Z Z Z Tryd.call25 Z (fun w1 hw1=>(iDef_ok a15 f15 w.heap.size w (([bk_ p3 #[i6_ a15.n,str a15.set,str a15.rel] 24]:List (Nat×Obj))++([])) w1 hsa15 hw1).mono fun en w' ⟨v,new,h1,h2,h3⟩=>⟨(v,new),h1,h2,h3⟩) fun ⟨v21,new21⟩ hIv21=>?_))))))))
 dsimp only at hIv21
 have hlev21:=defO_8 a15 f15
 show Ll _ _ (Own _ _ (_::(new21++([])))) _ _ ((21,.tuple #[v21,bo_ ((defO a15 f15).2)])::_) _ _ _;refine qI 1 Z (zM (v:=v21) Z (qX Z Z Z) (zM (v:=bo_ ((defO a15 f15).2)) Z (qX Z Z Z) (qI 2 Z (zL (zD [3,4,5,6] [_,_,_,_] Z (zE (qF (zM Z (qW (cs:=#[i6_ a15.n,str a15.set,str a15.rel]) 0 Z qV Z Z qT) (qI 1 Z (jN (ok:=fun ((v,new):Value×List (Nat×Obj))=>∀ w1,Own w.heap.size w new w1→Ints w1 v ((defO a15 f15).1)) (v:=fun ((v,new):Value×List (Nat×Obj))=>.tuple #[v,.bool (defO a15 f15).2]) (new:=fun ((v,new):Value×List (Nat×Obj))=>new) (hs:=new21++([])) (xs:=[.tmp 25,.tmp 26]) (vs:=[vS a15,str f15]) ([bk_ p3 #[i6_ a15.n,str a15.set,str a15.rel] 24]:List (Nat×Obj)) Z Z Z Z Tryd.call26 Z (fun w1 hw1=>(sDef_ok a15 f15 w.heap.size w (([bk_ p3 #[i6_ a15.n,str a15.set,str a15.rel] 24]:List (Nat×Obj))++(new21++([]))) w1 hsa15 (by omega) hw1).mono fun en w' ⟨v,new,h1,h2,h3⟩=>⟨(v,new),h1,h2,h3⟩) fun ⟨v27,new27⟩ hIv27=>?_))))))))))
 dsimp only at hIv27
 have hlev27:=defO_8 a15 f15
 show Ll _ _ (Own _ _ (_::(new27++(new21++([]))))) _ _ ((27,.tuple #[v27,bo_ ((defO a15 f15).2)])::_) _ _ _;refine qI 1 Z (zM (v:=v27) Z (qX Z Z Z) (zM (v:=bo_ ((defO a15 f15).2)) Z (qX Z Z Z) (qI 2 Z (zL (zD [3,4,5,6,7,8] [_,_,_,_,_,_] Z (zE (zE (zB (zC 2 Z (zG (v:=bo_ (((defO a15 f15).1)==((defO a15 f15).1))) Z (qR Z Tryd.call9 Z qG (fun w1 hw1=>gsSame_ok v21 v27 ((defO a15 f15).1) ((defO a15 f15).1) w1 (hIv21 _ (yD (qA (f:=new27) (qA (f:=[_]) hw1)))) (hIv27 _ (yD (qA (f:=[_]) hw1))) (by omega) (by omega))) (zC 2 Z (xH fun b34 hg34=>?_))))))))))))
 cases b34
 ·
  replace hg34:=not_false hg34;refine zC 2 Z (zG Z (OpQ.bne Z xV Z Z) (zC 2 Z (xH fun b39 hg39=>?_)))
  cases b39
  ·
   refine zC 3 Z (zI (zD [3,4,5,6,7,8,42] [_,_,_,_,_,_,_] Z (yC (b:=!((defO a15 f15).2)) Z (fun h42=>?_) (fun h42=>?_))))
   ·
    replace h42:=not_true h42;refine zE (zB (zC 2 Z (zG (v:=bo_ (((defO a15 f15).1)==((defO a15 f15).1))) Z (qR Z Tryd.call9 Z qG (fun w1 hw1=>gsSame_ok v21 v27 ((defO a15 f15).1) ((defO a15 f15).1) w1 (hIv21 _ (yD (qA (f:=new27) (qA (f:=[_]) hw1)))) (hIv27 _ (yD (qA (f:=[_]) hw1))) (by omega) (by omega))) (zC 1 Z (xH fun b46 hg46=>?_)))))
    cases b46
    ·
     exact absurd hg46 (by simp)
    refine zC 2 Z (zG Z (OpQ.beq Z xV Z Z) (zC 2 Z (zI (zD [2] [_] Z (qK (qO Z Z fun w' hw=>?_))))))
    exact ⟨ret_b (by first | rfl | (simp_all;done)),hw.below⟩
   replace h42:=not_false h42
   have hD:(defO a15 f15).2=true:=by simp_all
   obtain ⟨hq1,hq2,hq3,hq4⟩:=def_closed hD
   have hqn:=validB_fine hq1
   have hqn1:=hqn.lo
   have hqn8:=hqn.hi;refine qN (zD [3,4,5] [_,_,_] Z (zE (zE (zB (zC 1 Z (zI (zD [3,4,5,9] [_,_,_,_] Z (qZ (jH (σ:=Nat) (fun x=>(x:Int)≤a15.n) (fun x=>[(3,pt_ p3),(4,str f15),(5,v21),(9,i6_ (x:Int))]) (fun x=>Own w.heap.size w (bk_ p3 #[i6_ a15.n,str a15.set,str a15.rel] 24::(new27++(new21++([]))))) (fun x=>(a15.n - x).toNat) (0) (by omega) (Sub.sel [3,4,5,9] Z) (fun _ h=>h) ?_)))))))))
   rintro x hx9;refine zE (zE (zB (zC 1 Z (zG Z (zH Z qC Z zJ Z Z) (zG Z (zQ 0 Z zU Z Z Z) (zC 1 Z (zI (zD [3,4,5,9,54] [_,_,_,_,_] Z (yE Z (fun h54=>?_) (fun h54=>?_))))))))))
   ·
    refine qN (zD [3,4,5,9] [_,_,_,_] Z (zE (qZ (zE (Wk.regionV (S:=Own w.heap.size w (bk_ p3 #[i6_ a15.n,str a15.set,str a15.rel] 24::(new27++(new21++([]))))) lawFnDef_o11_2x yH (fun _ h=>h.drawn) (ovOk_at (by kernel_rfl) (by kernel_rfl) (by kernel_rfl) (by kernel_rfl) lawFnDef_o11_2x_c) (Lv.share (σ:=Nat) lawFnDef_o11_3x (fun p63=>True) (fun p63=>[(3,pt_ p3),(4,str f15),(5,v21),(9,i6_ (x:Int)),(65,bo_ ((decide ((x:Int)∈(defO a15 f15).1)) != (holdV a15 f15 ([(x:Int)]))))]) (fun p63=>Own w.heap.size w (bk_ p63 #[i6_ (x:Int)] 3::bk_ p3 #[i6_ a15.n,str a15.set,str a15.rel] 24::(new27++(new21++([]))))) ?_ fun H11_=>?_))))))
    ·
     rintro p63 -;refine Lv.nil (zD [3,4,5,9,65] [_,_,_,_,_] Z (yC (b:=(decide ((x:Int)∈(defO a15 f15).1)) != (holdV a15 f15 ([(x:Int)]))) Z (fun h65=>?_) (fun h65=>?_)))
     ·
      exact absurd h65 (by rw [def_has hD (x:=x) (by omega)];simp)
     refine qN (zD [3,4,5,9] [_,_,_,_] Z (zB (zC 1 Z (zG Z (qS Z Z Z (by omega) (by omega)) (zC 1 Z (zI (yZ (x+1) (by omega) (by omega) (Sub.sel [3,4,5,9] Z) (fun _ h=>h.tail))))))))
    refine Lv.run 2 Z (fun _ h=>h) (Lv.take Z Z Z Z Z (qW (cs:=#[i6_ a15.n,str a15.set,str a15.rel]) 0 Z qV Z Z qT) (fun _ h=>h) (Lv.run 2 Z (fun _ h=>h) (Lv.alt Z ?_ (Lv.loud Z ?_))))
    ·
     refine zM (v:=bo_ (decide ((x:Int)∈(defO a15 f15).1))) Z (qR Z Tryd.call27 Z qG (fun w1 hw1=>gsHas_ok v21 ((defO a15 f15).1) (x:Int) w1 (hIv21 _ (yD (qA (f:=new27) (qA (f:=[_]) hw1)))) (by omega))) (zL (Lv.joint (fun _ h=>h) ?_));refine Lv.loud Z (yT (xs:=[.tmp 62]) (vs:=[i6_ (x:Int)]) xL Z Z Z Z Z Z (by decide) Z fun p63 hp63=>(zL (Lv.joint (fun _ h=>h.tail) ?_)));refine Lv.loud Z (zM (v:=bo_ (holdV a15 f15 ([(x:Int)]))) Z (qR Z Tryd.call28 Z qG (fun w1 hw1=>gsHolds_ok a15 f15 (sl_ p63 1 1) ([(x:Int)]) w1 hsa15 (xR hw1 (i:=0) Z (n:=1) (cap:=1) (vs:=ints [(x:Int)]) Z Z (by decide)) (by first | (simp;done) | omega))) (zL (Lv.joint (fun _ h=>h.tail) ?_)));refine Lv.take Z Z Z Z Z (OpQ.bne Z xV Z Z) (fun _ h=>h.tail) ?_
     exact Lv.to (H11_ p63 trivial) (Sub.sel [3,4,5,9,65] rfl) (fun _ h=>h)
    refine yT (xs:=[.tmp 62]) (vs:=[i6_ (x:Int)]) xL Z Z Z Z Z Z (by decide) Z fun p63_1 hp63_1=>(zL (Lv.joint (fun _ h=>h.tail) ?_));refine Lv.loud Z (zM (v:=bo_ (decide ((x:Int)∈(defO a15 f15).1))) Z (qR Z Tryd.call27 Z qG (fun w1 hw1=>gsHas_ok v21 ((defO a15 f15).1) (x:Int) w1 (hIv21 _ (yD (qA (f:=new27) (qA (f:=[_,_]) hw1)))) (by omega))) (zL (Lv.joint (fun _ h=>h.tail) ?_)));refine Lv.loud Z (zM (v:=bo_ (holdV a15 f15 ([(x:Int)]))) Z (qR Z Tryd.call28 Z qG (fun w1 hw1=>gsHolds_ok a15 f15 (sl_ p63_1 1 1) ([(x:Int)]) w1 hsa15 (xR hw1 (i:=0) Z (n:=1) (cap:=1) (vs:=ints [(x:Int)]) Z Z (by decide)) (by first | (simp;done) | omega))) (zL (Lv.joint (fun _ h=>h.tail) ?_)));refine Lv.take Z Z Z Z Z (OpQ.bne Z xV Z Z) (fun _ h=>h.tail) ?_
    exact Lv.to (H11_ p63_1 trivial) (Sub.sel [3,4,5,9,65] rfl) (fun _ h=>h)
   refine xB Z (zD [3,4,5] [_,_,_] Z (zE (zB (zG Z (qW (cs:=#[i6_ a15.n,str a15.set,str a15.rel]) 0 Z qV Z Z qT) (zC 1 Z (zG (v:=bo_ true) Z (qR Z Tryd.call29 Z qG (fun w1 hw1=>isDef_ok a15 v21 ((defO a15 f15).1) w1 (hIv21 _ (yD (qA (f:=new27) (qA (f:=[_]) hw1)))) (by omega) hq1 hq2 hq3 hq4)) (zC 1 Z (zG Z (qW (cs:=#[i6_ a15.n,str a15.set,str a15.rel]) 0 Z qV Z Z qT) (zC 1 Z (zG (v:=i6_ (cntO a15 f15)) Z (qR Z Tryd.call30 Z qG (fun w1 hw1=>iCount_ok a15 f15 w1 hsa15)) (zC 1 Z (zG (v:=i6_ ((defO a15 f15).1.length:Int)) Z (xP Z yA Z (ints_length _) (fun w1 hw1=>hIv21 _ (yD (qA (f:=new27) (qA (f:=[_]) hw1))))) (zC 3 Z (zI (zD [2] [_] Z (qK (qO Z Z fun w' hw=>?_)))))))))))))))))
   exact ⟨ret_b (by first | rfl | exact decide_eq_true (def_cnt hD) | (rw [def_cnt hD];simp) | (simp_all;done)),hw.below⟩
  exact absurd hg39 (by simp)
 replace hg34:=not_true hg34
 exact absurd hg34 (by simp)
end Go.Proofs.YtagbocafnliabaaDoor
namespace Go.Proofs.YtagbocafnliabaaDoor
open Go.ChangeShapes Go.WideShapes Go.ChangeAt Go.RowKit Go.Wk
namespace FnDefinedSet
def W0:Array Value:=#[.slice none 0 0]
set_option maxRecDepth 100000 in
theorem contract (H:Type) (enc:TypeId×Value→H) (W:World) (base:Nat) (args:Array Value) (ds gs:List (DataW H)) (before:List MemPlace)
  (hval:∀ (j:Nat) t v,Tryd.f6.params[j]?=some t→args[j]?=some v→Value.okWide Tryd.prog W .any base t v)
  (hW:DataW.Whole enc Tryd.prog Tryd.f6.params.toList Rows.fnDefinedSetSpec.vars false W args.toList ds gs before) :
  Calls Tryd.prog 6 args W fun e W'=>∃ v,e=.returned v∧Rows.fnDefinedSetSpec.post enc Tryd.prog Tryd.f6 false true false false W args v W':=by
 have hW':=hW
 obtain ⟨p,q,hA0,hV,rfl,hfz,hnd⟩:=hW
 have hA:DataW.TrodAll enc Tryd.prog W 0 (fun _=>true) true Tryd.f6.params.toList args.toList ds p:=hA0
 rw [Tryd.params6] at hA hval
 obtain ⟨v0,vs0,d0,ds0,p0,q0,hargs0,rfl,rfl,h0,r0⟩:=trodAll_cons hA
 obtain ⟨rfl,rfl,rfl⟩:=trodAll_nil r0
 obtain rfl:args=#[v0]:=by cases args;simp_all
 obtain ⟨l0,row0,eight0,len0⟩:=open_B Tryd.underlying22 Tryd.underlying5 (by kernel_rfl) (hval 0 22 v0 rfl rfl) h0
 have walk:Calls Tryd.prog 6 #[v0] W fun e w'=>e=.returned (.bool true)∧Below W.heap.size W w':=by
  exact lawFnDef v0 l0 W row0 eight0 len0
 refine walk.mono fun e W' ⟨he,hb⟩=>⟨_,he,?_⟩
 exact post_true laidOut (by rw [Tryd.params6];intro t ht;simp only [List.mem_cons,List.not_mem_nil,or_false] at ht;rcases ht with rfl <;> exact ⟨by kernel_rfl,of_decide_eq_true (by kernel_rfl)⟩) rfl hW' rfl (by kernel_rfl) Tryd.underlying4 hb
theorem reads (os:Os) {H:Type} (enc:TypeId×Value→H):∃ places,DataW.whole enc Tryd.prog ((laidWorld os).forCall (fun _ _=>0) ⟨#[],W0,[]⟩).memory Tryd.f6.params.toList Rows.fnDefinedSetSpec.vars false W0.toList 8=some ([.nil],[],places) :=
 ⟨[],by kernel_rfl⟩
set_option maxRecDepth 100000 in
theorem lifted (os:Os) (started:os.Started) (H:Type) (enc:TypeId×Value→H) (F:Stop.Interp) :
    ReturnsInHanded {} Tryd.checked os 6 .any ((OpenSpec.ofChange Rows.fnDefinedSetSpec).preRow enc Tryd.prog Tryd.f6 Rows.fnDefinedSetRow.domain false Rows.fnDefinedSetRow.laid) (((OpenSpec.ofChange Rows.fnDefinedSetSpec).at F).post enc Tryd.prog Tryd.f6 false true false false):=by
  obtain ⟨places,hx⟩:=reads os enc
  refine returnsInHanded_of_row (C:=Tryd.checked) (s:=OpenSpec.ofChange Rows.fnDefinedSetSpec) own started (by kernel_rfl) Tryd.func6
    (witness_row_at (enc:=enc) (C:=Tryd.checked) false (laidWorld os) W0 rfl (by kernel_rfl) (by kernel_rfl) (by kernel_rfl)
      (OpenSpec.preRow_of_cond 8 hx (by kernel_rfl) (fun k hk=>by cases hk) (by kernel_rfl) (laid_met os W0))) ?_
  intro W base args ds gs before hval hW _ _ _ hL _ _
  exact contract H enc W base args ds gs before hval hW
theorem k0:(Rows.fnDefinedSetRow.wf (OpenSpec.ofChange (OpenSpec.ofChange Rows.fnDefinedSetSpec).bare))=true:=by kernel_rfl
theorem k3:(Tryd.f6.params.all (Tryd.pinned.checked.prog.readableRec ·))=true:=by kernel_rfl
theorem k4:(namedTie Tryd.pinned.checked.prog Rows.fnDefinedSetRow.named (OpenSpec.ofChange Rows.fnDefinedSetSpec).bare.vars)=true:=by kernel_rfl
theorem k9:((Rows.fnDefinedSetRow.inPlace==Tryd.pinned.checked.prog.inPlace 6))=true:=by kernel_rfl
theorem k10:((Rows.fnDefinedSetRow.unfollowed==Tryd.pinned.checked.prog.unfollowed 6))=true:=by kernel_rfl
theorem k11:((Rows.fnDefinedSetRow.recurses==Tryd.pinned.checked.prog.recurses 6))=true:=by kernel_rfl
theorem k12:((Rows.fnDefinedSetRow.named==Tryd.pinned.checked.prog.varsNamed 6))=true:=by kernel_rfl
theorem k13:((Rows.fnDefinedSetRow.maps==(Tryd.f6.params.toList++(OpenSpec.ofChange Rows.fnDefinedSetSpec).bare.plain.varTypes Tryd.pinned.checked.prog).any (Tryd.pinned.checked.prog.mapsRec ·)))=true:=by kernel_rfl
theorem k14:((Rows.fnDefinedSetRow.ifaces==(Tryd.f6.params.toList++(OpenSpec.ofChange Rows.fnDefinedSetSpec).bare.plain.varTypes Tryd.pinned.checked.prog).any (Tryd.pinned.checked.prog.ifacesRec ·)))=true:=by kernel_rfl
theorem k15:((Rows.fnDefinedSetRow.mapsOut==Tryd.pinned.checked.prog.mapsAmong Tryd.f6.resultTypes.toList))=true:=by kernel_rfl
theorem k16:((Rows.fnDefinedSetRow.loops==(Tryd.f6.params.toList++(OpenSpec.ofChange Rows.fnDefinedSetSpec).bare.plain.varTypes Tryd.pinned.checked.prog).any (Tryd.pinned.checked.prog.loopsFrom ·)))=true:=by kernel_rfl
theorem k17:((Rows.fnDefinedSetRow.wideKeys==(Tryd.f6.params.toList++(OpenSpec.ofChange Rows.fnDefinedSetSpec).bare.plain.varTypes Tryd.pinned.checked.prog++Tryd.f6.resultTypes.toList).any (Tryd.pinned.checked.prog.wideKeysFrom ·)))=true:=by kernel_rfl
theorem k19:(Tryd.f6.resultTypes.all (fun t=>Tryd.pinned.checked.prog.readableRec t&&decide (t<Tryd.pinned.checked.prog.types.size)))=true:=by kernel_rfl
theorem k20:((Rows.fnDefinedSetRow.ifacesOut==Tryd.f6.resultTypes.toList.any (Tryd.pinned.checked.prog.ifacesRec ·)))=true:=by kernel_rfl
theorem k21:((Rows.fnDefinedSetRow.loopsOut==Tryd.f6.resultTypes.toList.any (Tryd.pinned.checked.prog.loopsFrom ·)))=true:=by kernel_rfl
theorem k30:((Rows.fnDefinedSetRow.veiled==(Tryd.f6.params.toList++(OpenSpec.ofChange Rows.fnDefinedSetSpec).bare.plain.varTypes Tryd.pinned.checked.prog++Tryd.f6.resultTypes.toList).any (Tryd.pinned.checked.prog.veiledRec ·)))=true:=by kernel_rfl
theorem k31:(Rows.fnDefinedSetRow.veiledFits Tryd.pinned.checked.prog Tryd.f6.params.toList (Tryd.f6.params.toList++(OpenSpec.ofChange Rows.fnDefinedSetSpec).bare.plain.varTypes Tryd.pinned.checked.prog++Tryd.f6.resultTypes.toList))=true:=by kernel_rfl
theorem closed:joinedFacts Tryd.pinned.checked.prog 6 Tryd.f6 (OpenSpec.ofChange Rows.fnDefinedSetSpec).bare Rows.fnDefinedSetRow=true :=
 facts_of k0 Laid1 Laid2 k3 k4 (by kernel_rfl) Laid6 (by kernel_rfl) Laid8 k9 k10 k11 k12 k13 k14 k15 k16 k17 (by kernel_rfl) k19 k20 k21 Laid22 (by kernel_rfl) Laid24 Laid25 Laid26 Laid27 (by kernel_rfl) (by kernel_rfl) k30 k31
theorem said:Rows.FnDefinedSetSaid :=
  OpenClaim.holds_of_cond 6 Tryd.f6 rfl rfl rfl rfl rfl rfl rfl ⟨rfl,rfl,rfl,rfl,rfl⟩ rfl rfl rfl rfl rfl (by kernel_rfl) Tryd.func6 closed
    (of_decide_eq_true (by kernel_rfl)) (by unfold Func.isWrapper;first | (rw [if_pos (by decide +kernel)];kernel_rfl) | (rw [if_neg (by decide +kernel)];exact ⟨rfl,rfl⟩))
    (fun os started H enc _ F=>by rw [OpenClaim.pre_eq_preRow];exact lifted os started H enc F)
theorem plain (f:FuncId) (fn:Func) (hf:Tryd.pinned.checked.prog.funcNamed Rows.fnDefinedSetRow.func=some f) (hfn:Tryd.pinned.checked.prog.funcs[f]?=some fn) :
  false=Tryd.pinned.checked.prog.looks []∧∀ (j:Nat) t,fn.params[j]?=some t→Tryd.pinned.checked.prog.wantsStandIn t=false:=by
 obtain rfl:f=6:=Option.some.inj ((show Tryd.pinned.checked.prog.funcNamed Rows.fnDefinedSetRow.func=some 6 by kernel_rfl).symm.trans hf) |>.symm
 obtain rfl:fn=Tryd.f6:=(Option.some.inj (Tryd.func6.symm.trans hfn)).symm
 refine ⟨by kernel_rfl,fun j t ht=>?_⟩
 rw [Tryd.params6] at ht
 have hm:t∈[22]:=by simpa using Array.mem_of_getElem? ht
 simp only [List.mem_cons,List.not_mem_nil,or_false] at hm
 rcases hm with rfl <;> (show Tryd.prog.wantsStandIn _=false) <;> kernel_rfl
theorem hw:Rows.fnDefinedSetRow.wfByText (OpenSpec.ofChange Rows.fnDefinedSetSpec)=true:=by kernel_rfl
theorem hm:Tryd.pinned.checked.prog.mainIs=some (Rows.fnDefinedSetCard.stood.harness.1,Rows.fnDefinedSetCard.stood.harness.2.toList):=by kernel_rfl
theorem hg:false=Rows.fnDefinedSetRow.goesBy Tryd.pinned.checked.prog:=by kernel_rfl
end FnDefinedSet
theorem cardFnDefinedSet:Rows.FnDefinedSetCardSaid :=
 Claim7.holds_tied_plain_at .later [] _ _ _ _ FnDefinedSet.said (fun _ h=>by cases h) FnDefinedSet.hw (fun _ h=>by cases h) fnDefinedSet_row_tie rfl ⟨rfl,rfl⟩ FnDefinedSet.hm rfl FnDefinedSet.plain FnDefinedSet.hg
end Go.Proofs.YtagbocafnliabaaDoor
