/-
  FnExactPlayGame: all that its proof names (part 2)
-/
import Derived.Test.YteccfipfimbdgaaDoorKFnExactPlayGamea
import Derived.Deep.DeepWitnessRowRef
import Derived.Deep.DeepLaidRun
import Derived.Shelf.Vars
import Derived.ChangeMaps5
namespace Go.Proofs.YteccfipfimbdgaaDoor
open Go.RowKit Go.Wk
set_option linter.unusedSimpArgs false
set_option maxHeartbeats 400000 in
theorem l1In_ok (n lo hi:Int) (w:World) :
    Calls Tryd.prog 54 [i6_ n,i6_ lo,i6_ hi].toArray w fun en w'=>en=.returned (.bool (inB n lo hi))∧Below w.heap.size w w':=by
 refine fnStart (n:=15) (e:=[(0,i6_ n),(1,i6_ lo),(2,i6_ hi)]) Tryd.func54 Z Z Z Z Ends.both (zD (zA (zB 1 Z (zF (zC [0,1,2] [_,_,_] Z (zD (zA (zB 4 Z (yU fun b10 hg10=>?_)))))))))
 cases b10
 ·
  replace hg10:=zH hg10;refine zG Z (zG Z (zG Z (zB 2 Z (zF (zC [6] [_] Z (zZ (qA Z Z fun w' hw=>?_)))))))
  exact ⟨ret_b (by first | rfl | (simp_all [inB];done) | (simp_all [inB];omega)),hw.below⟩
 replace hg10:=zI hg10;refine zB 5 Z (zF (zC [6] [_] Z (zZ (qA Z Z fun w' hw=>?_))))
 exact ⟨ret_b (by first | rfl | (simp_all [inB];done) | (simp_all [inB];omega)),hw.below⟩
set_option maxHeartbeats 400000 in
theorem l1Bits_ok (s:List UInt8) (n:Int) (w:World) (hs:s.length≤1048576) :
    Calls Tryd.prog 65 [str s,i6_ n].toArray w fun en w'=>en=.returned (.bool (bitsB s n))∧Below w.heap.size w w':=by
 refine fnStart (n:=26) (e:=[(0,str s),(1,i6_ n)]) Tryd.func65 Z Z Z Z Ends.both (zD (zA (zB 1 Z (zF (zC [0,1] [_,_] Z (zD (zD (zA (zB 1 Z (zF (zC [0,1,5] [_,_,_] Z (qF (yQ (σ:=Nat) (fun k=>k≤s.length∧(s.take k).all isBit=true) (fun k=>[(0,str s),(1,i6_ n),(5,i6_ (k:Int))]) (fun k=>Own w.heap.size w []) (fun k=>s.length - k) (0) ⟨by omega,rfl⟩ (Sub.sel [0,1,5] Z) (fun _ h=>h) ?_)))))))))))))
 rintro k ⟨hk,hall⟩;refine zD (zD (zA (zB 2 Z (zE (v:=i6_ (s.length:Int)) Z (yX Z zO Z) (zB 1 Z (zF (zC [0,1,5,9] [_,_,_,_] Z (xJ Z (fun h9=>?_) (fun h9=>?_)))))))))
 ·
  refine zV (zC [0,1,5] [_,_,_] Z (zD (qF (zD (zA (zB 2 Z (zE (v:=.int .u8 (((s.getD ((k:Int).toNat) 0).toNat:Int))) Z (qI Z zO Z Z (by omega) (by omega)) (zB 2 Z (yU fun b16 hg16=>?_)))))))))
  cases b16
  ·
   replace hg16:=not_false hg16
   replace hg16:=zI hg16;refine zG Z (zG Z (zG Z (zG Z (zB 1 Z (zF (zC [0,1,5,21] [_,_,_,_] Z (Wk.condF Z (zV (zC [0,1,5] [_,_,_] Z (zA (zB 1 Z (zE Z (qQ Z Z Z (by omega) (by omega)) (zB 1 Z (zF (qU (k+1) ⟨by omega,all_take (by omega) hall (by unfold isBit;simp_all)⟩ (by omega) (Sub.sel [0,1,5] Z) (fun _ h=>h))))))))))))))))
  replace hg16:=not_true hg16
  replace hg16:=zH hg16;refine zB 2 Z (zE (v:=.int .u8 (((s.getD ((k:Int).toNat) 0).toNat:Int))) Z (qI Z zO Z Z (by omega) (by omega)) (zB 2 Z (zF (zC [0,1,5,21] [_,_,_,_] Z (qB (b:=!(decide ((((s.getD ((k:Int).toNat) 0).toNat:Int))=(49:Int)))) Z (fun h21=>?_) (fun h21=>?_))))))
  ·
   replace h21:=not_true h21
   replace h21:=zH h21;refine zD (zA (zB 1 Z (zF (zC [4] [_] Z (zZ (qA Z Z fun w' hw=>?_))))))
   exact ⟨ret_b (by unfold bitsB;rw [all_false (k:=k) (by omega) (by unfold isBit;simp_all)];rfl),hw.below⟩
  replace h21:=not_false h21
  replace h21:=zI h21;refine zV (zC [0,1,5] [_,_,_] Z (zA (zB 1 Z (zE Z (qQ Z Z Z (by omega) (by omega)) (zB 1 Z (zF (qU (k+1) ⟨by omega,all_take (by omega) hall (by unfold isBit;simp_all)⟩ (by omega) (Sub.sel [0,1,5] Z) (fun _ h=>h))))))))
 refine yO Z (zC [0,1] [_,_] Z (zD (zA (zB 1 Z (zE (v:=i6_ (s.length:Int)) Z (yX Z zO Z) (zB 3 Z (zF (zC [4] [_] Z (zZ (qA Z Z fun w' hw=>?_))))))))))
 exact ⟨ret_b (by unfold bitsB;rw [show s.all isBit=true from by rw [← List.take_of_length_le (show s.length≤k by omega)];exact hall];rfl),hw.below⟩
set_option maxHeartbeats 400000 in
theorem sValid_ok (a:St) (w:World) (ha:a.Small) :
    Calls Tryd.prog 36 [vS a].toArray w fun en w'=>en=.returned (.bool (validB a))∧Below w.heap.size w w':=by
 refine fnStart (n:=23) (e:=[(0,vS a)]) Tryd.func36 Z Z Z Z Ends.both ?_
 have h1:=ha.set
 have h2:=ha.rel;refine zD (zW (yD (v:=vS a) Z Z Z Z Z fun p1 hp1=>?_))
 show Ll _ _ (Own _ _ [_]) _ _ ((1,pt_ p1)::_) _ _ _;refine qD 1 Z (zS (zC [1] [_] Z (zD (zA (zE Z (zR Z zP Z zM Z Z) (zE Z (zX 0 Z zU Z Z Z) (zE (v:=bo_ (inB a.n 1 8)) Z (zT Z Tryd.call54 Z zL (fun w1 hw1=>l1In_ok a.n 1 8 w1 )) (zB 1 Z (yU fun b6 hg6=>?_)))))))))
 cases b6
 ·
  refine zG Z (zG Z (zG Z (zG Z (zG Z (zB 2 Z (zG Z (zG Z (zG Z (zG Z (zG Z (zG Z (zG Z (zG Z (zB 2 Z (zF (zC [2] [_] Z (zZ (qA Z Z fun w' hw=>?_))))))))))))))))))
  exact ⟨ret_b (by first | (simp [validB, *];done) | (simp [validB, *];omega)),hw.below⟩
 have hn:1≤a.n∧a.n≤8:=by unfold inB at hg6;simpa using hg6
 have hq:=sq_le hn.1 hn.2;refine zE Z (zR Z zP Z qT Z Z) (zE Z (zX 0 Z yK Z Z Z) (zE Z (zR Z zP Z zM Z Z) (zE Z (zX 0 Z zU Z Z Z) (zE (v:=bo_ (bitsB a.set a.n)) Z (zT Z Tryd.call65 Z zL (fun w1 hw1=>l1Bits_ok a.set a.n w1 (by omega))) (zB 2 Z (yU fun b13 hg13=>?_))))))
 cases b13
 ·
  refine zG Z (zG Z (zG Z (zG Z (zG Z (zG Z (zG Z (zG Z (zB 2 Z (zF (zC [2] [_] Z (zZ (qA Z Z fun w' hw=>?_))))))))))))
  exact ⟨ret_b (by first | (simp [validB, *];done) | (simp [validB, *];omega)),hw.below⟩
 refine zE Z (zR Z zP Z qT Z Z) (zE Z (zX 0 Z yK Z Z Z) (zE Z (zR Z zP Z zM Z Z) (zE Z (zX 0 Z zU Z Z Z) (zE Z (zR Z zP Z zM Z Z) (zE Z (zX 0 Z zU Z Z Z) (zE Z (OpQ.mul Z Z Z (by omega) (by omega)) (zE (v:=bo_ (bitsB a.rel (a.n*a.n))) Z (zT Z Tryd.call65 Z zL (fun w1 hw1=>l1Bits_ok a.rel (a.n*a.n) w1 (by omega))) (zB 2 Z (zF (zC [2] [_] Z (zZ (qA Z Z fun w' hw=>?_))))))))))))
 exact ⟨ret_b (by first | (simp [validB, *];done) | (simp [validB, *];omega)),hw.below⟩
set_option maxHeartbeats 400000 in
theorem l1Set_ok (a:St) (x:Int) (w:World) (ha:a.Fine) (hx:a.El x) :
    Calls Tryd.prog 116 [vS a,i6_ x].toArray w fun en w'=>en=.returned (.bool (a.inSet x))∧Below w.heap.size w w':=by
 refine fnStart (n:=10) (e:=[(0,vS a),(1,i6_ x)]) Tryd.func116 Z Z Z Z Ends.both ?_
 have hs:=ha.set
 obtain ⟨h0,h1⟩:=hx;refine zD (zW (yD (v:=vS a) Z Z Z Z Z fun p2 hp2=>?_))
 show Ll _ _ (Own _ _ [_]) _ _ ((2,pt_ p2)::_) _ _ _;refine qD 1 Z (zS (zC [1,2] [_,_] Z (zD (zA (zE Z (zR Z zP Z qT Z Z) (zE Z (zX 0 Z yK Z Z Z) (zB 1 Z (zE (v:=.int .u8 (((a.set.getD ((x).toNat) 0).toNat:Int))) Z (qI Z zO Z Z (by omega) (by omega)) (zB 2 Z (zF (zC [4] [_] Z (zZ (qA Z Z fun w' hw=>?_)))))))))))))
 exact ⟨ret_b (by first | rfl | (simp_all;done) | (simp_all;omega)),hw.below⟩
set_option maxHeartbeats 400000 in
theorem l1Rel_ok (a:St) (x y:Int) (w:World) (ha:a.Fine) (hx:a.El x) (hy:a.El y) :
    Calls Tryd.prog 117 [vS a,i6_ x,i6_ y].toArray w fun en w'=>en=.returned (.bool (a.inRel x y))∧Below w.heap.size w w':=by
 refine fnStart (n:=17) (e:=[(0,vS a),(1,i6_ x),(2,i6_ y)]) Tryd.func117 Z Z Z Z Ends.both ?_
 obtain ⟨k0,k1,k2,k3,k4⟩:=ha.relLt hx hy;refine zD (zW (yD (v:=vS a) Z Z Z Z Z fun p3 hp3=>?_))
 show Ll _ _ (Own _ _ [_]) _ _ ((3,pt_ p3)::_) _ _ _;refine qD 1 Z (zS (zC [1,2,3] [_,_,_] Z (zD (zA (zE Z (zR Z zP Z qT Z Z) (zE Z (zX 0 Z yK Z Z Z) (zB 1 Z (zE Z (zR Z zP Z zM Z Z) (zE Z (zX 0 Z zU Z Z Z) (zE Z (OpQ.mul Z Z Z (by omega) (by omega)) (zB 1 Z (zE Z (qQ Z Z Z (by omega) (by omega)) (zE (v:=.int .u8 (((a.rel.getD (((x*a.n)+y).toNat) 0).toNat:Int))) Z (qI Z zO Z Z (by omega) (by omega)) (zB 2 Z (zF (zC [6] [_] Z (zZ (qA Z Z fun w' hw=>?_))))))))))))))))))
 exact ⟨ret_b (by first | rfl | (simp_all;done) | (simp_all;omega)),hw.below⟩
set_option maxHeartbeats 400000 in
theorem areBits_ok (s:List UInt8) (n:Int) (w:World) (hs:s.length≤1048576) :
    Calls Tryd.prog 63 [str s,i6_ n].toArray w fun en w'=>en=.returned (.bool (bitsB s n))∧Below w.heap.size w w':=by
 refine fnStart (n:=14) (e:=[(0,str s),(1,i6_ n)]) Tryd.func63 Z Z Z Z Ends.both (zD (zA (zB 1 Z (zF (zC [0,1] [_,_] Z (zD (zA (zB 1 Z (zE (v:=i6_ (s.length:Int)) Z (yX Z zO Z) (zB 3 Z (yU fun b9 hg9=>?_)))))))))))
 cases b9
 ·
  replace hg9:=zH hg9;refine zG Z (zG Z (zG Z (zB 2 Z (zF (zC [4] [_] Z (zZ (qA Z Z fun w' hw=>?_)))))))
  exact ⟨ret_b (by unfold bitsB;simp [*]),hw.below⟩
 replace hg9:=zI hg9;refine zB 1 Z (zE (v:=str (Lib.trimS s [48,49])) Z (zT Z Tryd.call101 Z zL (fun w1 hw1=>trim_ok s w1 (by omega))) (zE Z (OpQ.seql Z Z Z) (zB 2 Z (zF (zC [4] [_] Z (zZ (qA Z Z fun w' hw=>?_)))))))
 exact ⟨ret_b (by unfold bitsB;rw [trim_nil];simp [*]),hw.below⟩
set_option maxHeartbeats 400000 in
theorem isStructure_ok (a:St) (w:World) (ha:a.Small) :
    Calls Tryd.prog 32 [vS a].toArray w fun en w'=>en=.returned (.bool (validB a))∧Below w.heap.size w w':=by
 refine fnStart (n:=28) (e:=[(0,vS a)]) Tryd.func32 Z Z Z Z Ends.both ?_
 have h1:=ha.set
 have h2:=ha.rel;refine zD (zW (yD (v:=vS a) Z Z Z Z Z fun p1 hp1=>?_))
 show Ll _ _ (Own _ _ [_]) _ _ ((1,pt_ p1)::_) _ _ _;refine qD 1 Z (zS (zC [1] [_] Z (zD (zA (zE Z (zR Z zP Z zM Z Z) (zE Z (zX 0 Z zU Z Z Z) (zB 2 Z (yU fun b6 hg6=>?_))))))))
 cases b6
 ·
  replace hg6:=zH hg6;refine zG Z (zG Z (zG Z (zB 2 Z (zG Z (zG Z (zG Z (zG Z (zG Z (zB 2 Z (zG Z (zG Z (zG Z (zG Z (zG Z (zG Z (zG Z (zG Z (zB 2 Z (zF (zC [2] [_] Z (zZ (qA Z Z fun w' hw=>?_))))))))))))))))))))))
  exact ⟨ret_b (by first | (simp [validB,inB, *];done) | (simp [validB,inB, *];omega)),hw.below⟩
 replace hg6:=zI hg6;refine zE Z (zR Z zP Z zM Z Z) (zE Z (zX 0 Z zU Z Z Z) (zB 3 Z (yU fun b11 hg11=>?_)))
 cases b11
 ·
  replace hg11:=zH hg11;refine zG Z (zG Z (zG Z (zG Z (zG Z (zB 2 Z (zG Z (zG Z (zG Z (zG Z (zG Z (zG Z (zG Z (zG Z (zB 2 Z (zF (zC [2] [_] Z (zZ (qA Z Z fun w' hw=>?_))))))))))))))))))
  exact ⟨ret_b (by first | (simp [validB,inB, *];done) | (simp [validB,inB, *];omega)),hw.below⟩
 replace hg11:=zI hg11
 have hq:=sq_le hg6 hg11;refine zE Z (zR Z zP Z qT Z Z) (zE Z (zX 0 Z yK Z Z Z) (zE Z (zR Z zP Z zM Z Z) (zE Z (zX 0 Z zU Z Z Z) (zE (v:=bo_ (bitsB a.set a.n)) Z (zT Z Tryd.call63 Z zL (fun w1 hw1=>areBits_ok a.set a.n w1 (by omega))) (zB 2 Z (yU fun b18 hg18=>?_))))))
 cases b18
 ·
  refine zG Z (zG Z (zG Z (zG Z (zG Z (zG Z (zG Z (zG Z (zB 2 Z (zF (zC [2] [_] Z (zZ (qA Z Z fun w' hw=>?_))))))))))))
  exact ⟨ret_b (by first | (simp [validB,inB, *];done) | (simp [validB,inB, *];omega)),hw.below⟩
 refine zE Z (zR Z zP Z qT Z Z) (zE Z (zX 0 Z yK Z Z Z) (zE Z (zR Z zP Z zM Z Z) (zE Z (zX 0 Z zU Z Z Z) (zE Z (zR Z zP Z zM Z Z) (zE Z (zX 0 Z zU Z Z Z) (zE Z (OpQ.mul Z Z Z (by omega) (by omega)) (zE (v:=bo_ (bitsB a.rel (a.n*a.n))) Z (zT Z Tryd.call63 Z zL (fun w1 hw1=>areBits_ok a.rel (a.n*a.n) w1 (by omega))) (zB 2 Z (zF (zC [2] [_] Z (zZ (qA Z Z fun w' hw=>?_))))))))))))
 exact ⟨ret_b (by first | (simp [validB,inB, *];done) | (simp [validB,inB, *];omega)),hw.below⟩
set_option maxHeartbeats 400000 in
theorem inSet_ok (a:St) (x:Int) (w:World) (ha:a.Fine) (hx:a.El x) :
    Calls Tryd.prog 110 [vS a,i6_ x].toArray w fun en w'=>en=.returned (.bool (a.inSet x))∧Below w.heap.size w w':=by
 refine fnStart (n:=10) (e:=[(0,vS a),(1,i6_ x)]) Tryd.func110 Z Z Z Z Ends.both ?_
 have hs:=ha.set
 obtain ⟨h0,h1⟩:=hx;refine zD (zW (yD (v:=vS a) Z Z Z Z Z fun p2 hp2=>?_))
 show Ll _ _ (Own _ _ [_]) _ _ ((2,pt_ p2)::_) _ _ _;refine qD 1 Z (zS (zC [1,2] [_,_] Z (zD (zA (zE Z (zR Z zP Z qT Z Z) (zE Z (zX 0 Z yK Z Z Z) (zB 1 Z (zE (v:=.int .u8 (((a.set.getD ((x).toNat) 0).toNat:Int))) Z (qI Z zO Z Z (by omega) (by omega)) (zB 2 Z (zF (zC [4] [_] Z (zZ (qA Z Z fun w' hw=>?_)))))))))))))
 exact ⟨ret_b (by first | rfl | (simp_all;done) | (simp_all;omega)),hw.below⟩
set_option maxHeartbeats 400000 in
theorem inRel_ok (a:St) (x y:Int) (w:World) (ha:a.Fine) (hx:a.El x) (hy:a.El y) :
    Calls Tryd.prog 112 [vS a,i6_ x,i6_ y].toArray w fun en w'=>en=.returned (.bool (a.inRel x y))∧Below w.heap.size w w':=by
 refine fnStart (n:=17) (e:=[(0,vS a),(1,i6_ x),(2,i6_ y)]) Tryd.func112 Z Z Z Z Ends.both ?_
 obtain ⟨k0,k1,k2,k3,k4⟩:=ha.relLt hx hy;refine zD (zW (yD (v:=vS a) Z Z Z Z Z fun p3 hp3=>?_))
 show Ll _ _ (Own _ _ [_]) _ _ ((3,pt_ p3)::_) _ _ _;refine qD 1 Z (zS (zC [1,2,3] [_,_,_] Z (zD (zA (zE Z (zR Z zP Z qT Z Z) (zE Z (zX 0 Z yK Z Z Z) (zB 1 Z (zE Z (zR Z zP Z zM Z Z) (zE Z (zX 0 Z zU Z Z Z) (zE Z (OpQ.mul Z Z Z (by omega) (by omega)) (zB 1 Z (zE Z (qQ Z Z Z (by omega) (by omega)) (zE (v:=.int .u8 (((a.rel.getD (((x*a.n)+y).toNat) 0).toNat:Int))) Z (qI Z zO Z Z (by omega) (by omega)) (zB 2 Z (zF (zC [6] [_] Z (zZ (qA Z Z fun w' hw=>?_))))))))))))))))))
 exact ⟨ret_b (by first | rfl | (simp_all;done) | (simp_all;omega)),hw.below⟩
set_option maxHeartbeats 400000 in
theorem stillSame_ok (a b:St) (xs ys:List Int) (va vb:Value) (x y:Int) (w:World) (ha:a.Fine) (hb:b.Fine) (hva:Ints w va xs) (hvb:Ints w vb ys) (hA:a.Els xs) (hB:b.Els ys) (hlen:xs.length=ys.length) (hsmall:xs.length≤1000000) (hx:a.El x) (hy:b.El y) :
    Calls Tryd.prog 79 [vS a,va,vS b,vb,i6_ x,i6_ y].toArray w fun en w'=>en=.returned (.bool (stillB a xs b ys x y))∧Below w.heap.size w w':=by
 refine fnStart (n:=75) (e:=[(0,vS a),(1,va),(2,vS b),(3,vb),(4,i6_ x),(5,i6_ y)]) Tryd.func79 Z Z Z Z Ends.both ?_
 have hT:=stillB_true (a:=a) (b:=b) (x:=x) (y:=y) hlen;refine zD (zW (yD (v:=vS a) Z Z Z Z Z fun p6 hp6=>?_))
 show Ll _ _ (Own _ _ [_]) _ _ ((6,pt_ p6)::_) _ _ _;refine yD (v:=vS b) Z Z Z Z Z fun p8 hp8=>?_
 show Ll _ _ (Own _ _ [_,_]) _ _ ((8,pt_ p8)::_) _ _ _;refine qD 1 Z (zS (zC [1,3,4,5,6,8] [_,_,_,_,_,_] Z (zD (zD (Wk.regionD yB (fun _ h=>h.drawn) (by kernel_rfl) (zE Z (zK (cs:=#[i6_ a.n,str a.set,str a.rel]) 1 Z zQ Z Z zN) (zB 1 Z (zE (v:=bo_ (a.inSet x)) Z (zT Z Tryd.call110 Z zL (fun w1 hw1=>inSet_ok a x w1 ha (by first | assumption | exact St.Els.at (by assumption) (by omega) (by omega)))) (zE Z (zK (cs:=#[i6_ b.n,str b.set,str b.rel]) 0 Z zQ Z Z zN) (zB 1 Z (zE (v:=bo_ (b.inSet y)) Z (zT Z Tryd.call110 Z zL (fun w1 hw1=>inSet_ok b y w1 hb (by first | assumption | exact St.Els.at (by assumption) (by omega) (by omega)))) (zE Z (OpQ.bne Z yP Z Z) (zB 1 Z (yU fun b23 hg23=>?_))))))))))))))
 cases b23
 ·
  refine zE Z (zK (cs:=#[i6_ a.n,str a.set,str a.rel]) 1 Z zQ Z Z zN) (zB 2 Z (zE (v:=bo_ (a.inRel x x)) Z (zT Z Tryd.call112 Z zL (fun w1 hw1=>inRel_ok a x x w1 ha (by first | assumption | exact St.Els.at (by assumption) (by omega) (by omega)) (by first | assumption | exact St.Els.at (by assumption) (by omega) (by omega)))) (zE Z (zK (cs:=#[i6_ b.n,str b.set,str b.rel]) 0 Z zQ Z Z zN) (zB 2 Z (zE (v:=bo_ (b.inRel y y)) Z (zT Z Tryd.call112 Z zL (fun w1 hw1=>inRel_ok b y y w1 hb (by first | assumption | exact St.Els.at (by assumption) (by omega) (by omega)) (by first | assumption | exact St.Els.at (by assumption) (by omega) (by omega)))) (zE Z (OpQ.bne Z yP Z Z) (zB 1 Z (zF (zC [1,3,4,5,6,8,33] [_,_,_,_,_,_,_] Z (qB (b:=(a.inRel x x) != (b.inRel y y)) Z (fun h33=>?_) (fun h33=>?_)))))))))))
  ·
   refine zD (zA (zB 1 Z (zF (zC [12] [_] Z (zZ (qA Z Z fun w' hw=>?_))))))
   have hf:stillB a xs b ys x y=false:=by
    cases hs:stillB a xs b ys x y with
    | false=>rfl
    | true=>obtain ⟨e1,e2,e3⟩:=hT.1 hs;simp_all
   exact ⟨by rw [hf],hw.below⟩
  refine zV (zC [1,3,4,5,6,8] [_,_,_,_,_,_] Z (zD (zD (zA (zB 1 Z (zE (v:=i6_ (xs.length:Int)) Z (OpQ.lenRow Z zJ Z (ints_length _) (fun w1 hw1=>Row.own hva hw1)) (zB 1 Z (zF (zC [3,4,5,6,8,34,35,36] [_,_,_,_,_,_,_,_] Z (qF (yQ (σ:=Nat) (fun k=>k≤xs.length∧∀ i:Nat,i<k→pairOk a b x y (xs.getD i 0) (ys.getD i 0)=true) (fun k=>[(3,vb),(4,i6_ x),(5,i6_ y),(6,pt_ p6),(8,pt_ p8),(34,va),(35,i6_ (xs.length:Int)),(36,i6_ (k:Int))]) (fun k=>Own w.heap.size w [bk_ p8 #[i6_ b.n,str b.set,str b.rel] 24,bk_ p6 #[i6_ a.n,str a.set,str a.rel] 24]) (fun k=>xs.length - k) (0) ⟨by omega,fun i hi=>absurd hi (by omega)⟩ (Sub.sel [3,4,5,6,8,34,35,36] Z) (fun _ h=>h) ?_)))))))))))
  rintro k ⟨hk,hall⟩;refine zD (zA (zB 1 Z (zF (zC [3,4,5,6,8,34,35,36,37] [_,_,_,_,_,_,_,_,_] Z (zD (xJ Z (fun h37=>?_) (fun h37=>?_)))))))
  ·
   refine zV (zC [3,4,5,6,8,34,35,36] [_,_,_,_,_,_,_,_] Z (zD (qF (zD (zA (zB 1 Z (zE (v:=.pointer (some (sAt va (k:Int)))) Z (qX Z zJ zM Z Z (by omega) (by rw [ints_length];omega) (fun w1 hw1=>Row.own hva hw1)) (zE (v:=i6_ (xs.getD ((k:Int).toNat) 0)) Z (qY Z zU Z (fun w1 hw1=>Ints.cell (Row.own hva hw1) (by omega) (by omega))) (zB 2 Z (zF (zC [3,4,5,6,8,13,14,34,35,36] [_,_,_,_,_,_,_,_,_,_] Z (zD (zA (zB 2 Z (zE (v:=.pointer (some (sAt vb (k:Int)))) Z (qX Z zJ zM Z Z (by omega) (by rw [ints_length];omega) (fun w1 hw1=>Row.own hvb hw1)) (zE (v:=i6_ (ys.getD ((k:Int).toNat) 0)) Z (qY Z zU Z (fun w1 hw1=>Ints.cell (Row.own hvb hw1) (by omega) (by omega))) (zB 1 Z (zF (zC [3,4,5,6,8,14,15,34,35,36] [_,_,_,_,_,_,_,_,_,_] Z (zD (Wk.regionD yB (fun _ h=>h.drawn) (by kernel_rfl) (zB 6 Z (zE Z (OpQ.bne Z yP Z Z) (zB 1 Z (yU fun b52 hg52=>?_)))))))))))))))))))))))))
   cases b52
   ·
    refine zE Z (zK (cs:=#[i6_ a.n,str a.set,str a.rel]) 1 Z zQ Z Z zN) (zB 2 Z (zE (v:=bo_ (a.inRel (xs.getD ((k:Int).toNat) 0) x)) Z (zT Z Tryd.call112 Z zL (fun w1 hw1=>inRel_ok a (xs.getD ((k:Int).toNat) 0) x w1 ha (by first | assumption | exact St.Els.at (by assumption) (by omega) (by omega)) (by first | assumption | exact St.Els.at (by assumption) (by omega) (by omega)))) (zE Z (zK (cs:=#[i6_ b.n,str b.set,str b.rel]) 0 Z zQ Z Z zN) (zB 2 Z (zE (v:=bo_ (b.inRel (ys.getD ((k:Int).toNat) 0) y)) Z (zT Z Tryd.call112 Z zL (fun w1 hw1=>inRel_ok b (ys.getD ((k:Int).toNat) 0) y w1 hb (by first | assumption | exact St.Els.at (by assumption) (by omega) (by omega)) (by first | assumption | exact St.Els.at (by assumption) (by omega) (by omega)))) (zE Z (OpQ.bne Z yP Z Z) (zB 2 Z (yU fun b63 hg63=>?_))))))))
    cases b63
    ·
     refine zE Z (zK (cs:=#[i6_ a.n,str a.set,str a.rel]) 1 Z zQ Z Z zN) (zB 2 Z (zE (v:=bo_ (a.inRel x (xs.getD ((k:Int).toNat) 0))) Z (zT Z Tryd.call112 Z zL (fun w1 hw1=>inRel_ok a x (xs.getD ((k:Int).toNat) 0) w1 ha (by first | assumption | exact St.Els.at (by assumption) (by omega) (by omega)) (by first | assumption | exact St.Els.at (by assumption) (by omega) (by omega)))) (zE Z (zK (cs:=#[i6_ b.n,str b.set,str b.rel]) 0 Z zQ Z Z zN) (zB 2 Z (zE (v:=bo_ (b.inRel y (ys.getD ((k:Int).toNat) 0))) Z (zT Z Tryd.call112 Z zL (fun w1 hw1=>inRel_ok b y (ys.getD ((k:Int).toNat) 0) w1 hb (by first | assumption | exact St.Els.at (by assumption) (by omega) (by omega)) (by first | assumption | exact St.Els.at (by assumption) (by omega) (by omega)))) (zE Z (OpQ.bne Z yP Z Z) (zB 1 Z (zF (zC [3,4,5,6,8,34,35,36,73] [_,_,_,_,_,_,_,_,_] Z (qB (b:=(a.inRel x (xs.getD ((k:Int).toNat) 0)) != (b.inRel y (ys.getD ((k:Int).toNat) 0))) Z (fun h73=>?_) (fun h73=>?_)))))))))))
     ·
      refine zD (zA (zB 1 Z (zF (zC [12] [_] Z (zZ (qA Z Z fun w' hw=>?_))))))
      have hf:stillB a xs b ys x y=false:=by
       cases hs:stillB a xs b ys x y with
       | false=>rfl
       | true =>
        obtain ⟨e1,e2,e3⟩:=hT.1 hs
        obtain ⟨e4,e5,e6⟩:=pairOk_true.1 (e3 k (by omega))
        simp only [Int.toNat_natCast] at *
        simp_all
      exact ⟨by rw [hf],hw.below⟩
     refine zV (zC [3,4,5,6,8,34,35,36] [_,_,_,_,_,_,_,_] Z (zA (zE Z (qQ Z Z Z (by omega) (by omega)) (zB 1 Z (zF (qU (k+1) ⟨by omega,fun i hi=>(Nat.lt_succ_iff_lt_or_eq.1 hi).elim (hall i) (fun e=>by subst e;exact pairOk_true.2 ⟨by simpa using hg52,by simpa using hg63,by simpa using h73⟩)⟩ (by omega) (Sub.sel [3,4,5,6,8,34,35,36] Z) (fun _ h=>h)))))))
    refine zG Z (zG Z (zG Z (zG Z (zG Z (zG Z (zG Z (zG Z (zG Z (zB 1 Z (zF (zC [3,4,5,6,8,34,35,36,73] [_,_,_,_,_,_,_,_,_] Z (xB Z (zD (zA (zB 1 Z (zF (zC [12] [_] Z (zZ (qA Z Z fun w' hw=>?_)))))))))))))))))))
    have hf:stillB a xs b ys x y=false:=by
     cases hs:stillB a xs b ys x y with
     | false=>rfl
     | true =>
      obtain ⟨e1,e2,e3⟩:=hT.1 hs
      obtain ⟨e4,e5,e6⟩:=pairOk_true.1 (e3 k (by omega))
      simp only [Int.toNat_natCast] at *
      simp_all
    exact ⟨by rw [hf],hw.below⟩
   refine zG Z (zG Z (zG Z (zG Z (zG Z (zG Z (zG Z (zG Z (zG Z (zB 2 Z (zG Z (zG Z (zG Z (zG Z (zG Z (zG Z (zG Z (zG Z (zG Z (zB 1 Z (zF (zC [3,4,5,6,8,34,35,36,73] [_,_,_,_,_,_,_,_,_] Z (xB Z (zD (zA (zB 1 Z (zF (zC [12] [_] Z (zZ (qA Z Z fun w' hw=>?_)))))))))))))))))))))))))))))
   have hf:stillB a xs b ys x y=false:=by
    cases hs:stillB a xs b ys x y with
    | false=>rfl
    | true =>
     obtain ⟨e1,e2,e3⟩:=hT.1 hs
     obtain ⟨e4,e5,e6⟩:=pairOk_true.1 (e3 k (by omega))
     simp only [Int.toNat_natCast] at *
     simp_all
   exact ⟨by rw [hf],hw.below⟩
  refine yO Z (zC [] [] Z (zD (zA (zB 1 Z (zF (zC [12] [_] Z (zZ (qA Z Z fun w' hw=>?_))))))))
  exact ⟨by rw [hT.2 ⟨bne_false ‹_›,bne_false ‹_›,fun i hi=>hall i (by omega)⟩],hw.below⟩
 refine zG Z (zG Z (zG Z (zG Z (zG Z (zG Z (zG Z (zG Z (zG Z (zB 1 Z (zF (zC [1,3,4,5,6,8,33] [_,_,_,_,_,_,_] Z (xB Z (zD (zA (zB 1 Z (zF (zC [12] [_] Z (zZ (qA Z Z fun w' hw=>?_)))))))))))))))))))
 have hf:stillB a xs b ys x y=false:=by
  cases hs:stillB a xs b ys x y with
  | false=>rfl
  | true=>obtain ⟨e1,e2,e3⟩:=hT.1 hs;simp_all
 exact ⟨by rw [hf],hw.below⟩
set_option maxHeartbeats 400000 in
theorem sameWay_ok (a b:St) (xs ys:List Int) (va vb:Value) (w:World) (ha:a.Fine) (hb:b.Fine) (hva:Ints w va xs) (hvb:Ints w vb ys) (hA:a.Els xs) (hB:b.Els ys) (hlen:xs.length=ys.length) (hsmall:xs.length≤1000000) :
    Calls Tryd.prog 51 [vS a,va,vS b,vb].toArray w fun en w'=>en=.returned (.bool (sameB a xs b ys))∧Below w.heap.size w w':=by
 refine fnStart (n:=34) (e:=[(0,vS a),(1,va),(2,vS b),(3,vb)]) Tryd.func51 Z Z Z Z Ends.both (zD (zW (yD (v:=vS a) Z Z Z Z Z fun p4 hp4=>?_)))
 show Ll _ _ (Own _ _ [_]) _ _ ((4,pt_ p4)::_) _ _ _;refine yD (v:=vS b) Z Z Z Z Z fun p6 hp6=>?_
 show Ll _ _ (Own _ _ [_,_]) _ _ ((6,pt_ p6)::_) _ _ _;refine qD 1 Z (zS (zC [1,3,4,6] [_,_,_,_] Z (zD (zD (zA (zB 1 Z (zE (v:=i6_ (xs.length:Int)) Z (OpQ.lenRow Z zJ Z (ints_length _) (fun w1 hw1=>Row.own hva hw1)) (zB 1 Z (zF (zC [1,3,4,6,11,12] [_,_,_,_,_,_] Z (qF (yQ (σ:=Nat) (fun k=>k≤xs.length∧∀ i:Nat,i<k→stillAt a xs b ys i=true) (fun k=>[(1,va),(3,vb),(4,pt_ p4),(6,pt_ p6),(11,i6_ (xs.length:Int)),(12,i6_ (k:Int))]) (fun k=>Own w.heap.size w [bk_ p6 #[i6_ b.n,str b.set,str b.rel] 24,bk_ p4 #[i6_ a.n,str a.set,str a.rel] 24]) (fun k=>xs.length - k) (0) ⟨by omega,fun i hi=>absurd hi (by omega)⟩ (Sub.sel [1,3,4,6,11,12] Z) (fun _ h=>h) ?_))))))))))))
 rintro k ⟨hk,hall⟩;refine zD (zA (zB 1 Z (zF (zC [1,3,4,6,11,12,13] [_,_,_,_,_,_,_] Z (zD (xJ Z (fun h13=>?_) (fun h13=>?_)))))))
 ·
  refine zV (zC [1,3,4,6,11,12] [_,_,_,_,_,_] Z (zD (qF (zD (zA (zB 2 Z (zF (zC [1,3,4,6,9,11,12] [_,_,_,_,_,_,_] Z (zD (Wk.regionD yB (fun _ h=>h.drawn) (by kernel_rfl) (zE Z (zK (cs:=#[i6_ a.n,str a.set,str a.rel]) 1 Z zQ Z Z zN) (zB 2 Z (zE (v:=sTake va k) Z (OpQ.takeRow (i:=(k:Int)) Z zJ zM Z Z (by omega) (by rw [ints_length];omega) (fun w1 hw1=>Row.own hva hw1)) (zE Z (zK (cs:=#[i6_ b.n,str b.set,str b.rel]) 0 Z zQ Z Z zN) (zB 2 Z (zE (v:=sTake vb k) Z (OpQ.takeRow (i:=(k:Int)) Z zJ zM Z Z (by omega) (by rw [ints_length];omega) (fun w1 hw1=>Row.own hvb hw1)) (zB 2 Z (zE (v:=.pointer (some (sAt va (k:Int)))) Z (qX Z zJ zM Z Z (by omega) (by rw [ints_length];omega) (fun w1 hw1=>Row.own hva hw1)) (zE (v:=i6_ (xs.getD ((k:Int).toNat) 0)) Z (qY Z zU Z (fun w1 hw1=>Ints.cell (Row.own hva hw1) (by omega) (by omega))) (zB 2 Z (zE (v:=.pointer (some (sAt vb (k:Int)))) Z (qX Z zJ zM Z Z (by omega) (by rw [ints_length];omega) (fun w1 hw1=>Row.own hvb hw1)) (zE (v:=i6_ (ys.getD ((k:Int).toNat) 0)) Z (qY Z zU Z (fun w1 hw1=>Ints.cell (Row.own hvb hw1) (by omega) (by omega))) (zE (v:=bo_ (stillB a (xs.take k) b (ys.take k) (xs.getD ((k:Int).toNat) 0) (ys.getD ((k:Int).toNat) 0))) Z (zT Z Tryd.call79 Z zL (fun w1 hw1=>stillSame_ok a b (xs.take k) (ys.take k) (sTake va k) (sTake vb k) (xs.getD ((k:Int).toNat) 0) (ys.getD ((k:Int).toNat) 0) w1 (ha) (hb) (Ints.take (Row.own hva hw1) k (by omega)) (Ints.take (Row.own hvb hw1) k (by omega)) (hA.take _) (hB.take _) (by first | (simp;done) | (simp;omega) | omega) (by first | (simp;done) | (simp;omega) | omega) (by first | assumption | exact St.Els.at (by assumption) (by omega) (by omega)) (by first | assumption | exact St.Els.at (by assumption) (by omega) (by omega)))) (zB 1 Z (zF (zC [1,3,4,6,11,12,32] [_,_,_,_,_,_,_] Z (qB (b:=!(stillB a (xs.take k) b (ys.take k) (xs.getD ((k:Int).toNat) 0) (ys.getD ((k:Int).toNat) 0))) Z (fun h32=>?_) (fun h32=>?_))))))))))))))))))))))))))))
  ·
   replace h32:=not_true h32;refine zD (zA (zB 1 Z (zF (zC [8] [_] Z (zZ (qA Z Z fun w' hw=>?_))))))
   exact ⟨ret_b (sameB_false (k:=k) (by omega) (by simpa [stillAt] using h32)).symm,hw.below⟩
  replace h32:=not_false h32;refine zV (zC [1,3,4,6,11,12] [_,_,_,_,_,_] Z (zA (zE Z (qQ Z Z Z (by omega) (by omega)) (zB 1 Z (zF (qU (k+1) ⟨by omega,fun i hi=>(Nat.lt_succ_iff_lt_or_eq.1 hi).elim (hall i) (fun e=>by subst e;simpa [stillAt] using h32)⟩ (by omega) (Sub.sel [1,3,4,6,11,12] Z) (fun _ h=>h)))))))
 refine yO Z (zC [] [] Z (zD (zA (zB 1 Z (zF (zC [8] [_] Z (zZ (qA Z Z fun w' hw=>?_))))))))
 exact ⟨ret_b (sameB_true (k:=k) (by omega) hall).symm,hw.below⟩
end Go.Proofs.YteccfipfimbdgaaDoor
namespace Go.Proofs.YteccfipfimbdgaaDoor
open Go.RowKit Go.Wk
set_option linter.unusedSimpArgs false
set_option maxHeartbeats 400000 in
theorem fits_ok (a b:St) (xs ys:List Int) (va vb:Value) (m:Nat) (w:World) (ha:a.Fine) (hb:b.Fine) (hva:Ints w va xs) (hvb:Ints w vb ys) (hA:a.Els xs) (hB:b.Els ys) (hm:xs.length=m+1) (hm2:ys.length=m+1) (hsmall:m≤1000000) :
    Calls Tryd.prog 74 [vS a,va,vS b,vb].toArray w fun en w'=>en=.returned (.bool (stillAt a xs b ys m))∧Below w.heap.size w w':=by
 refine fnStart (n:=97) (e:=[(0,vS a),(1,va),(2,vS b),(3,vb)]) Tryd.func74 Z Z Z Z Ends.both ?_
 have hT:=fits_true (a:=a) (b:=b) hm hm2;refine zD (zW (yD (v:=vS a) Z Z Z Z Z fun p4 hp4=>?_))
 show Ll _ _ (Own _ _ [_]) _ _ ((4,pt_ p4)::_) _ _ _;refine yD (v:=vS b) Z Z Z Z Z fun p6 hp6=>?_
 show Ll _ _ (Own _ _ [_,_]) _ _ ((6,pt_ p6)::_) _ _ _;refine qD 1 Z (zS (zC [1,3,4,6] [_,_,_,_] Z (zD (zA (zB 1 Z (zE (v:=i6_ ((m+1):Int)) Z (OpQ.lenRow Z zJ Z ((ints_length _).trans hm) (fun w1 hw1=>Row.own hva hw1)) (zE (v:=i6_ (m:Int)) Z (qC (by simp) (xH Z Z Z (by omega) (by omega))) (zB 1 Z (zF (zC [1,3,4,6,9] [_,_,_,_,_] Z (zD (zD (Wk.regionD yB (fun _ h=>h.drawn) (by kernel_rfl) (zE Z (zK (cs:=#[i6_ a.n,str a.set,str a.rel]) 1 Z zQ Z Z zN) (zB 2 Z (zE (v:=.pointer (some (sAt va (m:Int)))) Z (qX Z zJ zM Z Z (by omega) (by rw [ints_length];omega) (fun w1 hw1=>Row.own hva hw1)) (zE (v:=i6_ (xs.getD ((m:Int).toNat) 0)) Z (qY Z zU Z (fun w1 hw1=>Ints.cell (Row.own hva hw1) (by omega) (by omega))) (zE (v:=bo_ (a.inSet (xs.getD ((m:Int).toNat) 0))) Z (zT Z Tryd.call116 Z zL (fun w1 hw1=>l1Set_ok a (xs.getD ((m:Int).toNat) 0) w1 ha (by first | assumption | exact St.Els.at (by assumption) (by omega) (by omega)))) (zE Z (zK (cs:=#[i6_ b.n,str b.set,str b.rel]) 0 Z zQ Z Z zN) (zB 2 Z (zE (v:=.pointer (some (sAt vb (m:Int)))) Z (qX Z zJ zM Z Z (by omega) (by rw [ints_length];omega) (fun w1 hw1=>Row.own hvb hw1)) (zE (v:=i6_ (ys.getD ((m:Int).toNat) 0)) Z (qY Z zU Z (fun w1 hw1=>Ints.cell (Row.own hvb hw1) (by omega) (by omega))) (zE (v:=bo_ (b.inSet (ys.getD ((m:Int).toNat) 0))) Z (zT Z Tryd.call116 Z zL (fun w1 hw1=>l1Set_ok b (ys.getD ((m:Int).toNat) 0) w1 hb (by first | assumption | exact St.Els.at (by assumption) (by omega) (by omega)))) (zE Z (OpQ.bne Z yP Z Z) (zF (zC [1,3,4,6,9,26] [_,_,_,_,_,_] Z (qB (b:=(a.inSet (xs.getD ((m:Int).toNat) 0)) != (b.inSet (ys.getD ((m:Int).toNat) 0))) Z (fun h26=>?_) (fun h26=>?_))))))))))))))))))))))))))))
 ·
  refine zD (zA (zB 1 Z (zF (zC [8] [_] Z (zZ (qA Z Z fun w' hw=>?_))))))
  have hf:stillAt a xs b ys m=false:=by
   cases hs:stillAt a xs b ys m with
   | false=>rfl
   | true =>
    obtain ⟨e1,e3⟩:=hT.1 hs
    simp_all
  exact ⟨ret_b hf.symm,hw.below⟩
 refine zV (zC [1,3,4,6,9] [_,_,_,_,_] Z (zD (zD (zA (zB 1 Z (zF (zC [1,3,4,6,9,10] [_,_,_,_,_,_] Z (qF (yQ (σ:=Nat) (fun k=>k≤m+1∧∀ i:Nat,i<k→pairOk a b (xs.getD m 0) (ys.getD m 0) (xs.getD i 0) (ys.getD i 0)=true) (fun k=>[(1,va),(3,vb),(4,pt_ p4),(6,pt_ p6),(9,i6_ (m:Int)),(10,i6_ (k:Int))]) (fun k=>Own w.heap.size w [bk_ p6 #[i6_ b.n,str b.set,str b.rel] 24,bk_ p4 #[i6_ a.n,str a.set,str a.rel] 24]) (fun k=>m+1 - k) (0) ⟨by omega,fun i hi=>absurd hi (by omega)⟩ (Sub.sel [1,3,4,6,9,10] Z) (fun _ h=>h) ?_)))))))))
 rintro k ⟨hk,hall⟩;refine zD (zD (zA (zB 3 Z (zF (zC [1,3,4,6,9,10,29] [_,_,_,_,_,_,_] Z (xJ Z (fun h29=>?_) (fun h29=>?_)))))))
 ·
  refine zV (zC [1,3,4,6,9,10] [_,_,_,_,_,_] Z (zD (qF (zD (Wk.regionD yB (fun _ h=>h.drawn) (by kernel_rfl) (zB 2 Z (zE (v:=.pointer (some (sAt va (k:Int)))) Z (qX Z zJ zM Z Z (by omega) (by rw [ints_length];omega) (fun w1 hw1=>Row.own hva hw1)) (zE (v:=i6_ (xs.getD ((k:Int).toNat) 0)) Z (qY Z zU Z (fun w1 hw1=>Ints.cell (Row.own hva hw1) (by omega) (by omega))) (zB 2 Z (zE (v:=.pointer (some (sAt va (m:Int)))) Z (qX Z zJ zM Z Z (by omega) (by rw [ints_length];omega) (fun w1 hw1=>Row.own hva hw1)) (zE (v:=i6_ (xs.getD ((m:Int).toNat) 0)) Z (qY Z zU Z (fun w1 hw1=>Ints.cell (Row.own hva hw1) (by omega) (by omega))) (zB 3 Z (zE (v:=.pointer (some (sAt vb (k:Int)))) Z (qX Z zJ zM Z Z (by omega) (by rw [ints_length];omega) (fun w1 hw1=>Row.own hvb hw1)) (zE (v:=i6_ (ys.getD ((k:Int).toNat) 0)) Z (qY Z zU Z (fun w1 hw1=>Ints.cell (Row.own hvb hw1) (by omega) (by omega))) (zB 2 Z (zE (v:=.pointer (some (sAt vb (m:Int)))) Z (qX Z zJ zM Z Z (by omega) (by rw [ints_length];omega) (fun w1 hw1=>Row.own hvb hw1)) (zE (v:=i6_ (ys.getD ((m:Int).toNat) 0)) Z (qY Z zU Z (fun w1 hw1=>Ints.cell (Row.own hvb hw1) (by omega) (by omega))) (zB 1 Z (zE Z (OpQ.bne Z yP Z Z) (zB 1 Z (yU fun b51 hg51=>?_)))))))))))))))))))))
  cases b51
  ·
   refine zE Z (zK (cs:=#[i6_ a.n,str a.set,str a.rel]) 1 Z zQ Z Z zN) (zB 2 Z (zE (v:=.pointer (some (sAt va (k:Int)))) Z (qX Z zJ zM Z Z (by omega) (by rw [ints_length];omega) (fun w1 hw1=>Row.own hva hw1)) (zE (v:=i6_ (xs.getD ((k:Int).toNat) 0)) Z (qY Z zU Z (fun w1 hw1=>Ints.cell (Row.own hva hw1) (by omega) (by omega))) (zB 2 Z (zE (v:=.pointer (some (sAt va (m:Int)))) Z (qX Z zJ zM Z Z (by omega) (by rw [ints_length];omega) (fun w1 hw1=>Row.own hva hw1)) (zE (v:=i6_ (xs.getD ((m:Int).toNat) 0)) Z (qY Z zU Z (fun w1 hw1=>Ints.cell (Row.own hva hw1) (by omega) (by omega))) (zE (v:=bo_ (a.inRel (xs.getD ((k:Int).toNat) 0) (xs.getD ((m:Int).toNat) 0))) Z (zT Z Tryd.call117 Z zL (fun w1 hw1=>l1Rel_ok a (xs.getD ((k:Int).toNat) 0) (xs.getD ((m:Int).toNat) 0) w1 ha (by first | assumption | exact St.Els.at (by assumption) (by omega) (by omega)) (by first | assumption | exact St.Els.at (by assumption) (by omega) (by omega)))) (zE Z (zK (cs:=#[i6_ b.n,str b.set,str b.rel]) 0 Z zQ Z Z zN) (zB 2 Z (zE (v:=.pointer (some (sAt vb (k:Int)))) Z (qX Z zJ zM Z Z (by omega) (by rw [ints_length];omega) (fun w1 hw1=>Row.own hvb hw1)) (zE (v:=i6_ (ys.getD ((k:Int).toNat) 0)) Z (qY Z zU Z (fun w1 hw1=>Ints.cell (Row.own hvb hw1) (by omega) (by omega))) (zB 2 Z (zE (v:=.pointer (some (sAt vb (m:Int)))) Z (qX Z zJ zM Z Z (by omega) (by rw [ints_length];omega) (fun w1 hw1=>Row.own hvb hw1)) (zE (v:=i6_ (ys.getD ((m:Int).toNat) 0)) Z (qY Z zU Z (fun w1 hw1=>Ints.cell (Row.own hvb hw1) (by omega) (by omega))) (zE (v:=bo_ (b.inRel (ys.getD ((k:Int).toNat) 0) (ys.getD ((m:Int).toNat) 0))) Z (zT Z Tryd.call117 Z zL (fun w1 hw1=>l1Rel_ok b (ys.getD ((k:Int).toNat) 0) (ys.getD ((m:Int).toNat) 0) w1 hb (by first | assumption | exact St.Els.at (by assumption) (by omega) (by omega)) (by first | assumption | exact St.Els.at (by assumption) (by omega) (by omega)))) (zE Z (OpQ.bne Z yP Z Z) (zB 2 Z (yU fun b74 hg74=>?_))))))))))))))))))
   cases b74
   ·
    refine zE Z (zK (cs:=#[i6_ a.n,str a.set,str a.rel]) 1 Z zQ Z Z zN) (zB 2 Z (zE (v:=.pointer (some (sAt va (m:Int)))) Z (qX Z zJ zM Z Z (by omega) (by rw [ints_length];omega) (fun w1 hw1=>Row.own hva hw1)) (zE (v:=i6_ (xs.getD ((m:Int).toNat) 0)) Z (qY Z zU Z (fun w1 hw1=>Ints.cell (Row.own hva hw1) (by omega) (by omega))) (zB 2 Z (zE (v:=.pointer (some (sAt va (k:Int)))) Z (qX Z zJ zM Z Z (by omega) (by rw [ints_length];omega) (fun w1 hw1=>Row.own hva hw1)) (zE (v:=i6_ (xs.getD ((k:Int).toNat) 0)) Z (qY Z zU Z (fun w1 hw1=>Ints.cell (Row.own hva hw1) (by omega) (by omega))) (zE (v:=bo_ (a.inRel (xs.getD ((m:Int).toNat) 0) (xs.getD ((k:Int).toNat) 0))) Z (zT Z Tryd.call117 Z zL (fun w1 hw1=>l1Rel_ok a (xs.getD ((m:Int).toNat) 0) (xs.getD ((k:Int).toNat) 0) w1 ha (by first | assumption | exact St.Els.at (by assumption) (by omega) (by omega)) (by first | assumption | exact St.Els.at (by assumption) (by omega) (by omega)))) (zE Z (zK (cs:=#[i6_ b.n,str b.set,str b.rel]) 0 Z zQ Z Z zN) (zB 2 Z (zE (v:=.pointer (some (sAt vb (m:Int)))) Z (qX Z zJ zM Z Z (by omega) (by rw [ints_length];omega) (fun w1 hw1=>Row.own hvb hw1)) (zE (v:=i6_ (ys.getD ((m:Int).toNat) 0)) Z (qY Z zU Z (fun w1 hw1=>Ints.cell (Row.own hvb hw1) (by omega) (by omega))) (zB 2 Z (zE (v:=.pointer (some (sAt vb (k:Int)))) Z (qX Z zJ zM Z Z (by omega) (by rw [ints_length];omega) (fun w1 hw1=>Row.own hvb hw1)) (zE (v:=i6_ (ys.getD ((k:Int).toNat) 0)) Z (qY Z zU Z (fun w1 hw1=>Ints.cell (Row.own hvb hw1) (by omega) (by omega))) (zE (v:=bo_ (b.inRel (ys.getD ((m:Int).toNat) 0) (ys.getD ((k:Int).toNat) 0))) Z (zT Z Tryd.call117 Z zL (fun w1 hw1=>l1Rel_ok b (ys.getD ((m:Int).toNat) 0) (ys.getD ((k:Int).toNat) 0) w1 hb (by first | assumption | exact St.Els.at (by assumption) (by omega) (by omega)) (by first | assumption | exact St.Els.at (by assumption) (by omega) (by omega)))) (zE Z (OpQ.bne Z yP Z Z) (zB 1 Z (zF (zC [1,3,4,6,9,10,96] [_,_,_,_,_,_,_] Z (qB (b:=(a.inRel (xs.getD ((m:Int).toNat) 0) (xs.getD ((k:Int).toNat) 0)) != (b.inRel (ys.getD ((m:Int).toNat) 0) (ys.getD ((k:Int).toNat) 0))) Z (fun h96=>?_) (fun h96=>?_)))))))))))))))))))))
    ·
     refine zD (zA (zB 1 Z (zF (zC [8] [_] Z (zZ (qA Z Z fun w' hw=>?_))))))
     have hf:stillAt a xs b ys m=false:=by
      cases hs:stillAt a xs b ys m with
      | false=>rfl
      | true =>
       obtain ⟨e1,e3⟩:=hT.1 hs
       obtain ⟨e4,e5,e6⟩:=pairOk_true.1 (e3 k (by omega))
       simp only [Int.toNat_natCast] at *
       simp_all
     exact ⟨ret_b hf.symm,hw.below⟩
    refine zV (zC [1,3,4,6,9,10] [_,_,_,_,_,_] Z (zA (zB 1 Z (zE Z (qQ Z Z Z (by omega) (by omega)) (zB 1 Z (zF (qU (k+1) ⟨by omega,fun i hi=>(Nat.lt_succ_iff_lt_or_eq.1 hi).elim (hall i) (fun e=>by subst e;exact pairOk_true.2 ⟨by simpa using hg51,by simpa using hg74,by simpa using h96⟩)⟩ (by omega) (Sub.sel [1,3,4,6,9,10] Z) (fun _ h=>h))))))))
   refine zG Z (zG Z (zG Z (zG Z (zG Z (zG Z (zG Z (zG Z (zG Z (zG Z (zG Z (zG Z (zG Z (zG Z (zG Z (zG Z (zG Z (zG Z (zG Z (zG Z (zG Z (zB 1 Z (zF (zC [1,3,4,6,9,10,96] [_,_,_,_,_,_,_] Z (xB Z (zD (zA (zB 1 Z (zF (zC [8] [_] Z (zZ (qA Z Z fun w' hw=>?_)))))))))))))))))))))))))))))))
   have hf:stillAt a xs b ys m=false:=by
    cases hs:stillAt a xs b ys m with
    | false=>rfl
    | true =>
     obtain ⟨e1,e3⟩:=hT.1 hs
     obtain ⟨e4,e5,e6⟩:=pairOk_true.1 (e3 k (by omega))
     simp only [Int.toNat_natCast] at *
     simp_all
   exact ⟨ret_b hf.symm,hw.below⟩
  refine zG Z (zG Z (zG Z (zG Z (zG Z (zG Z (zG Z (zG Z (zG Z (zG Z (zG Z (zG Z ?_)))))))))));refine zG Z (zG Z (zG Z (zG Z (zG Z (zG Z (zG Z (zG Z (zG Z (zB 2 Z (zG Z (zG Z (zG Z (zG Z (zG Z (zG Z (zG Z (zG Z (zG Z (zG Z (zG Z (zG Z (zG Z (zG Z (zG Z (zG Z (zG Z (zG Z (zG Z (zG Z (zG Z (zB 1 Z (zF (zC [1,3,4,6,9,10,96] [_,_,_,_,_,_,_] Z (xB Z (zD (zA (zB 1 Z (zF (zC [8] [_] Z (zZ (qA Z Z fun w' hw=>?_)))))))))))))))))))))))))))))))))))))))))
  have hf:stillAt a xs b ys m=false:=by
   cases hs:stillAt a xs b ys m with
   | false=>rfl
   | true =>
    obtain ⟨e1,e3⟩:=hT.1 hs
    obtain ⟨e4,e5,e6⟩:=pairOk_true.1 (e3 k (by omega))
    simp only [Int.toNat_natCast] at *
    simp_all
  exact ⟨ret_b hf.symm,hw.below⟩
 refine yO Z (zC [] [] Z (zD (zA (zB 1 Z (zF (zC [8] [_] Z (zZ (qA Z Z fun w' hw=>?_))))))))
 exact ⟨ret_b (hT.2 ⟨bne_false ‹_›,fun i hi=>hall i (by omega)⟩).symm,hw.below⟩
end Go.Proofs.YteccfipfimbdgaaDoor
namespace Go.Proofs.YteccfipfimbdgaaDoor
open Go.RowKit Go.Wk
set_option linter.unusedSimpArgs false
set_option maxHeartbeats 400000 in
theorem bitD_ok (b:Bool) (w:World) :
    Calls Tryd.prog 35 [bo_ b].toArray w fun en w'=>en=.returned (str (if b then [49] else [48]))∧Below w.heap.size w w':=by
 refine fnStart (n:=4) (e:=[(0,bo_ b)]) Tryd.func35 Z Z Z Z Ends.both (zD (zA (zE (v:=str ([])) Z (yG Z Z) (zF (zC [0] [_] Z (zD (zD (zA (zB 1 Z (zF (zC [3] [_] Z (qB (b:=b) Z (fun h3=>?_) (fun h3=>?_)))))))))))))
 ·
  refine zD (zA (zE (v:=str ([49])) Z (yG Z Z) (zF (zC [2] [_] Z (zZ (qA Z Z fun w' hw=>?_))))))
  exact ⟨by rw [‹b=_›];rfl,hw.below⟩
 refine zV (zC [] [] Z (zD (zA (zE (v:=str ([48])) Z (yG Z Z) (zF (zC [2] [_] Z (zZ (qA Z Z fun w' hw=>?_))))))))
 exact ⟨by rw [‹b=_›];rfl,hw.below⟩
end Go.Proofs.YteccfipfimbdgaaDoor
namespace Go.Proofs.YteccfipfimbdgaaDoor
open Go.RowKit Go.Wk
set_option linter.unusedSimpArgs false
set_option maxHeartbeats 400000 in
theorem l5Atoms_ok (a:St) (va:Value) (xs:List Int) (w:World) (ha:a.Fine) (hva:Ints w va xs) (hA:a.Els xs) (hl7:xs.length≤7) :
    Calls Tryd.prog 147 [vS a,va].toArray w fun en w'=>en=.returned (str (atomBits a xs))∧Below w.heap.size w w':=by
 refine fnStart (n:=65) (e:=[(0,vS a),(1,va)]) Tryd.func147 Z Z Z Z Ends.both (zD (zW (yD (v:=vS a) Z Z Z Z Z fun p2 hp2=>?_)))
 show Ll _ _ (Own _ _ [_]) _ _ ((2,pt_ p2)::_) _ _ _;refine qL (v:=str ([])) Z (yG Z Z) (zS (zC [1,2] [_,_] Z (zD (zA (zE (v:=str ([])) Z (yG Z Z) (zF (zC [1,2,5] [_,_,_] Z (zD (zD (zA (zB 1 Z (zF (zC [1,2,5,6] [_,_,_,_] Z (qF (yQ (σ:=Nat) (fun k=>k≤xs.length) (fun k=>[(1,va),(2,pt_ p2),(5,str (bitsTo a xs k)),(6,i6_ (k:Int))]) (fun k=>Own w.heap.size w [bk_ p2 #[i6_ a.n,str a.set,str a.rel] 24]) (fun k=>xs.length - k) (0) (by omega) (Sub.cons Z (Sub.cons Z (Sub.cons Z (Sub.sel [6] Z)))) (fun _ h=>h) ?_)))))))))))))))
 rintro k hk;refine zD (zD (zA (zB 2 Z (zE (v:=i6_ (xs.length:Int)) Z (OpQ.lenRow Z zJ Z (ints_length _) (fun w1 hw1=>Row.own hva hw1)) (zB 1 Z (zF (zC [1,2,5,6,11] [_,_,_,_,_] Z (qB (b:=decide ((k:Int)<(xs.length:Int))) Z (fun h11=>?_) (fun h11=>?_)))))))))
 ·
  replace h11:=zI h11
  have hb:=bits_small (a:=a) (xs:=xs) (i:=k) (by omega);refine zV (zC [1,2,5,6] [_,_,_,_] Z (zD (qF (zD (Wk.regionD yB (fun _ h=>h.drawn) (by kernel_rfl) (zB 1 Z (zE Z (zK (cs:=#[i6_ a.n,str a.set,str a.rel]) 0 Z zQ Z Z zN) (zB 2 Z (zE (v:=.pointer (some (sAt va (k:Int)))) Z (qX Z zJ zM Z Z (by omega) (by rw [ints_length];omega) (fun w1 hw1=>Row.own hva hw1)) (zE (v:=i6_ (xs.getD ((k:Int).toNat) 0)) Z (qY Z zU Z (fun w1 hw1=>Ints.cell (Row.own hva hw1) (by omega) (by omega))) (zE (v:=bo_ (a.inSet (xs.getD ((k:Int).toNat) 0))) Z (zT Z Tryd.call116 Z zL (fun w1 hw1=>l1Set_ok a (xs.getD ((k:Int).toNat) 0) w1 ha (by first | assumption | exact St.Els.at (by assumption) (by omega) (by omega)))) (zE (v:=str ((if a.inSet (xs.getD ((k:Int).toNat) 0) then [49] else [48]))) Z (zT Z Tryd.call35 Z zL (fun w1 hw1=>bitD_ok (a.inSet (xs.getD ((k:Int).toNat) 0)) w1 )) (zE Z (xK Z Z Z (by simp only [qS,pairBits_length,bit_len,bitS_length,qZ,qV];omega)) (zB 1 Z (zF (zC [1,2,5,6] [_,_,_,_] Z (zD (zA (zB 1 Z (zF (zC [1,2,5,6,7] [_,_,_,_,_] Z (qF (yQ (σ:=Nat) (fun j=>j≤k+1) (fun j=>[(1,va),(2,pt_ p2),(5,str ((bitsTo a xs k++bitS (a.inSet (xs.getD k 0)))++pairBits a xs k j)),(6,i6_ (k:Int)),(7,i6_ (j:Int))]) (fun j=>Own w.heap.size w [bk_ p2 #[i6_ a.n,str a.set,str a.rel] 24]) (fun j=>k+1 - j) (0) (by omega) (Sub.cons Z (Sub.cons Z (Sub.cons (by simp [pairBits,List.lookup];rfl) (Sub.sel [6,7] Z)))) (fun _ h=>h) ?_)))))))))))))))))))))))
  rintro j hj;refine zD (zD (zA (zB 3 Z (zF (zC [1,2,5,6,7,25] [_,_,_,_,_,_] Z (xJ Z (fun h25=>?_) (fun h25=>?_)))))))
  ·
   refine zV (zC [1,2,5,6,7] [_,_,_,_,_] Z ?_);refine zD (qF (Wk.regionD yB (fun _ h=>h.drawn) (by kernel_rfl) (zB 3 Z (zE (v:=.pointer (some (sAt va (k:Int)))) Z (qX Z zJ zM Z Z (by omega) (by rw [ints_length];omega) (fun w1 hw1=>Row.own hva hw1)) (zE (v:=i6_ (xs.getD ((k:Int).toNat) 0)) Z (qY Z zU Z (fun w1 hw1=>Ints.cell (Row.own hva hw1) (by omega) (by omega))) (zB 2 Z (zE (v:=.pointer (some (sAt va (j:Int)))) Z (qX Z zJ zM Z Z (by omega) (by rw [ints_length];omega) (fun w1 hw1=>Row.own hva hw1)) (zE (v:=i6_ (xs.getD ((j:Int).toNat) 0)) Z (qY Z zU Z (fun w1 hw1=>Ints.cell (Row.own hva hw1) (by omega) (by omega))) (zB 1 Z (zE (v:=str ((if decide ((xs.getD ((k:Int).toNat) 0)=(xs.getD ((j:Int).toNat) 0)) then [49] else [48]))) Z (zT Z Tryd.call35 Z zL (fun w1 hw1=>bitD_ok (decide ((xs.getD ((k:Int).toNat) 0)=(xs.getD ((j:Int).toNat) 0))) w1 )) (zE Z (xK Z Z Z (by simp only [qS,pairBits_length,bit_len,bitS_length,qZ,qV];omega)) (zE Z (zK (cs:=#[i6_ a.n,str a.set,str a.rel]) 0 Z zQ Z Z zN) (zB 2 Z (zE (v:=.pointer (some (sAt va (k:Int)))) Z (qX Z zJ zM Z Z (by omega) (by rw [ints_length];omega) (fun w1 hw1=>Row.own hva hw1)) (zE (v:=i6_ (xs.getD ((k:Int).toNat) 0)) Z (qY Z zU Z (fun w1 hw1=>Ints.cell (Row.own hva hw1) (by omega) (by omega))) (zB 2 Z (zE (v:=.pointer (some (sAt va (j:Int)))) Z (qX Z zJ zM Z Z (by omega) (by rw [ints_length];omega) (fun w1 hw1=>Row.own hva hw1)) (zE (v:=i6_ (xs.getD ((j:Int).toNat) 0)) Z (qY Z zU Z (fun w1 hw1=>Ints.cell (Row.own hva hw1) (by omega) (by omega))) (zE (v:=bo_ (a.inRel (xs.getD ((k:Int).toNat) 0) (xs.getD ((j:Int).toNat) 0))) Z (zT Z Tryd.call117 Z zL (fun w1 hw1=>l1Rel_ok a (xs.getD ((k:Int).toNat) 0) (xs.getD ((j:Int).toNat) 0) w1 ha (by first | assumption | exact St.Els.at (by assumption) (by omega) (by omega)) (by first | assumption | exact St.Els.at (by assumption) (by omega) (by omega)))) (zE (v:=str ((if a.inRel (xs.getD ((k:Int).toNat) 0) (xs.getD ((j:Int).toNat) 0) then [49] else [48]))) Z (zT Z Tryd.call35 Z zL (fun w1 hw1=>bitD_ok (a.inRel (xs.getD ((k:Int).toNat) 0) (xs.getD ((j:Int).toNat) 0)) w1 )) (zE Z (xK Z Z Z (by simp only [qS,pairBits_length,bit_len,bitS_length,qZ,qV];omega)) (zE Z (zK (cs:=#[i6_ a.n,str a.set,str a.rel]) 0 Z zQ Z Z zN) (zB 2 Z (zE (v:=.pointer (some (sAt va (j:Int)))) Z (qX Z zJ zM Z Z (by omega) (by rw [ints_length];omega) (fun w1 hw1=>Row.own hva hw1)) (zE (v:=i6_ (xs.getD ((j:Int).toNat) 0)) Z (qY Z zU Z (fun w1 hw1=>Ints.cell (Row.own hva hw1) (by omega) (by omega))) (zB 2 Z (zE (v:=.pointer (some (sAt va (k:Int)))) Z (qX Z zJ zM Z Z (by omega) (by rw [ints_length];omega) (fun w1 hw1=>Row.own hva hw1)) (zE (v:=i6_ (xs.getD ((k:Int).toNat) 0)) Z (qY Z zU Z (fun w1 hw1=>Ints.cell (Row.own hva hw1) (by omega) (by omega))) (zE (v:=bo_ (a.inRel (xs.getD ((j:Int).toNat) 0) (xs.getD ((k:Int).toNat) 0))) Z (zT Z Tryd.call117 Z zL (fun w1 hw1=>l1Rel_ok a (xs.getD ((j:Int).toNat) 0) (xs.getD ((k:Int).toNat) 0) w1 ha (by first | assumption | exact St.Els.at (by assumption) (by omega) (by omega)) (by first | assumption | exact St.Els.at (by assumption) (by omega) (by omega)))) (zE (v:=str ((if a.inRel (xs.getD ((j:Int).toNat) 0) (xs.getD ((k:Int).toNat) 0) then [49] else [48]))) Z (zT Z Tryd.call35 Z zL (fun w1 hw1=>bitD_ok (a.inRel (xs.getD ((j:Int).toNat) 0) (xs.getD ((k:Int).toNat) 0)) w1 )) (zE Z (xK Z Z Z (by simp only [qS,pairBits_length,bit_len,bitS_length,qZ,qV];omega)) (zB 1 Z (zF (zC [1,2,5,6,7] [_,_,_,_,_] Z (zA (zB 1 Z (zE Z (qQ Z Z Z (by omega) (by omega)) (zB 1 Z (zF (qU (j+1) (by omega) (by omega) (Sub.cons Z (Sub.cons Z (Sub.cons (by rw [pair_step];rfl) (Sub.sel [6,7] Z)))) (fun _ h=>h)))))))))))))))))))))))))))))))))))))))))
  refine yO Z (zC [1,2,5,6] [_,_,_,_] Z (zA (zB 1 Z (zE Z (qQ Z Z Z (by omega) (by omega)) (zB 1 Z (zF (qU (k+1) (by omega) (by omega) (Sub.cons Z (Sub.cons Z (Sub.cons (by rw [show j=k+1 from by omega];rfl) (Sub.sel [6] Z)))) (fun _ h=>h))))))))
 replace h11:=zH h11;refine yO Z (zC [5] [_] Z (zD (zA (zB 2 Z (zF (zC [4] [_] Z (zZ (qA Z Z fun w' hw=>?_))))))))
 exact ⟨ret_s (by rw [show k=xs.length from by omega];rfl),hw.below⟩
end Go.Proofs.YteccfipfimbdgaaDoor
namespace Go.Proofs.YteccfipfimbdgaaDoor
open Go.RowKit Go.Wk
set_option linter.unusedSimpArgs false
set_option maxHeartbeats 400000 in
theorem l15Dec_ok (x:Int) (w:World) (h0:0≤x) (h1:x<1000000000000) :
    Calls Tryd.prog 47 [i6_ x].toArray w fun en w'=>en=.returned (str (decS x.toNat))∧Below w.heap.size w w':=by
 refine fnStart (n:=31) (e:=[(0,i6_ x)]) Tryd.func47 Z Z Z Z Ends.both ?_
 have hdl:=decS_len x.toNat 12 (show x.toNat<1000000000000 by omega) (by decide);refine zD (zA (zE (v:=str ([])) Z (yG Z Z) (zF (zC [0] [_] Z (zD (zD (zA (zB 2 Z (zF (zC [0,5] [_,_] Z (qB (b:=decide (x<(-9223372036854775807:Int))) Z (fun h5=>?_) (fun h5=>?_))))))))))))
 ·
  replace h5:=zI h5
  omega
 replace h5:=zH h5;refine zV (zC [0] [_] Z (zD (zD (zA (zB 2 Z (zF (zC [0,7] [_,_] Z (qB (b:=decide (x<(0:Int))) Z (fun h7=>?_) (fun h7=>?_)))))))))
 ·
  replace h7:=zI h7
  omega
 replace h7:=zH h7;refine zV (zC [0] [_] Z (zD (zA (zE (v:=str ([])) Z (yG Z Z) (zF (zC [0,3] [_,_] Z (zD (qF (yQ (σ:=Nat×List UInt8) (fun ⟨n,o⟩=>decS x.toNat=decS n++o∧n≤x.toNat) (fun ⟨n,o⟩=>[(0,i6_ (n:Int)),(3,str o)]) (fun ⟨n,o⟩=>Own w.heap.size w []) (fun ⟨n,o⟩=>n) (x.toNat,[]) ⟨by simp,Nat.le_refl _⟩ (Sub.cons (by rw [Int.toNat_of_nonneg h0];rfl) (Sub.sel [3] Z)) (fun _ h=>h) ?_)))))))))
 rintro ⟨n,o⟩ ⟨ho,hn⟩
 dsimp only
 have hol:=dec_len ho hdl;refine zD (zD (zA (zB 2 Z (zF (zC [0,3,13] [_,_,_] Z (xJ Z (fun h13=>?_) (fun h13=>?_)))))))
 ·
  refine zV (zC [0,3] [_,_] Z (qF (zD (zW (qD 1 Z (qL (v:=i6_ ((n:Int) % (10:Int))) Z (OpQ.rem Z Z Z (by omega) (by decide)) (qL Z (qQ Z Z Z (by omega) (by omega)) (qL (v:=.int .u8 ((48:Int)+((n:Int) % (10:Int)))) Z (xC .u8 Z yS yI Z (IntWalk.u8_in _ (by omega))) (yM (xs:=[.tmp 17]) (vs:=[.int .u8 ((48:Int)+((n:Int) % (10:Int)))]) Base.elem22 Z Z Z Z Z Z (by decide) Z fun p18 hp18=>(qL (v:=str ([UInt8.ofNat (48+n % 10)])) Z (OpQ.byteStr (b:=UInt8.ofNat (48+n % 10)) 0 Z Tryd.underlying22 yI Tryd.underlying9 Z Z (by rw [toNat_dig (by omega)];omega)) (qD 1 Z (qL Z (xK Z Z Z (by first | omega | (simp only [qS,qZ,qV];omega))) (qD 1 Z (zS (zC [0,3] [_,_] Z (zA (zB 1 Z (zE (v:=i6_ ((n / 10:Nat):Int)) Z (qC (by simp) (OpQ.quo Z Z Z (by omega) (by omega) (by decide))) (zB 1 Z (zF (qU (n / 10,[UInt8.ofNat (48+n % 10)]++o) ⟨dec_step ho (by omega),by omega⟩ (by omega) (Sub.sel [0,3] Z) (fun _ h=>h.tail))))))))))))))))))))))
 refine yO Z (zC [0,3] [_,_] Z (zD (zW (qD 1 Z (qL Z (qQ Z Z Z (by omega) (by omega)) (qL (v:=.int .u8 ((48:Int)+(n:Int))) Z (xC .u8 Z yS yI Z (IntWalk.u8_in _ (by omega))) (yM (xs:=[.tmp 26]) (vs:=[.int .u8 ((48:Int)+(n:Int))]) Base.elem22 Z Z Z Z Z Z (by decide) Z fun p27 hp27=>(qL (v:=str ([UInt8.ofNat (48+n)])) Z (OpQ.byteStr (b:=UInt8.ofNat (48+n)) 0 Z Tryd.underlying22 yI Tryd.underlying9 Z Z (by rw [toNat_dig (by omega)];omega)) (qD 1 Z (qL Z (xK Z Z Z (by first | omega | (simp only [qS,qZ,qV];omega))) (qD 1 Z (zS (zC [2] [_] Z (zZ (qA Z Z fun w' hw=>?_)))))))))))))))
 exact ⟨ret_s (by rw [ho,decS,if_pos (by omega)]),hw.below⟩
set_option maxHeartbeats 400000 in
theorem l5Insert_ok (B:Nat) (w0:World) (hs:List (Nat×Obj)) (g cap:Nat) (cur:Array Value) (xs:List Int) (m:Int) (w:World) (hc:cur.size=cap*1) (hle:xs.length≤cap) (ht:cur.toList.take xs.length=ints xs) (hs1:xs.length≤1000) (hw:Own B w0 ((g,.cells cur 3 (0,0))::hs) w) :
    Calls Tryd.prog 148 [sl_ g xs.length cap,i6_ m].toArray w fun en w'=>∃ (g' cap':Nat) (cur':Array Value),en=.returned (.slice (some ⟨g',0,none⟩) (insS xs m).length cap')∧(cur'.size=cap'*1∧(insS xs m).length≤cap'∧cur'.toList.take (insS xs m).length=ints (insS xs m))∧Own B w0 ((g',.cells cur' 3 (0,0))::hs) w':=by
 refine fnStartC (Own B w0 ((g,.cells cur 3 (0,0))::hs)) (n:=41) (e:=[(0,sl_ g xs.length cap),(1,i6_ m)]) Tryd.func148 Z Z Z Z Ends.both hw (zD (zA (zB 1 Z (zF (zC [0,1] [_,_] Z (zD (zD (zA (zB 1 Z (zF (zC [0,1,5] [_,_,_] Z (qF (yQ (σ:=Nat) (fun k=>k≤xs.length∧∀ j:Nat,j<k→¬ xs.getD j 0=m∧¬ m<xs.getD j 0) (fun k=>[(0,sl_ g xs.length cap),(1,i6_ m),(5,i6_ (k:Int))]) (fun k=>Own B w0 (bk_ g cur 3::hs)) (fun k=>xs.length - k) (0) ⟨by omega,fun i hi=>absurd hi (by omega)⟩ (Sub.sel [0,1,5] Z) (fun _ h=>h) ?_)))))))))))))
 rintro k ⟨hk,hall⟩;refine zD (zD (zA (zB 2 Z (zE Z (yZ Z zJ Z) (zB 1 Z (zF (zC [0,1,5,9] [_,_,_,_] Z (qB (b:=decide ((k:Int)<(xs.length:Int))) Z (fun h9=>?_) (fun h9=>?_)))))))))
 ·
  replace h9:=zI h9
  have hk2:k<xs.length:=by omega
  refine zV (zC [0,1,5] [_,_,_] Z (zD (qF (zD (zD (zA (zB 2 Z (zE (v:=pf_ g k) Z (qC (by simp) (qH Z zJ zM Z Z (by omega) (by omega))) (zE (v:=i6_ (xs.getD (k) 0)) Z (yR 0 Z zU Z Z (cur_at ht (ints_at2 (by omega)))) (zB 2 Z (zF (zC [0,1,5,17] [_,_,_,_] Z (xJ Z (fun h17=>?_) (fun h17=>?_))))))))))))))
  ·
   refine zD (zA (zB 2 Z (zF (zC [4] [_] Z (zZ (qA Z Z fun w' hw=>?_))))))
   have e:=insS_at (n:=m) hk2 hall (by simpa using h17)
   exact ⟨g,cap,cur,by rw [e],⟨hc,by rw [e];exact hle,by rw [e];exact ht⟩,hw⟩
  refine zV (zC [0,1,5] [_,_,_] Z (zD (zA (zB 2 Z (zE (v:=pf_ g k) Z (qC (by simp) (qH Z zJ zM Z Z (by omega) (by omega))) (zE (v:=i6_ (xs.getD (k) 0)) Z (yR 0 Z zU Z Z (cur_at ht (ints_at2 (by omega)))) (zB 2 Z (zF (zC [0,1,5,24] [_,_,_,_] Z (xJ Z (fun h24=>?_) (fun h24=>?_)))))))))))
  ·
   refine zD (Wk.regionT (S:=Own B w0 [bk_ g cur 3]) (.take 1 (.take 2 (.take 3 (.take 5 (.take 8 (.take 9 (.take 10 (.two 0 (.two 4 (.one 6 (.one 7 (.one 11 (.take 12 .done)))) 6 (.one 4 (.one 7 (.one 11 (.take 12 .done))))) 6 (.one 0 (.one 4 (.one 7 (.one 11 (.take 12 .done))))))))))))) yB (fun _ h=>h.drawn) (by kernel_rfl) (Lt.run 2 Z (pk [0] Z Z) (xD (v:=sl_ g ((k:Int).toNat) cap) Z Z Z Z Z (OpQ.takeS (i:=(k:Int)) Z zJ zM Z Z (by omega) (by omega)) (pk [0] Z Z) (Lt.run 3 Z (pk [0] Z Z) (xD (v:=.slice (some ⟨g,(k:Int).toNat,none⟩) (xs.length - (k:Int).toNat) (cap - (k:Int).toNat)) Z Z Z Z Z (OpQ.dropS Z zJ zM Z Z (by omega) (by omega) (by omega)) (pk [0] Z Z) (Lt.two Z Z ?_ ?_))))))
   ·
    refine yM (xs:=[]) (vs:=[]) qE Z Z Z Z Z Z (by decide) Z fun p25 hp25=>(zS (yE (pk [1] Z Z) ?_));refine Lt.two Z Z ?_ ?_
    ·
     refine qW (xs:=[]) (ys:=(xs).take ((k:Int).toNat)) qE 0 Z Z Z Z Z Z Z Z (by decide) Z (fun w1 hw1=>(Own.rowTake hw1 (i:=1) Z ht (by omega) hle)) (((xs).take ((k:Int).toNat)).length) (by first | (simp;done) | (simp;omega)) (by first | (simp;done) | (simp;omega) | omega) fun p29 cap29 cur29 hp29 hcp29 hlp29 htp29=>?_
     show Ll _ _ (Own _ _ (_::_::hs)) _ _ ((29,sl_ p29 ((((xs).take ((k:Int).toNat)).length)) cap29)::_) _ _ _;refine zS (yE (pk [1] Z Z) ?_);refine yV Z (yM (xs:=[.tmp 30]) (vs:=[i6_ m]) qE Z Z Z Z Z Z (by decide) Z fun p31 hp31=>(zS (yE (pk [2] Z Z) ?_)));refine yV Z (qW (xs:=(xs).take ((k:Int).toNat)) (ys:=[m]) qE 1 Z Z Z Z Z Z Z hcp29 hlp29 (by simpa using htp29) (fun w1 hw1=>(qN hw1 (i:=0) Z (n:=1) (cap:=1) (vs:=ints [m]) Z Z (by decide))) ((((xs).take ((k:Int).toNat))++([m])).length) (by first | (simp;done) | (simp;omega)) (by first | (simp;done) | (simp;omega) | omega) fun p32 cap32 cur32 hp32 hcp32 hlp32 htp32=>?_)
     show Ll _ _ (Own _ _ (_::_::_::hs)) _ _ ((32,sl_ p32 (((((xs).take ((k:Int).toNat))++([m])).length)) cap32)::_) _ _ _;refine zS (yE (pk [2] Z Z) ?_);refine yV Z (qW (xs:=((xs).take ((k:Int).toNat))++([m])) (ys:=(xs).drop ((k:Int).toNat)) qE 1 Z Z Z Z Z Z Z hcp32 hlp32 (by simpa using htp32) (fun w1 hw1=>(Own.rowDrop hw1 (i:=2) Z ht (by omega) hle)) (((((xs).take ((k:Int).toNat))++([m]))++((xs).drop ((k:Int).toNat))).length) (by first | (simp;done) | (simp;omega)) (by first | (simp;done) | (simp;omega) | omega) fun p36 cap36 cur36 hp36 hcp36 hlp36 htp36=>?_)
     show Ll _ _ (Own _ _ (_::_::_::hs)) _ _ ((36,sl_ p36 ((((((xs).take ((k:Int).toNat))++([m]))++((xs).drop ((k:Int).toNat))).length)) cap36)::_) _ _ _;refine zS (yE (pk [2] Z Z) ?_);refine Lt.run 1 Z (pk [2] Z Z) (Lt.nil (zC [4] [_] Z (zZ (qA Z Z fun w' hw=>?_))))
     have e:=insS_mid (n:=m) hk2 hall (by simpa using h24)
     simp only [Int.toNat_natCast,Nat.mul_one] at *
     exact ⟨p36,cap36,cur36,by rw [e],⟨by simpa using hcp36,by rw [e];exact hlp36,by rw [e];exact htp36⟩,hw.sub (qG _ (zY _ (qG _ (yF _))))⟩
    refine yM (xs:=[.tmp 30]) (vs:=[i6_ m]) qE Z Z Z Z Z Z (by decide) Z fun p31_1 hp31_1=>(zS (yE (pk [2] Z Z) ?_));refine yV Z (qW (xs:=[]) (ys:=(xs).take ((k:Int).toNat)) qE 1 Z Z Z Z Z Z Z Z (by decide) Z (fun w1 hw1=>(Own.rowTake hw1 (i:=2) Z ht (by omega) hle)) (((xs).take ((k:Int).toNat)).length) (by first | (simp;done) | (simp;omega)) (by first | (simp;done) | (simp;omega) | omega) fun p29_1 cap29_1 cur29_1 hp29_1 hcp29_1 hlp29_1 htp29_1=>?_)
    show Ll _ _ (Own _ _ (_::_::_::hs)) _ _ ((29,sl_ p29_1 ((((xs).take ((k:Int).toNat)).length)) cap29_1)::_) _ _ _;refine zS (yE (pk [2] Z Z) ?_);refine yV Z (qW (xs:=(xs).take ((k:Int).toNat)) (ys:=[m]) qE 1 Z Z Z Z Z Z Z hcp29_1 hlp29_1 (by simpa using htp29_1) (fun w1 hw1=>(qN hw1 (i:=0) Z (n:=1) (cap:=1) (vs:=ints [m]) Z Z (by decide))) ((((xs).take ((k:Int).toNat))++([m])).length) (by first | (simp;done) | (simp;omega)) (by first | (simp;done) | (simp;omega) | omega) fun p32_1 cap32_1 cur32_1 hp32_1 hcp32_1 hlp32_1 htp32_1=>?_)
    show Ll _ _ (Own _ _ (_::_::_::hs)) _ _ ((32,sl_ p32_1 (((((xs).take ((k:Int).toNat))++([m])).length)) cap32_1)::_) _ _ _;refine zS (yE (pk [2] Z Z) ?_);refine yV Z (qW (xs:=((xs).take ((k:Int).toNat))++([m])) (ys:=(xs).drop ((k:Int).toNat)) qE 1 Z Z Z Z Z Z Z hcp32_1 hlp32_1 (by simpa using htp32_1) (fun w1 hw1=>(Own.rowDrop hw1 (i:=2) Z ht (by omega) hle)) (((((xs).take ((k:Int).toNat))++([m]))++((xs).drop ((k:Int).toNat))).length) (by first | (simp;done) | (simp;omega)) (by first | (simp;done) | (simp;omega) | omega) fun p36_1 cap36_1 cur36_1 hp36_1 hcp36_1 hlp36_1 htp36_1=>?_)
    show Ll _ _ (Own _ _ (_::_::_::hs)) _ _ ((36,sl_ p36_1 ((((((xs).take ((k:Int).toNat))++([m]))++((xs).drop ((k:Int).toNat))).length)) cap36_1)::_) _ _ _;refine zS (yE (pk [2] Z Z) ?_);refine Lt.run 1 Z (pk [2] Z Z) (Lt.nil (zC [4] [_] Z (zZ (qA Z Z fun w' hw=>?_))))
    have e:=insS_mid (n:=m) hk2 hall (by simpa using h24)
    simp only [Int.toNat_natCast,Nat.mul_one] at *
    exact ⟨p36_1,cap36_1,cur36_1,by rw [e],⟨by simpa using hcp36_1,by rw [e];exact hlp36_1,by rw [e];exact htp36_1⟩,hw.sub (qG _ (zY _ (qG _ (yF _))))⟩
   refine yM (xs:=[.tmp 30]) (vs:=[i6_ m]) qE Z Z Z Z Z Z (by decide) Z fun p31_2 hp31_2=>(zS (yE (pk [1] Z Z) ?_));refine yV Z (yM (xs:=[]) (vs:=[]) qE Z Z Z Z Z Z (by decide) Z fun p25_1 hp25_1=>(zS (yE (pk [2] Z Z) ?_)));refine yV Z (qW (xs:=[]) (ys:=(xs).take ((k:Int).toNat)) qE 0 Z Z Z Z Z Z Z Z (by decide) Z (fun w1 hw1=>(Own.rowTake hw1 (i:=2) Z ht (by omega) hle)) (((xs).take ((k:Int).toNat)).length) (by first | (simp;done) | (simp;omega)) (by first | (simp;done) | (simp;omega) | omega) fun p29_2 cap29_2 cur29_2 hp29_2 hcp29_2 hlp29_2 htp29_2=>?_)
   show Ll _ _ (Own _ _ (_::_::_::hs)) _ _ ((29,sl_ p29_2 ((((xs).take ((k:Int).toNat)).length)) cap29_2)::_) _ _ _;refine zS (yE (pk [2] Z Z) ?_);refine yV Z (qW (xs:=(xs).take ((k:Int).toNat)) (ys:=[m]) qE 0 Z Z Z Z Z Z Z hcp29_2 hlp29_2 (by simpa using htp29_2) (fun w1 hw1=>(qN hw1 (i:=1) Z (n:=1) (cap:=1) (vs:=ints [m]) Z Z (by decide))) ((((xs).take ((k:Int).toNat))++([m])).length) (by first | (simp;done) | (simp;omega)) (by first | (simp;done) | (simp;omega) | omega) fun p32_2 cap32_2 cur32_2 hp32_2 hcp32_2 hlp32_2 htp32_2=>?_)
   show Ll _ _ (Own _ _ (_::_::_::hs)) _ _ ((32,sl_ p32_2 (((((xs).take ((k:Int).toNat))++([m])).length)) cap32_2)::_) _ _ _;refine zS (yE (pk [2] Z Z) ?_);refine yV Z (qW (xs:=((xs).take ((k:Int).toNat))++([m])) (ys:=(xs).drop ((k:Int).toNat)) qE 0 Z Z Z Z Z Z Z hcp32_2 hlp32_2 (by simpa using htp32_2) (fun w1 hw1=>(Own.rowDrop hw1 (i:=2) Z ht (by omega) hle)) (((((xs).take ((k:Int).toNat))++([m]))++((xs).drop ((k:Int).toNat))).length) (by first | (simp;done) | (simp;omega)) (by first | (simp;done) | (simp;omega) | omega) fun p36_2 cap36_2 cur36_2 hp36_2 hcp36_2 hlp36_2 htp36_2=>?_)
   show Ll _ _ (Own _ _ (_::_::_::hs)) _ _ ((36,sl_ p36_2 ((((((xs).take ((k:Int).toNat))++([m]))++((xs).drop ((k:Int).toNat))).length)) cap36_2)::_) _ _ _;refine zS (yE (pk [2] Z Z) ?_);refine Lt.run 1 Z (pk [2] Z Z) (Lt.nil (zC [4] [_] Z (zZ (qA Z Z fun w' hw=>?_))))
   have e:=insS_mid (n:=m) hk2 hall (by simpa using h24)
   simp only [Int.toNat_natCast,Nat.mul_one] at *
   exact ⟨p36_2,cap36_2,cur36_2,by rw [e],⟨by simpa using hcp36_2,by rw [e];exact hlp36_2,by rw [e];exact htp36_2⟩,hw.sub (zY _ (qG _ (qG _ (yF _))))⟩
  refine zV (zC [0,1,5] [_,_,_] Z (zA (zB 1 Z (zE Z (qQ Z Z Z (by omega) (by omega)) (zB 1 Z (zF (qU (k+1) ⟨by omega,fun i hi=>(Nat.lt_succ_iff_lt_or_eq.1 hi).elim (hall i) (fun e=>by subst e;exact ⟨by simpa using h17,by simpa using h24⟩)⟩ (by omega) (Sub.sel [0,1,5] Z) (fun _ h=>h))))))))
 replace h9:=zH h9;refine yO Z (zC [0,1] [_,_] Z (zD (zW (qD 2 Z (yM (xs:=[.tmp 38]) (vs:=[i6_ m]) qE Z Z Z Z Z Z (by decide) Z fun p39 hp39=>(qW (xs:=xs) (ys:=[m]) qE 1 Z Z Z Z Z Z Z hc hle ht (fun w1 hw1=>(qN hw1 (i:=0) Z (n:=1) (cap:=1) (vs:=ints [m]) Z Z (by decide))) ((xs++([m])).length) (by first | (simp;done) | (simp;omega)) (by first | (simp;done) | (simp;omega) | omega) fun p40 cap40 cur40 hp40 hcp40 hlp40 htp40=>?_))))))
 show Ll _ _ (Own _ _ (_::_::hs)) _ _ ((40,sl_ p40 (((xs++([m])).length)) cap40)::_) _ _ _;refine qD 1 Z (zS (zC [4] [_] Z (zZ (qA Z Z fun w' hw=>?_))))
 have e:=insS_end (l:=xs) (n:=m) (fun j hj=>hall j (by omega))
 simp only [Int.toNat_natCast,Nat.mul_one] at *
 exact ⟨p40,cap40,cur40,by rw [e],⟨by simpa using hcp40,by rw [e];exact hlp40,by rw [e];exact htp40⟩,hw.sub (qG _ (zY _ (yF _)))⟩
set_option maxHeartbeats 400000 in
theorem l5New_ok (B:Nat) (w0:World) (hs:List (Nat×Obj)) (w:World) (hw:Own B w0 hs w) :
    Calls Tryd.prog 90 [].toArray w fun en w'=>∃ q c:Nat,en=.returned (.agg #[.slice (some ⟨q,0,none⟩) 997 997,.slice (some ⟨c,0,none⟩) 1 1])∧Own B w0 (tabL 182 3 184 q c (List.replicate 997 none) []++hs) w':=by
 refine fnStartC (Own B w0 hs) (n:=4) (e:=[]) Tryd.func90 Z Z Z Z Ends.both hw (zD (zW (Ll.alloc Z Z Z Z Tryd.zeroValue112 fun p0 hp0=>?_)))
 show Ll _ _ (Own _ _ (bk_ p0 #[.slice none 0 0,.slice none 0 0] 112::hs)) _ _ ((0,pt_ p0)::_) _ _ _;refine zS (zC [0] [_] Z (zD (zW (Ll.make (k:=997) Base.elem110 Tryd.zeroValue182 Z Z Z Z Z (by omega) fun p1 hp1=>?_))))
 rw [show madeCells (Value.cells (.slice none 0 0)) (997*1)=(List.replicate 997 (.slice none 0 0)).toArray from made_list _ _ rfl];refine yM (xs:=[.const (i6_ 0)]) (vs:=[i6_ 0]) qE Z Z Z Z Z Z (by decide) Z fun p2 hp2=>(qL (v:=.agg #[sl_ p1 997 997,sl_ p2 1 1]) Z (OpQ.build (xs:=[.tmp 1,.tmp 2]) (vs:=[sl_ p1 997 997,sl_ p2 1 1]) Z Z (by kernel_rfl)) (Ll.storeBox (cs':=#[sl_ p1 997 997,sl_ p2 1 1]) (hs':=(_::_::bk_ p0 #[sl_ p1 997 997,sl_ p2 1 1] 112::hs)) 2 Z Z Z Z Z (by kernel_rfl:_=some Tryd.t112) Z Z Z Z Z (zS (zC [0] [_] Z (zZ (Kt.endBox (cs:=#[sl_ p1 997 997,sl_ p2 1 1]) 2 Z Z Z Tryd.isAgg112 Tryd.sizeOf112 fun w' hw=>?_))))));refine ⟨p1,p2,rfl,?_⟩
 show Own B w0 (_::_::(blks _ _++hs)) w'
 rw [blks_new,← new_bkts]
 exact (hw.perm (List.Perm.swap _ _ _)).sub (zY _ (zY _ (qG _ (yF _))))
set_option maxHeartbeats 400000 in
theorem number_nil (B:Nat) (w0:World) (hs:List (Nat×Obj)) (q c:Nat) (bs:List Bkt) (T:List (List UInt8)) (s:List UInt8) (w:World) (hT:TabOk bs T) (hlT:T.length≤1000000) (hls:s.length≤1000) (hb:bs.getD (hashS s) none=none) (hw:Own B w0 (bk_ q ((bs.map bktV).toArray) 182::bk_ c #[i6_ (T.length:Int)] 3::hs) w) :
    Calls Tryd.prog 123 [.agg #[sl_ q 997 997,sl_ c 1 1],str s].toArray w fun en w'=>en=.returned (.int .i64 (T.length:Int))∧s ∉ T∧∃ (g' cap':Nat) (cur':Array Value),cur'.size=cap'*2∧1≤cap'∧cur'.toList.take (1*2)=entC (s,T.length)∧Own B w0 ((g',.cells cur' 184 (0,0))::(q,.cells ((bs.set (hashS s) (some (g',1,cap',cur'))).map bktV).toArray 182 (0,0))::(c,.cells #[.int .i64 ((T.length:Int)+1)] 3 (0,0))::hs) w':=by
 refine fnStartC (Own B w0 (bk_ q ((bs.map bktV).toArray) 182::bk_ c #[i6_ (T.length:Int)] 3::hs)) (n:=77) (e:=[(0,.agg #[sl_ q 997 997,sl_ c 1 1]),(1,str s)]) Tryd.func123 Z Z Z Z Ends.both hw ?_
 have h997:=hash_lt s
 have hkl:hashS s<bs.length:=by rw [hT.len];exact h997
 have hE:=hT.no _ h997 hb
 have hEl:(ents T (hashS s)).length=0:=by rw [hE];rfl
 refine zD (zW (yD (v:=.agg #[sl_ q 997 997,sl_ c 1 1]) Z Z Z Z Z fun p2 hp2=>?_))
 show Ll _ _ (Own _ _ (_::_::_::hs)) _ _ ((2,pt_ p2)::_) _ _ _;refine qD 1 Z (zS (zC [1,2] [_,_] Z (zD (zA (zB 1 Z (zF (zC [1,2,5] [_,_,_] Z (zD (zD (zA (zB 1 Z (zF (zC [1,2,5,6] [_,_,_,_] Z (qF (yQ (σ:=Nat) (fun k=>k≤s.length) (fun k=>[(1,str s),(2,pt_ p2),(5,i6_ (((hashS (s.take k):Nat):Int))),(6,i6_ (k:Int))]) (fun k=>Own B w0 (bk_ p2 #[sl_ q 997 997,sl_ c 1 1] 112::bk_ q ((bs.map bktV).toArray) 182::bk_ c #[i6_ (T.length:Int)] 3::hs)) (fun k=>s.length - k) (0) (by omega) (Sub.cons Z (Sub.cons Z (Sub.cons Z (Sub.sel [6] Z)))) (fun _ h=>h) ?_)))))))))))))))
 rintro k hk;refine zD (zD (zA (zB 2 Z (zE (v:=i6_ (s.length:Int)) Z (yX Z zO Z) (zB 1 Z (zF (zC [1,2,5,6,12] [_,_,_,_,_] Z (qB (b:=decide ((k:Int)<(s.length:Int))) Z (fun h12=>?_) (fun h12=>?_)))))))))
 ·
  replace h12:=zI h12
  have hk2:k<s.length:=by omega
  have hkh:=hash_lt (s.take k)
  have hby:=UInt8.toNat_lt (s.getD k 0);refine zV (zC [1,2,5,6] [_,_,_,_] Z (zD (qF (zA (zB 1 Z (zE Z (OpQ.mul Z Z Z (by omega) (by omega)) (zB 2 Z (zE (v:=.int .u8 (((s.getD ((k:Int).toNat) 0).toNat:Int))) Z (qI Z zO Z Z (by omega) (by omega)) (zE (v:=i6_ (((s.getD ((k:Int).toNat) 0).toNat:Int))) Z (xC .i64 Z yI yS Z (IntWalk.i64_in _ (by have:=UInt8.toNat_lt (s.getD ((k:Int).toNat) 0);omega))) (zE Z (qQ Z Z Z (by simp only [Int.toNat_natCast];omega) (by simp only [Int.toNat_natCast];omega)) (zE (v:=i6_ (((hashS (s.take (k+1)):Nat):Int))) Z (qC (by rw [Wk.hash_step hk2];simp) (OpQ.rem Z Z Z (by omega) (by decide))) (zB 1 Z (zF (zC [1,2,5,6] [_,_,_,_] Z (zA (zB 1 Z (zE Z (qQ Z Z Z (by omega) (by omega)) (zB 1 Z (zF (qU (k+1) (by omega) (by omega) (Sub.sel [1,2,5,6] Z) (fun _ h=>h)))))))))))))))))))))
 replace h12:=zH h12
 obtain rfl:k=s.length:=by omega
 rw [List.take_length];refine yO Z (zC [1,2,5] [_,_,_] Z (zD (zD (zA (zB 1 Z (zF (zC [1,2,5,7] [_,_,_,_] Z (qF (yQ (σ:=Nat) (fun j=>j≤0∧∀ i:Nat,i<j→¬ ((ents T (hashS s)).getD i ([],0)).1=s) (fun j=>[(1,str s),(2,pt_ p2),(5,i6_ ((hashS s:Nat):Int)),(7,i6_ (j:Int))]) (fun j=>Own B w0 (bk_ p2 #[sl_ q 997 997,sl_ c 1 1] 112::bk_ q ((bs.map bktV).toArray) 182::bk_ c #[i6_ (T.length:Int)] 3::hs)) (fun j=>0 - j) (0) ⟨by omega,fun i hi=>absurd hi (by omega)⟩ (Sub.sel [1,2,5,7] Z) (fun _ h=>h) ?_)))))))))
 rintro j ⟨hj0,hall⟩;refine zD (zD (zA (zB 1 Z (zE Z (zR Z qR Z xA Z Z) (zE Z (zX 0 Z xF Z Z Z) (zB 1 Z (zE (v:=pf_ q (hashS s)) Z (qC (by simp) (qH Z yC yJ Z Z (by omega) (by omega))) (zE (v:=.slice none 0 0) Z (yR (v:=.slice none 0 0) 1 Z xG Z Z (bkt_at (b:=none) hkl hb)) (zE Z (yZ Z Tryd.runUnderlying182 Z) (zB 1 Z (zF (zC [1,2,5,7,30] [_,_,_,_,_] Z (qB (b:=decide ((j:Int)<(0:Int))) Z (fun h30=>?_) (fun h30=>?_))))))))))))))
 ·
  replace h30:=zI h30
  omega
 replace h30:=zH h30;refine yO Z (zC [1,2,5] [_,_,_] Z (zD (zA (zE Z (zR Z qR Z Tryd.sizeOf30 Z Z) (zE Z (zX 0 Z Tryd.isAgg30 Z Z Z) (zE (v:=pt_ c) Z (qC Z (qH (i:=0) Z zJ zM Z Z (by decide) (by decide))) (zE Z (zX 2 Z zU Z Z Z) (zB 1 Z (zF (zC [1,2,5,8] [_,_,_,_] Z (zD (zW (qL Z (zR Z qR Z Tryd.sizeOf30 Z Z) (qL Z (zX 0 Z Tryd.isAgg30 Z Z Z) (qD 1 Z (qL Z (qQ Z Z Z (by omega) (by omega)) (qL (v:=pt_ c) Z (qC Z (qH (i:=0) Z zJ zM Z Z (by decide) (by decide))) (Ll.store1 (v:=i6_ ((T.length:Int)+(1:Int))) (hs':=(_::_::bk_ c #[i6_ ((T.length:Int)+(1:Int))] 3::hs)) 2 Z Z Z Z Z Z zM Z (by simp) Z (zS (zC [1,2,5,8] [_,_,_,_] Z (zD (Wk.regionT (S:=Own B w0 [bk_ p2 #[sl_ q 997 997,sl_ c 1 1] 112,bk_ c #[i6_ ((T.length:Int)+(1:Int))] 3]) (.take 0 (.take 1 (.take 2 (.take 3 (.take 4 (.take 5 (.take 6 (.take 8 (.take 9 (.take 10 (.two 7 (.one 11 (.one 12 (.take 13 (.one 14 .done)))) 11 (.one 7 (.one 12 (.take 13 (.one 14 .done))))))))))))))) yB (fun _ h=>h.drawn) (by kernel_rfl) (xD Z Z Z Z Z (zR Z qR Z xA Z Z) (pk [0,2] Z Z) (xD Z Z Z Z Z (zX 0 Z xF Z Z Z) (pk [0,2] Z Z) (Lt.run 1 Z (pk [0,2] Z Z) (xD Z Z Z Z Z (zR Z qR Z xA Z Z) (pk [0,2] Z Z) (xD Z Z Z Z Z (zX 0 Z xF Z Z Z) (pk [0,2] Z Z) (Lt.run 1 Z (pk [0,2] Z Z) (xD (v:=pf_ q (hashS s)) Z Z Z Z Z (qC (by simp) (qH Z yC yJ Z Z (by omega) (by omega))) (pk [0,2] Z Z) (Lt.run 2 Z (pk [0,2] Z Z) (xD (v:=.agg #[str s,i6_ (T.length:Int)]) Z Z Z Z Z (OpQ.build (xs:=[.tmp 70,.tmp 71]) (vs:=[str s,i6_ (T.length:Int)]) Z Z (by kernel_rfl)) (pk [0,2] Z Z) (Lt.two Z Z ?_ ?_))))))))))))))))))))))))))))))))
 ·
  refine qL (v:=.slice none 0 0) Z (yR (v:=.slice none 0 0) 1 Z xG Z Z (bkt_at (b:=none) hkl hb)) (zS (yE (pk [0,2] Z Z) ?_));refine yV Z (Ll.slice2 xI Z Z Z Z Z fun p73 hp73=>(zS (yE (pk [1,3] Z Z) ?_)));refine yV Z (Ll.appendNil xI (entC (s,T.length)) Z Z Z Z Z Z (by decide) (by simp) Z (fun w1 hw1 ad had j u hj=>by injection had with had;subst had;rw [Addr.add_lit,Nat.zero_add,hw1.cell (i:=0) rfl];simpa [entC] using hj) (by decide) fun g2 cap2 cur2 hg2 hcg2 hlg2 htg2=>?_)
  show Ll _ _ (Own _ _ (_::_::_::_::_::hs)) _ _ ((74,sl_ g2 1 cap2)::_) _ _ _;refine zS (yE (pk [2,4] Z Z) ?_);refine xD (v:=pf_ q (hashS s)) Z Z Z Z Z (qC (by simp) (qH Z yC yJ Z Z (by omega) (by omega))) (pk [2,4] Z Z) (yV Z (Ll.store1 (v:=sl_ g2 1 cap2) (hs':=(_::_::_::bk_ q (((bs.set (hashS s) (some (g2,1,cap2,cur2))).map bktV).toArray) 182::_::hs)) 3 Z Z Z Z Z Z yJ Z (by simpa using hkl) (by rw [← set_bkt];rfl) (zS (yE (pk [2,4] Z Z) ?_))));refine Lt.nil (zC [8] [_] Z (zD (zA (zB 2 Z (zF (zC [4] [_] Z (zZ (qA Z Z fun w' hw=>?_))))))))
  exact ⟨rfl,ents_not (fun e he=>by obtain ⟨i,hi,rfl⟩:=List.mem_iff_getElem.1 he;have:=hall i (by omega);rwa [getD_at hi] at this),g2,cap2,cur2,hcg2,hlg2,htg2,hw.sub (zY _ (qG _ (qG _ (zY _ (zY _ (yF _))))))⟩
 refine Ll.slice2 xI Z Z Z Z Z fun p73_1 hp73_1=>(zS (yE (pk [1,3] Z Z) ?_));refine yV Z (qL (v:=.slice none 0 0) Z (yR (v:=.slice none 0 0) 2 Z xG Z Z (bkt_at (b:=none) hkl hb)) (zS (yE (pk [1,3] Z Z) ?_)));refine yV Z (Ll.appendNil xI (entC (s,T.length)) Z Z Z Z Z Z (by decide) (by simp) Z (fun w1 hw1 ad had j u hj=>by injection had with had;subst had;rw [Addr.add_lit,Nat.zero_add,hw1.cell (i:=0) rfl];simpa [entC] using hj) (by decide) fun g2_1 cap2_1 cur2_1 hg2_1 hcg2_1 hlg2_1 htg2_1=>?_)
 show Ll _ _ (Own _ _ (_::_::_::_::_::hs)) _ _ ((74,sl_ g2_1 1 cap2_1)::_) _ _ _;refine zS (yE (pk [2,4] Z Z) ?_);refine xD (v:=pf_ q (hashS s)) Z Z Z Z Z (qC (by simp) (qH Z yC yJ Z Z (by omega) (by omega))) (pk [2,4] Z Z) (yV Z (Ll.store1 (v:=sl_ g2_1 1 cap2_1) (hs':=(_::_::_::bk_ q (((bs.set (hashS s) (some (g2_1,1,cap2_1,cur2_1))).map bktV).toArray) 182::_::hs)) 3 Z Z Z Z Z Z yJ Z (by simpa using hkl) (by rw [← set_bkt];rfl) (zS (yE (pk [2,4] Z Z) ?_))));refine Lt.nil (zC [8] [_] Z (zD (zA (zB 2 Z (zF (zC [4] [_] Z (zZ (qA Z Z fun w' hw=>?_))))))))
 exact ⟨rfl,ents_not (fun e he=>by obtain ⟨i,hi,rfl⟩:=List.mem_iff_getElem.1 he;have:=hall i (by omega);rwa [getD_at hi] at this),g2_1,cap2_1,cur2_1,hcg2_1,hlg2_1,htg2_1,hw.sub (zY _ (qG _ (qG _ (zY _ (zY _ (yF _))))))⟩
set_option maxHeartbeats 400000 in
theorem number_some (B:Nat) (w0:World) (hs:List (Nat×Obj)) (q c:Nat) (bs:List Bkt) (T:List (List UInt8)) (s:List UInt8) (w:World) (hT:TabOk bs T) (hlT:T.length≤1000000) (hls:s.length≤1000) (g m cap:Nat) (cur:Array Value) (hb:bs.getD (hashS s) none=some (g,m,cap,cur)) (hw:Own B w0 (bk_ g cur 184::bk_ q ((bs.map bktV).toArray) 182::bk_ c #[i6_ (T.length:Int)] 3::hs) w) :
    Calls Tryd.prog 123 [.agg #[sl_ q 997 997,sl_ c 1 1],str s].toArray w fun en w'=>(∃ n:Nat,en=.returned (.int .i64 (n:Int))∧T[n]?=some s∧Own B w0 (bk_ g cur 184::bk_ q ((bs.map bktV).toArray) 182::bk_ c #[i6_ (T.length:Int)] 3::hs) w')∨(en=.returned (.int .i64 (T.length:Int))∧s ∉ T∧∃ (g' cap':Nat) (cur':Array Value),cur'.size=cap'*2∧m+1≤cap'∧cur'.toList.take ((m+1)*2)=flatE (ents T (hashS s))++entC (s,T.length)∧Own B w0 ((g',.cells cur' 184 (0,0))::(q,.cells ((bs.set (hashS s) (some (g',m+1,cap',cur'))).map bktV).toArray 182 (0,0))::(c,.cells #[.int .i64 ((T.length:Int)+1)] 3 (0,0))::hs) w'):=by
 refine fnStartC (Own B w0 (bk_ g cur 184::bk_ q ((bs.map bktV).toArray) 182::bk_ c #[i6_ (T.length:Int)] 3::hs)) (n:=77) (e:=[(0,.agg #[sl_ q 997 997,sl_ c 1 1]),(1,str s)]) Tryd.func123 Z Z Z Z Ends.both hw ?_
 have h997:=hash_lt s
 have hkl:hashS s<bs.length:=by rw [hT.len];exact h997
 obtain ⟨hm,hc,hle,ht⟩:=hT.yes _ h997 _ _ _ _ hb
 have hmT:=ents_le T (hashS s);refine zD (zW (yD (v:=.agg #[sl_ q 997 997,sl_ c 1 1]) Z Z Z Z Z fun p2 hp2=>?_))
 show Ll _ _ (Own _ _ (_::_::_::_::hs)) _ _ ((2,pt_ p2)::_) _ _ _;refine qD 1 Z (zS (zC [1,2] [_,_] Z (zD (zA (zB 1 Z (zF (zC [1,2,5] [_,_,_] Z (zD (zD (zA (zB 1 Z (zF (zC [1,2,5,6] [_,_,_,_] Z (qF (yQ (σ:=Nat) (fun k=>k≤s.length) (fun k=>[(1,str s),(2,pt_ p2),(5,i6_ (((hashS (s.take k):Nat):Int))),(6,i6_ (k:Int))]) (fun k=>Own B w0 (bk_ p2 #[sl_ q 997 997,sl_ c 1 1] 112::bk_ g cur 184::bk_ q ((bs.map bktV).toArray) 182::bk_ c #[i6_ (T.length:Int)] 3::hs)) (fun k=>s.length - k) (0) (by omega) (Sub.cons Z (Sub.cons Z (Sub.cons Z (Sub.sel [6] Z)))) (fun _ h=>h) ?_)))))))))))))))
 rintro k hk;refine zD (zD (zA (zB 2 Z (zE (v:=i6_ (s.length:Int)) Z (yX Z zO Z) (zB 1 Z (zF (zC [1,2,5,6,12] [_,_,_,_,_] Z (qB (b:=decide ((k:Int)<(s.length:Int))) Z (fun h12=>?_) (fun h12=>?_)))))))))
 ·
  replace h12:=zI h12
  have hk2:k<s.length:=by omega
  have hkh:=hash_lt (s.take k)
  have hby:=UInt8.toNat_lt (s.getD k 0);refine zV (zC [1,2,5,6] [_,_,_,_] Z (zD (qF (zA (zB 1 Z (zE Z (OpQ.mul Z Z Z (by omega) (by omega)) (zB 2 Z (zE (v:=.int .u8 (((s.getD ((k:Int).toNat) 0).toNat:Int))) Z (qI Z zO Z Z (by omega) (by omega)) (zE (v:=i6_ (((s.getD ((k:Int).toNat) 0).toNat:Int))) Z (xC .i64 Z yI yS Z (IntWalk.i64_in _ (by have:=UInt8.toNat_lt (s.getD ((k:Int).toNat) 0);omega))) (zE Z (qQ Z Z Z (by simp only [Int.toNat_natCast];omega) (by simp only [Int.toNat_natCast];omega)) (zE (v:=i6_ (((hashS (s.take (k+1)):Nat):Int))) Z (qC (by rw [Wk.hash_step hk2];simp) (OpQ.rem Z Z Z (by omega) (by decide))) (zB 1 Z (zF (zC [1,2,5,6] [_,_,_,_] Z (zA (zB 1 Z (zE Z (qQ Z Z Z (by omega) (by omega)) (zB 1 Z (zF (qU (k+1) (by omega) (by omega) (Sub.sel [1,2,5,6] Z) (fun _ h=>h)))))))))))))))))))))
 replace h12:=zH h12
 obtain rfl:k=s.length:=by omega
 rw [List.take_length];refine yO Z (zC [1,2,5] [_,_,_] Z (zD (zD (zA (zB 1 Z (zF (zC [1,2,5,7] [_,_,_,_] Z (qF (yQ (σ:=Nat) (fun j=>j≤m∧∀ i:Nat,i<j→¬ ((ents T (hashS s)).getD i ([],0)).1=s) (fun j=>[(1,str s),(2,pt_ p2),(5,i6_ ((hashS s:Nat):Int)),(7,i6_ (j:Int))]) (fun j=>Own B w0 (bk_ p2 #[sl_ q 997 997,sl_ c 1 1] 112::bk_ g cur 184::bk_ q ((bs.map bktV).toArray) 182::bk_ c #[i6_ (T.length:Int)] 3::hs)) (fun j=>m - j) (0) ⟨by omega,fun i hi=>absurd hi (by omega)⟩ (Sub.sel [1,2,5,7] Z) (fun _ h=>h) ?_)))))))))
 rintro j ⟨hj0,hall⟩;refine zD (zD (zA (zB 1 Z (zE Z (zR Z qR Z xA Z Z) (zE Z (zX 0 Z xF Z Z Z) (zB 1 Z (zE (v:=pf_ q (hashS s)) Z (qC (by simp) (qH Z yC yJ Z Z (by omega) (by omega))) (zE (v:=sl_ g m cap) Z (yR (v:=sl_ g m cap) 2 Z xG Z Z (bkt_at (b:=some (g,m,cap,cur)) hkl hb)) (zE Z (yZ Z Tryd.runUnderlying182 Z) (zB 1 Z (zF (zC [1,2,5,7,30] [_,_,_,_,_] Z (qB (b:=decide ((j:Int)<(m:Int))) Z (fun h30=>?_) (fun h30=>?_))))))))))))))
 ·
  replace h30:=zI h30
  have hj:j<m:=by omega
  refine zV (zC [1,2,5,7] [_,_,_,_] Z (zD (qF (zD (zA (zE Z (zR Z qR Z xA Z Z) (zE Z (zX 0 Z xF Z Z Z) (zB 1 Z (zE (v:=pf_ q (hashS s)) Z (qC (by simp) (qH Z yC yJ Z Z (by omega) (by omega))) (zE (v:=sl_ g m cap) Z (yR (v:=sl_ g m cap) 2 Z xG Z Z (bkt_at (b:=some (g,m,cap,cur)) hkl hb)) (zB 1 Z (zE (v:=pf_ g (j*2)) Z (qC (v':=pf_ g (j*2)) (by simp) (OpQ.indexAddr (i:=(j:Int)) Z Tryd.runUnderlying182 Tryd.sizeOf184 Z Z (by omega) (by omega))) (zE Z (zR Z Tryd.runUnderlying184 Z qT Z Z) (zE (v:=str (((ents T (hashS s)).getD j ([],0)).1)) Z (yR (v:=str (((ents T (hashS s)).getD j ([],0)).1)) 1 Z yK Z Z (ent_at ht hm hj).1) (zB 1 Z (zE Z (OpQ.seql Z Z Z) (zF (zC [1,2,5,7,43] [_,_,_,_,_] Z (qB (b:=(((ents T (hashS s)).getD j ([],0)).1)==s) Z (fun h43=>?_) (fun h43=>?_))))))))))))))))))))
  ·
   refine zD (zA (zE Z (zR Z qR Z xA Z Z) (zE Z (zX 0 Z xF Z Z Z) (zB 1 Z (zE (v:=pf_ q (hashS s)) Z (qC (by simp) (qH Z yC yJ Z Z (by omega) (by omega))) (zE (v:=sl_ g m cap) Z (yR (v:=sl_ g m cap) 2 Z xG Z Z (bkt_at (b:=some (g,m,cap,cur)) hkl hb)) (zB 1 Z (zE (v:=pf_ g (j*2)) Z (qC (v':=pf_ g (j*2)) (by simp) (OpQ.indexAddr (i:=(j:Int)) Z Tryd.runUnderlying182 Tryd.sizeOf184 Z Z (by omega) (by omega))) (zE Z (zR Z Tryd.runUnderlying184 Z zM Z Z) (zE (v:=i6_ ((((ents T (hashS s)).getD j ([],0)).2:Int))) Z (yR (v:=i6_ ((((ents T (hashS s)).getD j ([],0)).2:Int))) 1 Z zU Z Z (ent_at ht hm hj).2) (zB 1 Z (zF (zC [4] [_] Z (zZ (qA Z Z fun w' hw=>?_)))))))))))))))
   exact .inl ⟨_,rfl,ents_mem (e:=(ents T (hashS s)).getD j ([],0)) (by rw [getD_at (by omega)];exact List.getElem_mem _) |>.trans (by rw [show ((ents T (hashS s)).getD j ([],0)).1=s from by simpa using h43]),hw.sub ((qG _ (zY _ (zY _ (zY _ (yF _))))))⟩
  refine zV (zC [1,2,5,7] [_,_,_,_] Z (zA (zB 1 Z (zE Z (qQ Z Z Z (by omega) (by omega)) (zB 1 Z (zF (qU (j+1) ⟨by omega,fun i hi=>(Nat.lt_succ_iff_lt_or_eq.1 hi).elim (hall i) (fun e=>by subst e;simpa using h43)⟩ (by omega) (Sub.sel [1,2,5,7] Z) (fun _ h=>h))))))))
 replace h30:=zH h30;refine yO Z (zC [1,2,5] [_,_,_] Z (zD (zA (zE Z (zR Z qR Z Tryd.sizeOf30 Z Z) (zE Z (zX 0 Z Tryd.isAgg30 Z Z Z) (zE (v:=pt_ c) Z (qC Z (qH (i:=0) Z zJ zM Z Z (by decide) (by decide))) (zE Z (zX 3 Z zU Z Z Z) (zB 1 Z (zF (zC [1,2,5,8] [_,_,_,_] Z (zD (zW (qL Z (zR Z qR Z Tryd.sizeOf30 Z Z) (qL Z (zX 0 Z Tryd.isAgg30 Z Z Z) (qD 1 Z (qL Z (qQ Z Z Z (by omega) (by omega)) (qL (v:=pt_ c) Z (qC Z (qH (i:=0) Z zJ zM Z Z (by decide) (by decide))) (Ll.store1 (v:=i6_ ((T.length:Int)+(1:Int))) (hs':=(_::_::_::bk_ c #[i6_ ((T.length:Int)+(1:Int))] 3::hs)) 3 Z Z Z Z Z Z zM Z (by simp) Z (zS (zC [1,2,5,8] [_,_,_,_] Z (zD (Wk.regionT (S:=Own B w0 [bk_ p2 #[sl_ q 997 997,sl_ c 1 1] 112,bk_ c #[i6_ ((T.length:Int)+(1:Int))] 3]) (.take 0 (.take 1 (.take 2 (.take 3 (.take 4 (.take 5 (.take 6 (.take 8 (.take 9 (.take 10 (.two 7 (.one 11 (.one 12 (.take 13 (.one 14 .done)))) 11 (.one 7 (.one 12 (.take 13 (.one 14 .done))))))))))))))) yB (fun _ h=>h.drawn) (by kernel_rfl) (xD Z Z Z Z Z (zR Z qR Z xA Z Z) (pk [0,3] Z Z) (xD Z Z Z Z Z (zX 0 Z xF Z Z Z) (pk [0,3] Z Z) (Lt.run 1 Z (pk [0,3] Z Z) (xD Z Z Z Z Z (zR Z qR Z xA Z Z) (pk [0,3] Z Z) (xD Z Z Z Z Z (zX 0 Z xF Z Z Z) (pk [0,3] Z Z) (Lt.run 1 Z (pk [0,3] Z Z) (xD (v:=pf_ q (hashS s)) Z Z Z Z Z (qC (by simp) (qH Z yC yJ Z Z (by omega) (by omega))) (pk [0,3] Z Z) (Lt.run 2 Z (pk [0,3] Z Z) (xD (v:=.agg #[str s,i6_ (T.length:Int)]) Z Z Z Z Z (OpQ.build (xs:=[.tmp 70,.tmp 71]) (vs:=[str s,i6_ (T.length:Int)]) Z Z (by kernel_rfl)) (pk [0,3] Z Z) (Lt.two Z Z ?_ ?_))))))))))))))))))))))))))))))))
 ·
  refine qL (v:=sl_ g m cap) Z (yR (v:=sl_ g m cap) 2 Z xG Z Z (bkt_at (b:=some (g,m,cap,cur)) hkl hb)) (zS (yE (pk [0,3] Z Z) ?_));refine yV Z (Ll.slice2 xI Z Z Z Z Z fun p73 hp73=>(zS (yE (pk [1,4] Z Z) ?_)));refine yV Z (Ll.append xI 2 (entC (s,T.length)) Z Z Z Z Z Z Z hc hle Z (fun h=>by cases h) (fun w1 hw1 ad had j u hj=>by injection had with had;subst had;rw [Addr.add_lit,Nat.zero_add,hw1.cell (i:=0) rfl];simpa [entC] using hj) (by simp [entC,str,Value.oneCell']) (by omega) fun g2 cap2 cur2 hg2 hcg2 hlg2 htg2=>?_)
  show Ll _ _ (Own _ _ (_::_::_::_::_::hs)) _ _ ((74,sl_ g2 (m+1) cap2)::_) _ _ _;refine zS (yE (pk [1,4] Z Z) ?_);refine xD (v:=pf_ q (hashS s)) Z Z Z Z Z (qC (by simp) (qH Z yC yJ Z Z (by omega) (by omega))) (pk [1,4] Z Z) (yV Z (Ll.store1 (v:=sl_ g2 (m+1) cap2) (hs':=(_::_::_::bk_ q (((bs.set (hashS s) (some (g2,(m+1),cap2,cur2))).map bktV).toArray) 182::_::hs)) 3 Z Z Z Z Z Z yJ Z (by simpa using hkl) (by rw [← set_bkt];rfl) (zS (yE (pk [1,4] Z Z) ?_))));refine Lt.nil (zC [8] [_] Z (zD (zA (zB 2 Z (zF (zC [4] [_] Z (zZ (qA Z Z fun w' hw=>?_))))))))
  exact .inr ⟨rfl,ents_not (fun e he=>by obtain ⟨i,hi,rfl⟩:=List.mem_iff_getElem.1 he;have:=hall i (by omega);rwa [getD_at hi] at this),g2,cap2,cur2,hcg2,hlg2,by rw [htg2,ht],hw.sub (qG _ (qG _ (zY _ (zY _ (zY _ (yF _))))))⟩
 refine Ll.slice2 xI Z Z Z Z Z fun p73_1 hp73_1=>(zS (yE (pk [1,4] Z Z) ?_));refine yV Z (qL (v:=sl_ g m cap) Z (yR (v:=sl_ g m cap) 3 Z xG Z Z (bkt_at (b:=some (g,m,cap,cur)) hkl hb)) (zS (yE (pk [1,4] Z Z) ?_)));refine yV Z (Ll.append xI 2 (entC (s,T.length)) Z Z Z Z Z Z Z hc hle Z (fun h=>by cases h) (fun w1 hw1 ad had j u hj=>by injection had with had;subst had;rw [Addr.add_lit,Nat.zero_add,hw1.cell (i:=0) rfl];simpa [entC] using hj) (by simp [entC,str,Value.oneCell']) (by omega) fun g2_1 cap2_1 cur2_1 hg2_1 hcg2_1 hlg2_1 htg2_1=>?_)
 show Ll _ _ (Own _ _ (_::_::_::_::_::hs)) _ _ ((74,sl_ g2_1 (m+1) cap2_1)::_) _ _ _;refine zS (yE (pk [1,4] Z Z) ?_);refine xD (v:=pf_ q (hashS s)) Z Z Z Z Z (qC (by simp) (qH Z yC yJ Z Z (by omega) (by omega))) (pk [1,4] Z Z) (yV Z (Ll.store1 (v:=sl_ g2_1 (m+1) cap2_1) (hs':=(_::_::_::bk_ q (((bs.set (hashS s) (some (g2_1,(m+1),cap2_1,cur2_1))).map bktV).toArray) 182::_::hs)) 3 Z Z Z Z Z Z yJ Z (by simpa using hkl) (by rw [← set_bkt];rfl) (zS (yE (pk [1,4] Z Z) ?_))));refine Lt.nil (zC [8] [_] Z (zD (zA (zB 2 Z (zF (zC [4] [_] Z (zZ (qA Z Z fun w' hw=>?_))))))))
 exact .inr ⟨rfl,ents_not (fun e he=>by obtain ⟨i,hi,rfl⟩:=List.mem_iff_getElem.1 he;have:=hall i (by omega);rwa [getD_at hi] at this),g2_1,cap2_1,cur2_1,hcg2_1,hlg2_1,by rw [htg2_1,ht],hw.sub (qG _ (qG _ (zY _ (zY _ (zY _ (yF _))))))⟩
theorem number_ok (B:Nat) (w0:World) (hs:List (Nat×Obj)) (q c:Nat) (bs:List Bkt) (T:List (List UInt8)) (s:List UInt8) (w:World) (hT:TabOk bs T) (hlT:T.length≤1000000) (hls:s.length≤1000) (hw:Own B w0 (tabL 182 3 184 q c bs T++hs) w) :
    Calls Tryd.prog 123 [.agg #[.slice (some ⟨q,0,none⟩) 997 997,.slice (some ⟨c,0,none⟩) 1 1],str s].toArray w fun en w'=>∃ (n:Nat) (bs':List Bkt) (T':List (List UInt8)),en=.returned (.int .i64 (n:Int))∧(TabTo T bs' T' 1∧T'[n]?=some s)∧Own B w0 (tabL 182 3 184 q c bs' T'++hs) w':=by
  have h997:=hash_lt s
  have hkl:hashS s<bs.length:=by rw [hT.len];exact h997
  cases hb:bs.getD (hashS s) none with
  | none =>
    refine (number_nil B w0 (blks 184 bs++hs) q c bs T s w hT hlT hls hb hw).mono fun en w' ⟨h1,h2,g',cap',cur',h3,h4,h5,h6⟩=>(⟨T.length,bs.set (hashS s) (some (g',1,cap',cur')),T++[s],h1,⟨⟨hT.add h2 (by rw [hT.no _ h997 hb];rfl) h3 h4 (by rw [hT.no _ h997 hb];exact h5),List.prefix_append _ _,by simp⟩,by simp⟩,?_⟩)
    have hp:=(blks_put (E:=184) (g:=g') (m:=1) (cap:=cap') (cur:=cur') hkl)
    rw [blks_none hkl hb] at hp
    have e1:((T++[s]).length:Int)=(T.length:Int)+1:=by simp
    show Own B w0 (_::(_,.cells #[.int .i64 ((T++[s]).length:Int)] _ (0,0))::(blks _ _++hs)) w'
    rw [e1]
    exact h6.perm ((perm_back [_] [_,_] _).trans (List.Perm.cons _ (List.Perm.cons _ (hp.symm.append_right hs))))
  | some b =>
    obtain ⟨g,m,cap,cur⟩:=b
    have hp:=(blks_take (E:=184) hkl hb)
    have hw2:Own B w0 ((g,.cells cur 184 (0,0))::(q,.cells (bs.map bktV).toArray 182 (0,0))::(c,.cells #[.int .i64 (T.length:Int)] 3 (0,0))::(blks 184 (bs.set (hashS s) none)++hs)) w :=
      hw.perm ((List.Perm.cons _ (List.Perm.cons _ (hp.append_right hs))).trans (perm_back [_,_] [_] _))
    refine (number_some B w0 (blks 184 (bs.set (hashS s) none)++hs) q c bs T s w hT hlT hls g m cap cur hb hw2).mono fun en w' h=>?_
    rcases h with ⟨n,h1,h2,h3⟩ | ⟨h1,h2,g',cap',cur',h3,h4,h5,h6⟩
    · exact ⟨n,bs,T,h1,⟨⟨hT,List.prefix_refl _,by omega⟩,h2⟩,h3.perm ((perm_back [_] [_,_] _).trans (List.Perm.cons _ (List.Perm.cons _ (hp.symm.append_right hs))))⟩
    · refine ⟨T.length,bs.set (hashS s) (some (g',m+1,cap',cur')),T++[s],h1,⟨⟨hT.add h2 (by rw [(hT.yes _ h997 _ _ _ _ hb).1]) h3 h4 h5,List.prefix_append _ _,by simp⟩,by simp⟩,?_⟩
      have hp2:=(blks_put (E:=184) (g:=g') (m:=m+1) (cap:=cap') (cur:=cur') hkl)
      have e1:((T++[s]).length:Int)=(T.length:Int)+1:=by simp
      show Own B w0 (_::(_,.cells #[.int .i64 ((T++[s]).length:Int)] _ (0,0))::(blks _ _++hs)) w'
      rw [e1]
      exact h6.perm ((perm_back [_] [_,_] _).trans (List.Perm.cons _ (List.Perm.cons _ (hp2.symm.append_right hs))))
end Go.Proofs.YteccfipfimbdgaaDoor
namespace Go.Proofs.YteccfipfimbdgaaDoor
open Go.RowKit Go.Wk
set_option linter.unusedSimpArgs false
set_option maxHeartbeats 400000 in
theorem l4With_ok (va:Value) (xs:List Int) (x:Int) (w:World) (hva:Ints w va xs) (hs:xs.length≤1048576) :
    Calls Tryd.prog 41 [va,i6_ x].toArray w fun en w'=>∃ v,en=.returned v∧Below w.heap.size w w'∧NewRow w.heap.size 3 1 w' v (xs++[x]).length (ints (xs++[x])):=by
 refine fnStart (n:=11) (e:=[(0,va),(1,i6_ x)]) Tryd.func41 Z Z Z Z Ends.both (zD (zA (zB 1 Z (zF (zC [0,1] [_,_] Z (zD (zW (yM (xs:=[]) (vs:=[]) qE Z Z Z Z Z Z (by decide) Z fun p5 hp5=>(qD 1 Z (qW (xs:=[]) (ys:=xs) qE 0 Z Z Z Z Z Z Z Z (by decide) Z (fun w1 hw1=>(Row.own hva hw1)) ((xs).length) (by first | (simp;done) | (simp;omega)) (by first | (simp;done) | (simp;omega) | omega) fun p7 cap7 cur7 hp7 hcp7 hlp7 htp7=>?_))))))))))
 show Ll _ _ (Own _ _ [_]) _ _ ((7,sl_ p7 ((xs).length) cap7)::_) _ _ _;refine qD 1 Z (yM (xs:=[.tmp 8]) (vs:=[i6_ x]) qE Z Z Z Z Z Z (by decide) Z fun p9 hp9=>(qW (xs:=xs) (ys:=[x]) qE 1 Z Z Z Z Z Z Z hcp7 hlp7 (by simpa using htp7) (fun w1 hw1=>(qN hw1 (i:=0) Z (n:=1) (cap:=1) (vs:=ints [x]) Z Z (by decide))) ((xs++([x])).length) (by first | (simp;done) | (simp;omega)) (by first | (simp;done) | (simp;omega) | omega) fun p10 cap10 cur10 hp10 hcp10 hlp10 htp10=>?_))
 show Ll _ _ (Own _ _ [_,_]) _ _ ((10,sl_ p10 (((xs++([x])).length)) cap10)::_) _ _ _;refine qD 1 Z (zS (zC [4] [_] Z (zZ (qA Z Z fun w' hw=>?_))))
 exact ⟨_,rfl,hw.below,hw.newRow (i:=1) (n:=_) rfl (by assumption) (by assumption) (by assumption)⟩
set_option maxHeartbeats 400000 in
theorem with_ok (va:Value) (xs:List Int) (x:Int) (w:World) (hva:Ints w va xs) (hs:xs.length≤1048576) :
    Calls Tryd.prog 121 [va,i6_ x].toArray w fun en w'=>∃ v,en=.returned v∧Below w.heap.size w w'∧NewRow w.heap.size 3 1 w' v (xs++[x]).length (ints (xs++[x])):=by
 refine fnStart (n:=11) (e:=[(0,va),(1,i6_ x)]) Tryd.func121 Z Z Z Z Ends.both (zD (zA (zB 1 Z (zF (zC [0,1] [_,_] Z (zD (zW (yM (xs:=[]) (vs:=[]) qE Z Z Z Z Z Z (by decide) Z fun p5 hp5=>(qD 1 Z (qW (xs:=[]) (ys:=xs) qE 0 Z Z Z Z Z Z Z Z (by decide) Z (fun w1 hw1=>(Row.own hva hw1)) ((xs).length) (by first | (simp;done) | (simp;omega)) (by first | (simp;done) | (simp;omega) | omega) fun p7 cap7 cur7 hp7 hcp7 hlp7 htp7=>?_))))))))))
 show Ll _ _ (Own _ _ [_]) _ _ ((7,sl_ p7 ((xs).length) cap7)::_) _ _ _;refine qD 1 Z (yM (xs:=[.tmp 8]) (vs:=[i6_ x]) qE Z Z Z Z Z Z (by decide) Z fun p9 hp9=>(qW (xs:=xs) (ys:=[x]) qE 1 Z Z Z Z Z Z Z hcp7 hlp7 (by simpa using htp7) (fun w1 hw1=>(qN hw1 (i:=0) Z (n:=1) (cap:=1) (vs:=ints [x]) Z Z (by decide))) ((xs++([x])).length) (by first | (simp;done) | (simp;omega)) (by first | (simp;done) | (simp;omega) | omega) fun p10 cap10 cur10 hp10 hcp10 hlp10 htp10=>?_))
 show Ll _ _ (Own _ _ [_,_]) _ _ ((10,sl_ p10 (((xs++([x])).length)) cap10)::_) _ _ _;refine qD 1 Z (zS (zC [4] [_] Z (zZ (qA Z Z fun w' hw=>?_))))
 exact ⟨_,rfl,hw.below,hw.newRow (i:=1) (n:=_) rfl (by assumption) (by assumption) (by assumption)⟩
set_option maxHeartbeats 400000 in
theorem reply_of (n:Nat) (ih:∀ (a b:St) (xs ys:List Int) (va vb:Value) (w:World),a.Fine→b.Fine→Ints w va xs→Ints w vb ys→a.Els xs→b.Els ys→xs.length=ys.length→xs.length+n≤7→Calls Tryd.prog 120 #[vS a,va,vS b,vb,.int .i64 (n:Int)] w fun en w'=>en=.returned (.bool (goB n a xs b ys))∧Below w.heap.size w w') (a b:St) (xs ys:List Int) (va vb:Value) (w:World) (ha:a.Fine) (hb:b.Fine) (hva:Ints w va xs) (hvb:Ints w vb ys) (hA:a.Els xs) (hB:b.Els ys) (hlen:xs.length=ys.length) (h7:xs.length+(n+1)≤7) (x:Int) (hx:a.El x) :
    Calls Tryd.prog 78 [vS a,va,vS b,vb,i6_ ((n:Int)+1),i6_ x].toArray w fun en w'=>en=.returned (.tuple #[.int .i64 (((rep (goB n) a xs b ys x).getD 0:Nat):Int),.bool (rep (goB n) a xs b ys x).isSome])∧Below w.heap.size w w':=by
 refine fnStart (n:=48) (e:=[(0,vS a),(1,va),(2,vS b),(3,vb),(4,i6_ ((n:Int)+1)),(5,i6_ x)]) Tryd.func78 Z Z Z Z Ends.both ?_
 have hn8:=hb.hi
 have hn1:=hb.lo
 have hL:=rep_law (g:=goB n) (a:=a) (xs:=xs) (b:=b) (ys:=ys) (x:=x);refine zD (zW (yD (v:=vS a) Z Z Z Z Z fun p6 hp6=>?_))
 show Ll _ _ (Own _ _ [_]) _ _ ((6,pt_ p6)::_) _ _ _;refine yD (v:=vS b) Z Z Z Z Z fun p8 hp8=>?_
 show Ll _ _ (Own _ _ [_,_]) _ _ ((8,pt_ p8)::_) _ _ _;refine qD 2 Z (zS (zC [1,3,4,5,6,8] [_,_,_,_,_,_] Z (zD (zD (zA (zE Z (zK (cs:=#[i6_ a.n,str a.set,str a.rel]) 1 Z zQ Z Z zN) (zB 1 Z (zE Z (zK (cs:=#[i6_ b.n,str b.set,str b.rel]) 0 Z zQ Z Z zN) (zB 1 Z (zE (v:=bo_ (sameB a xs b ys)) Z (zT Z Tryd.call51 Z zL (fun w1 hw1=>sameWay_ok a b xs ys va vb w1 ha hb (Row.own hva hw1) (Row.own hvb hw1) hA hB (by omega) (by omega))) (zB 1 Z (zF (zC [1,3,4,5,6,8,20] [_,_,_,_,_,_,_] Z (qB (b:=!(sameB a xs b ys)) Z (fun h20=>?_) (fun h20=>?_)))))))))))))))
 ·
  replace h20:=not_true h20;refine zD (zA (zB 2 Z (zF (zC [12,13] [_,_] Z (zZ (Kt.end2 Z Z Z fun w' hw=>?_))))))
  exact ⟨by rw [hL.1 (by simpa using h20)];rfl,hw.below⟩
 replace h20:=not_false h20;refine zV (zC [1,3,4,5,6,8] [_,_,_,_,_,_] Z (zD (zD (zA (zE Z (zR Z zP Z zM Z Z) (zE Z (zX 0 Z zU Z Z Z) (zB 1 Z (zF (zC [1,3,4,5,6,8,22,23] [_,_,_,_,_,_,_,_] Z (qF (yQ (σ:=Nat) (fun k=>(k:Int)≤b.n∧∀ i:Nat,i<k→(stillB a xs b ys x i&&goB n a (xs++[x]) b (ys++[(i:Int)]))=false) (fun k=>[(1,va),(3,vb),(4,i6_ ((n:Int)+1)),(5,i6_ x),(6,pt_ p6),(8,pt_ p8),(22,i6_ b.n),(23,i6_ (k:Int))]) (fun k=>Own w.heap.size w [bk_ p8 #[i6_ b.n,str b.set,str b.rel] 24,bk_ p6 #[i6_ a.n,str a.set,str a.rel] 24]) (fun k=>(b.n - k).toNat) (0) ⟨by omega,fun i hi=>absurd hi (by omega)⟩ (Sub.sel [1,3,4,5,6,8,22,23] Z) (fun _ h=>h) ?_)))))))))))
 rintro k ⟨hk,hall⟩;refine zD (zA (zB 1 Z (zF (zC [1,3,4,5,6,8,22,23,24] [_,_,_,_,_,_,_,_,_] Z (zD (qB (b:=decide ((k:Int)<b.n)) Z (fun h24=>?_) (fun h24=>?_)))))))
 ·
  replace h24:=zI h24
  have hy:b.El k:=⟨by omega,by omega⟩;refine zV (zC [1,3,4,5,6,8,22,23] [_,_,_,_,_,_,_,_] Z (zD (qF (zD (zA (zB 2 Z (zF (zC [1,3,4,5,6,8,14,22,23] [_,_,_,_,_,_,_,_,_] Z (zD (Wk.regionO [(0,true),(1,true),(2,true),(3,true),(4,true),(5,true),(6,false),(7,true),(8,true),(9,true),(10,true),(12,true),(13,true),(14,true),(16,true),(17,true),(11,false),(15,false),(18,false),(19,true)] yB (fun _ h=>h.drawn) (by kernel_rfl) (qM Z Z Z Z Z (zK (cs:=#[i6_ a.n,str a.set,str a.rel]) 1 Z zQ Z Z zN) (fun _ h=>h) (yN 1 Z (fun _ h=>h) (qM Z Z Z Z Z (zK (cs:=#[i6_ b.n,str b.set,str b.rel]) 0 Z zQ Z Z zN) (fun _ h=>h) (yN 3 Z (fun _ h=>h) (yA Z (qL (v:=bo_ (stillB a xs b ys x (k:Int))) Z (zT Z Tryd.call79 Z zL (fun w1 hw1=>stillSame_ok a b xs ys va vb x (k:Int) w1 (ha) (hb) (Row.own hva hw1) (Row.own hvb hw1) (hA) (hB) (by first | (simp;done) | (simp;omega) | omega) (by first | (simp;done) | (simp;omega) | omega) (by first | assumption | exact St.Els.at (by assumption) (by omega) (by omega)) (by first | assumption | exact St.Els.at (by assumption) (by omega) (by omega)))) (zS (qO (fun _ h=>h) ?_))))))))))))))))));refine yN 1 Z (fun _ h=>h) (Ld.bool fun b33 hg33=>?_)
  cases b33
  ·
   refine Ld.pass Z Z Z Z (fun _ h=>h) (Ld.pass Z Z Z Z (fun _ h=>h) (Ld.pass Z Z Z Z (fun _ h=>h) (Ld.pass Z Z Z Z (fun _ h=>h) (Ld.pass Z Z Z Z (fun _ h=>h) (Ld.pass Z Z Z Z (fun _ h=>h) (Ld.pass Z Z Z Z (fun _ h=>h) (Ld.pass Z Z Z Z (fun _ h=>h) (yA Z (Ll.pass3 Z (zS (qO (fun _ h=>h) ?_)))))))))));refine yA Z (Ll.pass3 Z (zS (qO (fun _ h=>h) ?_)));refine yA Z (Ll.pass3 Z (zS (qO (fun _ h=>h) ?_)));refine yN 1 Z (fun _ h=>h) (Ld.nil (zC [1,3,4,5,6,8,14,22,23,45] [_,_,_,_,_,_,_,_,_,_] Z (Wk.condF Z (zV (zC [1,3,4,5,6,8,22,23] [_,_,_,_,_,_,_,_] Z (zA (zE Z (qQ Z Z Z (by omega) (by omega)) (zB 1 Z (zF (qU (k+1) ⟨by omega,fun i hi=>(Nat.lt_succ_iff_lt_or_eq.1 hi).elim (hall i) (fun e=>by subst e;simp_all)⟩ (by omega) (Sub.sel [1,3,4,5,6,8,22,23] Z) (fun _ h=>h)))))))))))
  refine qM Z Z Z Z Z (zK (cs:=#[i6_ a.n,str a.set,str a.rel]) 1 Z zQ Z Z zN) (fun _ h=>h) (yN 2 Z (fun _ h=>h) (qM Z Z Z Z Z (zK (cs:=#[i6_ b.n,str b.set,str b.rel]) 0 Z zQ Z Z zN) (fun _ h=>h) (yN 3 Z (fun _ h=>h) (qM (v:=i6_ (n:Int)) Z Z Z Z Z (qC (by congr 1;omega) (xH Z Z Z (by omega) (by omega))) (fun _ h=>h) (yA Z (yT (xs:=[.tmp 35,.tmp 36]) (m:=(xs++[x]).length) (vs:=ints (xs++[x])) (el:=3) (size:=1) Z Z Z Z Tryd.call121 Z (fun w1 hw1=>with_ok va xs x w1 (Row.own hva hw1) (by omega)) fun p37 cap37 cur37 hp37 hcp37 hlp37 htp37=>(zS (qO (fun _ h=>h.tail) ?_))))))));refine yA Z (yT (xs:=[.tmp 39,.tmp 40]) (m:=(ys++[(k:Int)]).length) (vs:=ints (ys++[(k:Int)])) (el:=3) (size:=1) Z Z Z Z Tryd.call121 Z (fun w1 hw1=>with_ok vb ys (k:Int) w1 (Row.own hvb hw1) (by omega)) fun p41 cap41 cur41 hp41 hcp41 hlp41 htp41=>(zS (qO (fun _ h=>h.tail.tail) ?_)));refine yA Z (qL (v:=bo_ (goB n a (xs++[x]) b (ys++[(k:Int)]))) Z (zT Z Tryd.call120 Z zL (fun w1 hw1=>ih a b (xs++[x]) (ys++[(k:Int)]) (sl_ p37 ((xs++[x]).length) cap37) (sl_ p41 ((ys++[(k:Int)]).length) cap41) w1 ha hb (qN hw1 (i:=1) Z (by simpa using htp37) (by simp) hlp37) (qN hw1 (i:=0) Z (by simpa using htp41) (by simp) hlp41) (els_more hA hx) (els_more hB hy) (by first | (simp;done) | (simp;omega) | omega) (by first | (simp;done) | (simp;omega) | omega))) (zS (qO (fun _ h=>h.tail.tail) ?_)));refine yN 1 Z (fun _ h=>h.tail.tail) (Ld.nil (zC [1,3,4,5,6,8,14,22,23,45] [_,_,_,_,_,_,_,_,_,_] Z (qB (b:=goB n a (xs++[x]) b (ys++[(k:Int)])) Z (fun h45=>?_) (fun h45=>?_))))
  ·
   refine zD (zA (zB 3 Z (zF (zC [12,13] [_,_] Z (zZ (Kt.end2 Z Z Z fun w' hw=>?_))))))
   exact ⟨by rw [hL.2.1 (by simpa using h20) k (by omega) hall (by simp [*])];rfl,hw.below⟩
  refine zV (zC [1,3,4,5,6,8,22,23] [_,_,_,_,_,_,_,_] Z (zA (zE Z (qQ Z Z Z (by omega) (by omega)) (zB 1 Z (zF (qU (k+1) ⟨by omega,fun i hi=>(Nat.lt_succ_iff_lt_or_eq.1 hi).elim (hall i) (fun e=>by subst e;simp_all)⟩ (by omega) (Sub.sel [1,3,4,5,6,8,22,23] Z) (fun _ h=>h.tail.tail)))))))
 replace h24:=zH h24;refine yO Z (zC [] [] Z (zD (zA (zB 2 Z (zF (zC [12,13] [_,_] Z (zZ (Kt.end2 Z Z Z fun w' hw=>?_))))))))
 exact ⟨by rw [hL.2.2 (fun i hi=>hall i (by omega))];rfl,hw.below⟩
set_option maxHeartbeats 400000 in
theorem goes_zero (a b:St) (xs ys:List Int) (va vb:Value) (w:World) :
    Calls Tryd.prog 120 [vS a,va,vS b,vb,i6_ 0].toArray w fun en w'=>en=.returned (.bool (goB 0 a xs b ys))∧Below w.heap.size w w':=by
 refine fnStart (n:=55) (e:=[(0,vS a),(1,va),(2,vS b),(3,vb),(4,i6_ 0)]) Tryd.func120 Z Z Z Z Ends.both (zD (zW (yD (v:=vS a) Z Z Z Z Z fun p5 hp5=>?_)))
 show Ll _ _ (Own _ _ [_]) _ _ ((5,pt_ p5)::_) _ _ _;refine yD (v:=vS b) Z Z Z Z Z fun p7 hp7=>?_
 show Ll _ _ (Own _ _ [_,_]) _ _ ((7,pt_ p7)::_) _ _ _;refine qD 1 Z (zS (zC [1,3,4,5,7] [_,_,_,_,_] Z (zD (zD (zA (zB 2 Z (zF (zC [1,3,4,5,7,18] [_,_,_,_,_,_] Z (qB (b:=decide ((0:Int)=(0:Int))) Z (fun h18=>?_) (fun h18=>?_))))))))))
 ·
  replace h18:=zI h18;refine zD (zA (zB 1 Z (zF (zC [10] [_] Z (zZ (qA Z Z fun w' hw=>?_))))))
  exact ⟨rfl,hw.below⟩
 replace h18:=zH h18
 exact absurd rfl h18
set_option maxHeartbeats 400000 in
theorem goes_of (n:Nat) (ih:∀ (a b:St) (xs ys:List Int) (va vb:Value) (w:World),a.Fine→b.Fine→Ints w va xs→Ints w vb ys→a.Els xs→b.Els ys→xs.length=ys.length→xs.length+(n+1)≤7→∀ x:Int,a.El x→Calls Tryd.prog 78 #[vS a,va,vS b,vb,.int .i64 ((n:Int)+1),.int .i64 x] w fun en w'=>en=.returned (.tuple #[.int .i64 (((rep (goB n) a xs b ys x).getD 0:Nat):Int),.bool (rep (goB n) a xs b ys x).isSome])∧Below w.heap.size w w') (a b:St) (xs ys:List Int) (va vb:Value) (w:World) (ha:a.Fine) (hb:b.Fine) (hva:Ints w va xs) (hvb:Ints w vb ys) (hA:a.Els xs) (hB:b.Els ys) (hlen:xs.length=ys.length) (h7:xs.length+(n+1)≤7) :
    Calls Tryd.prog 120 [vS a,va,vS b,vb,i6_ ((n:Int)+1)].toArray w fun en w'=>en=.returned (.bool (goB (n+1) a xs b ys))∧Below w.heap.size w w':=by
 refine fnStart (n:=55) (e:=[(0,vS a),(1,va),(2,vS b),(3,vb),(4,i6_ ((n:Int)+1))]) Tryd.func120 Z Z Z Z Ends.both ?_
 have hn8:=hb.hi
 have hn1:=hb.lo
 have hm8:=ha.hi
 have hm1:=ha.lo;refine zD (zW (yD (v:=vS a) Z Z Z Z Z fun p5 hp5=>?_))
 show Ll _ _ (Own _ _ [_]) _ _ ((5,pt_ p5)::_) _ _ _;refine yD (v:=vS b) Z Z Z Z Z fun p7 hp7=>?_
 show Ll _ _ (Own _ _ [_,_]) _ _ ((7,pt_ p7)::_) _ _ _;refine qD 1 Z (zS (zC [1,3,4,5,7] [_,_,_,_,_] Z (zD (zD (zA (zB 2 Z (zF (zC [1,3,4,5,7,18] [_,_,_,_,_,_] Z (qB (b:=decide (((n:Int)+1)=(0:Int))) Z (fun h18=>?_) (fun h18=>?_))))))))))
 ·
  replace h18:=zI h18
  omega
 replace h18:=zH h18;refine zV (zC [1,3,4,5,7] [_,_,_,_,_] Z (zD (zD (zA (zE Z (zR Z zP Z zM Z Z) (zE Z (zX 1 Z zU Z Z Z) (zB 1 Z (zF (zC [1,3,4,5,7,20,21] [_,_,_,_,_,_,_] Z (qF (yQ (σ:=Nat) (fun k=>(k:Int)≤a.n∧∀ i:Nat,i<k→(rep (goB n) a xs b ys i).isSome=true) (fun k=>[(1,va),(3,vb),(4,i6_ ((n:Int)+1)),(5,pt_ p5),(7,pt_ p7),(20,i6_ a.n),(21,i6_ (k:Int))]) (fun k=>Own w.heap.size w [bk_ p7 #[i6_ b.n,str b.set,str b.rel] 24,bk_ p5 #[i6_ a.n,str a.set,str a.rel] 24]) (fun k=>(a.n - k).toNat) (0) ⟨by omega,fun i hi=>absurd hi (by omega)⟩ (Sub.sel [1,3,4,5,7,20,21] Z) (fun _ h=>h) ?_)))))))))))
 rintro k ⟨hk1,hall1⟩;refine zD (zA (zB 1 Z (zF (zC [1,3,4,5,7,20,21,22] [_,_,_,_,_,_,_,_] Z (zD (qB (b:=decide ((k:Int)<a.n)) Z (fun h22=>?_) (fun h22=>?_)))))))
 ·
  replace h22:=zI h22
  have hx:a.El k:=⟨by omega,by omega⟩;refine zV (zC [1,3,4,5,7,20,21] [_,_,_,_,_,_,_] Z (zD (qF (zD (zA (zB 2 Z (zF (zC [1,3,4,5,7,11,20,21] [_,_,_,_,_,_,_,_] Z (zD (zA (zE Z (zK (cs:=#[i6_ a.n,str a.set,str a.rel]) 1 Z zQ Z Z zN) (zB 1 Z (zE Z (zK (cs:=#[i6_ b.n,str b.set,str b.rel]) 0 Z zQ Z Z zN) (zB 3 Z (zE (v:=.tuple #[i6_ ((((rep (goB n) a xs b ys (k:Int)).getD 0:Nat):Int)),bo_ ((rep (goB n) a xs b ys (k:Int)).isSome)]) Z (zT Z Tryd.call78 Z zL (fun w1 hw1=>ih a b xs ys va vb w1 ha hb (Row.own hva hw1) (Row.own hvb hw1) hA hB (by first | (simp;done) | (simp;omega) | omega) (by first | (simp;done) | (simp;omega) | omega) (k:Int) hx)) (zB 1 Z (zE (v:=i6_ ((((rep (goB n) a xs b ys (k:Int)).getD 0:Nat):Int))) Z (qJ Z Z Z) (zE (v:=bo_ ((rep (goB n) a xs b ys (k:Int)).isSome)) Z (qJ Z Z Z) (zB 2 Z (zF (zC [1,3,4,5,7,13,20,21] [_,_,_,_,_,_,_,_] Z (zD (zA (zB 2 Z (zF (zC [1,3,4,5,7,20,21,35] [_,_,_,_,_,_,_,_] Z (qB (b:=!((rep (goB n) a xs b ys (k:Int)).isSome)) Z (fun h35=>?_) (fun h35=>?_))))))))))))))))))))))))))))
  ·
   replace h35:=not_true h35;refine zD (zA (zB 1 Z (zF (zC [10] [_] Z (zZ (qA Z Z fun w' hw=>?_))))))
   exact ⟨ret_b (go_no1 (x:=k) (by omega) (by simpa using h35)).symm,hw.below⟩
  replace h35:=not_false h35;refine zV (zC [1,3,4,5,7,20,21] [_,_,_,_,_,_,_] Z (zA (zE Z (qQ Z Z Z (by omega) (by omega)) (zB 1 Z (zF (qU (k+1) ⟨by omega,fun i hi=>(Nat.lt_succ_iff_lt_or_eq.1 hi).elim (hall1 i) (fun e=>by subst e;assumption)⟩ (by omega) (Sub.sel [1,3,4,5,7,20,21] Z) (fun _ h=>h)))))))
 replace h22:=zH h22;refine yO Z (zC [1,3,4,5,7] [_,_,_,_,_] Z (zD (zD (zA (zE Z (zR Z zP Z zM Z Z) (zE Z (zX 0 Z zU Z Z Z) (zB 1 Z (zF (zC [1,3,4,5,7,38,39] [_,_,_,_,_,_,_] Z (qF (yQ (σ:=Nat) (fun m=>(m:Int)≤b.n∧∀ i:Nat,i<m→(rep (goB n) b ys a xs i).isSome=true) (fun m=>[(1,va),(3,vb),(4,i6_ ((n:Int)+1)),(5,pt_ p5),(7,pt_ p7),(38,i6_ b.n),(39,i6_ (m:Int))]) (fun m=>Own w.heap.size w [bk_ p7 #[i6_ b.n,str b.set,str b.rel] 24,bk_ p5 #[i6_ a.n,str a.set,str a.rel] 24]) (fun m=>(b.n - m).toNat) (0) ⟨by omega,fun i hi=>absurd hi (by omega)⟩ (Sub.sel [1,3,4,5,7,38,39] Z) (fun _ h=>h) ?_)))))))))))
 rintro m ⟨hk2,hall2⟩;refine zD (zA (zB 1 Z (zF (zC [1,3,4,5,7,38,39,40] [_,_,_,_,_,_,_,_] Z (zD (qB (b:=decide ((m:Int)<b.n)) Z (fun h40=>?_) (fun h40=>?_)))))))
 ·
  replace h40:=zI h40
  have hy:b.El m:=⟨by omega,by omega⟩;refine zV (zC [1,3,4,5,7,38,39] [_,_,_,_,_,_,_] Z (zD (qF (zD (zA (zB 2 Z (zF (zC [1,3,4,5,7,14,38,39] [_,_,_,_,_,_,_,_] Z (zD (zA (zE Z (zK (cs:=#[i6_ b.n,str b.set,str b.rel]) 0 Z zQ Z Z zN) (zB 1 Z (zE Z (zK (cs:=#[i6_ a.n,str a.set,str a.rel]) 1 Z zQ Z Z zN) (zB 3 Z (zE (v:=.tuple #[i6_ ((((rep (goB n) b ys a xs (m:Int)).getD 0:Nat):Int)),bo_ ((rep (goB n) b ys a xs (m:Int)).isSome)]) Z (zT Z Tryd.call78 Z zL (fun w1 hw1=>ih b a ys xs vb va w1 hb ha (Row.own hvb hw1) (Row.own hva hw1) hB hA (by first | (simp;done) | (simp;omega) | omega) (by first | (simp;done) | (simp;omega) | omega) (m:Int) hy)) (zB 1 Z (zE (v:=i6_ ((((rep (goB n) b ys a xs (m:Int)).getD 0:Nat):Int))) Z (qJ Z Z Z) (zE (v:=bo_ ((rep (goB n) b ys a xs (m:Int)).isSome)) Z (qJ Z Z Z) (zB 2 Z (zF (zC [1,3,4,5,7,16,38,39] [_,_,_,_,_,_,_,_] Z (zD (zA (zB 2 Z (zF (zC [1,3,4,5,7,38,39,53] [_,_,_,_,_,_,_,_] Z (qB (b:=!((rep (goB n) b ys a xs (m:Int)).isSome)) Z (fun h53=>?_) (fun h53=>?_))))))))))))))))))))))))))))
  ·
   replace h53:=not_true h53;refine zD (zA (zB 1 Z (zF (zC [10] [_] Z (zZ (qA Z Z fun w' hw=>?_))))))
   exact ⟨ret_b (go_no2 (y:=m) (by omega) (by simpa using h53)).symm,hw.below⟩
  replace h53:=not_false h53;refine zV (zC [1,3,4,5,7,38,39] [_,_,_,_,_,_,_] Z (zA (zE Z (qQ Z Z Z (by omega) (by omega)) (zB 1 Z (zF (qU (m+1) ⟨by omega,fun i hi=>(Nat.lt_succ_iff_lt_or_eq.1 hi).elim (hall2 i) (fun e=>by subst e;assumption)⟩ (by omega) (Sub.sel [1,3,4,5,7,38,39] Z) (fun _ h=>h)))))))
 replace h40:=zH h40;refine yO Z (zC [] [] Z (zD (zA (zB 1 Z (zF (zC [10] [_] Z (zZ (qA Z Z fun w' hw=>?_))))))))
 exact ⟨ret_b (go_yes (fun i hi=>hall1 i (by omega)) (fun i hi=>hall2 i (by omega))).symm,hw.below⟩
theorem goes_ok:∀ n:Nat,∀ (a b:St) (xs ys:List Int) (va vb:Value) (w:World),a.Fine→b.Fine→Ints w va xs→Ints w vb ys→a.Els xs→b.Els ys→xs.length=ys.length→xs.length+n≤7→Calls Tryd.prog 120 #[vS a,va,vS b,vb,.int .i64 (n:Int)] w fun en w'=>en=.returned (.bool (goB n a xs b ys))∧Below w.heap.size w w'
  | 0=>fun a b xs ys va vb w _ _ _ _ _ _ _ _=>goes_zero a b xs ys va vb w
  | n+1=>fun a b xs ys va vb w ha hb hva hvb hA hB hl h7 =>
    goes_of n (fun a b xs ys va vb w ha hb hva hvb hA hB hl h7 x hx=>reply_of n (goes_ok n) a b xs ys va vb w ha hb hva hvb hA hB hl h7 x hx) a b xs ys va vb w ha hb hva hvb hA hB hl h7
theorem reply_at (r:Int) (h0:0≤r):∀ (a b:St) (xs ys:List Int) (va vb:Value) (w:World),a.Fine→b.Fine→Ints w va xs→Ints w vb ys→a.Els xs→b.Els ys→xs.length=ys.length→xs.length+(r.toNat+1)≤7→∀ x:Int,a.El x→Calls Tryd.prog 78 #[vS a,va,vS b,vb,.int .i64 (r+1),.int .i64 x] w fun en w'=>en=.returned (.tuple #[.int .i64 (((rep (goB r.toNat) a xs b ys x).getD 0:Nat):Int),.bool (rep (goB r.toNat) a xs b ys x).isSome])∧Below w.heap.size w w':=by
  intro a b xs ys va vb w ha hb hva hvb hA hB hl h7 x hx
  have h:=reply_of r.toNat (goes_ok r.toNat) a b xs ys va vb w ha hb hva hvb hA hB hl h7 x hx
  rw [Int.toNat_of_nonneg h0] at h
  exact h
set_option maxHeartbeats 400000 in
theorem type_zero (B:Nat) (w0:World) (hs:List (Nat×Obj)) (q c:Nat) (bs:List Bkt) (T:List (List UInt8)) (a:St) (va:Value) (xs:List Int) (w:World) (hT:TabOk bs T) (ha:a.Fine) (hva:∀ w,Own B w0 hs w→Ints w va xs) (hA:a.Els xs) (h7:xs.length+0≤7) (hcap:T.length+cnt 0≤1000000) (hw:Own B w0 (tabL 182 3 184 q c bs T++hs) w) :
    Calls Tryd.prog 115 [.agg #[sl_ q 997 997,sl_ c 1 1],vS a,va,i6_ 0].toArray w fun en w'=>∃ (m:Nat) (bs':List Bkt) (T':List (List UInt8)),en=.returned (.int .i64 (m:Int))∧(TabTo T bs' T' (cnt 0)∧Means T' 0 a xs m)∧Own B w0 (tabL 182 3 184 q c bs' T'++hs) w':=by
 refine fnStartC (Own B w0 (tabL 182 3 184 q c bs T++hs)) (n:=56) (e:=[(0,.agg #[sl_ q 997 997,sl_ c 1 1]),(1,vS a),(2,va),(3,i6_ 0)]) Tryd.func115 Z Z Z Z Ends.both hw ?_
 have hc0:cnt 0=1:=rfl
 have hbits:(atomBits a xs).length≤175:=bits_small (by omega)
 have hd0:=decS_len 0 12 (by decide) (by decide);refine zD (zW (yD (v:=.agg #[sl_ q 997 997,sl_ c 1 1]) Z Z Z Z Z fun p4 hp4=>?_))
 show Ll _ _ (Own _ _ (_::_::_::(blks 184 bs++hs))) _ _ ((4,pt_ p4)::_) _ _ _;refine yD (v:=vS a) Z Z Z Z Z fun p5 hp5=>?_
 show Ll _ _ (Own _ _ (_::_::_::_::(blks 184 bs++hs))) _ _ ((5,pt_ p5)::_) _ _ _;refine qD 1 Z (zS (zC [2,3,4,5] [_,_,_,_] Z (zD (zA (zE Z (zK (cs:=#[i6_ a.n,str a.set,str a.rel]) 0 Z zQ Z Z zN) (zB 1 Z (zE (v:=str (atomBits a xs)) Z (zT Z Tryd.call147 Z zL (fun w1 hw1=>l5Atoms_ok a va xs w1 ha (hva _ (Own.drop (f:=bk_ p5 #[i6_ a.n,str a.set,str a.rel] 24::bk_ p4 #[sl_ q 997 997,sl_ c 1 1] 112::bk_ q ((bs.map bktV).toArray) 182::bk_ c #[i6_ (T.length:Int)] 3::blks 184 (bs)) hw1)) hA (by first | (simp;done) | (simp;omega) | omega))) (zB 1 Z (zF (zC [2,3,4,5,9] [_,_,_,_,_] Z (zD (zD (zA (zB 2 Z (zF (zC [2,3,4,5,9,17] [_,_,_,_,_,_] Z (qB (b:=decide ((0:Int)<(0:Int))) Z (fun h17=>?_) (fun h17=>?_))))))))))))))))))
 ·
  replace h17:=zI h17
  exact absurd h17 (by decide)
 replace h17:=zH h17;refine zV (zC [3,4,9] [_,_,_] Z (zD (Wk.regionS (S:=Own B w0 [bk_ p5 #[i6_ a.n,str a.set,str a.rel] 24,bk_ p4 #[sl_ q 997 997,sl_ c 1 1] 112]) [(0,true),(1,true),(4,true),(2,false),(3,true),(5,true),(6,false),(7,true)] yB (fun _ h=>h.drawn) (by kernel_rfl) (qM Z Z Z Z Z (zK (cs:=#[sl_ q 997 997,sl_ c 1 1]) 1 Z Tryd.isAgg112 Z Z Tryd.sizeOf112) (pk [0,1] Z Z) (yN 2 Z (pk [0,1] Z Z) (yA Z (qL (v:=str (decS 0)) Z (qC Z (zT Z Tryd.call47 Z zL (fun w1 hw1=>l15Dec_ok 0 w1 (by omega) (by omega)))) (zS (qO (pk [0,1] Z Z) ?_)))))))));refine qM Z Z Z Z Z (xK Z Z Z (by simp only [qS,qZ,qV];omega)) (pk [0,1] Z Z) (qM Z Z Z Z Z (xK Z Z Z (by simp only [qS,qZ,qV];omega)) (pk [0,1] Z Z) (yA Z (Ll.callTab (S:=182) (I:=3) (E:=184) (q:=q) (c:=c) (bs:=bs) (T:=T) (hs:=hs) (ok:=fun m bs' T'=>TabTo T bs' T' 1∧T'[m]?=some (((decS 0)++([58]))++(atomBits a xs))) (xs:=[.tmp 49,.tmp 54]) (vs:=[.agg #[sl_ q 997 997,sl_ c 1 1],str (((decS 0)++([58]))++(atomBits a xs))]) [bk_ p5 #[i6_ a.n,str a.set,str a.rel] 24,bk_ p4 #[sl_ q 997 997,sl_ c 1 1] 112] Z Z Z Z Tryd.call123 Z (fun w1 hw1=>number_ok B w0 ([bk_ p5 #[i6_ a.n,str a.set,str a.rel] 24,bk_ p4 #[sl_ q 997 997,sl_ c 1 1] 112]++hs) q c bs T (((decS 0)++([58]))++(atomBits a xs)) w1 hT (by omega) (by simp only [qS,qZ,qV];omega) hw1) fun m bs_ T_ hKm=>?_)))
 show Ll _ _ (Own _ _ (_::_::_::_::(blks 184 bs_++hs))) _ _ ((55,i6_ (m:Int))::_) _ _ _;refine zS (qO (pk [0,1] Z Z) ?_);refine yN 1 Z (pk [0,1] Z Z) (Ld.nil (zC [8] [_] Z (zZ (qA Z Z fun w' hw=>?_))))
 exact ⟨m,bs_,T_,rfl,⟨hKm.1,by show _=some (descr 0 _ []);simpa [descr,commas] using hKm.2⟩,hw.drop (f:=[bk_ p5 #[i6_ a.n,str a.set,str a.rel] 24,bk_ p4 #[sl_ q 997 997,sl_ c 1 1] 112])⟩
set_option maxHeartbeats 400000 in
theorem type_of (n:Nat) (ih:∀ (B:Nat) (w0:World) (hs:List (Nat×Obj)) (q c:Nat) (bs:List Bkt) (T:List (List UInt8)) (a:St) (va:Value) (xs:List Int) (w:World),TabOk bs T→a.Fine→(∀ w,Own B w0 hs w→Ints w va xs)→a.Els xs→xs.length+n≤7→T.length+cnt n≤1000000→Own B w0 (tabL 182 3 184 q c bs T++hs) w→Calls Tryd.prog 115 #[.agg #[.slice (some ⟨q,0,none⟩) 997 997,.slice (some ⟨c,0,none⟩) 1 1],vS a,va,.int .i64 (n:Int)] w fun en w'=>∃ (m:Nat) (bs':List Bkt) (T':List (List UInt8)),en=.returned (.int .i64 (m:Int))∧(TabTo T bs' T' (cnt n)∧Means T' n a xs m)∧Own B w0 (tabL 182 3 184 q c bs' T'++hs) w') (B:Nat) (w0:World) (hs:List (Nat×Obj)) (q c:Nat) (bs:List Bkt) (T:List (List UInt8)) (a:St) (va:Value) (xs:List Int) (w:World) (hT:TabOk bs T) (ha:a.Fine) (hva:∀ w,Own B w0 hs w→Ints w va xs) (hA:a.Els xs) (h7:xs.length+(n+1)≤7) (hcap:T.length+cnt (n+1)≤1000000) (hw:Own B w0 (tabL 182 3 184 q c bs T++hs) w) :
    Calls Tryd.prog 115 [.agg #[sl_ q 997 997,sl_ c 1 1],vS a,va,i6_ ((n:Int)+1)].toArray w fun en w'=>∃ (m:Nat) (bs':List Bkt) (T':List (List UInt8)),en=.returned (.int .i64 (m:Int))∧(TabTo T bs' T' (cnt (n+1))∧Means T' (n+1) a xs m)∧Own B w0 (tabL 182 3 184 q c bs' T'++hs) w':=by
 refine fnStartC (Own B w0 (tabL 182 3 184 q c bs T++hs)) (n:=56) (e:=[(0,.agg #[sl_ q 997 997,sl_ c 1 1]),(1,vS a),(2,va),(3,i6_ ((n:Int)+1))]) Tryd.func115 Z Z Z Z Ends.both hw ?_
 have hcs:=cnt_succ n
 have hbits:(atomBits a xs).length≤175:=bits_small (by omega)
 have hm8:=ha.hi
 have hm1:=ha.lo
 have hdn:=decS_len (n+1) 12 (show n+1<1000000000000 by omega) (by decide);refine zD (zW (yD (v:=.agg #[sl_ q 997 997,sl_ c 1 1]) Z Z Z Z Z fun p4 hp4=>?_))
 show Ll _ _ (Own _ _ (_::_::_::(blks 184 bs++hs))) _ _ ((4,pt_ p4)::_) _ _ _;refine yD (v:=vS a) Z Z Z Z Z fun p5 hp5=>?_
 show Ll _ _ (Own _ _ (_::_::_::_::(blks 184 bs++hs))) _ _ ((5,pt_ p5)::_) _ _ _;refine qD 1 Z (zS (zC [2,3,4,5] [_,_,_,_] Z (zD (zA (zE Z (zK (cs:=#[i6_ a.n,str a.set,str a.rel]) 0 Z zQ Z Z zN) (zB 1 Z (zE (v:=str (atomBits a xs)) Z (zT Z Tryd.call147 Z zL (fun w1 hw1=>l5Atoms_ok a va xs w1 ha (hva _ (Own.drop (f:=bk_ p5 #[i6_ a.n,str a.set,str a.rel] 24::bk_ p4 #[sl_ q 997 997,sl_ c 1 1] 112::bk_ q ((bs.map bktV).toArray) 182::bk_ c #[i6_ (T.length:Int)] 3::blks 184 (bs)) hw1)) hA (by first | (simp;done) | (simp;omega) | omega))) (zB 1 Z (zF (zC [2,3,4,5,9] [_,_,_,_,_] Z (zD (zD (zA (zB 2 Z (zF (zC [2,3,4,5,9,17] [_,_,_,_,_,_] Z (qB (b:=decide ((0:Int)<((n:Int)+1))) Z (fun h17=>?_) (fun h17=>?_))))))))))))))))))
 ·
  replace h17:=zI h17;refine zD (zW (yM (xs:=[]) (vs:=[]) qE Z Z Z Z Z Z (by decide) Z fun p18 hp18=>(qD 1 Z (zS (zC [2,3,4,5,9,10] [_,_,_,_,_,_] Z (zD (zD (zA (zB 1 Z (zF (zC [2,3,4,5,9,10,11] [_,_,_,_,_,_,_] Z (qF (yQ (σ:=Nat×List Bkt×List (List UInt8)×Nat×Nat×Array Value×List Int) (fun ⟨k,bs1,T1,g,cap,cur,L⟩=>(k:Int)≤a.n∧TabTo T bs1 T1 (k*cnt n)∧FoundL T1 n a xs L k∧cur.size=cap*1∧L.length≤cap∧cur.toList.take L.length=ints L) (fun ⟨k,bs1,T1,g,cap,cur,L⟩=>[(2,va),(3,i6_ ((n:Int)+1)),(4,pt_ p4),(5,pt_ p5),(9,str (atomBits a xs)),(10,sl_ g L.length cap),(11,i6_ (k:Int))]) (fun ⟨k,bs1,T1,g,cap,cur,L⟩=>Own B w0 (bk_ g cur 3::bk_ p5 #[i6_ a.n,str a.set,str a.rel] 24::bk_ p4 #[sl_ q 997 997,sl_ c 1 1] 112::bk_ q ((bs1.map bktV).toArray) 182::bk_ c #[i6_ (T1.length:Int)] 3::(blks 184 bs1++hs))) (fun ⟨k,bs1,T1,g,cap,cur,L⟩=>(a.n - k).toNat) (0,bs,T,p18,0,#[],[]) ⟨by omega,⟨hT,List.prefix_refl _,by omega⟩,FoundL.zero,rfl,Nat.le_refl _,rfl⟩ (Sub.sel [2,3,4,5,9,10,11] Z) (fun _ h=>h) ?_)))))))))))))
  rintro ⟨k,bs1,T1,g,cap,cur,L⟩ ⟨hk,hTT,hF,hc,hle,ht⟩
  dsimp only
  have hFl:=hF.len
  have hTl:=hTT.len
  have hk8:=cnt_le k n (by omega);refine zD (zD (zA (zB 1 Z (zE Z (zR Z zP Z zM Z Z) (zE Z (zX 1 Z zU Z Z Z) (zB 1 Z (zF (zC [2,3,4,5,9,10,11,22] [_,_,_,_,_,_,_,_] Z (qB (b:=decide ((k:Int)<a.n)) Z (fun h22=>?_) (fun h22=>?_))))))))))
  ·
   replace h22:=zI h22
   have hx:a.El k:=⟨by omega,by omega⟩
   have hk8b:=cnt_le (k+1) n (by omega)
   rw [Nat.add_mul,Nat.one_mul] at hk8b;refine zV (zC [2,3,4,5,9,10,11] [_,_,_,_,_,_,_] Z (zD (qF (Wk.regionS (S:=Own B w0 [bk_ p5 #[i6_ a.n,str a.set,str a.rel] 24,bk_ p4 #[sl_ q 997 997,sl_ c 1 1] 112]) [(0,true),(1,true),(2,true),(3,true),(4,true),(6,true),(7,true),(5,false),(8,false),(9,false),(10,true)] yB (fun _ h=>h.drawn) (by kernel_rfl) (yN 1 Z (pk [1,2] Z Z) (qM Z Z Z Z Z (zK (cs:=#[sl_ q 997 997,sl_ c 1 1]) 1 Z Tryd.isAgg112 Z Z Tryd.sizeOf112) (pk [1,2] Z Z) (qM Z Z Z Z Z (zK (cs:=#[i6_ a.n,str a.set,str a.rel]) 0 Z zQ Z Z zN) (pk [1,2] Z Z) (yN 3 Z (pk [1,2] Z Z) (qM (v:=i6_ (n:Int)) Z Z Z Z Z (qC (by congr 1;omega) (xH Z Z Z (by omega) (by omega))) (pk [1,2] Z Z) (yA Z (yT (xs:=[.tmp 28,.tmp 29]) (m:=(xs++[(k:Int)]).length) (vs:=ints (xs++[(k:Int)])) (el:=3) (size:=1) Z Z Z Z yY Z (fun w1 hw1=>l4With_ok va xs (k:Int) w1 (hva _ (Own.drop (f:=bk_ g cur 3::bk_ p5 #[i6_ a.n,str a.set,str a.rel] 24::bk_ p4 #[sl_ q 997 997,sl_ c 1 1] 112::bk_ q ((bs1.map bktV).toArray) 182::bk_ c #[i6_ (T1.length:Int)] 3::blks 184 (bs1)) hw1)) (by omega)) fun p30 cap30 cur30 hp30 hcp30 hlp30 htp30=>(zS (qO (pk [2,3] Z Z) ?_)))))))))))));refine yA Z (Ll.callTab (S:=182) (I:=3) (E:=184) (q:=q) (c:=c) (bs:=bs1) (T:=T1) (hs:=hs) (ok:=fun m bs' T'=>TabTo T1 bs' T' (cnt n)∧Means T' n a (xs++[(k:Int)]) m) (xs:=[.tmp 26,.tmp 27,.tmp 30,.tmp 32]) (vs:=[.agg #[sl_ q 997 997,sl_ c 1 1],vS a,sl_ p30 ((xs++[(k:Int)]).length) cap30,i6_ (n:Int)]) [bk_ p30 cur30 3,bk_ g cur 3,bk_ p5 #[i6_ a.n,str a.set,str a.rel] 24,bk_ p4 #[sl_ q 997 997,sl_ c 1 1] 112] Z Z Z Z Tryd.call115 Z (fun w1 hw1=>ih B w0 ([bk_ p30 cur30 3,bk_ g cur 3,bk_ p5 #[i6_ a.n,str a.set,str a.rel] 24,bk_ p4 #[sl_ q 997 997,sl_ c 1 1] 112]++hs) q c bs1 T1 a (sl_ p30 ((xs++[(k:Int)]).length) cap30) (xs++[(k:Int)]) w1 hTT.ok ha (fun w2 hw2=>(qN hw2 (i:=0) Z (by simpa using htp30) (by simp) hlp30)) (els_more hA hx) (by first | (simp;done) | (simp;omega) | omega) (by omega) hw1) fun m bs_ T_ hKm=>?_)
   show Ll _ _ (Own _ _ (_::_::_::_::_::_::(blks 184 bs_++hs))) _ _ ((33,i6_ (m:Int))::_) _ _ _;refine zS (qO (pk [2,3] Z Z) ?_);refine yA Z (Ll.callGet (σ:=Nat×Nat×Array Value) (ok:=fun (g,c',u)=>u.size=c'*1∧(insS L (m:Int)).length≤c'∧u.toList.take (insS L (m:Int)).length=ints (insS L (m:Int))) (v:=fun (g,c',u)=>.slice (some ⟨g,0,none⟩) (insS L (m:Int)).length c') (xs:=[.tmp 25,.tmp 33]) (vs:=[sl_ g L.length cap,i6_ (m:Int)]) (hs':=fun (g,c',u)=>(bk_ p30 cur30 3::bk_ g u 3::bk_ p5 #[i6_ a.n,str a.set,str a.rel] 24::bk_ p4 #[sl_ q 997 997,sl_ c 1 1] 112::bk_ q ((bs_.map bktV).toArray) 182::bk_ c #[i6_ (T_.length:Int)] 3::(blks 184 bs_++hs))) Z Z Z Z Tryd.call148 Z (fun w1 hw1=>(l5Insert_ok _ _ _ g cap cur L (m:Int) w1 hc hle ht (by omega) (hw1.perm (perm_back [bk_ p30 cur30 3] [_] _))).mono fun en w' ⟨g',cap',cur',h1,h2,h3⟩=>⟨(g',cap',cur'),h1,h2,h3.perm (perm_back [_] [bk_ p30 cur30 3] _)⟩) fun ⟨g_,cap_,cur_⟩ ⟨hcg_,hlg_,htg_⟩=>?_)
   show Ll _ _ (Own _ _ (_::_::_::_::_::_::(blks 184 bs_++hs))) _ _ ((34,sl_ g_ ((insS L (m:Int)).length) cap_)::_) _ _ _;refine zS (qO (pk [2,3] Z Z) ?_);refine yN 1 Z (pk [2,3] Z Z) (Ld.nil (zC [2,3,4,5,9,10,11] [_,_,_,_,_,_,_] Z (zA (zB 1 Z (zE Z (qQ Z Z Z (by omega) (by omega)) (zB 1 Z (zF (qU ((k+1,bs_,T_,g_,cap_,cur_,(insS L (m:Int)))) ⟨by omega,hTT.trans hKm.1 (by rw [Nat.add_mul,Nat.one_mul];exact Nat.le_refl _),hF.step hKm.1.pre hKm.2,hcg_,hlg_,htg_⟩ (by omega) (Sub.sel [2,3,4,5,9,10,11] Z) (fun _ h=>h.tail)))))))))
  replace h22:=zH h22
  have hsm:=hF.small (by omega);refine yO Z (zC [3,4,9,10] [_,_,_,_] Z (zD (zA (zB 1 Z (zF (zC [3,4,9,10,12] [_,_,_,_,_] Z (qF (yQ (σ:=Nat) (fun i=>i≤L.length) (fun i=>[(3,i6_ ((n:Int)+1)),(4,pt_ p4),(9,str (atomBits a xs++commas (L.take i))),(10,sl_ g L.length cap),(12,i6_ (i:Int))]) (fun i=>Own B w0 (bk_ g cur 3::bk_ p5 #[i6_ a.n,str a.set,str a.rel] 24::bk_ p4 #[sl_ q 997 997,sl_ c 1 1] 112::bk_ q ((bs1.map bktV).toArray) 182::bk_ c #[i6_ (T1.length:Int)] 3::(blks 184 bs1++hs))) (fun i=>L.length - i) (0) (by omega) (Sub.cons Z (Sub.cons Z (Sub.cons (by simp [commas,List.lookup]) (Sub.sel [10,12] Z)))) (fun _ h=>h) ?_))))))))
  rintro i hi;refine zD (zD (zA (zB 2 Z (zE Z (yZ Z zJ Z) (zB 1 Z (zF (zC [3,4,9,10,12,38] [_,_,_,_,_,_] Z (qB (b:=decide ((i:Int)<(L.length:Int))) Z (fun h38=>?_) (fun h38=>?_)))))))))
  ·
   replace h38:=zI h38
   have hct:=commas_take (i:=i) hsm (by omega)
   obtain ⟨hs0,hs1⟩:=at_small hsm (i:=i) (by omega)
   have hdi:=decS_len (L.getD i 0).toNat 12 (show _<1000000000000 by omega) (by decide);refine zV (zC [3,4,9,10,12] [_,_,_,_,_] Z (zD (qF (zA (zB 1 Z (zE Z (xK Z Z Z (by simp only [qS,qZ,qV];omega)) (zB 2 Z (zE (v:=pf_ g i) Z (qC (by simp) (qH Z zJ zM Z Z (by omega) (by omega))) (zE (v:=i6_ (L.getD (i) 0)) Z (yR 0 Z zU Z Z (cur_at ht (ints_at2 (by omega)))) (zE (v:=str (decS (L.getD (i) 0).toNat)) Z (zT Z Tryd.call47 Z zL (fun w1 hw1=>l15Dec_ok (L.getD (i) 0) w1 (by omega) (by omega))) (zE Z (xK Z Z Z (by simp only [qS,qZ,qV,Int.toNat_natCast] at *;omega)) (zB 1 Z (zF (zC [3,4,9,10,12] [_,_,_,_,_] Z (zA (zB 1 Z (zE Z (qQ Z Z Z (by omega) (by omega)) (zB 1 Z (zF (qU (i+1) (by omega) (by omega) (Sub.cons Z (Sub.cons Z (Sub.cons (by rw [commas_step (by omega)];rfl) (Sub.sel [10,12] Z)))) (fun _ h=>h)))))))))))))))))))))
  replace h38:=zH h38
  obtain rfl:i=L.length:=by omega
  rw [List.take_length]
  have hcl:=commas_len hsm;refine yO Z (zC [3,4,9] [_,_,_] Z (zD (Wk.regionS (S:=Own B w0 [bk_ g cur 3,bk_ p5 #[i6_ a.n,str a.set,str a.rel] 24,bk_ p4 #[sl_ q 997 997,sl_ c 1 1] 112]) [(0,true),(1,true),(4,true),(2,false),(3,true),(5,true),(6,false),(7,true)] yB (fun _ h=>h.drawn) (by kernel_rfl) (qM Z Z Z Z Z (zK (cs:=#[sl_ q 997 997,sl_ c 1 1]) 2 Z Tryd.isAgg112 Z Z Tryd.sizeOf112) (pk [0,1,2] Z Z) (yN 2 Z (pk [0,1,2] Z Z) (yA Z (qL (v:=str (decS (n+1))) Z (qC (by rw [show ((n:Int)+1).toNat=n+1 from by omega]) (zT Z Tryd.call47 Z zL (fun w1 hw1=>l15Dec_ok ((n:Int)+1) w1 (by omega) (by omega)))) (zS (qO (pk [0,1,2] Z Z) ?_)))))))));refine qM Z Z Z Z Z (xK Z Z Z (by simp only [qS,qZ,qV];omega)) (pk [0,1,2] Z Z) (qM Z Z Z Z Z (xK Z Z Z (by simp only [qS,qZ,qV];omega)) (pk [0,1,2] Z Z) (yA Z (Ll.callTab (S:=182) (I:=3) (E:=184) (q:=q) (c:=c) (bs:=bs1) (T:=T1) (hs:=hs) (ok:=fun m bs' T'=>TabTo T1 bs' T' 1∧T'[m]?=some (((decS (n+1))++([58]))++(atomBits a xs++commas L))) (xs:=[.tmp 49,.tmp 54]) (vs:=[.agg #[sl_ q 997 997,sl_ c 1 1],str (((decS (n+1))++([58]))++(atomBits a xs++commas L))]) [bk_ g cur 3,bk_ p5 #[i6_ a.n,str a.set,str a.rel] 24,bk_ p4 #[sl_ q 997 997,sl_ c 1 1] 112] Z Z Z Z Tryd.call123 Z (fun w1 hw1=>number_ok B w0 ([bk_ g cur 3,bk_ p5 #[i6_ a.n,str a.set,str a.rel] 24,bk_ p4 #[sl_ q 997 997,sl_ c 1 1] 112]++hs) q c bs1 T1 (((decS (n+1))++([58]))++(atomBits a xs++commas L)) w1 hTT.ok (by omega) (by simp only [qS,qZ,qV];omega) hw1) fun m_1 bs__1 T__1 hKm_1=>?_)))
  show Ll _ _ (Own _ _ (_::_::_::_::_::(blks 184 bs__1++hs))) _ _ ((55,i6_ (m_1:Int))::_) _ _ _;refine zS (qO (pk [0,1,2] Z Z) ?_);refine yN 1 Z (pk [0,1,2] Z Z) (Ld.nil (zC [8] [_] Z (zZ (qA Z Z fun w' hw=>?_))))
  obtain rfl:k=a.n.toNat:=by omega
  exact ⟨m_1,bs__1,T__1,rfl,⟨hTT.trans hKm_1.1 (by rw [cnt_succ];omega),hF.means hKm_1.1.pre hKm_1.2⟩,hw.drop (f:=[bk_ g cur 3,bk_ p5 #[i6_ a.n,str a.set,str a.rel] 24,bk_ p4 #[sl_ q 997 997,sl_ c 1 1] 112])⟩
 replace h17:=zH h17
 exact absurd h17 (by omega)
theorem type_ok:∀ n:Nat,∀ (B:Nat) (w0:World) (hs:List (Nat×Obj)) (q c:Nat) (bs:List Bkt) (T:List (List UInt8)) (a:St) (va:Value) (xs:List Int) (w:World),TabOk bs T→a.Fine→(∀ w,Own B w0 hs w→Ints w va xs)→a.Els xs→xs.length+n≤7→T.length+cnt n≤1000000→Own B w0 (tabL 182 3 184 q c bs T++hs) w→Calls Tryd.prog 115 #[.agg #[.slice (some ⟨q,0,none⟩) 997 997,.slice (some ⟨c,0,none⟩) 1 1],vS a,va,.int .i64 (n:Int)] w fun en w'=>∃ (m:Nat) (bs':List Bkt) (T':List (List UInt8)),en=.returned (.int .i64 (m:Int))∧(TabTo T bs' T' (cnt n)∧Means T' n a xs m)∧Own B w0 (tabL 182 3 184 q c bs' T'++hs) w'
  | 0=>fun B w0 hs q c bs T a va xs w hT ha hva hA h7 hcap hw=>type_zero B w0 hs q c bs T a va xs w hT ha hva hA h7 hcap hw
  | n+1=>fun B w0 hs q c bs T a va xs w hT ha hva hA h7 hcap hw=>type_of n (type_ok n) B w0 hs q c bs T a va xs w hT ha hva hA h7 hcap hw
end Go.Proofs.YteccfipfimbdgaaDoor
namespace Go.Proofs.YteccfipfimbdgaaDoor
open Go.RowKit Go.Wk
set_option linter.unusedSimpArgs false
set_option maxHeartbeats 400000 in
theorem l5Reply_ok (a b:St) (xs ys:List Int) (va vb:Value) (w:World) (ha:a.Fine) (hb:b.Fine) (hva:Ints w va xs) (hvb:Ints w vb ys) (hA:a.Els xs) (hB:b.Els ys) (hlen:xs.length=ys.length) (h4:xs.length≤4) (n:Nat) (h3:n≤2) (x:Int) (hx:a.El x) :
    Calls Tryd.prog 73 [vS a,va,vS b,vb,i6_ ((n:Int)+1),i6_ x].toArray w fun en w'=>en=.returned (.int .i64 (repI (rep (goB n) a xs b ys x)))∧Below w.heap.size w w':=by
 refine fnStart (n:=42) (e:=[(0,vS a),(1,va),(2,vS b),(3,vb),(4,i6_ ((n:Int)+1)),(5,i6_ x)]) Tryd.func73 Z Z Z Z Ends.both ?_
 have hcn:=cnt_small (n:=n) (by omega)
 have hn8:=hb.hi
 have hn1:=hb.lo;refine zD (zW (yD (v:=vS a) Z Z Z Z Z fun p6 hp6=>?_))
 show Ll _ _ (Own _ _ [_]) _ _ ((6,pt_ p6)::_) _ _ _;refine yD (v:=vS b) Z Z Z Z Z fun p8 hp8=>?_
 show Ll _ _ (Own _ _ [_,_]) _ _ ((8,pt_ p8)::_) _ _ _;refine qD 1 Z (zS (zC [1,3,4,5,6,8] [_,_,_,_,_,_] Z (zD (zW (Ll.callGet (σ:=Nat×Nat×List Bkt) (ok:=fun s=>TabOk s.2.2 []) (v:=fun s=>.agg #[.slice (some ⟨s.1,0,none⟩) 997 997,.slice (some ⟨s.2.1,0,none⟩) 1 1]) (xs:=[]) (vs:=[]) (hs':=fun s=>[bk_ p8 #[i6_ b.n,str b.set,str b.rel] 24,bk_ p6 #[i6_ a.n,str a.set,str a.rel] 24]++(tabL 182 3 184 s.1 s.2.1 s.2.2 []++[])) Z Z Z Z Tryd.call90 Z (fun w1 hw1=>(l5New_ok _ _ _ w1 hw1).mono fun en w' ⟨q,c,h1,h2⟩=>⟨(q,c,_),h1,TabOk.new,by dsimp only;rw [List.append_nil];exact h2.perm perm_front⟩) fun ⟨q,c,bs0⟩ hT0=>?_)))))
 show Ll _ _ (Own _ _ (_::_::_::_::(blks 184 bs0++[]))) _ _ ((16,.agg #[sl_ q 997 997,sl_ c 1 1])::_) _ _ _;refine Ll.alloc Z Z Z Z Tryd.zeroValue112 fun p13 hp13=>?_
 show Ll _ _ (Own _ _ (bk_ p13 #[.slice none 0 0,.slice none 0 0] 112::_::_::_::_::(blks 184 bs0++[]))) _ _ ((13,pt_ p13)::_) _ _ _;refine Ll.storeBox (cs':=#[sl_ q 997 997,sl_ c 1 1]) (hs':=(bk_ p13 #[sl_ q 997 997,sl_ c 1 1] 112::_::_::_::_::(blks 184 bs0++[]))) 0 Z Z Z Z Z (by kernel_rfl:_=some Tryd.t112) Z Z Z Z Z (zS (zC [1,3,4,5,6,8,13] [_,_,_,_,_,_,_] Z (zD (Wk.regionS (S:=Own w.heap.size w [bk_ p13 #[sl_ q 997 997,sl_ c 1 1] 112,bk_ p8 #[i6_ b.n,str b.set,str b.rel] 24,bk_ p6 #[i6_ a.n,str a.set,str a.rel] 24]) [(0,true),(1,true),(2,true),(3,true),(5,true),(6,true),(4,false),(7,false),(8,true)] yB (fun _ h=>h.drawn) (by kernel_rfl) (qM Z Z Z Z Z (zK (cs:=#[sl_ q 997 997,sl_ c 1 1]) 0 Z Tryd.isAgg112 Z Z Tryd.sizeOf112) (pk [0,1,2] Z Z) (qM Z Z Z Z Z (zK (cs:=#[i6_ a.n,str a.set,str a.rel]) 2 Z zQ Z Z zN) (pk [0,1,2] Z Z) (yN 3 Z (pk [0,1,2] Z Z) (qM (v:=i6_ (n:Int)) Z Z Z Z Z (qC (by congr 1;omega) (xH Z Z Z (by omega) (by omega))) (pk [0,1,2] Z Z) (yA Z (yT (xs:=[.tmp 19,.tmp 20]) (m:=(xs++[x]).length) (vs:=ints (xs++[x])) (el:=3) (size:=1) Z Z Z Z yY Z (fun w1 hw1=>l4With_ok va xs x w1 (Row.own hva hw1) (by omega)) fun p21 cap21 cur21 hp21 hcp21 hlp21 htp21=>(zS (qO (pk [1,2,3] Z Z) ?_))))))))))));refine yA Z (Ll.callTab (S:=182) (I:=3) (E:=184) (q:=q) (c:=c) (bs:=bs0) (T:=([]:List (List UInt8))) (hs:=[]) (ok:=fun m bs' T'=>TabTo ([]:List (List UInt8)) bs' T' (cnt n)∧Means T' n a (xs++[x]) m) (xs:=[.tmp 17,.tmp 18,.tmp 21,.tmp 23]) (vs:=[.agg #[sl_ q 997 997,sl_ c 1 1],vS a,sl_ p21 ((xs++[x]).length) cap21,i6_ (n:Int)]) [bk_ p21 cur21 3,bk_ p13 #[sl_ q 997 997,sl_ c 1 1] 112,bk_ p8 #[i6_ b.n,str b.set,str b.rel] 24,bk_ p6 #[i6_ a.n,str a.set,str a.rel] 24] Z Z Z Z Tryd.call115 Z (fun w1 hw1=>type_ok n w.heap.size w ([bk_ p21 cur21 3,bk_ p13 #[sl_ q 997 997,sl_ c 1 1] 112,bk_ p8 #[i6_ b.n,str b.set,str b.rel] 24,bk_ p6 #[i6_ a.n,str a.set,str a.rel] 24]++[]) q c bs0 ([]:List (List UInt8)) a (sl_ p21 ((xs++[x]).length) cap21) (xs++[x]) w1 hT0 ha (fun w2 hw2=>(qN hw2 (i:=0) Z (by simpa using htp21) (by simp) hlp21)) (els_more hA hx) (by simp;omega) (by simp only [qV];omega) hw1) fun m bs_ T_ hKm=>?_)
 show Ll _ _ (Own _ _ (_::_::_::_::_::_::(blks 184 bs_++[]))) _ _ ((24,i6_ (m:Int))::_) _ _ _;refine zS (qO (pk [1,2,3] Z Z) ?_);refine yN 1 Z (pk [1,2,3] Z Z) (Ld.nil (zC [3,4,8,13,14] [_,_,_,_,_] Z (zD (zD (zA (zB 1 Z (zF (zC [3,4,8,13,14,15] [_,_,_,_,_,_] Z (qF (yQ (σ:=Nat×List Bkt×List (List UInt8)) (fun ⟨k,bs1,T1⟩=>(k:Int)≤b.n∧TabTo T_ bs1 T1 (k*cnt n)∧Means T1 n a (xs++[x]) m∧∀ i:Nat,i<k→winB n a (xs++[x]) b (ys++[(i:Int)])=false) (fun ⟨k,bs1,T1⟩=>[(3,vb),(4,i6_ ((n:Int)+1)),(8,pt_ p8),(13,pt_ p13),(14,i6_ (m:Int)),(15,i6_ (k:Int))]) (fun ⟨k,bs1,T1⟩=>Own w.heap.size w (bk_ p21 cur21 3::bk_ p13 #[sl_ q 997 997,sl_ c 1 1] 112::bk_ p8 #[i6_ b.n,str b.set,str b.rel] 24::bk_ p6 #[i6_ a.n,str a.set,str a.rel] 24::bk_ q ((bs1.map bktV).toArray) 182::bk_ c #[i6_ (T1.length:Int)] 3::(blks 184 bs1++[]))) (fun ⟨k,bs1,T1⟩=>(b.n - k).toNat) (0,bs_,T_) ⟨by omega,⟨hKm.1.ok,List.prefix_refl _,by omega⟩,hKm.2,fun i hi=>absurd hi (by omega)⟩ (Sub.sel [3,4,8,13,14,15] Z) (fun _ h=>h) ?_))))))))))
 rintro ⟨k,bs1,T1⟩ ⟨hk,hTT,hM,hall⟩
 dsimp only
 have hTl:=hTT.len
 have hTl0:=hKm.1.len
 simp only [qV] at hTl0
 have hk8:=cnt_le k n (by omega);refine zD (zD (zA (zB 1 Z (zE Z (zR Z zP Z zM Z Z) (zE Z (zX 2 Z zU Z Z Z) (zB 1 Z (zF (zC [3,4,8,13,14,15,28] [_,_,_,_,_,_,_] Z (qB (b:=decide ((k:Int)<b.n)) Z (fun h28=>?_) (fun h28=>?_))))))))))
 ·
  replace h28:=zI h28
  have hy:b.El k:=⟨by omega,by omega⟩;refine zV (zC [3,4,8,13,14,15] [_,_,_,_,_,_] Z (zD (qF (zD (Wk.regionS (S:=Own w.heap.size w [bk_ p21 cur21 3,bk_ p13 #[sl_ q 997 997,sl_ c 1 1] 112,bk_ p8 #[i6_ b.n,str b.set,str b.rel] 24,bk_ p6 #[i6_ a.n,str a.set,str a.rel] 24]) [(0,true),(1,true),(2,true),(3,true),(5,true),(6,true),(8,true),(4,false),(7,false),(9,true)] yB (fun _ h=>h.drawn) (by kernel_rfl) (qM Z Z Z Z Z (zK (cs:=#[sl_ q 997 997,sl_ c 1 1]) 1 Z Tryd.isAgg112 Z Z Tryd.sizeOf112) (pk [0,1,2,3] Z Z) (qM Z Z Z Z Z (zK (cs:=#[i6_ b.n,str b.set,str b.rel]) 2 Z zQ Z Z zN) (pk [0,1,2,3] Z Z) (yN 3 Z (pk [0,1,2,3] Z Z) (qM (v:=i6_ (n:Int)) Z Z Z Z Z (qC (by congr 1;omega) (xH Z Z Z (by omega) (by omega))) (pk [0,1,2,3] Z Z) (yN 1 Z (pk [0,1,2,3] Z Z) (yA Z (yT (xs:=[.tmp 33,.tmp 34]) (m:=(ys++[(k:Int)]).length) (vs:=ints (ys++[(k:Int)])) (el:=3) (size:=1) Z Z Z Z yY Z (fun w1 hw1=>l4With_ok vb ys (k:Int) w1 (Row.own hvb hw1) (by omega)) fun p35 cap35 cur35 hp35 hcp35 hlp35 htp35=>(zS (qO (pk [1,2,3,4] Z Z) ?_))))))))))))));refine yA Z (Ll.callTab (S:=182) (I:=3) (E:=184) (q:=q) (c:=c) (bs:=bs1) (T:=T1) (hs:=[]) (ok:=fun m bs' T'=>TabTo T1 bs' T' (cnt n)∧Means T' n b (ys++[(k:Int)]) m) (xs:=[.tmp 31,.tmp 32,.tmp 35,.tmp 37]) (vs:=[.agg #[sl_ q 997 997,sl_ c 1 1],vS b,sl_ p35 ((ys++[(k:Int)]).length) cap35,i6_ (n:Int)]) [bk_ p35 cur35 3,bk_ p21 cur21 3,bk_ p13 #[sl_ q 997 997,sl_ c 1 1] 112,bk_ p8 #[i6_ b.n,str b.set,str b.rel] 24,bk_ p6 #[i6_ a.n,str a.set,str a.rel] 24] Z Z Z Z Tryd.call115 Z (fun w1 hw1=>type_ok n w.heap.size w ([bk_ p35 cur35 3,bk_ p21 cur21 3,bk_ p13 #[sl_ q 997 997,sl_ c 1 1] 112,bk_ p8 #[i6_ b.n,str b.set,str b.rel] 24,bk_ p6 #[i6_ a.n,str a.set,str a.rel] 24]++[]) q c bs1 T1 b (sl_ p35 ((ys++[(k:Int)]).length) cap35) (ys++[(k:Int)]) w1 hTT.ok hb (fun w2 hw2=>(qN hw2 (i:=0) Z (by simpa using htp35) (by simp) hlp35)) (els_more hB hy) (by simp;omega) (by omega) hw1) fun m_1 bs__1 T__1 hKm_1=>?_)
  show Ll _ _ (Own _ _ (_::_::_::_::_::_::_::(blks 184 bs__1++[]))) _ _ ((38,i6_ (m_1:Int))::_) _ _ _;refine zS (qO (pk [1,2,3,4] Z Z) ?_);refine yN 1 Z (pk [1,2,3,4] Z Z) (Ld.nil (zC [3,4,8,13,14,15,40] [_,_,_,_,_,_,_] Z (qB (b:=decide ((m_1:Int)=(m:Int))) Z (fun h40=>?_) (fun h40=>?_))))
  ·
   replace h40:=zI h40
   have hwe:=winB_eq (n:=n) (xs:=xs++[x]) (ys:=ys++[(k:Int)]) hKm_1.1.ok.nodup (by simp [hlen]) (hM.mono hKm_1.1.pre _ _ _ _) hKm_1.2
   have hyw:winB n a (xs++[x]) b (ys++[(k:Int)])=true:=by rw [← hwe];simpa using h40.symm
   refine zD (zA (zB 2 Z (zF (zC [12] [_] Z (zZ (qA Z Z fun w' hw=>?_))))))
   exact ⟨ret_i (repI_at hlen (by omega) hall hyw).symm,hw.below⟩
  replace h40:=zH h40
  have hwe:=winB_eq (n:=n) (xs:=xs++[x]) (ys:=ys++[(k:Int)]) hKm_1.1.ok.nodup (by simp [hlen]) (hM.mono hKm_1.1.pre _ _ _ _) hKm_1.2
  have hnw:winB n a (xs++[x]) b (ys++[(k:Int)])=false:=by rw [← hwe];simpa using fun e=>h40 e.symm
  refine zV (zC [3,4,8,13,14,15] [_,_,_,_,_,_] Z (zA (zB 1 Z (zE Z (qQ Z Z Z (by omega) (by omega)) (zB 1 Z (zF (qU (k+1,bs__1,T__1) ⟨by omega,hTT.trans hKm_1.1 (by rw [Nat.add_mul,Nat.one_mul];exact Nat.le_refl _),hM.mono hKm_1.1.pre _ _ _ _,fun i hi=>(Nat.lt_succ_iff_lt_or_eq.1 hi).elim (hall i) (fun e=>by subst e;exact hnw)⟩ (by omega) (Sub.sel [3,4,8,13,14,15] Z) (fun _ h=>h.tail))))))))
 replace h28:=zH h28;refine yO Z (zC [] [] Z (zD (zA (zB 1 Z (zF (zC [12] [_] Z (zZ (qA Z Z fun w' hw=>?_))))))))
 exact ⟨ret_i (repI_no hlen (fun i hi=>hall i (by omega))).symm,hw.below⟩
theorem l5Reply_at (r:Int) (h1:1≤r) (h3:r≤3) (a b:St) (xs ys:List Int) (va vb:Value) (w:World) (ha:a.Fine) (hb:b.Fine) (hva:Ints w va xs) (hvb:Ints w vb ys) (hA:a.Els xs) (hB:b.Els ys) (hlen:xs.length=ys.length) (h4:xs.length≤4) (x:Int) (hx:a.El x) :
    Calls Tryd.prog 73 #[vS a,va,vS b,vb,.int .i64 r,.int .i64 x] w fun en w'=>en=.returned (.int .i64 (repI (rep (goB (r - 1).toNat) a xs b ys x)))∧Below w.heap.size w w':=by
  have h:=l5Reply_ok a b xs ys va vb w ha hb hva hvb hA hB hlen h4 (r - 1).toNat (by omega) x hx
  rw [show (((r - 1).toNat:Int)+1)=r from by omega] at h
  exact h
theorem reply_to (r:Int) (h1:1≤r):∀ (a b:St) (xs ys:List Int) (va vb:Value) (w:World),a.Fine→b.Fine→Ints w va xs→Ints w vb ys→a.Els xs→b.Els ys→xs.length=ys.length→xs.length+((r - 1).toNat+1)≤7→∀ x:Int,a.El x→Calls Tryd.prog 78 #[vS a,va,vS b,vb,.int .i64 r,.int .i64 x] w fun en w'=>en=.returned (.tuple #[.int .i64 (((rep (goB (r - 1).toNat) a xs b ys x).getD 0:Nat):Int),.bool (rep (goB (r - 1).toNat) a xs b ys x).isSome])∧Below w.heap.size w w':=by
  intro a b xs ys va vb w ha hb hva hvb hA hB hl h7 x hx
  have h:=reply_at (r - 1) (by omega) a b xs ys va vb w ha hb hva hvb hA hB hl h7 x hx
  rw [show r - 1+1=r from by omega] at h
  exact h
end Go.Proofs.YteccfipfimbdgaaDoor
namespace Go.Proofs.YteccfipfimbdgaaDoor
open Go.RowKit Go.Wk
set_option linter.unusedSimpArgs false
set_option maxHeartbeats 400000 in
theorem l15Cut_ok (s:List UInt8) (w:World) (hs:s.length≤1048576) :
    Calls Tryd.prog 72 [str s,.int .u8 32].toArray w fun en w'=>∃ v,en=.returned v∧Below w.heap.size w w'∧NewRow w.heap.size 9 1 w' v (cutL s).length (strs (cutL s)):=by
 refine fnStart (n:=36) (e:=[(0,str s),(1,.int .u8 32)]) Tryd.func72 Z Z Z Z Ends.both (zD (zA (zB 1 Z (zF (zC [0,1] [_,_] Z (zD (zW (yM (xs:=[]) (vs:=[]) Base.elem25 Z Z Z Z Z Z (by decide) Z fun p8 hp8=>(qD 1 Z (zS (zC [0,1,5] [_,_,_] Z (zD (zA (zB 1 Z (zF (zC [0,1,5,6] [_,_,_,_] Z (zD (zD (zA (zB 1 Z (zF (zC [0,1,5,6,7] [_,_,_,_,_] Z (qF (yQ (σ:=Nat×Nat×Nat×Nat×Array Value×List (List UInt8)) (fun ⟨i,f,g,c,u,l⟩=>i≤s.length+1∧u.size=c*1∧l.length≤c∧u.toList.take l.length=strs l∧CutTo s i f l) (fun ⟨i,f,g,c,u,l⟩=>[(0,str s),(1,.int .u8 32),(5,sl_ g l.length c),(6,i6_ (f:Int)),(7,i6_ (i:Int))]) (fun ⟨i,f,g,c,u,l⟩=>Own w.heap.size w [bk_ g u 9]) (fun ⟨i,f,g,c,u,l⟩=>s.length+1 - i) (0,0,p8,0,#[],[]) ⟨by omega,rfl,Nat.le_refl 0,rfl,CutTo.start s⟩ (Sub.sel [0,1,5,6,7] Z) (fun _ h=>h) ?_))))))))))))))))))))))))
 rintro ⟨i,f,g,c,u,l⟩ ⟨hi,hcg,hlg,htg,hC⟩
 dsimp only
 have hcl:=hC.len;refine zD (zD (zA (zB 2 Z (zE (v:=i6_ (s.length:Int)) Z (yX Z zO Z) (zB 1 Z (zF (zC [0,1,5,6,7,12] [_,_,_,_,_,_] Z (qB (b:=decide ((i:Int)≤(s.length:Int))) Z (fun h12=>?_) (fun h12=>?_)))))))))
 ·
  replace h12:=zI h12
  have hfi:=hC.le (by omega);refine zV (zC [0,1,5,6,7] [_,_,_,_,_] Z (zD (qF (zD (zA (zB 2 Z (zE (v:=i6_ (s.length:Int)) Z (yX Z zO Z) (zB 2 Z (yU fun b19 hg19=>?_)))))))))
  cases b19
  ·
   replace hg19:=zH hg19
   skip;refine zB 2 Z (zE (v:=.int .u8 (((s.getD ((i:Int).toNat) 0).toNat:Int))) Z (qI Z zO Z Z (by omega) (by omega)) (zB 3 Z (zF (zC [0,1,5,6,7,25] [_,_,_,_,_,_] Z (qB (b:=decide ((((s.getD ((i:Int).toNat) 0).toNat:Int))=(32:Int))) Z (fun h25=>?_) (fun h25=>?_))))))
   ·
    replace h25:=zI h25
    skip;refine zD (zW (qD 4 Z (qL (v:=str ((s.drop ((f:Int).toNat)).take ((i:Int).toNat - (f:Int).toNat))) Z (OpQ.sliceStr Z Tryd.underlying9 Z Z Z (by omega) (by omega) (by first | omega | (simp;omega))) (yM (xs:=[.tmp 30]) (vs:=[str ((s.drop ((f:Int).toNat)).take ((i:Int).toNat - (f:Int).toNat))]) Base.elem25 Z Z Z Z Z Z (by decide) Z fun p31 hp31=>(Ll.appendStrs (xs:=l) (ys:=([(s.drop ((f:Int).toNat)).take ((i:Int).toNat - (f:Int).toNat)]:List (List UInt8))) Base.elem25 1 Z Z Z Z Z Z Z hcg hlg htg (fun w1 hw1=>(qN hw1 (i:=0) Z (n:=1) (cap:=1) (vs:=strs ([(s.drop ((f:Int).toNat)).take ((i:Int).toNat - (f:Int).toNat)]:List (List UInt8))) Z Z (by decide))) ((l++(([(s.drop ((f:Int).toNat)).take ((i:Int).toNat - (f:Int).toNat)]:List (List UInt8)))).length) (by first | (simp;done) | (simp;omega)) (by first | (simp;done) | (simp;omega) | omega) fun p32 cap32 cur32 hp32 hcp32 hlp32 htp32=>?_)))))
    show Ll _ _ (Own _ _ [_,_]) _ _ ((32,sl_ p32 (((l++(([(s.drop ((f:Int).toNat)).take ((i:Int).toNat - (f:Int).toNat)]:List (List UInt8)))).length)) cap32)::_) _ _ _;refine qD 1 Z (zS (zC [0,1,5,7] [_,_,_,_] Z (zA (zB 1 Z (zE Z (qQ Z Z Z (by omega) (by omega)) (zB 1 Z (zF (zC [0,1,5,6,7] [_,_,_,_,_] Z (zA (zB 1 Z (zE Z (qQ Z Z Z (by omega) (by omega)) (zB 1 Z (zF (qU ((i+1,i+1,p32,cap32,cur32,l++(([(s.drop ((f:Int).toNat)).take ((i:Int).toNat - (f:Int).toNat)]:List (List UInt8))))) ⟨by omega,hcp32,by simpa using hlp32,by simpa using (by simpa using htp32),hC.cut (by omega) (byte_32.1 (by assumption))⟩ (by omega) (Sub.sel [0,1,5,6,7] Z) (fun _ h=>h.sub (qG _ (zY _ (yF _))))))))))))))))))
   replace h25:=zH h25
   skip;refine zV (zC [0,1,5,6,7] [_,_,_,_,_] Z (zA (zB 1 Z (zE Z (qQ Z Z Z (by omega) (by omega)) (zB 1 Z (zF (qU (i+1,f,g,c,u,l) ⟨by omega,hcg,hlg,htg,hC.on (by omega) (fun e=>h25 (byte_32.2 e))⟩ (by omega) (Sub.sel [0,1,5,6,7] Z) (fun _ h=>h))))))))
  replace hg19:=zI hg19
  skip;refine zG Z (zG Z (zG Z (zG Z (zG Z (zB 1 Z (zF (zC [0,1,5,6,7,25] [_,_,_,_,_,_] Z (xB Z (zD (zW (qD 4 Z (qL (v:=str ((s.drop ((f:Int).toNat)).take ((i:Int).toNat - (f:Int).toNat))) Z (OpQ.sliceStr Z Tryd.underlying9 Z Z Z (by omega) (by omega) (by first | omega | (simp;omega))) (yM (xs:=[.tmp 30]) (vs:=[str ((s.drop ((f:Int).toNat)).take ((i:Int).toNat - (f:Int).toNat))]) Base.elem25 Z Z Z Z Z Z (by decide) Z fun p31_1 hp31_1=>(Ll.appendStrs (xs:=l) (ys:=([(s.drop ((f:Int).toNat)).take ((i:Int).toNat - (f:Int).toNat)]:List (List UInt8))) Base.elem25 1 Z Z Z Z Z Z Z hcg hlg htg (fun w1 hw1=>(qN hw1 (i:=0) Z (n:=1) (cap:=1) (vs:=strs ([(s.drop ((f:Int).toNat)).take ((i:Int).toNat - (f:Int).toNat)]:List (List UInt8))) Z Z (by decide))) ((l++(([(s.drop ((f:Int).toNat)).take ((i:Int).toNat - (f:Int).toNat)]:List (List UInt8)))).length) (by first | (simp;done) | (simp;omega)) (by first | (simp;done) | (simp;omega) | omega) fun p32_1 cap32_1 cur32_1 hp32_1 hcp32_1 hlp32_1 htp32_1=>?_))))))))))))))
  show Ll _ _ (Own _ _ [_,_]) _ _ ((32,sl_ p32_1 (((l++(([(s.drop ((f:Int).toNat)).take ((i:Int).toNat - (f:Int).toNat)]:List (List UInt8)))).length)) cap32_1)::_) _ _ _;refine qD 1 Z (zS (zC [0,1,5,7] [_,_,_,_] Z (zA (zB 1 Z (zE Z (qQ Z Z Z (by omega) (by omega)) (zB 1 Z (zF (zC [0,1,5,6,7] [_,_,_,_,_] Z (zA (zB 1 Z (zE Z (qQ Z Z Z (by omega) (by omega)) (zB 1 Z (zF (qU ((i+1,i+1,p32_1,cap32_1,cur32_1,l++(([(s.drop ((f:Int).toNat)).take ((i:Int).toNat - (f:Int).toNat)]:List (List UInt8))))) ⟨by omega,hcp32_1,by simpa using hlp32_1,by simpa using (by simpa using htp32_1),hC.last (by omega) _⟩ (by omega) (Sub.sel [0,1,5,6,7] Z) (fun _ h=>h.sub (qG _ (zY _ (yF _))))))))))))))))))
 replace h12:=zH h12;refine yO Z (zC [5] [_] Z (zD (zA (zB 2 Z (zF (zC [4] [_] Z (zZ (qA Z Z fun w' hw=>?_))))))))
 have hl9:=hC.done (by omega)
 subst hl9
 exact ⟨_,rfl,hw.below,hw.newRow (i:=0) rfl hcg hlg (by simpa using htg)⟩
def GW (B : Nat) (w0 : World) : Prop := (2 < B ∧ ∃ m, w0.cell? ⟨2, 0, none⟩ = some (.int .i64 m)) ∧ (∃ g, g < B ∧ Tryd.prog.globalNamed "strings.asciiSpace" = some g) ∧ Lib.TabIs Tryd.prog w0 "strings.asciiSpace" .u8 Lib.asciiSpaceTab
theorem gw_max {B:Nat} {w0 w:World} {hs:List (Nat×Obj)} (h:GW B w0) (hw:Own B w0 hs w):∃ m,w.cell? ⟨2,0,none⟩=some (.int .i64 m):=by
  obtain ⟨⟨h1,m,h2⟩,_⟩:=h
  exact ⟨m,(hw.below.cell h1).trans h2⟩
theorem gw_tab {B : Nat} {w0 w : World} {hs : List (Nat × Obj)} (h : GW B w0) (hw : Own B w0 hs w) : Lib.TabIs Tryd.prog w "strings.asciiSpace" .u8 Lib.asciiSpaceTab := by
  obtain ⟨_,⟨g,hg,hn⟩,ht⟩:=h
  unfold Lib.TabIs World.var? at ht ⊢
  rw [hn] at ht ⊢
  rw [Option.bind_some] at ht ⊢
  rw [hw.below.block g hg];exact ht
theorem gw_lt {B:Nat} {w0 w:World} {hs:List (Nat×Obj)} (h:GW B w0) (hw:Own B w0 hs w):2<w.heap.size:=Nat.lt_of_lt_of_le h.1.1 hw.base
theorem strs_of {l:List ByteArray} {r:List (List UInt8)} (h:l.map (·.data.toList)=r):l.map Value.string=strs r:=by
  subst h
  unfold strs
  rw [List.map_map]
  exact List.map_congr_left fun b _=>rfl
theorem new_strs {w:World} {l:List Value} {n T:Nat} (h:l.length=n):Below w.heap.size w (w.alloc (.cells l.toArray T))∧NewRow w.heap.size T 1 (w.alloc (.cells l.toArray T)) (.slice (some ⟨w.heap.size,0,none⟩) n n) n l :=
  ⟨(Below.refl _ _).alloc (Nat.le_refl _) _,w.heap.size,n,l.toArray,rfl,Nat.le_refl _,(by show (w.heap.push _)[w.heap.size]?=_;simp),by simp [h],Nat.le_refl _,by simp [← h]⟩
theorem split_ok (s:List UInt8) (w:World) (hs:s.length≤1048576) (hm:∃ m,w.cell? ⟨2,0,none⟩=some (.int .i64 m)):Calls Tryd.prog 75 #[str s,str [32]] w fun en w'=>∃ v,en=.returned v∧Below w.heap.size w w'∧NewRow w.heap.size 9 1 w' v (cutL s).length (strs (cutL s)):=by
  obtain ⟨m,hm⟩:=hm;refine (Tryd.strings_Split ⟨⟨s⟩⟩ ⟨⟨[32]⟩⟩ m w (by show s.length<_;omega) hm (by decide)).mono fun en w' ⟨h1,h2⟩=>?_
  have e0:=Lib.splitB_data ⟨⟨[32]⟩⟩ 0 (Lib.countB ⟨⟨s⟩⟩ ⟨⟨[32]⟩⟩) ⟨⟨s⟩⟩
  have e1:(Lib.splitB ⟨⟨[32]⟩⟩ 0 (Lib.countB ⟨⟨s⟩⟩ ⟨⟨[32]⟩⟩) ⟨⟨s⟩⟩).map (·.data.toList)=cutL s:=e0.trans (split_cut s)
  have e2:=strs_of e1
  have hl:=Lib.splitB_all ⟨⟨[32]⟩⟩ (by decide) 0 _ ⟨⟨s⟩⟩ rfl
  have hl2:Lib.countB ⟨⟨s⟩⟩ ⟨⟨[32]⟩⟩+1=(cutL s).length:=by rw [← hl,← e1,List.length_map]
  rw [hl2] at h1
  rw [e2] at h2
  have h3:=new_strs (w:=w) (l:=strs (cutL s)) (T:=9) (strs_length _)
  exact ⟨_,h1,by rw [h2];exact h3.1,by rw [h2];exact h3.2⟩
theorem fields_ok (s : List UInt8) (w : World) (hs : s.length ≤ 1048576) (ha : ∀ b ∈ s, b.toNat < 128) (ht : Lib.TabIs Tryd.prog w "strings.asciiSpace" .u8 Lib.asciiSpaceTab) : Calls Tryd.prog 43 #[str s] w fun en w' => ∃ v, en = .returned v ∧ Below w.heap.size w w' ∧ NewRow w.heap.size 9 1 w' v (Lib.fields s).length (strs (Lib.fields s)) := by
  refine (Tryd.strings_Fields ⟨⟨s⟩⟩ w (by show s.length<_;omega) (fun j b hb=>ha b (List.mem_of_getElem? hb)) ht).mono fun en w' ⟨h1,h2⟩=>?_
  have h3:=new_strs (w:=w) (l:=strs (Lib.fields s)) (T:=9) (strs_length _)
  exact ⟨_,h1,by rw [h2];exact h3.1,by rw [h2];exact h3.2⟩
theorem fieldsM_ok (s : List UInt8) (l : List (List UInt8)) (w : World) (hs : s.length ≤ 1048576) (hl : Lib.fields s = l) (ha : ∀ b ∈ s, b.toNat < 128) (ht : Lib.TabIs Tryd.prog w "strings.asciiSpace" .u8 Lib.asciiSpaceTab) : Calls Tryd.prog 43 #[str s] w fun en w' => ∃ v, en = .returned v ∧ Below w.heap.size w w' ∧ NewRow w.heap.size 9 1 w' v l.length (strs l) := by
  subst hl;exact fields_ok s w hs ha ht
theorem gw_own {B:Nat} {w0 w:World} {hs:List (Nat×Obj)} (h:GW B w0) (hw:Own B w0 hs w):GW w.heap.size w:=by
  obtain ⟨⟨h1,_⟩,⟨g,hg,hn⟩,_⟩:=id h
  exact ⟨⟨gw_lt h hw,gw_max h hw⟩,⟨g,Nat.lt_of_lt_of_le hg hw.base,hn⟩,gw_tab h hw⟩
set_option maxHeartbeats 400000 in
theorem iMoves_ok (a b:St) (s:List UInt8) (w:World) (ha:a.Fine) (hb:b.Fine) (hs:s.length≤1048576) (hm:∃ m,w.cell? ⟨2,0,none⟩=some (.int .i64 m)) (hm2:2<w.heap.size) :
    Calls Tryd.prog 42 [vS a,vS b,str s].toArray w fun en w'=>en=.returned (.bool (movesB a.n b.n s))∧Below w.heap.size w w':=by
 refine fnStart (n:=56) (e:=[(0,vS a),(1,vS b),(2,str s)]) Tryd.func42 Z Z Z Z Ends.both ?_
 have ha1:=ha.lo
 have ha8:=ha.hi
 have hb1:=hb.lo
 have hb8:=hb.hi;refine zD (zW (yD (v:=vS a) Z Z Z Z Z fun p3 hp3=>?_))
 show Ll _ _ (Own _ _ [_]) _ _ ((3,pt_ p3)::_) _ _ _;refine yD (v:=vS b) Z Z Z Z Z fun p4 hp4=>?_
 show Ll _ _ (Own _ _ [_,_]) _ _ ((4,pt_ p4)::_) _ _ _;refine qD 1 Z (zS (zC [2,3,4] [_,_,_] Z (zD (zD (zA (zB 1 Z (zE Z (OpQ.seql Z Z Z) (zF (zC [2,3,4,12] [_,_,_,_] Z (qB (b:=s==([])) Z (fun h12=>?_) (fun h12=>?_)))))))))))
 ·
  refine zD (zA (zB 1 Z (zF (zC [6] [_] Z (zZ (qA Z Z fun w' hw=>?_))))))
  exact ⟨ret_b (by rw [show s=[] by simpa using h12];rfl),hw.below⟩
 have hse:¬ s=[]:=by simpa using h12
 refine zV (zC [2,3,4] [_,_,_] Z (zD (zW (qD 1 Z (yT (xs:=[.tmp 13,.const (str ([32]))]) (m:=(cutL s).length) (vs:=strs (cutL s)) (el:=9) (size:=1) Z Z Z Z Tryd.call75 Z (fun w1 hw1=>split_ok s w1 (by omega) (by obtain ⟨m,hm⟩:=hm;exact ⟨m,(hw1.below.cell hm2).trans hm⟩)) fun p14 cap14 cur14 hp14 hcp14 hlp14 htp14=>(qD 1 Z (zS (zC [3,4,7] [_,_,_] Z (zD (zD (zA (zB 1 Z (zE Z (yZ Z qK Z) (zB 1 Z (zF (zC [3,4,7,15,16,17] [_,_,_,_,_,_] Z (qF (yQ (σ:=Nat) (fun k=>k≤(cutL s).length∧∀ i:Nat,i<k→moveB a.n b.n ((cutL s).getD i [])=true) (fun k=>[(3,pt_ p3),(4,pt_ p4),(7,sl_ p14 ((cutL s).length) cap14),(15,sl_ p14 ((cutL s).length) cap14),(16,i6_ ((cutL s).length:Int)),(17,i6_ (k:Int))]) (fun k=>Own w.heap.size w [bk_ p14 cur14 9,bk_ p4 #[i6_ b.n,str b.set,str b.rel] 24,bk_ p3 #[i6_ a.n,str a.set,str a.rel] 24]) (fun k=>(cutL s).length - k) (0) ⟨by omega,fun i hi=>absurd hi (by omega)⟩ (Sub.sel [3,4,7,15,16,17] Z) (fun _ h=>h) ?_))))))))))))))))))
 rintro k ⟨hk,hall⟩;refine zD (zA (zB 1 Z (zF (zC [3,4,7,15,16,17,18] [_,_,_,_,_,_,_] Z (zD (qB (b:=decide ((k:Int)<((cutL s).length:Int))) Z (fun h18=>?_) (fun h18=>?_)))))))
 ·
  replace h18:=zI h18
  have hkl:k<(cutL s).length:=by omega
  have hml:=(cut_len s)
  have hby:=UInt8.toNat_lt (((cutL s).getD (k:Int).toNat []).getD (1:Int).toNat 0);refine zV (zC [3,4,7,15,16,17] [_,_,_,_,_,_] Z (zD (qF (zD (zA (zE (v:=pf_ p14 ((k:Int).toNat)) Z (qC (by rw [Nat.zero_add]) (qH (i:=(k:Int)) Z qK qT Z Z (by omega) (by omega))) (zE (v:=str ((cutL s).getD ((k:Int).toNat) [])) Z (yR 0 Z yK Z Z (cur_at (by simpa using htp14) (strs_at (c:=cutL s) (off:=(k:Int).toNat) (by first | (simp;done) | (simp;omega) | omega)))) (zB 1 Z (zF (zC [3,4,7,9,15,16,17] [_,_,_,_,_,_,_] Z (zD (zD (zA (zB 1 Z (zE (v:=i6_ ((((cutL s).getD ((k:Int).toNat) []).length:Int))) Z (yX Z zO Z) (zB 2 Z (yU fun b24 hg24=>?_)))))))))))))))))
  cases b24
  ·
   replace hg24:=not_false hg24
   replace hg24:=zI hg24;refine zB 1 Z (zE (v:=.int .u8 (((((cutL s).getD ((k:Int).toNat) []).getD (0:Int).toNat 0).toNat:Int))) Z (qC (v':=.int .u8 ((((cutL s).getD ((k:Int).toNat) []).getD (0:Int).toNat 0).toNat:Int)) Z (qI (i:=(0:Int)) Z zO Z Z (by decide) (by omega))) (zB 2 Z (yU fun b28 hg28=>?_)))
   cases b28
   ·
    replace hg28:=not_false hg28
    replace hg28:=zI hg28;refine zG Z (zG Z (zG Z (zB 2 Z (zF (zC [3,4,7,9,15,16,17,33] [_,_,_,_,_,_,_,_] Z (Wk.condF Z (zV (zC [3,4,7,9,15,16,17] [_,_,_,_,_,_,_] Z (zD (zA (zE Z (zR Z zP Z zM Z Z) (zE Z (zX 2 Z zU Z Z Z) (zB 1 Z (zF (zC [3,4,7,9,10,15,16,17] [_,_,_,_,_,_,_,_] Z (zD (zD (zA (zB 1 Z (zE (v:=.int .u8 (((((cutL s).getD ((k:Int).toNat) []).getD (0:Int).toNat 0).toNat:Int))) Z (qC (v':=.int .u8 ((((cutL s).getD ((k:Int).toNat) []).getD (0:Int).toNat 0).toNat:Int)) Z (qI (i:=(0:Int)) Z zO Z Z (by decide) (by omega))) (zB 1 Z (zF (zC [3,4,7,9,10,15,16,17,38] [_,_,_,_,_,_,_,_,_] Z (Wk.join (σ:=Int) (fun z=>z=(if ((((cutL s).getD (k:Int).toNat []).getD (0:Int).toNat 0).toNat:Int)=98 then b.n else a.n)) (fun z=>[(3,pt_ p3),(4,pt_ p4),(7,sl_ p14 ((cutL s).length) cap14),(9,str ((cutL s).getD ((k:Int).toNat) [])),(10,i6_ z),(15,sl_ p14 ((cutL s).length) cap14),(16,i6_ ((cutL s).length:Int)),(17,i6_ (k:Int))]) (fun z=>Own w.heap.size w [bk_ p14 cur14 9,bk_ p4 #[i6_ b.n,str b.set,str b.rel] 24,bk_ p3 #[i6_ a.n,str a.set,str a.rel] 24]) ?_ ?_))))))))))))))))))))))))
    ·
     refine xJ Z (fun h38=>?_) (fun h38=>?_)
     ·
      refine zA (zE Z (zR Z zP Z zM Z Z) (zE Z (zX 1 Z zU Z Z Z) (zB 1 Z (zF (Kt.joined (b.n) (by first | (exfalso;omega) | rw [if_pos (by assumption)] | rw [if_neg (by assumption)]) (Sub.sel [3,4,7,9,10,15,16,17] Z) (fun _ h=>h))))))
     refine zV (Kt.joined (a.n) (by first | (exfalso;omega) | rw [if_pos (by assumption)] | rw [if_neg (by assumption)]) (Sub.sel [3,4,7,9,10,15,16,17] Z) (fun _ h=>h))
    rintro z hz;refine zC [3,4,7,9,10,15,16,17] [_,_,_,_,_,_,_,_] Z (zD (zA (zB 1 Z (zE (v:=.int .u8 (((((cutL s).getD ((k:Int).toNat) []).getD (1:Int).toNat 0).toNat:Int))) Z (qC (v':=.int .u8 ((((cutL s).getD ((k:Int).toNat) []).getD (1:Int).toNat 0).toNat:Int)) Z (qI (i:=(1:Int)) Z zO Z Z (by decide) (by omega))) (zB 2 Z (yU fun b44 hg44=>?_))))))
    cases b44
    ·
     replace hg44:=zH hg44;refine zB 1 Z (zE (v:=.int .u8 (((((cutL s).getD ((k:Int).toNat) []).getD (1:Int).toNat 0).toNat:Int))) Z (qC (v':=.int .u8 ((((cutL s).getD ((k:Int).toNat) []).getD (1:Int).toNat 0).toNat:Int)) Z (qI (i:=(1:Int)) Z zO Z Z (by decide) (by omega))) (zE (v:=.int .u8 ((((((cutL s).getD ((k:Int).toNat) []).getD (1:Int).toNat 0).toNat:Int)) - (48:Int))) Z (qC (by rw [IntWalk.u8_in _ (by omega)]) (OpQ.subU8 Z Z Z)) (zE (v:=i6_ ((((((cutL s).getD ((k:Int).toNat) []).getD (1:Int).toNat 0).toNat:Int)) - (48:Int))) Z (xC .i64 Z yI yS Z (IntWalk.i64_in _ (by omega))) (zB 3 Z (zF (zC [3,4,7,15,16,17,51] [_,_,_,_,_,_,_] Z (xJ Z (fun h51=>?_) (fun h51=>?_))))))))
     ·
      refine zD (zA (zB 1 Z (zF (zC [6] [_] Z (zZ (qA Z Z fun w' hw=>?_))))))
      simp only [Int.toNat_natCast,Int.toNat_zero,Int.toNat_one] at *
      exact ⟨ret_b (moves_not hse hkl (by first | exact move_len (by assumption) | exact move_head (by assumption) (by assumption) | exact move_low (by omega) | exact move_high hz (by omega))).symm,hw.below⟩
     refine zV (zC [3,4,7,15,16,17] [_,_,_,_,_,_] Z (zA (zE Z (qQ Z Z Z (by omega) (by omega)) (zB 1 Z (zF (qU (k+1) ⟨by omega,fun i hi=>(Nat.lt_succ_iff_lt_or_eq.1 hi).elim (hall i) (fun e=>by subst e;simp only [Int.toNat_natCast,Int.toNat_zero,Int.toNat_one] at *;exact move_yes (by assumption) (by first | exact .inl (by assumption) | exact .inr (by assumption)) hz (by omega) (by omega))⟩ (by omega) (Sub.sel [3,4,7,15,16,17] Z) (fun _ h=>h)))))))
    replace hg44:=zI hg44;refine zG Z (zG Z (zG Z (zG Z (zG Z (zG Z (zB 1 Z (zF (zC [3,4,7,15,16,17,51] [_,_,_,_,_,_,_] Z (xB Z (zD (zA (zB 1 Z (zF (zC [6] [_] Z (zZ (qA Z Z fun w' hw=>?_))))))))))))))))
    simp only [Int.toNat_natCast,Int.toNat_zero,Int.toNat_one] at *
    exact ⟨ret_b (moves_not hse hkl (by first | exact move_len (by assumption) | exact move_head (by assumption) (by assumption) | exact move_low (by omega) | exact move_high hz (by omega))).symm,hw.below⟩
   replace hg28:=not_true hg28
   replace hg28:=zH hg28;refine zB 1 Z (zE (v:=.int .u8 (((((cutL s).getD ((k:Int).toNat) []).getD (0:Int).toNat 0).toNat:Int))) Z (qC (v':=.int .u8 ((((cutL s).getD ((k:Int).toNat) []).getD (0:Int).toNat 0).toNat:Int)) Z (qI (i:=(0:Int)) Z zO Z Z (by decide) (by omega))) (zB 3 Z (zF (zC [3,4,7,9,15,16,17,33] [_,_,_,_,_,_,_,_] Z (qB (b:=!(decide ((((((cutL s).getD ((k:Int).toNat) []).getD (0:Int).toNat 0).toNat:Int))=(98:Int)))) Z (fun h33=>?_) (fun h33=>?_))))))
   ·
    replace h33:=not_true h33
    replace h33:=zH h33;refine zD (zA (zB 1 Z (zF (zC [6] [_] Z (zZ (qA Z Z fun w' hw=>?_))))))
    simp only [Int.toNat_natCast,Int.toNat_zero,Int.toNat_one] at *
    exact ⟨ret_b (moves_not hse hkl (by first | exact move_len (by assumption) | exact move_head (by assumption) (by assumption) | exact move_low (by omega) | exact move_high hz (by omega))).symm,hw.below⟩
   replace h33:=not_false h33
   replace h33:=zI h33;refine zV (zC [3,4,7,9,15,16,17] [_,_,_,_,_,_,_] Z (zD (zA (zE Z (zR Z zP Z zM Z Z) (zE Z (zX 2 Z zU Z Z Z) (zB 1 Z (zF (zC [3,4,7,9,10,15,16,17] [_,_,_,_,_,_,_,_] Z (zD (zD (zA (zB 1 Z (zE (v:=.int .u8 (((((cutL s).getD ((k:Int).toNat) []).getD (0:Int).toNat 0).toNat:Int))) Z (qC (v':=.int .u8 ((((cutL s).getD ((k:Int).toNat) []).getD (0:Int).toNat 0).toNat:Int)) Z (qI (i:=(0:Int)) Z zO Z Z (by decide) (by omega))) (zB 1 Z (zF (zC [3,4,7,9,10,15,16,17,38] [_,_,_,_,_,_,_,_,_] Z (Wk.join (σ:=Int) (fun z=>z=(if ((((cutL s).getD (k:Int).toNat []).getD (0:Int).toNat 0).toNat:Int)=98 then b.n else a.n)) (fun z=>[(3,pt_ p3),(4,pt_ p4),(7,sl_ p14 ((cutL s).length) cap14),(9,str ((cutL s).getD ((k:Int).toNat) [])),(10,i6_ z),(15,sl_ p14 ((cutL s).length) cap14),(16,i6_ ((cutL s).length:Int)),(17,i6_ (k:Int))]) (fun z=>Own w.heap.size w [bk_ p14 cur14 9,bk_ p4 #[i6_ b.n,str b.set,str b.rel] 24,bk_ p3 #[i6_ a.n,str a.set,str a.rel] 24]) ?_ ?_)))))))))))))))))
   ·
    refine xJ Z (fun h38_1=>?_) (fun h38_1=>?_)
    ·
     refine zA (zE Z (zR Z zP Z zM Z Z) (zE Z (zX 1 Z zU Z Z Z) (zB 1 Z (zF (Kt.joined (b.n) (by first | (exfalso;omega) | rw [if_pos (by assumption)] | rw [if_neg (by assumption)]) (Sub.sel [3,4,7,9,10,15,16,17] Z) (fun _ h=>h))))))
    refine zV (Kt.joined (a.n) (by first | (exfalso;omega) | rw [if_pos (by assumption)] | rw [if_neg (by assumption)]) (Sub.sel [3,4,7,9,10,15,16,17] Z) (fun _ h=>h))
   rintro z hz;refine zC [3,4,7,9,10,15,16,17] [_,_,_,_,_,_,_,_] Z (zD (zA (zB 1 Z (zE (v:=.int .u8 (((((cutL s).getD ((k:Int).toNat) []).getD (1:Int).toNat 0).toNat:Int))) Z (qC (v':=.int .u8 ((((cutL s).getD ((k:Int).toNat) []).getD (1:Int).toNat 0).toNat:Int)) Z (qI (i:=(1:Int)) Z zO Z Z (by decide) (by omega))) (zB 2 Z (yU fun b44 hg44_1=>?_))))))
   cases b44
   ·
    replace hg44_1:=zH hg44_1;refine zB 1 Z (zE (v:=.int .u8 (((((cutL s).getD ((k:Int).toNat) []).getD (1:Int).toNat 0).toNat:Int))) Z (qC (v':=.int .u8 ((((cutL s).getD ((k:Int).toNat) []).getD (1:Int).toNat 0).toNat:Int)) Z (qI (i:=(1:Int)) Z zO Z Z (by decide) (by omega))) (zE (v:=.int .u8 ((((((cutL s).getD ((k:Int).toNat) []).getD (1:Int).toNat 0).toNat:Int)) - (48:Int))) Z (qC (by rw [IntWalk.u8_in _ (by omega)]) (OpQ.subU8 Z Z Z)) (zE (v:=i6_ ((((((cutL s).getD ((k:Int).toNat) []).getD (1:Int).toNat 0).toNat:Int)) - (48:Int))) Z (xC .i64 Z yI yS Z (IntWalk.i64_in _ (by omega))) (zB 3 Z (zF (zC [3,4,7,15,16,17,51] [_,_,_,_,_,_,_] Z (xJ Z (fun h51_1=>?_) (fun h51_1=>?_))))))))
    ·
     refine zD (zA (zB 1 Z (zF (zC [6] [_] Z (zZ (qA Z Z fun w' hw=>?_))))))
     simp only [Int.toNat_natCast,Int.toNat_zero,Int.toNat_one] at *
     exact ⟨ret_b (moves_not hse hkl (by first | exact move_len (by assumption) | exact move_head (by assumption) (by assumption) | exact move_low (by omega) | exact move_high hz (by omega))).symm,hw.below⟩
    refine zV (zC [3,4,7,15,16,17] [_,_,_,_,_,_] Z (zA (zE Z (qQ Z Z Z (by omega) (by omega)) (zB 1 Z (zF (qU (k+1) ⟨by omega,fun i hi=>(Nat.lt_succ_iff_lt_or_eq.1 hi).elim (hall i) (fun e=>by subst e;simp only [Int.toNat_natCast,Int.toNat_zero,Int.toNat_one] at *;exact move_yes (by assumption) (by first | exact .inl (by assumption) | exact .inr (by assumption)) hz (by omega) (by omega))⟩ (by omega) (Sub.sel [3,4,7,15,16,17] Z) (fun _ h=>h)))))))
   replace hg44_1:=zI hg44_1;refine zG Z (zG Z (zG Z (zG Z (zG Z (zG Z (zB 1 Z (zF (zC [3,4,7,15,16,17,51] [_,_,_,_,_,_,_] Z (xB Z (zD (zA (zB 1 Z (zF (zC [6] [_] Z (zZ (qA Z Z fun w' hw=>?_))))))))))))))))
   simp only [Int.toNat_natCast,Int.toNat_zero,Int.toNat_one] at *
   exact ⟨ret_b (moves_not hse hkl (by first | exact move_len (by assumption) | exact move_head (by assumption) (by assumption) | exact move_low (by omega) | exact move_high hz (by omega))).symm,hw.below⟩
  replace hg24:=not_true hg24
  replace hg24:=zH hg24;refine zG Z (zG Z (zG Z (zG Z (zG Z (zG Z (zG Z (zG Z (zB 1 Z (zF (zC [3,4,7,9,15,16,17,33] [_,_,_,_,_,_,_,_] Z (xB Z (zD (zA (zB 1 Z (zF (zC [6] [_] Z (zZ (qA Z Z fun w' hw=>?_))))))))))))))))))
  simp only [Int.toNat_natCast,Int.toNat_zero,Int.toNat_one] at *
  exact ⟨ret_b (moves_not hse hkl (by first | exact move_len (by assumption) | exact move_head (by assumption) (by assumption) | exact move_low (by omega) | exact move_high hz (by omega))).symm,hw.below⟩
 replace h18:=zH h18;refine yO Z (zC [7] [_] Z (zD (zA (zB 1 Z (zE Z (yZ Z qK Z) (zB 2 Z (zF (zC [6] [_] Z (zZ (qA Z Z fun w' hw=>?_))))))))))
 exact ⟨ret_b (moves_end hse (fun i hi=>hall i (by omega))).symm,hw.below⟩
set_option maxHeartbeats 400000 in
theorem l5Moves_ok (a b:St) (s:List UInt8) (w:World) (ha:a.Fine) (hb:b.Fine) (hs:s.length≤1048576) :
    Calls Tryd.prog 39 [vS a,vS b,str s].toArray w fun en w'=>∃ v,en=.returned v∧Below w.heap.size w w'∧NewRowZ w.heap.size 9 w' v (.bool (movesB a.n b.n s)) (movesL s).length (strs (movesL s)):=by
 refine fnStart (n:=61) (e:=[(0,vS a),(1,vS b),(2,str s)]) Tryd.func39 Z Z Z Z Ends.both ?_
 have ha1:=ha.lo
 have ha8:=ha.hi
 have hb1:=hb.lo
 have hb8:=hb.hi;refine zD (zW (yD (v:=vS a) Z Z Z Z Z fun p3 hp3=>?_))
 show Ll _ _ (Own _ _ [_]) _ _ ((3,pt_ p3)::_) _ _ _;refine yD (v:=vS b) Z Z Z Z Z fun p4 hp4=>?_
 show Ll _ _ (Own _ _ [_,_]) _ _ ((4,pt_ p4)::_) _ _ _;refine qD 2 Z (zS (zC [2,3,4] [_,_,_] Z (zD (zD (zA (zB 1 Z (zE Z (OpQ.seql Z Z Z) (zF (zC [2,3,4,13] [_,_,_,_] Z (qB (b:=s==([])) Z (fun h13=>?_) (fun h13=>?_)))))))))))
 ·
  refine zD (zW (yM (xs:=[]) (vs:=[]) Base.elem25 Z Z Z Z Z Z (by decide) Z fun p14 hp14=>(qD 2 Z (zS (zC [6,7] [_,_] Z (zZ (Kt.end2 Z Z Z fun w' hw=>?_)))))))
  have hse:s=[]:=by simpa using h13
  subst hse
  exact ⟨_,rfl,hw.below,hw.newRowZ (i:=0) (n:=0) (vs:=strs (movesL [])) rfl rfl (Nat.le_refl 0) rfl⟩
 have hse:¬ s=[]:=by simpa using h13
 refine zV (zC [2,3,4] [_,_,_] Z (zD (zW (qD 1 Z (yT (xs:=[.tmp 15,.const (.int .u8 32)]) (m:=(cutL s).length) (vs:=strs (cutL s)) (el:=9) (size:=1) Z Z Z Z Tryd.call72 Z (fun w1 hw1=>l15Cut_ok s w1 (by omega)) fun p16 cap16 cur16 hp16 hcp16 hlp16 htp16=>(qD 1 Z (zS (zC [3,4,8] [_,_,_] Z (zD (zD (zA (zB 1 Z (zF (zC [3,4,8,9] [_,_,_,_] Z (qF (yQ (σ:=Nat) (fun k=>k≤(cutL s).length∧∀ i:Nat,i<k→moveB a.n b.n ((cutL s).getD i [])=true) (fun k=>[(3,pt_ p3),(4,pt_ p4),(8,sl_ p16 ((cutL s).length) cap16),(9,i6_ (k:Int))]) (fun k=>Own w.heap.size w [bk_ p16 cur16 9,bk_ p4 #[i6_ b.n,str b.set,str b.rel] 24,bk_ p3 #[i6_ a.n,str a.set,str a.rel] 24]) (fun k=>(cutL s).length - k) (0) ⟨by omega,fun i hi=>absurd hi (by omega)⟩ (Sub.sel [3,4,8,9] Z) (fun _ h=>h) ?_))))))))))))))))
 rintro k ⟨hk,hall⟩;refine zD (zD (zA (zB 2 Z (zE Z (yZ Z qK Z) (zB 1 Z (zF (zC [3,4,8,9,20] [_,_,_,_,_] Z (qB (b:=decide ((k:Int)<((cutL s).length:Int))) Z (fun h20=>?_) (fun h20=>?_)))))))))
 ·
  replace h20:=zI h20
  have hkl:k<(cutL s).length:=by omega
  have hml:=(cut_len s)
  have hby:=UInt8.toNat_lt (((cutL s).getD (k:Int).toNat []).getD (1:Int).toNat 0);refine zV (zC [3,4,8,9] [_,_,_,_] Z (zD (qF (zD (zA (zB 2 Z (zE (v:=pf_ p16 ((k:Int).toNat)) Z (qC (by rw [Nat.zero_add]) (qH (i:=(k:Int)) Z qK qT Z Z (by omega) (by omega))) (zE (v:=str ((cutL s).getD ((k:Int).toNat) [])) Z (yR 0 Z yK Z Z (cur_at (by simpa using htp16) (strs_at (c:=cutL s) (off:=(k:Int).toNat) (by first | (simp;done) | (simp;omega) | omega)))) (zB 1 Z (zF (zC [3,4,8,9,10] [_,_,_,_,_] Z (zD (zD (zA (zB 1 Z (zE (v:=i6_ ((((cutL s).getD ((k:Int).toNat) []).length:Int))) Z (yX Z zO Z) (zB 2 Z (yU fun b30 hg30=>?_))))))))))))))))))
  cases b30
  ·
   replace hg30:=not_false hg30
   replace hg30:=zI hg30;refine zB 1 Z (zE (v:=.int .u8 (((((cutL s).getD ((k:Int).toNat) []).getD (0:Int).toNat 0).toNat:Int))) Z (qC (v':=.int .u8 ((((cutL s).getD ((k:Int).toNat) []).getD (0:Int).toNat 0).toNat:Int)) Z (qI (i:=(0:Int)) Z zO Z Z (by decide) (by omega))) (zB 2 Z (yU fun b34 hg34=>?_)))
   cases b34
   ·
    replace hg34:=not_false hg34
    replace hg34:=zI hg34;refine zG Z (zG Z (zG Z (zB 2 Z (zF (zC [3,4,8,9,10,39] [_,_,_,_,_,_] Z (Wk.condF Z (zV (zC [3,4,8,9,10] [_,_,_,_,_] Z (zD (zA (zE Z (zR Z zP Z zM Z Z) (zE Z (zX 2 Z zU Z Z Z) (zB 1 Z (zF (zC [3,4,8,9,10,11] [_,_,_,_,_,_] Z (zD (zD (zA (zB 1 Z (zE (v:=.int .u8 (((((cutL s).getD ((k:Int).toNat) []).getD (0:Int).toNat 0).toNat:Int))) Z (qC (v':=.int .u8 ((((cutL s).getD ((k:Int).toNat) []).getD (0:Int).toNat 0).toNat:Int)) Z (qI (i:=(0:Int)) Z zO Z Z (by decide) (by omega))) (zB 1 Z (zF (zC [3,4,8,9,10,11,45] [_,_,_,_,_,_,_] Z (Wk.join (σ:=Int) (fun z=>z=(if ((((cutL s).getD (k:Int).toNat []).getD (0:Int).toNat 0).toNat:Int)=98 then b.n else a.n)) (fun z=>[(3,pt_ p3),(4,pt_ p4),(8,sl_ p16 ((cutL s).length) cap16),(9,i6_ (k:Int)),(10,str ((cutL s).getD ((k:Int).toNat) [])),(11,i6_ z)]) (fun z=>Own w.heap.size w [bk_ p16 cur16 9,bk_ p4 #[i6_ b.n,str b.set,str b.rel] 24,bk_ p3 #[i6_ a.n,str a.set,str a.rel] 24]) ?_ ?_))))))))))))))))))))))))
    ·
     refine xJ Z (fun h45=>?_) (fun h45=>?_)
     ·
      refine zA (zE Z (zR Z zP Z zM Z Z) (zE Z (zX 1 Z zU Z Z Z) (zB 1 Z (zF (Kt.joined (b.n) (by first | (exfalso;omega) | rw [if_pos (by assumption)] | rw [if_neg (by assumption)]) (Sub.sel [3,4,8,9,10,11] Z) (fun _ h=>h))))))
     refine zV (Kt.joined (a.n) (by first | (exfalso;omega) | rw [if_pos (by assumption)] | rw [if_neg (by assumption)]) (Sub.sel [3,4,8,9,10,11] Z) (fun _ h=>h))
    rintro z hz;refine zC [3,4,8,9,10,11] [_,_,_,_,_,_] Z (zD (zA (zB 1 Z (zE (v:=.int .u8 (((((cutL s).getD ((k:Int).toNat) []).getD (1:Int).toNat 0).toNat:Int))) Z (qC (v':=.int .u8 ((((cutL s).getD ((k:Int).toNat) []).getD (1:Int).toNat 0).toNat:Int)) Z (qI (i:=(1:Int)) Z zO Z Z (by decide) (by omega))) (zE (v:=i6_ (((((cutL s).getD ((k:Int).toNat) []).getD (1:Int).toNat 0).toNat:Int))) Z (xC .i64 Z yI yS Z (IntWalk.i64_in _ (by have:=UInt8.toNat_lt (((cutL s).getD ((k:Int).toNat) []).getD (1:Int).toNat 0);omega))) (zE Z (xH Z Z Z (by omega) (by omega)) (zB 1 Z (zE Z (xH Z Z Z (by omega) (by omega)) (zE (v:=bo_ (inB ((((((cutL s).getD ((k:Int).toNat) []).getD (1:Int).toNat 0).toNat:Int)) - (48:Int)) 0 (z - (1:Int)))) Z (zT Z Tryd.call54 Z zL (fun w1 hw1=>l1In_ok ((((((cutL s).getD ((k:Int).toNat) []).getD (1:Int).toNat 0).toNat:Int)) - (48:Int)) 0 (z - (1:Int)) w1 )) (zB 1 Z (zF (zC [3,4,8,9,55] [_,_,_,_,_] Z (qB (b:=!(inB ((((((cutL s).getD ((k:Int).toNat) []).getD (1:Int).toNat 0).toNat:Int)) - (48:Int)) 0 (z - (1:Int)))) Z (fun h55=>?_) (fun h55=>?_))))))))))))))
    ·
     replace h55:=not_true h55;refine zD (zA (zB 3 Z (zF (zC [6,7] [_,_] Z (zZ (Kt.end2 Z Z Z fun w' hw=>?_))))))
     have hml2:movesL s=cutL s:=if_neg hse
     have hmb:movesB a.n b.n s=false:=by
      simp only [Int.toNat_natCast,Int.toNat_zero,Int.toNat_one] at *;refine moves_not hse hkl ?_
      first | exact move_len (by assumption) | exact move_head (by assumption) (by assumption) | (by_cases h9:((((cutL s).getD k []).getD 1 0).toNat:Int)<48 <;> first | exact move_low h9 | exact move_high hz (by unfold inB at h55;simp only [Bool.and_eq_false_iff,decide_eq_false_iff_not] at h55;omega))
     exact ⟨_,rfl,hw.below,by rw [hmb,hml2];exact hw.newRowZ (i:=0) rfl hcp16 hlp16 (by simpa using (by simpa using htp16))⟩
    replace h55:=not_false h55
    have hin:(0:Int)≤((((cutL s).getD (k:Int).toNat []).getD (1:Int).toNat 0).toNat:Int) - 48∧((((cutL s).getD (k:Int).toNat []).getD (1:Int).toNat 0).toNat:Int) - 48≤z - 1:=by unfold inB at h55;simpa using h55
    refine zV (zC [3,4,8,9] [_,_,_,_] Z (zA (zB 1 Z (zE Z (qQ Z Z Z (by omega) (by omega)) (zB 1 Z (zF (qU (k+1) ⟨by omega,fun i hi=>(Nat.lt_succ_iff_lt_or_eq.1 hi).elim (hall i) (fun e=>by subst e;simp only [Int.toNat_natCast,Int.toNat_zero,Int.toNat_one] at *;exact move_yes (by assumption) (by first | exact .inl (by assumption) | exact .inr (by assumption)) hz (by omega) (by omega))⟩ (by omega) (Sub.sel [3,4,8,9] Z) (fun _ h=>h))))))))
   replace hg34:=not_true hg34
   replace hg34:=zH hg34;refine zB 1 Z (zE (v:=.int .u8 (((((cutL s).getD ((k:Int).toNat) []).getD (0:Int).toNat 0).toNat:Int))) Z (qC (v':=.int .u8 ((((cutL s).getD ((k:Int).toNat) []).getD (0:Int).toNat 0).toNat:Int)) Z (qI (i:=(0:Int)) Z zO Z Z (by decide) (by omega))) (zB 3 Z (zF (zC [3,4,8,9,10,39] [_,_,_,_,_,_] Z (qB (b:=!(decide ((((((cutL s).getD ((k:Int).toNat) []).getD (0:Int).toNat 0).toNat:Int))=(98:Int)))) Z (fun h39=>?_) (fun h39=>?_))))))
   ·
    replace h39:=not_true h39
    replace h39:=zH h39;refine zD (zA (zB 3 Z (zF (zC [6,7] [_,_] Z (zZ (Kt.end2 Z Z Z fun w' hw=>?_))))))
    have hml2:movesL s=cutL s:=if_neg hse
    have hmb:movesB a.n b.n s=false:=by
     simp only [Int.toNat_natCast,Int.toNat_zero,Int.toNat_one] at *;refine moves_not hse hkl ?_
     first | exact move_len (by assumption) | exact move_head (by assumption) (by assumption) | (by_cases h9:((((cutL s).getD k []).getD 1 0).toNat:Int)<48 <;> first | exact move_low h9 | exact move_high hz (by unfold inB at h55;simp only [Bool.and_eq_false_iff,decide_eq_false_iff_not] at h55;omega))
    exact ⟨_,rfl,hw.below,by rw [hmb,hml2];exact hw.newRowZ (i:=0) rfl hcp16 hlp16 (by simpa using (by simpa using htp16))⟩
   replace h39:=not_false h39
   replace h39:=zI h39;refine zV (zC [3,4,8,9,10] [_,_,_,_,_] Z (zD (zA (zE Z (zR Z zP Z zM Z Z) (zE Z (zX 2 Z zU Z Z Z) (zB 1 Z (zF (zC [3,4,8,9,10,11] [_,_,_,_,_,_] Z (zD (zD (zA (zB 1 Z (zE (v:=.int .u8 (((((cutL s).getD ((k:Int).toNat) []).getD (0:Int).toNat 0).toNat:Int))) Z (qC (v':=.int .u8 ((((cutL s).getD ((k:Int).toNat) []).getD (0:Int).toNat 0).toNat:Int)) Z (qI (i:=(0:Int)) Z zO Z Z (by decide) (by omega))) (zB 1 Z (zF (zC [3,4,8,9,10,11,45] [_,_,_,_,_,_,_] Z (Wk.join (σ:=Int) (fun z=>z=(if ((((cutL s).getD (k:Int).toNat []).getD (0:Int).toNat 0).toNat:Int)=98 then b.n else a.n)) (fun z=>[(3,pt_ p3),(4,pt_ p4),(8,sl_ p16 ((cutL s).length) cap16),(9,i6_ (k:Int)),(10,str ((cutL s).getD ((k:Int).toNat) [])),(11,i6_ z)]) (fun z=>Own w.heap.size w [bk_ p16 cur16 9,bk_ p4 #[i6_ b.n,str b.set,str b.rel] 24,bk_ p3 #[i6_ a.n,str a.set,str a.rel] 24]) ?_ ?_)))))))))))))))))
   ·
    refine xJ Z (fun h45_1=>?_) (fun h45_1=>?_)
    ·
     refine zA (zE Z (zR Z zP Z zM Z Z) (zE Z (zX 1 Z zU Z Z Z) (zB 1 Z (zF (Kt.joined (b.n) (by first | (exfalso;omega) | rw [if_pos (by assumption)] | rw [if_neg (by assumption)]) (Sub.sel [3,4,8,9,10,11] Z) (fun _ h=>h))))))
    refine zV (Kt.joined (a.n) (by first | (exfalso;omega) | rw [if_pos (by assumption)] | rw [if_neg (by assumption)]) (Sub.sel [3,4,8,9,10,11] Z) (fun _ h=>h))
   rintro z hz;refine zC [3,4,8,9,10,11] [_,_,_,_,_,_] Z (zD (zA (zB 1 Z (zE (v:=.int .u8 (((((cutL s).getD ((k:Int).toNat) []).getD (1:Int).toNat 0).toNat:Int))) Z (qC (v':=.int .u8 ((((cutL s).getD ((k:Int).toNat) []).getD (1:Int).toNat 0).toNat:Int)) Z (qI (i:=(1:Int)) Z zO Z Z (by decide) (by omega))) (zE (v:=i6_ (((((cutL s).getD ((k:Int).toNat) []).getD (1:Int).toNat 0).toNat:Int))) Z (xC .i64 Z yI yS Z (IntWalk.i64_in _ (by have:=UInt8.toNat_lt (((cutL s).getD ((k:Int).toNat) []).getD (1:Int).toNat 0);omega))) (zE Z (xH Z Z Z (by omega) (by omega)) (zB 1 Z (zE Z (xH Z Z Z (by omega) (by omega)) (zE (v:=bo_ (inB ((((((cutL s).getD ((k:Int).toNat) []).getD (1:Int).toNat 0).toNat:Int)) - (48:Int)) 0 (z - (1:Int)))) Z (zT Z Tryd.call54 Z zL (fun w1 hw1=>l1In_ok ((((((cutL s).getD ((k:Int).toNat) []).getD (1:Int).toNat 0).toNat:Int)) - (48:Int)) 0 (z - (1:Int)) w1 )) (zB 1 Z (zF (zC [3,4,8,9,55] [_,_,_,_,_] Z (qB (b:=!(inB ((((((cutL s).getD ((k:Int).toNat) []).getD (1:Int).toNat 0).toNat:Int)) - (48:Int)) 0 (z - (1:Int)))) Z (fun h55_1=>?_) (fun h55_1=>?_))))))))))))))
   ·
    replace h55_1:=not_true h55_1;refine zD (zA (zB 3 Z (zF (zC [6,7] [_,_] Z (zZ (Kt.end2 Z Z Z fun w' hw=>?_))))))
    have hml2:movesL s=cutL s:=if_neg hse
    have hmb:movesB a.n b.n s=false:=by
     simp only [Int.toNat_natCast,Int.toNat_zero,Int.toNat_one] at *;refine moves_not hse hkl ?_
     first | exact move_len (by assumption) | exact move_head (by assumption) (by assumption) | (by_cases h9:((((cutL s).getD k []).getD 1 0).toNat:Int)<48 <;> first | exact move_low h9 | exact move_high hz (by unfold inB at h55_1;simp only [Bool.and_eq_false_iff,decide_eq_false_iff_not] at h55_1;omega))
    exact ⟨_,rfl,hw.below,by rw [hmb,hml2];exact hw.newRowZ (i:=0) rfl hcp16 hlp16 (by simpa using (by simpa using htp16))⟩
   replace h55_1:=not_false h55_1
   have hin:(0:Int)≤((((cutL s).getD (k:Int).toNat []).getD (1:Int).toNat 0).toNat:Int) - 48∧((((cutL s).getD (k:Int).toNat []).getD (1:Int).toNat 0).toNat:Int) - 48≤z - 1:=by unfold inB at h55_1;simpa using h55_1
   refine zV (zC [3,4,8,9] [_,_,_,_] Z (zA (zB 1 Z (zE Z (qQ Z Z Z (by omega) (by omega)) (zB 1 Z (zF (qU (k+1) ⟨by omega,fun i hi=>(Nat.lt_succ_iff_lt_or_eq.1 hi).elim (hall i) (fun e=>by subst e;simp only [Int.toNat_natCast,Int.toNat_zero,Int.toNat_one] at *;exact move_yes (by assumption) (by first | exact .inl (by assumption) | exact .inr (by assumption)) hz (by omega) (by omega))⟩ (by omega) (Sub.sel [3,4,8,9] Z) (fun _ h=>h))))))))
  replace hg30:=not_true hg30
  replace hg30:=zH hg30;refine zG Z (zG Z (zG Z (zG Z (zG Z (zG Z (zG Z (zG Z (zB 1 Z (zF (zC [3,4,8,9,10,39] [_,_,_,_,_,_] Z (xB Z (zD (zA (zB 3 Z (zF (zC [6,7] [_,_] Z (zZ (Kt.end2 Z Z Z fun w' hw=>?_))))))))))))))))))
  have hml2:movesL s=cutL s:=if_neg hse
  have hmb:movesB a.n b.n s=false:=by
   simp only [Int.toNat_natCast,Int.toNat_zero,Int.toNat_one] at *;refine moves_not hse hkl ?_
   first | exact move_len (by assumption) | exact move_head (by assumption) (by assumption) | (by_cases h9:((((cutL s).getD k []).getD 1 0).toNat:Int)<48 <;> first | exact move_low h9 | exact move_high hz (by unfold inB at h55_1;simp only [Bool.and_eq_false_iff,decide_eq_false_iff_not] at h55_1;omega))
  exact ⟨_,rfl,hw.below,by rw [hmb,hml2];exact hw.newRowZ (i:=0) rfl hcp16 hlp16 (by simpa using (by simpa using htp16))⟩
 replace h20:=zH h20;refine yO Z (zC [8] [_] Z (zD (zA (zB 2 Z (zE Z (yZ Z qK Z) (zB 3 Z (zF (zC [6,7] [_,_] Z (zZ (Kt.end2 Z Z Z fun w' hw=>?_))))))))))
 have hml2:movesL s=cutL s:=if_neg hse
 have hmb:=moves_end hse (fun i hi=>hall i (by omega))
 exact ⟨_,rfl,hw.below,by rw [hmb,hml2];exact hw.newRowZ (i:=0) rfl hcp16 hlp16 (by simpa using (by simpa using htp16))⟩
set_option maxHeartbeats 400000 in
theorem l5Best_ok (a b:St) (xs ys:List Int) (va vb:Value) (w:World) (ha:a.Fine) (hb:b.Fine) (hva:Ints w va xs) (hvb:Ints w vb ys) (hA:a.Els xs) (hB:b.Els ys) (hlen:xs.length=ys.length) (h4:xs.length≤4) (r:Int) (h1:1≤r) (h3:r≤3) (x:Int) (hx:a.El x) :
    Calls Tryd.prog 40 [vS a,va,vS b,vb,i6_ r,i6_ x].toArray w fun en w'=>en=.returned (.int .i64 (repI (bestO (r - 1).toNat a xs b ys x)))∧Below w.heap.size w w':=by
 refine fnStart (n:=43) (e:=[(0,vS a),(1,va),(2,vS b),(3,vb),(4,i6_ r),(5,i6_ x)]) Tryd.func40 Z Z Z Z Ends.both ?_
 have hn8:=hb.hi
 have hn1:=hb.lo
 have hm8:=ha.hi
 have hm1:=ha.lo;refine zD (zW (yD (v:=vS a) Z Z Z Z Z fun p6 hp6=>?_))
 show Ll _ _ (Own _ _ [_]) _ _ ((6,pt_ p6)::_) _ _ _;refine yD (v:=vS b) Z Z Z Z Z fun p8 hp8=>?_
 show Ll _ _ (Own _ _ [_,_]) _ _ ((8,pt_ p8)::_) _ _ _;refine qD 1 Z (zS (zC [1,3,4,5,6,8] [_,_,_,_,_,_] Z (zD (zA (zE Z (zK (cs:=#[i6_ a.n,str a.set,str a.rel]) 1 Z zQ Z Z zN) (zB 1 Z (zE Z (zK (cs:=#[i6_ b.n,str b.set,str b.rel]) 0 Z zQ Z Z zN) (zB 3 Z (zE (v:=i6_ (repI (rep (goB ((r - 1).toNat)) a xs b ys x))) Z (zT Z Tryd.call73 Z zL (fun w1 hw1=>l5Reply_at r h1 h3 a b xs ys va vb w1 ha hb (Row.own hva hw1) (Row.own hvb hw1) hA hB (by first | (simp;done) | (simp;omega) | omega) (by first | (simp;done) | (simp;omega) | omega) x hx)) (zB 1 Z (zF (zC [1,3,5,6,8,13] [_,_,_,_,_,_] Z (zD (zD (zA (zB 1 Z (zF (zC [1,3,5,6,8,13,14] [_,_,_,_,_,_,_] Z (qF (yQ (σ:=Nat) (fun k=>(k:Int)≤b.n∧∀ i:Nat,i<k→stillB a xs b ys x (i:Int)=false) (fun k=>[(1,va),(3,vb),(5,i6_ x),(6,pt_ p6),(8,pt_ p8),(13,i6_ (repI (rep (goB ((r - 1).toNat)) a xs b ys x))),(14,i6_ (k:Int))]) (fun k=>Own w.heap.size w [bk_ p8 #[i6_ b.n,str b.set,str b.rel] 24,bk_ p6 #[i6_ a.n,str a.set,str a.rel] 24]) (fun k=>(b.n - k).toNat) (0) ⟨by omega,fun i hi=>absurd hi (by omega)⟩ (Sub.sel [1,3,5,6,8,13,14] Z) (fun _ h=>h) ?_))))))))))))))))))))
 rintro k ⟨hk,hall⟩;refine zD (zD (zA (zB 3 Z (yU fun b24 hg24=>?_))))
 cases b24
 ·
  replace hg24:=zH hg24;refine zG Z (zG Z (zG Z (zG Z (zB 1 Z (zF (zC [1,3,5,6,8,13,14,29] [_,_,_,_,_,_,_,_] Z (Wk.condF Z (yO Z (zC [13] [_] Z (zD (zA (zB 2 Z (zF (zC [12] [_] Z (zZ (qA Z Z fun w' hw=>?_))))))))))))))))
  first | exact ⟨ret_i (best_rep (by assumption)).symm,hw.below⟩ | exact ⟨ret_i (by rw [best_none hRn (fun i hi=>hall i (by omega)),hRn]),hw.below⟩
 replace hg24:=zI hg24
 have hRn:=rep_none hg24;refine zB 1 Z (zE Z (zR Z zP Z zM Z Z) (zE Z (zX 0 Z zU Z Z Z) (zB 2 Z (zF (zC [1,3,5,6,8,13,14,29] [_,_,_,_,_,_,_,_] Z (qB (b:=decide ((k:Int)<b.n)) Z (fun h29=>?_) (fun h29=>?_)))))))
 ·
  replace h29:=zI h29
  have hy:b.El (k:Int):=⟨by omega,by omega⟩;refine zV (zC [1,3,5,6,8,13,14] [_,_,_,_,_,_,_] Z (zD (qF (zD (Wk.regionO [(0,true),(1,true),(2,true),(4,true),(5,true),(6,true),(3,false),(7,false),(8,false)] yB (fun _ h=>h.drawn) (by kernel_rfl) (qM Z Z Z Z Z (zK (cs:=#[i6_ a.n,str a.set,str a.rel]) 1 Z zQ Z Z zN) (fun _ h=>h) (yN 2 Z (fun _ h=>h) (qM Z Z Z Z Z (zK (cs:=#[i6_ b.n,str b.set,str b.rel]) 0 Z zQ Z Z zN) (fun _ h=>h) (yN 2 Z (fun _ h=>h) (yA Z (yT (xs:=[.tmp 33,.tmp 34]) (m:=(xs++[x]).length) (vs:=ints (xs++[x])) (el:=3) (size:=1) Z Z Z Z yY Z (fun w1 hw1=>l4With_ok va xs x w1 (Row.own hva hw1) (by omega)) fun p35 cap35 cur35 hp35 hcp35 hlp35 htp35=>(zS (qO (fun _ h=>h.tail) ?_)))))))))))));refine yA Z (yT (xs:=[.tmp 37,.tmp 38]) (m:=(ys++[(k:Int)]).length) (vs:=ints (ys++[(k:Int)])) (el:=3) (size:=1) Z Z Z Z yY Z (fun w1 hw1=>l4With_ok vb ys (k:Int) w1 (Row.own hvb hw1) (by omega)) fun p39 cap39 cur39 hp39 hcp39 hlp39 htp39=>(zS (qO (fun _ h=>h.tail.tail) ?_)));refine yA Z (qL (v:=bo_ (stillB a xs b ys x (k:Int))) Z (zT Z Tryd.call74 Z zL (fun w1 hw1=>known_b (still_more hlen) (fits_ok a b (xs++[x]) (ys++[(k:Int)]) (sl_ p35 ((xs++[x]).length) cap35) (sl_ p39 ((ys++[(k:Int)]).length) cap39) xs.length w1 ha hb (qN hw1 (i:=1) Z (by simpa using htp35) (by simp) hlp35) (qN hw1 (i:=0) Z (by simpa using htp39) (by simp) hlp39) (els_more hA hx) (els_more hB hy) (by simp) (by simp [hlen]) (by omega)))) (zS (qO (fun _ h=>h.tail.tail) ?_)));refine Ld.nil (zC [1,3,5,6,8,13,14,40] [_,_,_,_,_,_,_,_] Z (qB (b:=stillB a xs b ys x (k:Int)) Z (fun h40=>?_) (fun h40=>?_)))
  ·
   refine zD (zA (zB 2 Z (zF (zC [12] [_] Z (zZ (qA Z Z fun w' hw=>?_))))))
   exact ⟨ret_i (by rw [best_at hRn (by omega) hall (by simpa using h40)];rfl),hw.below⟩
  refine zV (zC [1,3,5,6,8,13,14] [_,_,_,_,_,_,_] Z (zA (zB 1 Z (zE Z (qQ Z Z Z (by omega) (by omega)) (zB 1 Z (zF (qU (k+1) ⟨by omega,fun i hi=>(Nat.lt_succ_iff_lt_or_eq.1 hi).elim (hall i) (fun e=>by subst e;simpa using h40)⟩ (by omega) (Sub.sel [1,3,5,6,8,13,14] Z) (fun _ h=>h.tail.tail))))))))
 replace h29:=zH h29;refine yO Z (zC [13] [_] Z (zD (zA (zB 2 Z (zF (zC [12] [_] Z (zZ (qA Z Z fun w' hw=>?_))))))))
 first | exact ⟨ret_i (best_rep (by assumption)).symm,hw.below⟩ | exact ⟨ret_i (by rw [best_none hRn (fun i hi=>hall i (by omega)),hRn]),hw.below⟩
set_option maxHeartbeats 400000 in
theorem playReply_ok (a b:St) (xs ys:List Int) (va vb:Value) (w:World) (ha:a.Fine) (hb:b.Fine) (hva:Ints w va xs) (hvb:Ints w vb ys) (hA:a.Els xs) (hB:b.Els ys) (hlen:xs.length=ys.length) (h4:xs.length≤4) (r:Int) (h1:1≤r) (h3:r≤3) (x:Int) (hx:a.El x) :
    Calls Tryd.prog 44 [vS a,va,vS b,vb,i6_ r,i6_ x].toArray w fun en w'=>en=.returned (.tuple #[.int .i64 (((bestO (r - 1).toNat a xs b ys x).getD 0:Nat):Int),.bool (bestO (r - 1).toNat a xs b ys x).isSome])∧Below w.heap.size w w':=by
 refine fnStart (n:=43) (e:=[(0,vS a),(1,va),(2,vS b),(3,vb),(4,i6_ r),(5,i6_ x)]) Tryd.func44 Z Z Z Z Ends.both ?_
 have hn8:=hb.hi
 have hn1:=hb.lo
 have hm8:=ha.hi
 have hm1:=ha.lo;refine zD (zW (yD (v:=vS a) Z Z Z Z Z fun p6 hp6=>?_))
 show Ll _ _ (Own _ _ [_]) _ _ ((6,pt_ p6)::_) _ _ _;refine yD (v:=vS b) Z Z Z Z Z fun p8 hp8=>?_
 show Ll _ _ (Own _ _ [_,_]) _ _ ((8,pt_ p8)::_) _ _ _;refine qD 2 Z (zS (zC [1,3,4,5,6,8] [_,_,_,_,_,_] Z (zD (zD (zA (zE Z (zK (cs:=#[i6_ a.n,str a.set,str a.rel]) 1 Z zQ Z Z zN) (zB 1 Z (zE Z (zK (cs:=#[i6_ b.n,str b.set,str b.rel]) 0 Z zQ Z Z zN) (zB 3 Z (zE (v:=.tuple #[i6_ ((((rep (goB (r - 1).toNat) a xs b ys x).getD 0:Nat):Int)),bo_ ((rep (goB (r - 1).toNat) a xs b ys x).isSome)]) Z (zT Z Tryd.call78 Z zL (fun w1 hw1=>reply_to r h1 a b xs ys va vb w1 ha hb (Row.own hva hw1) (Row.own hvb hw1) hA hB (by first | (simp;done) | (simp;omega) | omega) (by first | (simp;done) | (simp;omega) | omega) x hx)) (zB 1 Z (zE (v:=i6_ ((((rep (goB (r - 1).toNat) a xs b ys x).getD 0:Nat):Int))) Z (qJ Z Z Z) (zE (v:=bo_ ((rep (goB (r - 1).toNat) a xs b ys x).isSome)) Z (qJ Z Z Z) (zB 2 Z (zF (zC [1,3,5,6,8,14,15] [_,_,_,_,_,_,_] Z (zD (zA (zB 1 Z (zF (zC [1,3,5,6,8,14,27] [_,_,_,_,_,_,_] Z (qB (b:=(rep (goB (r - 1).toNat) a xs b ys x).isSome) Z (fun h27=>?_) (fun h27=>?_)))))))))))))))))))))))
 ·
  obtain ⟨z,hz⟩:=Option.isSome_iff_exists.1 h27
  have hbz:=best_some hz;refine zD (zA (zB 3 Z (zF (zC [12,13] [_,_] Z (zZ (Kt.end2 Z Z Z fun w' hw=>?_))))))
  exact ⟨by rw [hbz,hz];rfl,hw.below⟩
 have hRn:rep (goB (r - 1).toNat) a xs b ys x=none:=by
  cases e:rep (goB (r - 1).toNat) a xs b ys x with
  | none=>rfl
  | some y=>rw [e] at h27;cases h27
 refine zV (zC [1,3,5,6,8] [_,_,_,_,_] Z (zD (zD (zA (zE Z (zR Z zP Z zM Z Z) (zE Z (zX 0 Z zU Z Z Z) (zB 1 Z (zF (zC [1,3,5,6,8,30,31] [_,_,_,_,_,_,_] Z (qF (yQ (σ:=Nat) (fun k=>(k:Int)≤b.n∧∀ i:Nat,i<k→stillB a xs b ys x (i:Int)=false) (fun k=>[(1,va),(3,vb),(5,i6_ x),(6,pt_ p6),(8,pt_ p8),(30,i6_ b.n),(31,i6_ (k:Int))]) (fun k=>Own w.heap.size w [bk_ p8 #[i6_ b.n,str b.set,str b.rel] 24,bk_ p6 #[i6_ a.n,str a.set,str a.rel] 24]) (fun k=>(b.n - k).toNat) (0) ⟨by omega,fun i hi=>absurd hi (by omega)⟩ (Sub.sel [1,3,5,6,8,30,31] Z) (fun _ h=>h) ?_)))))))))))
 rintro k ⟨hk,hall⟩;refine zD (zA (zB 1 Z (zF (zC [1,3,5,6,8,30,31,32] [_,_,_,_,_,_,_,_] Z (zD (qB (b:=decide ((k:Int)<b.n)) Z (fun h32=>?_) (fun h32=>?_)))))))
 ·
  replace h32:=zI h32
  have hy:b.El (k:Int):=⟨by omega,by omega⟩;refine zV (zC [1,3,5,6,8,30,31] [_,_,_,_,_,_,_] Z (zD (qF (zD (zA (zB 2 Z (zF (zC [1,3,5,6,8,16,30,31] [_,_,_,_,_,_,_,_] Z (zD (zA (zE Z (zK (cs:=#[i6_ a.n,str a.set,str a.rel]) 1 Z zQ Z Z zN) (zB 1 Z (zE Z (zK (cs:=#[i6_ b.n,str b.set,str b.rel]) 0 Z zQ Z Z zN) (zB 3 Z (zE (v:=bo_ (stillB a xs b ys x (k:Int))) Z (zT Z Tryd.call79 Z zL (fun w1 hw1=>stillSame_ok a b xs ys va vb x (k:Int) w1 (ha) (hb) (Row.own hva hw1) (Row.own hvb hw1) (hA) (hB) (by first | (simp;done) | (simp;omega) | omega) (by first | (simp;done) | (simp;omega) | omega) (by first | assumption | exact St.Els.at (by assumption) (by omega) (by omega)) (by first | assumption | exact St.Els.at (by assumption) (by omega) (by omega)))) (zF (zC [1,3,5,6,8,16,30,31,40] [_,_,_,_,_,_,_,_,_] Z (qB (b:=stillB a xs b ys x (k:Int)) Z (fun h40=>?_) (fun h40=>?_)))))))))))))))))))
  ·
   refine zD (zA (zB 3 Z (zF (zC [12,13] [_,_] Z (zZ (Kt.end2 Z Z Z fun w' hw=>?_))))))
   exact ⟨by rw [best_at hRn (by omega) hall (by simpa using h40)];rfl,hw.below⟩
  refine zV (zC [1,3,5,6,8,30,31] [_,_,_,_,_,_,_] Z (zA (zE Z (qQ Z Z Z (by omega) (by omega)) (zB 1 Z (zF (qU (k+1) ⟨by omega,fun i hi=>(Nat.lt_succ_iff_lt_or_eq.1 hi).elim (hall i) (fun e=>by subst e;simpa using h40)⟩ (by omega) (Sub.sel [1,3,5,6,8,30,31] Z) (fun _ h=>h)))))))
 replace h32:=zH h32;refine yO Z (zC [] [] Z (zD (zA (zB 2 Z (zF (zC [12,13] [_,_] Z (zZ (Kt.end2 Z Z Z fun w' hw=>?_))))))))
 exact ⟨by rw [best_none hRn (fun i hi=>hall i (by omega))];rfl,hw.below⟩
end Go.Proofs.YteccfipfimbdgaaDoor
namespace Go.Proofs.YteccfipfimbdgaaDoor
open Go.ChangeShapes Go.WideShapes Go.ChangeAt Go.RowKit Go.Wk
def whiteL:List Int:=[9,13,1,32,133,101,160,5760,5600,8192,8202,1,8232,8233,1,8239,8287,48,12288,12288,1]
noncomputable def laidWorldP (os:Os):World :=
 let N:=(World.settled Tryd.prog os).heap.size
 let w0:=World.holding Tryd.prog os ⟨#[.cells (whiteL.map fun z=>Value.int .u16 z).toArray 177,.cells #[.slice (some ⟨N,0,none⟩) 7 7,.slice none 0 0,.int .i64 2] 174],#[],[]⟩
 { w0 with heap:=(((w0.heap.modify 3 (lay (flat2 Go.Pinned.utf8First))).modify 4 (lay (flat2 Rows.laid_unicode_utf8_acceptRanges))).modify 0 (lay (flat2 Rows.laid_strings_asciiSpace))).modify 1 (lay [.pointer (some ⟨N+1,0,none⟩)]) }
set_option maxRecDepth 100000 in
theorem laid_metP (os:Os) (args:Array Value):laidMet Tryd.prog Rows.fnExactPlayGameRow.laid ((laidWorldP os).forCall (fun _ _=>0) ⟨#[],args,[]⟩).memory :=
 laidMet_of_run3 10 (by kernel_rfl) (by kernel_rfl) (by kernel_rfl)
theorem tab_cells:(Rows.laid_strings_asciiSpace:DataW Unit)=Lib.tabData .u8 Lib.asciiSpaceTab:=by kernel_rfl
theorem gs_named : Tryd.prog.globalNamed "strings.asciiSpace" = some 0 := by kernel_rfl
theorem gs_type:(Tryd.prog.globals[0]?).map (·.type)=some 101:=by kernel_rfl
theorem gs_cells5:Tryd.prog.cellsOf 5=1:=by kernel_rfl
theorem gs_cells:Tryd.prog.cellsOf 101=256:=by kernel_rfl
theorem gw_start {W:World} (hL:laidMetH Tryd.prog Rows.fnExactPlayGameRow.laid W) (hsh:W.ShapedOpen Tryd.prog):GW W.heap.size W:=by
  obtain ⟨m,hm⟩:=cell_of_shapedOpen_int (P:=Tryd.prog) (g:=2) (t:=3) (zero:=#[.int .i64 0]) hsh (of_decide_eq_true (by kernel_rfl)) (by kernel_rfl) rfl (by kernel_rfl) (by kernel_rfl) Tryd.underlying3
  have hL':laidMet Tryd.prog Rows.fnExactPlayGameRow.laid W:=hL
  obtain ⟨ps,⟨g1,t1,c1,f1,p1,q1,_,_,_,_,⟨g2,t2,c2,f2,p2,q2,_,_,_,_,⟨g,t,cs,fuel,p,q,hg,ht,hvar,hd,_,_⟩,_⟩,_⟩,_⟩:=hL'
  obtain rfl:=Option.some.inj (gs_named.symm.trans hg)
  obtain rfl:=Option.some.inj (gs_type.symm.trans ht)
  have h2:2<W.heap.size:=by
    rcases Nat.lt_or_ge 2 W.heap.size with h | h
    · exact h
    · rw [World.cell?,Array.getElem?_eq_none h] at hm;cases hm
  refine ⟨⟨h2,m,hm⟩,⟨0,by omega,gs_named⟩,?_⟩
  unfold Lib.TabIs
  rw [hvar,← Lib.cells_of_tab (zs:=Lib.asciiSpaceTab) (k:=.u8) Tryd.underlying101 Tryd.underlying5 gs_cells5 gs_cells (by rw [← tab_cells];exact hd)]
end Go.Proofs.YteccfipfimbdgaaDoor
namespace Go.Wk
open Go.RowKit Go.ChangeShapes Go.WideShapes Go.ChangeAt
theorem open_T {H:Type} {enc:TypeId×Value→H} {P:Program} {W:World} {r:Reach} {b0:Nat} {t:TypeId} {v:Value} {d:DataW H} {p:List MemPlace} (ht:P.underlying t=some .string)
  (hv:Value.okWide P W r b0 t v) (h:DataW.Trod enc P W 0 (fun _=>true) true t v d p):∃ s:List UInt8,v=str s:=by
 obtain ⟨s,rfl,_,_,_⟩:=Go.ChangeMaps.open_string ht hv h
 obtain ⟨⟨l⟩⟩:=s
 exact ⟨l,rfl⟩
end Go.Wk
namespace Go.Proofs.YteccfipfimbdgaaDoor
open Go.RowKit Go.Wk
set_option linter.unusedSimpArgs false
set_option maxHeartbeats 400000 in
theorem sPlay_ok (a b:St) (s:List UInt8) (w:World) (hsa:a.Small) (hsb:b.Small) (hs:s.length≤1048576) (loa : -9223372036854775808≤a.n) (hia:a.n≤9223372036854775807) (lob : -9223372036854775808≤b.n) (hib:b.n≤9223372036854775807) :
    Calls Tryd.prog 14 [vS a,vS b,str s].toArray w fun en w'=>∃ v,en=.returned v∧Below w.heap.size w w'∧NewRowsZ w.heap.size 3 3 w' v (str (playO a b s).2.2) (playO a b s).1.length (ints (playO a b s).1) (playO a b s).2.1.length (ints (playO a b s).2.1):=by
 refine fnStart (n:=105) (e:=[(0,vS a),(1,vS b),(2,str s)]) Tryd.func14 Z Z Z Z Ends.both (zD (zW (yD (v:=vS a) Z Z Z Z Z fun p3 hp3=>?_)))
 show Ll _ _ (Own _ _ [_]) _ _ ((3,pt_ p3)::_) _ _ _;refine yD (v:=vS b) Z Z Z Z Z fun p4 hp4=>?_
 show Ll _ _ (Own _ _ [_,_]) _ _ ((4,pt_ p4)::_) _ _ _;refine qD 2 Z (qL (v:=str ([])) Z (yG Z Z) (zS (zC [2,3,4] [_,_,_] Z (zD (zW (yM (xs:=[]) (vs:=[]) qE Z Z Z Z Z Z (by decide) Z fun p17 hp17=>(qD 1 Z (zS (zC [2,3,4,9] [_,_,_,_] Z (zD (zW (yM (xs:=[]) (vs:=[]) qE Z Z Z Z Z Z (by decide) Z fun p18 hp18=>(qD 1 Z (zS (zC [2,3,4,9,10] [_,_,_,_,_] Z (zD (zD (zA (zE Z (zK (cs:=#[i6_ a.n,str a.set,str a.rel]) 3 Z zQ Z Z zN) (zE (v:=bo_ (validB a)) Z (zT Z Tryd.call36 Z zL (fun w1 hw1=>sValid_ok a w1 hsa)) (zB 2 Z (yU fun b22 hg22=>?_))))))))))))))))))))))
 cases b22
 ·
  replace hg22:=not_false hg22;refine zE Z (zK (cs:=#[i6_ b.n,str b.set,str b.rel]) 2 Z zQ Z Z zN) (zE (v:=bo_ (validB b)) Z (zT Z Tryd.call36 Z zL (fun w1 hw1=>sValid_ok b w1 hsb)) (zB 2 Z (zF (zC [2,3,4,9,10,26] [_,_,_,_,_,_] Z (qB (b:=!(validB b)) Z (fun h26=>?_) (fun h26=>?_))))))
  ·
   replace h26:=not_true h26;refine zD (zA (zB 4 Z (zE (v:=str ([110,111])) Z (yG Z Z) (zF (zC [6,7,8] [_,_,_] Z (zZ (Kt.end3 Z Z Z Z fun w' hw=>?_)))))))
   have hpo:=play_no (a:=a) (b:=b) (s:=s) (by simp_all)
   exact ⟨_,rfl,hw.below,by rw [hpo];exact hw.newRowsZ (i:=1) (j:=0) rfl rfl (by decide) rfl (Nat.le_refl 0) rfl rfl (Nat.le_refl 0) rfl⟩
  replace h26:=not_false h26
  have hVa:validB a=true:=by simp_all
  have hVb:validB b=true:=by simp_all
  have ha:=validB_fine hVa
  have hb:=validB_fine hVb
  have ha1:=ha.lo
  have ha8:=ha.hi
  have hb1:=hb.lo
  have hb8:=hb.hi;refine zV (zC [2,3,4,9,10] [_,_,_,_,_] Z (zD (zW (qL Z (zK (cs:=#[i6_ a.n,str a.set,str a.rel]) 3 Z zQ Z Z zN) (qL Z (zK (cs:=#[i6_ b.n,str b.set,str b.rel]) 2 Z zQ Z Z zN) (qD 1 Z (Ll.callRowZ (xs:=[.tmp 30,.tmp 31,.tmp 32]) (m:=(movesL s).length) (vs:=strs (movesL s)) (z:=.bool (movesB a.n b.n s)) (el:=9) Z Z Z Z Tryd.call39 Z (fun w1 hw1=>l5Moves_ok a b s w1 ha hb hs) fun p33 cap33 cur33 hp33 hcp33 hlp33 htp33=>(qD 1 Z (qL (v:=sl_ p33 ((movesL s).length) cap33) Z (qJ Z Z Z) (qL (v:=bo_ (movesB a.n b.n s)) Z (qJ Z Z Z) (qD 2 Z (zS (zC [3,4,9,10,11,12] [_,_,_,_,_,_] Z (zD (zD (zA (zB 2 Z (zF (zC [3,4,9,10,11,37] [_,_,_,_,_,_] Z (qB (b:=!(movesB a.n b.n s)) Z (fun h37=>?_) (fun h37=>?_)))))))))))))))))))))
  ·
   replace h37:=not_true h37;refine zD (zA (zB 4 Z (zE (v:=str ([110,111])) Z (yG Z Z) (zF (zC [6,7,8] [_,_,_] Z (zZ (Kt.end3 Z Z Z Z fun w' hw=>?_)))))))
   have hpo:=play_no (a:=a) (b:=b) (s:=s) (by simp_all)
   exact ⟨_,rfl,hw.below,by rw [hpo];exact hw.newRowsZ (i:=2) (j:=1) rfl rfl (by decide) rfl (Nat.le_refl 0) rfl rfl (Nat.le_refl 0) rfl⟩
  replace h37:=not_false h37
  have hvm:(validB a&&validB b&&movesB a.n b.n s)=true:=by simp_all
  obtain ⟨hml1,hml2,hml3,hml4⟩:=moves_fields (n:=a.n) (m:=b.n) (s:=s) (by simp_all) ha8 hb8;refine zV (zC [3,4,9,10,11] [_,_,_,_,_] Z (zD (zD (zA (zB 1 Z (zF (zC [3,4,9,10,11,13] [_,_,_,_,_,_] Z (qF (yQ (σ:=Nat×Nat×Nat×Array Value×List Int×Nat×Nat×Array Value×List Int) (fun ⟨i,g1,c1,u1,xs,g2,c2,u2,ys⟩=>(u1.size=c1*1∧xs.length≤c1∧u1.toList.take xs.length=ints xs)∧(u2.size=c2*1∧ys.length≤c2∧u2.toList.take ys.length=ints ys)∧PlayTo a b (movesL s) i xs ys) (fun ⟨i,g1,c1,u1,xs,g2,c2,u2,ys⟩=>[(3,pt_ p3),(4,pt_ p4),(9,sl_ g1 xs.length c1),(10,sl_ g2 ys.length c2),(11,sl_ p33 ((movesL s).length) cap33),(13,i6_ (i:Int))]) (fun ⟨i,g1,c1,u1,xs,g2,c2,u2,ys⟩=>Own w.heap.size w [bk_ g1 u1 3,bk_ g2 u2 3,bk_ p33 cur33 9,bk_ p4 #[i6_ b.n,str b.set,str b.rel] 24,bk_ p3 #[i6_ a.n,str a.set,str a.rel] 24]) (fun ⟨i,g1,c1,u1,xs,g2,c2,u2,ys⟩=>(movesL s).length - i) (0,p17,0,#[],[],p18,0,#[],[]) ⟨⟨rfl,Nat.le_refl 0,rfl⟩,⟨rfl,Nat.le_refl 0,rfl⟩,PlayTo.start⟩ (Sub.sel [3,4,9,10,11,13] Z) (fun _ h=>h.pick [2,1,0,3,4] Z (by decide)) ?_)))))))))
  rintro ⟨i,g1,c1,u1,xs,g2,c2,u2,ys⟩ ⟨⟨hcg1,hlg1,htg1⟩,⟨hcg2,hlg2,htg2⟩,hPt⟩
  dsimp only
  have hlx:=hPt.lx
  have hly:=hPt.ly
  have hile:=hPt.le;refine zD (zD (zA (zB 2 Z (zE Z (yZ Z qK Z) (zB 1 Z (zF (zC [3,4,9,10,11,13,43] [_,_,_,_,_,_,_] Z (qB (b:=decide ((i:Int)<((movesL s).length:Int))) Z (fun h43=>?_) (fun h43=>?_)))))))))
  ·
   replace h43:=zI h43
   have hil:i<(movesL s).length:=by omega
   obtain ⟨hp1,hp2,hp3,hp4,hp5⟩:=move_parts (hml4 ((movesL s).getD i []) (by rw [getD_at hil];exact List.getElem_mem _))
   have hnr:((((movesL s).length:Int) - (i:Int)) - 1).toNat+i+1=(movesL s).length:=by omega
   refine zV (zC [3,4,9,10,11,13] [_,_,_,_,_,_] Z (zD (qF (zD (zA (zB 2 Z (zE (v:=pf_ p33 i) Z (qC (by simp) (qH Z qK qT Z Z (by omega) (by omega))) (zE (v:=str ((movesL s).getD (i) [])) Z (yR 2 Z yK Z Z (cur_at (by simpa using htp33) (strs_at (c:=(movesL s)) (off:=i) (by first | (simp;done) | (simp;omega) | omega)))) (zE (v:=.int .u8 (((((movesL s).getD i []).getD 1 0).toNat:Int))) Z (qC (v':=.int .u8 ((((movesL s).getD i []).getD 1 0).toNat:Int)) Z (qI (i:=(1:Int)) Z zO Z Z (by decide) (by omega))) (zE (v:=i6_ (((((movesL s).getD i []).getD 1 0).toNat:Int))) Z (xC .i64 Z yI yS Z (IntWalk.i64_in _ (by have:=UInt8.toNat_lt (((movesL s).getD i []).getD 1 0);omega))) (zE (v:=i6_ ((mvE ((movesL s).getD i [])))) Z (qC (by rfl) (xH Z Z Z (by omega) (by omega))) (zB 1 Z (zF (zC [3,4,9,10,11,13,14] [_,_,_,_,_,_,_] Z (zD (zD (zA (zB 2 Z (zE (v:=pf_ p33 i) Z (qC (by simp) (qH Z qK qT Z Z (by omega) (by omega))) (zE (v:=str ((movesL s).getD (i) [])) Z (yR 2 Z yK Z Z (cur_at (by simpa using htp33) (strs_at (c:=(movesL s)) (off:=i) (by first | (simp;done) | (simp;omega) | omega)))) (zE (v:=.int .u8 (((((movesL s).getD i []).getD 0 0).toNat:Int))) Z (qC (v':=.int .u8 ((((movesL s).getD i []).getD 0 0).toNat:Int)) Z (qI (i:=(0:Int)) Z zO Z Z (by decide) (by omega))) (zB 1 Z (zF (zC [3,4,9,10,11,13,14,58] [_,_,_,_,_,_,_,_] Z (qB (b:=decide ((((((movesL s).getD i []).getD 0 0).toNat:Int))=(97:Int))) Z (fun h58=>?_) (fun h58=>?_))))))))))))))))))))))))))
   ·
    replace h58:=zI h58
    have h58:=h58
    have hx:a.El (mvE ((movesL s).getD i [])):=⟨by unfold mvE;omega,by unfold mvE;have:=hp4 h58;omega⟩;refine zD (zA (zE Z (zK (cs:=#[i6_ a.n,str a.set,str a.rel]) 4 Z zQ Z Z zN) (zB 1 Z (zE Z (zK (cs:=#[i6_ b.n,str b.set,str b.rel]) 3 Z zQ Z Z zN) (zB 2 Z (zE Z (yZ Z qK Z) (zB 1 Z (zE Z (xH Z Z Z (by omega) (by omega)) (zB 1 Z (zE (v:=i6_ (repI (bestO ((((movesL s).length:Int) - (i:Int)) - 1).toNat a xs b ys ((mvE ((movesL s).getD i [])))))) Z (zT Z Tryd.call40 Z zL (fun w1 hw1=>l5Best_ok a b xs ys (sl_ g1 xs.length c1) (sl_ g2 ys.length c2) w1 ha hb (qN hw1 (i:=0) Z htg1 (by simp) hlg1) (qN hw1 (i:=1) Z htg2 (by simp) hlg2) hPt.ex hPt.ey (by first | (simp;done) | (simp;omega) | omega) (by first | (simp;done) | (simp;omega) | omega) (((movesL s).length:Int) - (i:Int)) (by omega) (by omega) ((mvE ((movesL s).getD i []))) hx)) (zB 1 Z (zF (zC [3,4,9,10,11,13,14,15] [_,_,_,_,_,_,_,_] Z (zD (zD (zA (zB 2 Z (zF (zC [3,4,9,10,11,13,14,15,70] [_,_,_,_,_,_,_,_,_] Z (qB (b:=decide ((repI (bestO ((((movesL s).length:Int) - (i:Int)) - 1).toNat a xs b ys ((mvE ((movesL s).getD i [])))))<(0:Int))) Z (fun h70=>?_) (fun h70=>?_)))))))))))))))))))))
    ·
     replace h70:=zI h70;refine zD (zW (qD 2 Z (yT (xs:=[.tmp 71,.tmp 72]) (m:=(xs++[(mvE ((movesL s).getD i []))]).length) (vs:=ints (xs++[(mvE ((movesL s).getD i []))])) (el:=3) (size:=1) Z Z Z Z yY Z (fun w1 hw1=>l4With_ok (sl_ g1 xs.length c1) xs ((mvE ((movesL s).getD i []))) w1 (qN hw1 (i:=0) Z htg1 (by simp) hlg1) (by omega)) fun p73 cap73 cur73 hp73 hcp73 hlp73 htp73=>(qD 3 Z (qL (v:=str ([102,105,114,115,116])) Z (yG Z Z) (zS (zC [6,7,8] [_,_,_] Z (zZ (Kt.end3 Z Z Z Z fun w' hw=>?_)))))))))
     have hpo:=hPt.enda hvm hil hnr h58 (best_neg (by assumption))
     exact ⟨_,rfl,hw.below,by rw [hpo];exact hw.newRowsZ (i:=0) (j:=2) rfl rfl (by decide) hcp73 hlp73 (by simpa using (by simpa using htp73)) hcg2 hlg2 (by simpa using htg2)⟩
    replace h70:=zH h70
    obtain ⟨y,hbo,hyI⟩:=best_pos h70
    have hPn:=hPt.ma hil hnr hb h58 hx hbo
    rw [← hyI] at hPn;refine zV (zC [3,4,9,10,11,13,14,15] [_,_,_,_,_,_,_,_] Z (zD (zW (qD 2 Z (yT (xs:=[.tmp 75,.tmp 76]) (m:=(xs++[(mvE ((movesL s).getD i []))]).length) (vs:=ints (xs++[(mvE ((movesL s).getD i []))])) (el:=3) (size:=1) Z Z Z Z yY Z (fun w1 hw1=>l4With_ok (sl_ g1 xs.length c1) xs ((mvE ((movesL s).getD i []))) w1 (qN hw1 (i:=0) Z htg1 (by simp) hlg1) (by omega)) fun p77 cap77 cur77 hp77 hcp77 hlp77 htp77=>(qD 1 Z (zS (zC [3,4,9,10,11,13,15] [_,_,_,_,_,_,_] Z (zD (zW (qD 2 Z (yT (xs:=[.tmp 78,.tmp 79]) (m:=(ys++[repI (bestO ((((movesL s).length:Int) - (i:Int)) - 1).toNat a xs b ys ((mvE ((movesL s).getD i []))))]).length) (vs:=ints (ys++[repI (bestO ((((movesL s).length:Int) - (i:Int)) - 1).toNat a xs b ys ((mvE ((movesL s).getD i []))))])) (el:=3) (size:=1) Z Z Z Z yY Z (fun w1 hw1=>l4With_ok (sl_ g2 ys.length c2) ys (repI (bestO ((((movesL s).length:Int) - (i:Int)) - 1).toNat a xs b ys ((mvE ((movesL s).getD i []))))) w1 (qN hw1 (i:=2) Z htg2 (by simp) hlg2) (by omega)) fun p80 cap80 cur80 hp80 hcp80 hlp80 htp80=>(qD 1 Z (zS (zC [3,4,9,10,11,13] [_,_,_,_,_,_] Z (yO Z (zC [3,4,9,10,11,13] [_,_,_,_,_,_] Z (zA (zB 1 Z (zE Z (qQ Z Z Z (by omega) (by omega)) (zB 1 Z (zF (qU ((i+1,p77,cap77,cur77,xs++[(mvE ((movesL s).getD i []))],p80,cap80,cur80,ys++[repI (bestO ((((movesL s).length:Int) - (i:Int)) - 1).toNat a xs b ys ((mvE ((movesL s).getD i []))))])) ⟨⟨by simpa using hcp77,hlp77,by simpa using (by simpa using htp77)⟩,⟨by simpa using hcp80,hlp80,by simpa using (by simpa using htp80)⟩,hPn⟩ (by omega) (Sub.sel [3,4,9,10,11,13] Z) (fun _ h=>h.pick [1,0,4,5,6] Z (by decide)))))))))))))))))))))))))
   replace h58:=zH h58
   have h58:=h58
   have hx:b.El (mvE ((movesL s).getD i [])):=⟨by unfold mvE;omega,by unfold mvE;have:=hp5 (by omega);omega⟩;refine zV (zC [3,4,9,10,11,13,14] [_,_,_,_,_,_,_] Z (zD (zA (zE Z (zK (cs:=#[i6_ b.n,str b.set,str b.rel]) 3 Z zQ Z Z zN) (zB 1 Z (zE Z (zK (cs:=#[i6_ a.n,str a.set,str a.rel]) 4 Z zQ Z Z zN) (zB 2 Z (zE Z (yZ Z qK Z) (zB 1 Z (zE Z (xH Z Z Z (by omega) (by omega)) (zB 1 Z (zE (v:=i6_ (repI (bestO ((((movesL s).length:Int) - (i:Int)) - 1).toNat b ys a xs ((mvE ((movesL s).getD i [])))))) Z (zT Z Tryd.call40 Z zL (fun w1 hw1=>l5Best_ok b a ys xs (sl_ g2 ys.length c2) (sl_ g1 xs.length c1) w1 hb ha (qN hw1 (i:=1) Z htg2 (by simp) hlg2) (qN hw1 (i:=0) Z htg1 (by simp) hlg1) hPt.ey hPt.ex (by first | (simp;done) | (simp;omega) | omega) (by first | (simp;done) | (simp;omega) | omega) (((movesL s).length:Int) - (i:Int)) (by omega) (by omega) ((mvE ((movesL s).getD i []))) hx)) (zB 1 Z (zF (zC [3,4,9,10,11,13,14,16] [_,_,_,_,_,_,_,_] Z (zD (zD (zA (zB 2 Z (zF (zC [3,4,9,10,11,13,14,16,92] [_,_,_,_,_,_,_,_,_] Z (qB (b:=decide ((repI (bestO ((((movesL s).length:Int) - (i:Int)) - 1).toNat b ys a xs ((mvE ((movesL s).getD i [])))))<(0:Int))) Z (fun h92=>?_) (fun h92=>?_)))))))))))))))))))))))
   ·
    replace h92:=zI h92;refine zD (zW (qD 3 Z (yT (xs:=[.tmp 94,.tmp 95]) (m:=(ys++[(mvE ((movesL s).getD i []))]).length) (vs:=ints (ys++[(mvE ((movesL s).getD i []))])) (el:=3) (size:=1) Z Z Z Z yY Z (fun w1 hw1=>l4With_ok (sl_ g2 ys.length c2) ys ((mvE ((movesL s).getD i []))) w1 (qN hw1 (i:=1) Z htg2 (by simp) hlg2) (by omega)) fun p96 cap96 cur96 hp96 hcp96 hlp96 htp96=>(qD 2 Z (qL (v:=str ([102,105,114,115,116])) Z (yG Z Z) (zS (zC [6,7,8] [_,_,_] Z (zZ (Kt.end3 Z Z Z Z fun w' hw=>?_)))))))))
    have hpo:=hPt.endb hvm hil hnr h58 (best_neg (by assumption))
    exact ⟨_,rfl,hw.below,by rw [hpo];exact hw.newRowsZ (i:=1) (j:=0) rfl rfl (by decide) hcg1 hlg1 (by simpa using htg1) hcp96 hlp96 (by simpa using (by simpa using htp96))⟩
   replace h92:=zH h92
   obtain ⟨y,hbo,hyI⟩:=best_pos h92
   have hPn:=hPt.mb hil hnr ha h58 hx hbo
   rw [← hyI] at hPn;refine zV (zC [3,4,9,10,11,13,14,16] [_,_,_,_,_,_,_,_] Z (zD (zW (qD 2 Z (yT (xs:=[.tmp 97,.tmp 98]) (m:=(xs++[repI (bestO ((((movesL s).length:Int) - (i:Int)) - 1).toNat b ys a xs ((mvE ((movesL s).getD i []))))]).length) (vs:=ints (xs++[repI (bestO ((((movesL s).length:Int) - (i:Int)) - 1).toNat b ys a xs ((mvE ((movesL s).getD i []))))])) (el:=3) (size:=1) Z Z Z Z yY Z (fun w1 hw1=>l4With_ok (sl_ g1 xs.length c1) xs (repI (bestO ((((movesL s).length:Int) - (i:Int)) - 1).toNat b ys a xs ((mvE ((movesL s).getD i []))))) w1 (qN hw1 (i:=0) Z htg1 (by simp) hlg1) (by omega)) fun p99 cap99 cur99 hp99 hcp99 hlp99 htp99=>(qD 1 Z (zS (zC [3,4,9,10,11,13,14] [_,_,_,_,_,_,_] Z (zW (qD 2 Z (yT (xs:=[.tmp 100,.tmp 101]) (m:=(ys++[(mvE ((movesL s).getD i []))]).length) (vs:=ints (ys++[(mvE ((movesL s).getD i []))])) (el:=3) (size:=1) Z Z Z Z yY Z (fun w1 hw1=>l4With_ok (sl_ g2 ys.length c2) ys ((mvE ((movesL s).getD i []))) w1 (qN hw1 (i:=2) Z htg2 (by simp) hlg2) (by omega)) fun p102 cap102 cur102 hp102 hcp102 hlp102 htp102=>(qD 1 Z (zS (zC [3,4,9,10,11,13] [_,_,_,_,_,_] Z (zA (zB 1 Z (zE Z (qQ Z Z Z (by omega) (by omega)) (zB 1 Z (zF (qU ((i+1,p99,cap99,cur99,xs++[repI (bestO ((((movesL s).length:Int) - (i:Int)) - 1).toNat b ys a xs ((mvE ((movesL s).getD i []))))],p102,cap102,cur102,ys++[(mvE ((movesL s).getD i []))])) ⟨⟨by simpa using hcp99,hlp99,by simpa using (by simpa using htp99)⟩,⟨by simpa using hcp102,hlp102,by simpa using (by simpa using htp102)⟩,hPn⟩ (by omega) (Sub.sel [3,4,9,10,11,13] Z) (fun _ h=>h.pick [1,0,4,5,6] Z (by decide))))))))))))))))))))))
  replace h43:=zH h43;refine yO Z (zC [9,10] [_,_] Z (zD (zA (zB 4 Z (zE (v:=str ([115,101,99,111,110,100])) Z (yG Z Z) (zF (zC [6,7,8] [_,_,_] Z (zZ (Kt.end3 Z Z Z Z fun w' hw=>?_)))))))))
  have hpo:=hPt.fin hvm (by omega)
  exact ⟨_,rfl,hw.below,by rw [hpo];exact hw.newRowsZ (i:=0) (j:=1) rfl rfl (by decide) hcg1 hlg1 (by simpa using htg1) hcg2 hlg2 (by simpa using htg2)⟩
 replace hg22:=not_true hg22;refine zG Z (zG Z (zG Z (zB 1 Z (zF (zC [2,3,4,9,10,26] [_,_,_,_,_,_] Z (xB Z (zD (zA (zB 4 Z (zE (v:=str ([110,111])) Z (yG Z Z) (zF (zC [6,7,8] [_,_,_] Z (zZ (Kt.end3 Z Z Z Z fun w' hw=>?_))))))))))))))
 have hpo:=play_no (a:=a) (b:=b) (s:=s) (by simp_all)
 exact ⟨_,rfl,hw.below,by rw [hpo];exact hw.newRowsZ (i:=1) (j:=0) rfl rfl (by decide) rfl (Nat.le_refl 0) rfl rfl (Nat.le_refl 0) rfl⟩
set_option maxHeartbeats 400000 in
theorem iPlay_yes (a b:St) (s:List UInt8) (w:World) (hsa:a.Small) (hsb:b.Small) (hs:s.length≤1048576) (hG:GW w.heap.size w) (hvm:(validB a&&validB b&&movesB a.n b.n s)=true) :
    Calls Tryd.prog 16 [vS a,vS b,str s].toArray w fun en w'=>∃ v,en=.returned v∧Below w.heap.size w w'∧NewRowsZ w.heap.size 3 3 w' v (str (playO a b s).2.2) (playO a b s).1.length (ints (playO a b s).1) (playO a b s).2.1.length (ints (playO a b s).2.1):=by
 refine fnStart (n:=101) (e:=[(0,vS a),(1,vS b),(2,str s)]) Tryd.func16 Z Z Z Z Ends.both ?_
 have hVa:validB a=true:=by simp_all
 have hVb:validB b=true:=by simp_all
 have ha:=validB_fine hVa
 have hb:=validB_fine hVb
 have ha1:=ha.lo
 have ha8:=ha.hi
 have hb1:=hb.lo
 have hb8:=hb.hi
 have hmv:movesB a.n b.n s=true:=by simp_all
 obtain ⟨hml1,hml2,hml3,hml4⟩:=moves_fields (n:=a.n) (m:=b.n) (s:=s) hmv ha8 hb8;refine zD (zW (yD (v:=vS a) Z Z Z Z Z fun p3 hp3=>?_))
 show Ll _ _ (Own _ _ [_]) _ _ ((3,pt_ p3)::_) _ _ _;refine yD (v:=vS b) Z Z Z Z Z fun p4 hp4=>?_
 show Ll _ _ (Own _ _ [_,_]) _ _ ((4,pt_ p4)::_) _ _ _;refine qD 2 Z (qL (v:=str ([])) Z (yG Z Z) (zS (zC [2,3,4] [_,_,_] Z (zD (zD ?_)))));refine zA (zE Z (zK (cs:=#[i6_ a.n,str a.set,str a.rel]) 1 Z zQ Z Z zN) (zE (v:=bo_ true) Z (zT Z Tryd.call32 Z zL (fun w1 hw1=>known_b hVa (isStructure_ok a w1 hsa))) (zB 2 Z (zE Z (zK (cs:=#[i6_ b.n,str b.set,str b.rel]) 0 Z zQ Z Z zN) (zE (v:=bo_ true) Z (zT Z Tryd.call32 Z zL (fun w1 hw1=>known_b hVb (isStructure_ok b w1 hsb))) (zB 3 Z (zE Z (zK (cs:=#[i6_ a.n,str a.set,str a.rel]) 1 Z zQ Z Z zN) (zE Z (zK (cs:=#[i6_ b.n,str b.set,str b.rel]) 0 Z zQ Z Z zN) (zB 1 Z (zE (v:=bo_ true) Z (zT Z Tryd.call42 Z zL (fun w1 hw1=>known_b hmv (iMoves_ok a b s w1 ha hb (by omega) (gw_max hG hw1) (gw_lt hG hw1)))) (zB 2 Z (zF (zC [2,3,4,31] [_,_,_,_] Z (Wk.condF Z (zV (zC [2,3,4] [_,_,_] Z (zD (zW (yM (xs:=[]) (vs:=[]) qE Z Z Z Z Z Z (by decide) Z fun p32 hp32=>(yM (xs:=[]) (vs:=[]) qE Z Z Z Z Z Z (by decide) Z fun p33 hp33=>(qD 2 Z (zS (zC [2,3,4,9,10] [_,_,_,_,_] Z (zD (zW (qD 1 Z (yT (xs:=[.tmp 34]) (m:=(movesL s).length) (vs:=strs (movesL s)) (el:=9) (size:=1) Z Z Z Z Tryd.call43 Z (fun w1 hw1=>fieldsM_ok s (movesL s) w1 (by omega) hml1 hml2 (gw_tab hG hw1)) fun p35 cap35 cur35 hp35 hcp35 hlp35 htp35=>(qD 1 Z (zS (zC [3,4,9,10,11] [_,_,_,_,_] Z (zD (zD (zA (zB 1 Z (zE Z (yZ Z qK Z) (zB 1 Z (zF (zC [3,4,9,10,11,36,37,38] [_,_,_,_,_,_,_,_] Z (qF (yQ (σ:=Nat×Nat×Nat×Array Value×List Int×Nat×Nat×Array Value×List Int) (fun ⟨i,g1,c1,u1,xs,g2,c2,u2,ys⟩=>(u1.size=c1*1∧xs.length≤c1∧u1.toList.take xs.length=ints xs)∧(u2.size=c2*1∧ys.length≤c2∧u2.toList.take ys.length=ints ys)∧PlayTo a b (movesL s) i xs ys) (fun ⟨i,g1,c1,u1,xs,g2,c2,u2,ys⟩=>[(3,pt_ p3),(4,pt_ p4),(9,sl_ g1 xs.length c1),(10,sl_ g2 ys.length c2),(11,sl_ p35 ((movesL s).length) cap35),(36,sl_ p35 ((movesL s).length) cap35),(37,i6_ ((movesL s).length:Int)),(38,i6_ (i:Int))]) (fun ⟨i,g1,c1,u1,xs,g2,c2,u2,ys⟩=>Own w.heap.size w [bk_ g1 u1 3,bk_ g2 u2 3,bk_ p35 cur35 9,bk_ p4 #[i6_ b.n,str b.set,str b.rel] 24,bk_ p3 #[i6_ a.n,str a.set,str a.rel] 24]) (fun ⟨i,g1,c1,u1,xs,g2,c2,u2,ys⟩=>(movesL s).length - i) (0,p32,0,#[],[],p33,0,#[],[]) ⟨⟨rfl,Nat.le_refl 0,rfl⟩,⟨rfl,Nat.le_refl 0,rfl⟩,PlayTo.start⟩ (Sub.sel [3,4,9,10,11,36,37,38] Z) (fun _ h=>h.pick [2,1,0,3,4] Z (by decide)) ?_))))))))))))))))))))))))))))))))))))))))
 rintro ⟨i,g1,c1,u1,xs,g2,c2,u2,ys⟩ ⟨⟨hcg1,hlg1,htg1⟩,⟨hcg2,hlg2,htg2⟩,hPt⟩
 dsimp only
 have hlx:=hPt.lx
 have hly:=hPt.ly
 have hile:=hPt.le;refine zD (zA (zB 1 Z (zF (zC [3,4,9,10,11,36,37,38,39] [_,_,_,_,_,_,_,_,_] Z (zD (qB (b:=decide ((i:Int)<((movesL s).length:Int))) Z (fun h39=>?_) (fun h39=>?_)))))))
 ·
  replace h39:=zI h39
  have hil:i<(movesL s).length:=by omega
  obtain ⟨hp1,hp2,hp3,hp4,hp5⟩:=move_parts (hml4 ((movesL s).getD i []) (by rw [getD_at hil];exact List.getElem_mem _))
  have hnr:((((movesL s).length:Int) - (i:Int)) - 1).toNat+i+1=(movesL s).length:=by omega
  have hby:=UInt8.toNat_lt (((movesL s).getD i []).getD 1 0);refine zV (zC [3,4,9,10,11,36,37,38] [_,_,_,_,_,_,_,_] Z (zD (qF (zD (zA (zB 1 Z (zE (v:=pf_ p35 i) Z (qC (by simp) (qH Z qK qT Z Z (by omega) (by omega))) (zE (v:=str ((movesL s).getD (i) [])) Z (yR 2 Z yK Z Z (cur_at (by simpa using htp35) (strs_at (c:=movesL s) (off:=i) (by first | (simp;done) | (simp;omega) | omega)))) (zB 2 Z (zF (zC [3,4,9,10,11,12,13,36,37,38] [_,_,_,_,_,_,_,_,_,_] Z (zD (zA (zB 1 Z (zE (v:=.int .u8 (((((movesL s).getD i []).getD 1 0).toNat:Int))) Z (qC (v':=.int .u8 ((((movesL s).getD i []).getD 1 0).toNat:Int)) Z (qI (i:=(1:Int)) Z zO Z Z (by decide) (by omega))) (zE (v:=.int .u8 ((((((movesL s).getD i []).getD 1 0).toNat:Int)) - (48:Int))) Z (qC (by rw [IntWalk.u8_in _ (by omega)]) (OpQ.subU8 Z Z Z)) (zE (v:=i6_ ((mvE ((movesL s).getD i [])))) Z (qC (by rfl) (xC .i64 Z yI yS Z (IntWalk.i64_in _ (by omega)))) (zB 1 Z (zF (zC [3,4,9,10,11,12,13,14,36,37,38] [_,_,_,_,_,_,_,_,_,_,_] Z (zD (zA (zB 2 Z (zF (zC [3,4,9,10,11,12,13,14,36,37,38] [_,_,_,_,_,_,_,_,_,_,_] Z (zD (zD (zA (zB 1 Z (zE (v:=.int .u8 (((((movesL s).getD i []).getD 0 0).toNat:Int))) Z (qC (v':=.int .u8 ((((movesL s).getD i []).getD 0 0).toNat:Int)) Z (qI (i:=(0:Int)) Z zO Z Z (by decide) (by omega))) (zB 1 Z (zF (zC [3,4,9,10,11,12,14,36,37,38,49] [_,_,_,_,_,_,_,_,_,_,_] Z (qB (b:=decide ((((((movesL s).getD i []).getD 0 0).toNat:Int))=(97:Int))) Z (fun h49=>?_) (fun h49=>?_)))))))))))))))))))))))))))))))))))
  ·
   replace h49:=zI h49
   have h58:=h49
   have hx:a.El (mvE ((movesL s).getD i [])):=⟨by unfold mvE;omega,by unfold mvE;have:=hp4 h58;omega⟩;refine zD (zA (zE Z (zK (cs:=#[i6_ a.n,str a.set,str a.rel]) 4 Z zQ Z Z zN) (zB 1 Z (zE Z (zK (cs:=#[i6_ b.n,str b.set,str b.rel]) 3 Z zQ Z Z zN) (zB 2 Z (zE Z (yZ Z qK Z) (zB 1 Z (zE Z (xH Z Z Z (by omega) (by omega)) (zB 1 Z (zE (v:=.tuple #[i6_ ((((bestO ((((movesL s).length:Int) - (i:Int)) - 1).toNat a xs b ys ((mvE ((movesL s).getD i [])))).getD 0:Nat):Int)),bo_ ((bestO ((((movesL s).length:Int) - (i:Int)) - 1).toNat a xs b ys ((mvE ((movesL s).getD i [])))).isSome)]) Z (zT Z Tryd.call44 Z zL (fun w1 hw1=>playReply_ok a b xs ys (sl_ g1 xs.length c1) (sl_ g2 ys.length c2) w1 ha hb (qN hw1 (i:=0) Z htg1 (by simp) hlg1) (qN hw1 (i:=1) Z htg2 (by simp) hlg2) hPt.ex hPt.ey (by first | (simp;done) | (simp;omega) | omega) (by first | (simp;done) | (simp;omega) | omega) (((movesL s).length:Int) - (i:Int)) (by omega) (by omega) ((mvE ((movesL s).getD i []))) hx)) (zB 1 Z (zE (v:=i6_ ((((bestO ((((movesL s).length:Int) - (i:Int)) - 1).toNat a xs b ys ((mvE ((movesL s).getD i [])))).getD 0:Nat):Int))) Z (qJ Z Z Z) (zE (v:=bo_ ((bestO ((((movesL s).length:Int) - (i:Int)) - 1).toNat a xs b ys ((mvE ((movesL s).getD i [])))).isSome)) Z (qJ Z Z Z) (zB 2 Z (zF (zC [3,4,9,10,11,14,15,16,36,37,38] [_,_,_,_,_,_,_,_,_,_,_] Z (zD (zW (qD 2 Z (yM (xs:=[.tmp 64]) (vs:=[i6_ ((mvE ((movesL s).getD i [])))]) qE Z Z Z Z Z Z (by decide) Z fun p65 hp65=>(qW (xs:=xs) (ys:=[(mvE ((movesL s).getD i []))]) qE 1 Z Z Z Z Z Z Z hcg1 hlg1 htg1 (fun w1 hw1=>(qN hw1 (i:=0) Z (n:=1) (cap:=1) (vs:=ints [(mvE ((movesL s).getD i []))]) Z Z (by decide))) ((xs++([(mvE ((movesL s).getD i []))])).length) (by first | (simp;done) | (simp;omega)) (by first | (simp;done) | (simp;omega) | omega) fun p66 cap66 cur66 hp66 hcp66 hlp66 htp66=>?_)))))))))))))))))))))
   show Ll _ _ (Own _ _ [_,_,_,_,_,_]) _ _ ((66,sl_ p66 (((xs++([(mvE ((movesL s).getD i []))])).length)) cap66)::_) _ _ _;refine qD 1 Z (zS (zC [3,4,9,10,11,15,16,36,37,38] [_,_,_,_,_,_,_,_,_,_] Z (zD (zA (zB 1 Z (zF (zC [3,4,9,10,11,15,16,36,37,38,67] [_,_,_,_,_,_,_,_,_,_,_] Z (qB (b:=(bestO ((((movesL s).length:Int) - (i:Int)) - 1).toNat a xs b ys ((mvE ((movesL s).getD i [])))).isSome) Z (fun h67=>?_) (fun h67=>?_)))))))))
   ·
    obtain ⟨y,hbo⟩:=Option.isSome_iff_exists.1 h67
    have hPn:=hPt.ma hil hnr hb h58 hx hbo
    have hyI:(((bestO ((((movesL s).length:Int) - (i:Int)) - 1).toNat a xs b ys ((mvE ((movesL s).getD i [])))).getD 0:Nat):Int)=(y:Int):=by rw [hbo];rfl
    rw [← hyI] at hPn;refine zW (qD 2 Z (yM (xs:=[.tmp 69]) (vs:=[i6_ ((((bestO ((((movesL s).length:Int) - (i:Int)) - 1).toNat a xs b ys ((mvE ((movesL s).getD i [])))).getD 0:Nat):Int))]) qE Z Z Z Z Z Z (by decide) Z fun p70 hp70=>(qW (xs:=ys) (ys:=[(((bestO ((((movesL s).length:Int) - (i:Int)) - 1).toNat a xs b ys ((mvE ((movesL s).getD i [])))).getD 0:Nat):Int)]) qE 3 Z Z Z Z Z Z Z hcg2 hlg2 htg2 (fun w1 hw1=>(qN hw1 (i:=0) Z (n:=1) (cap:=1) (vs:=ints [(((bestO ((((movesL s).length:Int) - (i:Int)) - 1).toNat a xs b ys ((mvE ((movesL s).getD i [])))).getD 0:Nat):Int)]) Z Z (by decide))) ((ys++([(((bestO ((((movesL s).length:Int) - (i:Int)) - 1).toNat a xs b ys ((mvE ((movesL s).getD i [])))).getD 0:Nat):Int)])).length) (by first | (simp;done) | (simp;omega)) (by first | (simp;done) | (simp;omega) | omega) fun p71 cap71 cur71 hp71 hcp71 hlp71 htp71=>?_)))
    show Ll _ _ (Own _ _ [_,_,_,_,_,_,_]) _ _ ((71,sl_ p71 (((ys++([(((bestO ((((movesL s).length:Int) - (i:Int)) - 1).toNat a xs b ys ((mvE ((movesL s).getD i [])))).getD 0:Nat):Int)])).length)) cap71)::_) _ _ _;refine qD 1 Z (zS (zC [3,4,9,10,11,16,36,37,38] [_,_,_,_,_,_,_,_,_] Z (zD (zA (zE (v:=bo_ true) Z (qC (by rw [h67]) (OpQ.move Z Z)) (zB 1 Z (zF (zC [3,4,9,10,11,36,37,38,95] [_,_,_,_,_,_,_,_,_] Z (Wk.condF Z (zV (zC [3,4,9,10,11,36,37,38] [_,_,_,_,_,_,_,_] Z (zA (zE Z (qQ Z Z Z (by omega) (by omega)) (zB 1 Z (zF (qU ((i+1,p66,cap66,cur66,xs++([(mvE ((movesL s).getD i []))]),p71,cap71,cur71,ys++([(((bestO ((((movesL s).length:Int) - (i:Int)) - 1).toNat a xs b ys ((mvE ((movesL s).getD i [])))).getD 0:Nat):Int)]))) ⟨⟨by simpa using hcp66,hlp66,by simpa using (by simpa using htp66)⟩,⟨by simpa using hcp71,hlp71,by simpa using (by simpa using htp71)⟩,hPn⟩ (by omega) (Sub.sel [3,4,9,10,11,36,37,38] Z) (fun _ h=>h.pick [2,3,4,5,6] Z (by decide))))))))))))))))))
   have hbn:=Option.not_isSome_iff_eq_none.1 (by rw [h67];decide);refine zV (zC [3,4,9,10,11,16,36,37,38] [_,_,_,_,_,_,_,_,_] Z (zD (zA (zE (v:=bo_ false) Z (qC (by rw [h67]) (OpQ.move Z Z)) (zB 1 Z (zF (zC [3,4,9,10,11,36,37,38,95] [_,_,_,_,_,_,_,_,_] Z (xB Z (zD (zA (zB 4 Z (zE (v:=str ([102,105,114,115,116])) Z (yG Z Z) (zF (zC [6,7,8] [_,_,_] Z (zZ (Kt.end3 Z Z Z Z fun w' hw=>?_))))))))))))))))
   have hpo:=hPt.enda hvm hil hnr h58 hbn
   exact ⟨_,rfl,hw.below,by rw [hpo];exact hw.newRowsZ (i:=1) (j:=2) rfl rfl (by decide) hcp66 hlp66 (by simpa using (by simpa using htp66)) hcg2 hlg2 (by simpa using htg2)⟩
  replace h49:=zH h49
  have h58:=h49
  have hx:b.El (mvE ((movesL s).getD i [])):=⟨by unfold mvE;omega,by unfold mvE;have:=hp5 (by omega);omega⟩;refine zD (zA (zE Z (zK (cs:=#[i6_ b.n,str b.set,str b.rel]) 3 Z zQ Z Z zN) (zB 1 Z (zE Z (zK (cs:=#[i6_ a.n,str a.set,str a.rel]) 4 Z zQ Z Z zN) (zB 2 Z (zE Z (yZ Z qK Z) (zB 1 Z (zE Z (xH Z Z Z (by omega) (by omega)) (zB 1 Z (zE (v:=.tuple #[i6_ ((((bestO ((((movesL s).length:Int) - (i:Int)) - 1).toNat b ys a xs ((mvE ((movesL s).getD i [])))).getD 0:Nat):Int)),bo_ ((bestO ((((movesL s).length:Int) - (i:Int)) - 1).toNat b ys a xs ((mvE ((movesL s).getD i [])))).isSome)]) Z (zT Z Tryd.call44 Z zL (fun w1 hw1=>playReply_ok b a ys xs (sl_ g2 ys.length c2) (sl_ g1 xs.length c1) w1 hb ha (qN hw1 (i:=1) Z htg2 (by simp) hlg2) (qN hw1 (i:=0) Z htg1 (by simp) hlg1) hPt.ey hPt.ex (by first | (simp;done) | (simp;omega) | omega) (by first | (simp;done) | (simp;omega) | omega) (((movesL s).length:Int) - (i:Int)) (by omega) (by omega) ((mvE ((movesL s).getD i []))) hx)) (zB 1 Z (zE (v:=i6_ ((((bestO ((((movesL s).length:Int) - (i:Int)) - 1).toNat b ys a xs ((mvE ((movesL s).getD i [])))).getD 0:Nat):Int))) Z (qJ Z Z Z) (zE (v:=bo_ ((bestO ((((movesL s).length:Int) - (i:Int)) - 1).toNat b ys a xs ((mvE ((movesL s).getD i [])))).isSome)) Z (qJ Z Z Z) (zB 2 Z (zF (zC [3,4,9,10,11,14,15,16,36,37,38] [_,_,_,_,_,_,_,_,_,_,_] Z (zD (zW (qD 2 Z (yM (xs:=[.tmp 86]) (vs:=[i6_ ((mvE ((movesL s).getD i [])))]) qE Z Z Z Z Z Z (by decide) Z fun p87 hp87=>(qW (xs:=ys) (ys:=[(mvE ((movesL s).getD i []))]) qE 2 Z Z Z Z Z Z Z hcg2 hlg2 htg2 (fun w1 hw1=>(qN hw1 (i:=0) Z (n:=1) (cap:=1) (vs:=ints [(mvE ((movesL s).getD i []))]) Z Z (by decide))) ((ys++([(mvE ((movesL s).getD i []))])).length) (by first | (simp;done) | (simp;omega)) (by first | (simp;done) | (simp;omega) | omega) fun p88 cap88 cur88 hp88 hcp88 hlp88 htp88=>?_)))))))))))))))))))))
  show Ll _ _ (Own _ _ [_,_,_,_,_,_]) _ _ ((88,sl_ p88 (((ys++([(mvE ((movesL s).getD i []))])).length)) cap88)::_) _ _ _;refine qD 1 Z (zS (zC [3,4,9,10,11,15,16,36,37,38] [_,_,_,_,_,_,_,_,_,_] Z (zD (zA (zB 1 Z (zF (zC [3,4,9,10,11,15,16,36,37,38,89] [_,_,_,_,_,_,_,_,_,_,_] Z (qB (b:=(bestO ((((movesL s).length:Int) - (i:Int)) - 1).toNat b ys a xs ((mvE ((movesL s).getD i [])))).isSome) Z (fun h89=>?_) (fun h89=>?_)))))))))
  ·
   obtain ⟨y,hbo⟩:=Option.isSome_iff_exists.1 h89
   have hPn:=hPt.mb hil hnr ha h58 hx hbo
   have hyI:(((bestO ((((movesL s).length:Int) - (i:Int)) - 1).toNat b ys a xs ((mvE ((movesL s).getD i [])))).getD 0:Nat):Int)=(y:Int):=by rw [hbo];rfl
   rw [← hyI] at hPn;refine zW (qD 2 Z (yM (xs:=[.tmp 91]) (vs:=[i6_ ((((bestO ((((movesL s).length:Int) - (i:Int)) - 1).toNat b ys a xs ((mvE ((movesL s).getD i [])))).getD 0:Nat):Int))]) qE Z Z Z Z Z Z (by decide) Z fun p92 hp92=>(qW (xs:=xs) (ys:=[(((bestO ((((movesL s).length:Int) - (i:Int)) - 1).toNat b ys a xs ((mvE ((movesL s).getD i [])))).getD 0:Nat):Int)]) qE 2 Z Z Z Z Z Z Z hcg1 hlg1 htg1 (fun w1 hw1=>(qN hw1 (i:=0) Z (n:=1) (cap:=1) (vs:=ints [(((bestO ((((movesL s).length:Int) - (i:Int)) - 1).toNat b ys a xs ((mvE ((movesL s).getD i [])))).getD 0:Nat):Int)]) Z Z (by decide))) ((xs++([(((bestO ((((movesL s).length:Int) - (i:Int)) - 1).toNat b ys a xs ((mvE ((movesL s).getD i [])))).getD 0:Nat):Int)])).length) (by first | (simp;done) | (simp;omega)) (by first | (simp;done) | (simp;omega) | omega) fun p93 cap93 cur93 hp93 hcp93 hlp93 htp93=>?_)))
   show Ll _ _ (Own _ _ [_,_,_,_,_,_,_]) _ _ ((93,sl_ p93 (((xs++([(((bestO ((((movesL s).length:Int) - (i:Int)) - 1).toNat b ys a xs ((mvE ((movesL s).getD i [])))).getD 0:Nat):Int)])).length)) cap93)::_) _ _ _;refine qD 1 Z (zS (zC [3,4,9,10,11,16,36,37,38] [_,_,_,_,_,_,_,_,_] Z (zD (zA (zE (v:=bo_ true) Z (qC (by rw [h89]) (OpQ.move Z Z)) (zB 1 Z (zF (zC [3,4,9,10,11,36,37,38,95] [_,_,_,_,_,_,_,_,_] Z (Wk.condF Z (zV (zC [3,4,9,10,11,36,37,38] [_,_,_,_,_,_,_,_] Z (zA (zE Z (qQ Z Z Z (by omega) (by omega)) (zB 1 Z (zF (qU ((i+1,p93,cap93,cur93,xs++([(((bestO ((((movesL s).length:Int) - (i:Int)) - 1).toNat b ys a xs ((mvE ((movesL s).getD i [])))).getD 0:Nat):Int)]),p88,cap88,cur88,ys++([(mvE ((movesL s).getD i []))]))) ⟨⟨by simpa using hcp93,hlp93,by simpa using (by simpa using htp93)⟩,⟨by simpa using hcp88,hlp88,by simpa using (by simpa using htp88)⟩,hPn⟩ (by omega) (Sub.sel [3,4,9,10,11,36,37,38] Z) (fun _ h=>h.pick [2,3,4,5,6] Z (by decide))))))))))))))))))
  have hbn:=Option.not_isSome_iff_eq_none.1 (by rw [h89];decide);refine zV (zC [3,4,9,10,11,16,36,37,38] [_,_,_,_,_,_,_,_,_] Z (zD (zA (zE (v:=bo_ false) Z (qC (by rw [h89]) (OpQ.move Z Z)) (zB 1 Z (zF (zC [3,4,9,10,11,36,37,38,95] [_,_,_,_,_,_,_,_,_] Z (xB Z (zD (zA (zB 4 Z (zE (v:=str ([102,105,114,115,116])) Z (yG Z Z) (zF (zC [6,7,8] [_,_,_] Z (zZ (Kt.end3 Z Z Z Z fun w' hw=>?_))))))))))))))))
  have hpo:=hPt.endb hvm hil hnr h58 hbn
  exact ⟨_,rfl,hw.below,by rw [hpo];exact hw.newRowsZ (i:=1) (j:=2) rfl rfl (by decide) hcg1 hlg1 (by simpa using htg1) hcp88 hlp88 (by simpa using (by simpa using htp88))⟩
 replace h39:=zH h39;refine yO Z (zC [9,10] [_,_] Z (zD (zA (zB 4 Z (zE (v:=str ([115,101,99,111,110,100])) Z (yG Z Z) (zF (zC [6,7,8] [_,_,_] Z (zZ (Kt.end3 Z Z Z Z fun w' hw=>?_)))))))))
 have hpo:=hPt.fin hvm (by omega)
 exact ⟨_,rfl,hw.below,by rw [hpo];exact hw.newRowsZ (i:=0) (j:=1) rfl rfl (by decide) hcg1 hlg1 (by simpa using htg1) hcg2 hlg2 (by simpa using htg2)⟩
set_option maxHeartbeats 400000 in
theorem iPlay_no (a b:St) (s:List UInt8) (w:World) (hsa:a.Small) (hsb:b.Small) (hs:s.length≤1048576) (hG:GW w.heap.size w) (hvm:(validB a&&validB b&&movesB a.n b.n s)=false) :
    Calls Tryd.prog 16 [vS a,vS b,str s].toArray w fun en w'=>en=.returned (.tuple #[.slice none 0 0,.slice none 0 0,str [110,111]])∧Below w.heap.size w w':=by
 refine fnStart (n:=101) (e:=[(0,vS a),(1,vS b),(2,str s)]) Tryd.func16 Z Z Z Z Ends.both (zD (zW (yD (v:=vS a) Z Z Z Z Z fun p3 hp3=>?_)))
 show Ll _ _ (Own _ _ [_]) _ _ ((3,pt_ p3)::_) _ _ _;refine yD (v:=vS b) Z Z Z Z Z fun p4 hp4=>?_
 show Ll _ _ (Own _ _ [_,_]) _ _ ((4,pt_ p4)::_) _ _ _;refine qD 2 Z (qL (v:=str ([])) Z (yG Z Z) (zS (zC [2,3,4] [_,_,_] Z (zD (zD (zA (zE Z (zK (cs:=#[i6_ a.n,str a.set,str a.rel]) 1 Z zQ Z Z zN) (zE (v:=bo_ (validB a)) Z (zT Z Tryd.call32 Z zL (fun w1 hw1=>isStructure_ok a w1 hsa)) (zB 2 Z (yU fun b20 hg20=>?_))))))))))
 cases b20
 ·
  replace hg20:=not_false hg20;refine zE Z (zK (cs:=#[i6_ b.n,str b.set,str b.rel]) 0 Z zQ Z Z zN) (zE (v:=bo_ (validB b)) Z (zT Z Tryd.call32 Z zL (fun w1 hw1=>isStructure_ok b w1 hsb)) (zB 3 Z (yU fun b25 hg25=>?_)))
  cases b25
  ·
   replace hg25:=not_false hg25
   have hVa:validB a=true:=by simp_all
   have hVb:validB b=true:=by simp_all
   have ha:=validB_fine hVa
   have hb:=validB_fine hVb
   have ha1:=ha.lo
   have ha8:=ha.hi
   have hb1:=hb.lo
   have hb8:=hb.hi;refine zE Z (zK (cs:=#[i6_ a.n,str a.set,str a.rel]) 1 Z zQ Z Z zN) (zE Z (zK (cs:=#[i6_ b.n,str b.set,str b.rel]) 0 Z zQ Z Z zN) (zB 1 Z (zE (v:=bo_ (movesB a.n b.n s)) Z (zT Z Tryd.call42 Z zL (fun w1 hw1=>iMoves_ok a b s w1 ha hb (by omega) (gw_max hG hw1) (gw_lt hG hw1))) (zB 2 Z (zF (zC [2,3,4,31] [_,_,_,_] Z (qB (b:=!(movesB a.n b.n s)) Z (fun h31=>?_) (fun h31=>?_))))))))
   ·
    replace h31:=not_true h31;refine zD (zA (zB 2 Z (zE (v:=str ([110,111])) Z (yG Z Z) (zF (zC [6,7,8] [_,_,_] Z (zZ (Kt.end3 Z Z Z Z fun w' hw=>?_)))))))
    exact ⟨rfl,hw.below⟩
   replace h31:=not_false h31
   exact absurd hvm (by simp_all)
  replace hg25:=not_true hg25;refine zG Z (zG Z (zG Z (zG Z (zG Z (zB 1 Z (zF (zC [2,3,4,31] [_,_,_,_] Z (xB Z (zD (zA (zB 2 Z (zE (v:=str ([110,111])) Z (yG Z Z) (zF (zC [6,7,8] [_,_,_] Z (zZ (Kt.end3 Z Z Z Z fun w' hw=>?_))))))))))))))))
  exact ⟨rfl,hw.below⟩
 replace hg20:=not_true hg20;refine zG Z (zG Z (zG Z (zB 2 Z (zG Z (zG Z (zG Z (zG Z (zG Z (zB 1 Z (zF (zC [2,3,4,31] [_,_,_,_] Z (xB Z (zD (zA (zB 2 Z (zE (v:=str ([110,111])) Z (yG Z Z) (zF (zC [6,7,8] [_,_,_] Z (zZ (Kt.end3 Z Z Z Z fun w' hw=>?_))))))))))))))))))))
 exact ⟨rfl,hw.below⟩
theorem sPlay_none (a b:St) (s:List UInt8) (w:World) (hsa:a.Small) (hsb:b.Small) (hs:s.length≤1048576) (loa : -9223372036854775808≤a.n) (hia:a.n≤9223372036854775807) (lob : -9223372036854775808≤b.n) (hib:b.n≤9223372036854775807) (hvm:(validB a&&validB b&&movesB a.n b.n s)=false):Calls Tryd.prog 14 #[vS a,vS b,str s] w fun en w'=>∃ v,en=.returned v∧Below w.heap.size w w'∧NewRowsZ w.heap.size 3 3 w' v (str [110,111]) 0 (ints []) 0 (ints []):=by
  have h:=sPlay_ok a b s w hsa hsb hs loa hia lob hib
  rw [play_no hvm] at h
  exact h
end Go.Proofs.YteccfipfimbdgaaDoor
namespace Go.Proofs.YteccfipfimbdgaaDoor
open Go.RowKit Go.Wk
set_option linter.unusedSimpArgs false
set_option maxHeartbeats 400000 in
theorem sz_ok (a:St) (left:Int) (w:World) (hl0:0≤left) (hl:left≤1048576) (h1:a.set.length≤9223372036854775807) (h2:a.rel.length≤9223372036854775807) :
    Calls Tryd.prog 13 [vS a,i6_ left].toArray w fun en w'=>en=.returned (.int .i64 (szB a left))∧Below w.heap.size w w':=by
 refine fnStart (n:=20) (e:=[(0,vS a),(1,i6_ left)]) Tryd.func13 Z Z Z Z Ends.both (zD (zW (yD (v:=vS a) Z Z Z Z Z fun p2 hp2=>?_)))
 show Ll _ _ (Own _ _ [_]) _ _ ((2,pt_ p2)::_) _ _ _;refine qD 1 Z (zS (zC [1,2] [_,_] Z (zD (zA (zB 1 Z (zE Z (zR Z xE Z qT Z Z) (zE Z (zX 0 Z yK Z Z Z) (zE (v:=i6_ (a.set.length:Int)) Z (yX Z zO Z) (zE Z (xH Z Z Z (by omega) (by omega)) (zB 1 Z (zF (zC [1,2] [_,_] Z (zD (zD (zA (zB 2 Z (zF (zC [1,2,11] [_,_,_] Z (xJ Z (fun h11=>?_) (fun h11=>?_))))))))))))))))))))
 ·
  refine zD (zA (zB 1 Z (zF (zC [4] [_] Z (zZ (qA Z Z fun w' hw=>?_))))))
  exact ⟨ret_i (by unfold szB;simp [*]),hw.below⟩
 refine zV (zC [1,2] [_,_] Z (zD (zA (zB 1 Z (zE Z (zR Z xE Z qT Z Z) (zE Z (zX 0 Z yK Z Z Z) (zE (v:=i6_ (a.rel.length:Int)) Z (yX Z zO Z) (zE Z (xH Z Z Z (by omega) (by omega)) (zB 1 Z (zF (zC [1] [_] Z (zD (zD (zA (zB 2 Z (zF (zC [1,18] [_,_] Z (xJ Z (fun h18=>?_) (fun h18=>?_)))))))))))))))))))
 ·
  refine zD (zA (zB 1 Z (zF (zC [4] [_] Z (zZ (qA Z Z fun w' hw=>?_))))))
  exact ⟨ret_i (by unfold szB;simp [*]),hw.below⟩
 refine zV (zC [1] [_] Z (zD (zA (zB 2 Z (zF (zC [4] [_] Z (zZ (qA Z Z fun w' hw=>?_))))))))
 exact ⟨ret_i (by unfold szB;simp [*]),hw.below⟩
set_option maxHeartbeats 400000 in
theorem toSt_ok (a:St) (w:World) :
    Calls Tryd.prog 15 [vS a].toArray w fun en w'=>en=.returned (vS a)∧Below w.heap.size w w':=by
 refine fnStart (n:=14) (e:=[(0,vS a)]) Tryd.func15 Z Z Z Z Ends.both (zD (zW (yD (v:=vS a) Z Z Z Z Z fun p1 hp1=>?_)))
 show Ll _ _ (Own _ _ [_]) _ _ ((1,pt_ p1)::_) _ _ _;refine Ll.alloc Z Z Z Z Tryd.zeroValue24 fun p2 hp2=>?_
 show Ll _ _ (Own _ _ [bk_ p2 #[i6_ 0,str ([]),str ([])] 24,_]) _ _ ((2,pt_ p2)::_) _ _ _;refine zS (zC [1,2] [_,_] Z (zD (zW (Ll.alloc Z Z Z Z Tryd.zeroValue24 fun p3 hp3=>?_))))
 show Ll _ _ (Own _ _ [bk_ p3 #[i6_ 0,str ([]),str ([])] 24,_,_]) _ _ ((3,pt_ p3)::_) _ _ _;refine zS (zC [1,2,3] [_,_,_] Z (zD (zW (qL Z (zR Z xE Z zM Z Z) (qL Z (zX 2 Z zU Z Z Z) (qL Z (zR Z zP Z zM Z Z) (Ll.store1 (v:=i6_ a.n) (hs':=[bk_ p3 #[i6_ a.n,str ([]),str ([])] 24,_,_]) 0 Z Z Z Z Z Z zM Z (by simp) Z (zS (zC [1,2,3] [_,_,_] Z (zD (zW (qL Z (zR Z xE Z qT Z Z) (qL Z (zX 2 Z yK Z Z Z) (qL Z (zR Z zP Z qT Z Z) (Ll.store1 (v:=str a.set) (hs':=[bk_ p3 #[i6_ a.n,str a.set,str ([])] 24,_,_]) 0 Z Z Z Z Z Z qT Z (by simp) Z (zS (zC [1,2,3] [_,_,_] Z (zD (zW (qL Z (zR Z xE Z qT Z Z) (qL Z (zX 2 Z yK Z Z Z) (qL Z (zR Z zP Z qT Z Z) (Ll.store1 (v:=str a.rel) (hs':=[bk_ p3 #[i6_ a.n,str a.set,str a.rel] 24,_,_]) 0 Z Z Z Z Z Z qT Z (by simp) Z (zS (zC [2,3] [_,_] Z (zD (zW (qL Z (zK (cs:=#[i6_ a.n,str a.set,str a.rel]) 0 Z zQ Z Z zN) (Ll.storeBox (cs':=#[i6_ a.n,str a.set,str a.rel]) (hs':=[_,bk_ p2 #[i6_ a.n,str a.set,str a.rel] 24,_]) 1 Z Z Z Z Z (by kernel_rfl:_=some Tryd.t24) Z Z Z Z Z (zS (zC [2] [_] Z (zZ (Kt.endBox (cs:=#[i6_ a.n,str a.set,str a.rel]) 1 Z Z Z zQ zN fun w' hw=>?_)))))))))))))))))))))))))))))))))
 exact ⟨rfl,hw.below⟩
set_option maxHeartbeats 400000 in
theorem eqInt_ok (va vb:Value) (xs ys:List Int) (w:World) (hva:Ints w va xs) (hvb:Ints w vb ys) (hs:xs.length≤140737488355328) :
    Calls Tryd.prog 17 [va,vb].toArray w fun en w'=>en=.returned (.bool (xs==ys))∧Below w.heap.size w w':=by
 refine fnStart (n:=26) (e:=[(0,va),(1,vb)]) Tryd.func17 Z Z Z Z Ends.both (zD (zA (zB 1 Z (zF (zC [0,1] [_,_] Z (zD (zD (zA (zB 1 Z (zE (v:=i6_ (xs.length:Int)) Z (OpQ.lenRow Z zJ Z (ints_length _) (fun w1 hw1=>Row.own hva hw1)) (zB 1 Z (zE (v:=i6_ (ys.length:Int)) Z (OpQ.lenRow Z zJ Z (ints_length _) (fun w1 hw1=>Row.own hvb hw1)) (zB 1 Z (zF (zC [0,1,10] [_,_,_] Z (qB (b:=!(decide ((xs.length:Int)=(ys.length:Int)))) Z (fun h10=>?_) (fun h10=>?_)))))))))))))))))
 ·
  replace h10:=not_true h10
  replace h10:=zH h10;refine zD (zA (zB 1 Z (zF (zC [4] [_] Z (zZ (qA Z Z fun w' hw=>?_))))))
  have hf:(xs==ys)=false:=by
   rw [beq_eq_false_iff_ne];rintro rfl;simp_all
  exact ⟨ret_b hf.symm,hw.below⟩
 replace h10:=not_false h10
 replace h10:=zI h10
 have hlen:xs.length=ys.length:=by omega
 refine zV (zC [0,1] [_,_] Z (zD (zD (zA (zB 1 Z (zF (zC [0,1,5] [_,_,_] Z (qF (yQ (σ:=Nat) (fun k=>k≤xs.length∧xs.take k=ys.take k) (fun k=>[(0,va),(1,vb),(5,i6_ (k:Int))]) (fun k=>Own w.heap.size w []) (fun k=>xs.length - k) (0) ⟨by omega,rfl⟩ (Sub.sel [0,1,5] Z) (fun _ h=>h) ?_)))))))))
 rintro k ⟨hk,hall⟩;refine zD (zD (zA (zB 2 Z (zE (v:=i6_ (xs.length:Int)) Z (OpQ.lenRow Z zJ Z (ints_length _) (fun w1 hw1=>Row.own hva hw1)) (zB 1 Z (zF (zC [0,1,5,14] [_,_,_,_] Z (xJ Z (fun h14=>?_) (fun h14=>?_)))))))))
 ·
  refine zV (zC [0,1,5] [_,_,_] Z (zD (qF (zD (Wk.regionD yB (fun _ h=>h.drawn) (by kernel_rfl) (zB 2 Z (zE (v:=.pointer (some (sAt va (k:Int)))) Z (qX Z zJ zM Z Z (by omega) (by rw [ints_length];omega) (fun w1 hw1=>Row.own hva hw1)) (zE (v:=i6_ (xs.getD ((k:Int).toNat) 0)) Z (qY Z zU Z (fun w1 hw1=>Ints.cell (Row.own hva hw1) (by omega) (by omega))) (zB 2 Z (zE (v:=.pointer (some (sAt vb (k:Int)))) Z (qX Z zJ zM Z Z (by omega) (by rw [ints_length];omega) (fun w1 hw1=>Row.own hvb hw1)) (zE (v:=i6_ (ys.getD ((k:Int).toNat) 0)) Z (qY Z zU Z (fun w1 hw1=>Ints.cell (Row.own hvb hw1) (by omega) (by omega))) (zB 1 Z (zF (zC [0,1,5,25] [_,_,_,_] Z (qB (b:=!(decide ((xs.getD ((k:Int).toNat) 0)=(ys.getD ((k:Int).toNat) 0)))) Z (fun h25=>?_) (fun h25=>?_))))))))))))))))
  ·
   replace h25:=not_true h25
   replace h25:=zH h25;refine zD (zA (zB 1 Z (zF (zC [4] [_] Z (zZ (qA Z Z fun w' hw=>?_))))))
   have hf:(xs==ys)=false:=by
    rw [beq_eq_false_iff_ne];rintro rfl;simp_all
   exact ⟨ret_b hf.symm,hw.below⟩
  replace h25:=not_false h25
  replace h25:=zI h25;refine zV (zC [0,1,5] [_,_,_] Z (zA (zB 1 Z (zE Z (qQ Z Z Z (by omega) (by omega)) (zB 1 Z (zF (qU (k+1) ⟨by omega,eq_take (by omega) (by omega) hall (by simpa using h25)⟩ (by omega) (Sub.sel [0,1,5] Z) (fun _ h=>h))))))))
 refine yO Z (zC [] [] Z (zD (zA (zB 1 Z (zF (zC [4] [_] Z (zZ (qA Z Z fun w' hw=>?_))))))))
 exact ⟨ret_b (by rw [List.take_of_length_le (by omega),List.take_of_length_le (by omega)] at hall;simp [hall]),hw.below⟩
end Go.Proofs.YteccfipfimbdgaaDoor
namespace Go.Proofs.YteccfipfimbdgaaDoor
open Go.RowKit Go.Wk
set_option linter.unusedSimpArgs false
set_option maxHeartbeats 400000 in
theorem heldInt_ok (va:Value) (xs:List Int) (k:Int) (w:World) (hva:Ints w va xs) (hs:xs.length≤140737488355328) (hk0:0≤k) (hk1:k≤1048576) :
    Calls Tryd.prog 19 [va,i6_ k].toArray w fun en w'=>en=.returned (.int .i64 (heldV xs k))∧Below w.heap.size w w':=by
 refine fnStart (n:=21) (e:=[(0,va),(1,i6_ k)]) Tryd.func19 Z Z Z Z Ends.both (zD (zA (zB 1 Z (zF (zC [0,1] [_,_] Z (zD (zD (zA (zB 1 Z (zF (zC [0,1,5] [_,_,_] Z (qF (yQ (σ:=Nat) (fun i=>i≤xs.length∧heldV xs k=heldV (xs.drop i) (k+i)) (fun i=>[(0,va),(1,i6_ (k+(i:Int))),(5,i6_ (i:Int))]) (fun i=>Own w.heap.size w []) (fun i=>xs.length - i) (0) ⟨by omega,by simp⟩ (Sub.cons Z (Sub.cons (by simp [List.lookup]) (Sub.sel [5] Z))) (fun _ h=>h) ?_)))))))))))))
 rintro i ⟨hi,hall⟩;refine zD (zD (zA (zB 2 Z (zE (v:=i6_ (xs.length:Int)) Z (OpQ.lenRow Z zJ Z (ints_length _) (fun w1 hw1=>Row.own hva hw1)) (zB 1 Z (zF (zC [0,1,5,9] [_,_,_,_] Z (xJ Z (fun h9=>?_) (fun h9=>?_)))))))))
 ·
  refine zV (zC [0,1,5] [_,_,_] Z (zD (qF (zD (zD (zA (zB 2 Z (zE (v:=.pointer (some (sAt va (i:Int)))) Z (qX Z zJ zM Z Z (by omega) (by rw [ints_length];omega) (fun w1 hw1=>Row.own hva hw1)) (zE (v:=i6_ (xs.getD ((i:Int).toNat) 0)) Z (qY Z zU Z (fun w1 hw1=>Ints.cell (Row.own hva hw1) (by omega) (by omega))) (zB 2 Z (zF (zC [0,1,5,17] [_,_,_,_] Z (qB (b:=!(decide ((xs.getD ((i:Int).toNat) 0)=(k+(i:Int))))) Z (fun h17=>?_) (fun h17=>?_))))))))))))))
  ·
   replace h17:=not_true h17
   replace h17:=zH h17;refine zD (zA (zB 1 Z (zF (zC [4] [_] Z (zZ (qA Z Z fun w' hw=>?_))))))
   exact ⟨ret_i (by rw [hall,heldV_drop (by omega),if_neg (by simpa using h17)]),hw.below⟩
  replace h17:=not_false h17
  replace h17:=zI h17;refine zV (zC [0,1,5] [_,_,_] Z (zA (zB 1 Z (zE Z (qQ Z Z Z (by omega) (by omega)) (zB 1 Z (zF (zC [0,1,5] [_,_,_] Z (zA (zB 1 Z (zE Z (qQ Z Z Z (by omega) (by omega)) (zB 1 Z (zF (qU (i+1) ⟨by omega,by rw [hall,heldV_drop (by omega),if_pos (by simpa using h17)];congr 1;omega⟩ (by omega) (Sub.cons Z (Sub.cons (by simp [List.lookup];omega) (Sub.sel [5] Z))) (fun _ h=>h))))))))))))))
 refine yO Z (zC [1] [_] Z (zD (zA (zB 2 Z (zF (zC [4] [_] Z (zZ (qA Z Z fun w' hw=>?_))))))))
 exact ⟨ret_i (by rw [hall,List.drop_of_length_le (by omega)];rfl),hw.below⟩
set_option maxHeartbeats 400000 in
theorem markInt_ok2 (g n cap T:Nat) (cur:Array Value) (k:Int) (w:World) (hg:w.heap[g]?=some (.cells cur T (0,0))) (hn:n≤cur.size) (hs:n≤140737488355328) (hk0:0≤k) (hk1:k≤1099511627776) :
    Calls Tryd.prog 18 [sl_ g n cap,i6_ k].toArray w fun en w'=>en=.returned (.int .i64 (k+n))∧w'=w.setRow g (markA cur k n):=by
 refine fnStartC (fun w1=>w1=w.setRow g (markA cur k 0)) (n:=19) (e:=[(0,sl_ g n cap),(1,i6_ k)]) Tryd.func18 Z Z Z Z Ends.both (row_self hg).symm (zD (zA (zB 1 Z (zF (zC [0,1] [_,_] Z (zD (zD (zA (zB 1 Z (zF (zC [0,1,5] [_,_,_] Z (qF (yQ (σ:=Nat) (fun i=>i≤n) (fun i=>[(0,sl_ g n cap),(1,i6_ (k+(i:Int))),(5,i6_ (i:Int))]) (fun i=>(fun w1=>w1=w.setRow g (markA cur k i))) (fun i=>n - i) (0) (by omega) (Sub.cons Z (Sub.cons (by simp [List.lookup]) (Sub.sel [5] Z))) (fun _ h=>h) ?_)))))))))))))
 rintro i hi;refine zD (zD (zA (zB 2 Z (zE Z (yZ Z zJ Z) (zB 1 Z (zF (zC [0,1,5,9] [_,_,_,_] Z (xJ Z (fun h9=>?_) (fun h9=>?_)))))))))
 ·
  refine zV (zC [0,1,5] [_,_,_] Z (zD (qF (zD (zW (qD 3 Z (qL (v:=pf_ g (0+(i:Int).toNat)) Z (qH Z zJ zM Z Z (by omega) (by omega)) (Ll.storeExact (v:=.int .i64 (k+(i:Int))) (g:=g) (off:=i) Z Z Z (by simp [opd,List.lookup]) Z Z zM hg (by first | (simp;done) | (simp;omega) | omega) (zS (zC [0,1,5] [_,_,_] Z (zA (zB 1 Z (zE Z (qQ Z Z Z (by omega) (by omega)) (zB 1 Z (zF (zC [0,1,5] [_,_,_] Z (zA (zB 1 Z (zE Z (qQ Z Z Z (by omega) (by omega)) (zB 1 Z (zF (qU (i+1) (by omega) (by omega) (Sub.cons Z (Sub.cons (by simp [List.lookup];omega) (Sub.sel [5] Z))) (fun _ h=>h)))))))))))))))))))))))
 refine yO Z (zC [1] [_] Z (zD (zA (zB 2 Z (zF (zC [4] [_] Z (zZ (qA Z Z fun w' hw=>?_))))))))
 exact ⟨ret_i (by omega),by obtain rfl:i=n:=(by omega);exact hw⟩
set_option maxHeartbeats 400000 in
theorem markInt0_ok (k:Int) (w:World) :
    Calls Tryd.prog 18 [.slice none 0 0,i6_ k].toArray w fun en w'=>en=.returned (.int .i64 k)∧Below w.heap.size w w':=by
 refine fnStart (n:=19) (e:=[(0,.slice none 0 0),(1,i6_ k)]) Tryd.func18 Z Z Z Z Ends.both (zD (zA (zB 1 Z (zF (zC [0,1] [_,_] Z (zD (zD (zA (zB 1 Z (zF (zC [0,1,5] [_,_,_] Z (qF (yQ (σ:=Unit) (fun u=>True) (fun u=>[(0,.slice none 0 0),(1,i6_ k),(5,i6_ 0)]) (fun u=>Own w.heap.size w []) (fun u=>0) () trivial (Sub.sel [0,1,5] Z) (fun _ h=>h) ?_)))))))))))))
 rintro u _hu;refine zD (zD (zA (zB 2 Z (zE Z (yZ Z zJ Z) (zB 1 Z (zF (zC [0,1,5,9] [_,_,_,_] Z (qB (b:=decide ((0:Int)<(0:Int))) Z (fun h9=>?_) (fun h9=>?_)))))))))
 ·
  replace h9:=zI h9
  exact absurd h9 (by decide)
 replace h9:=zH h9;refine yO Z (zC [1] [_] Z (zD (zA (zB 2 Z (zF (zC [4] [_] Z (zZ (qA Z Z fun w' hw=>?_))))))))
 exact ⟨ret_i (by first | rfl | (simp_all;done) | (simp_all;omega)),hw.below⟩
end Go.Proofs.YteccfipfimbdgaaDoor
