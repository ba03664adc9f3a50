/-
  FnWonRounds: all that its proof names (part 2)
-/
import Derived.Test.YtagbocafnliabaaDoorKFnWonRoundsa
namespace Go.Proofs.YtagbocafnliabaaDoor
open Go.RowKit Go.Wk
set_option linter.unusedSimpArgs false
set_option maxHeartbeats 400000 in
theorem l1In_ok (n lo hi:Int) (w:World) :
    Calls Tryd.prog 39 [i6_ n,i6_ lo,i6_ hi].toArray w fun en w'=>en=.returned (.bool (inB n lo hi))∧Below w.heap.size w w':=by
 refine fnStart (n:=15) (e:=[(0,i6_ n),(1,i6_ lo),(2,i6_ hi)]) Tryd.func39 Z Z Z Z Ends.both (zF (zC (zB 1 Z (zL (zD [0,1,2] [_,_,_] Z (zF (zC (zB 4 Z (yU fun b10 hg10=>?_)))))))))
 cases b10
 ·
  replace hg10:=zX hg10;refine zG Z (zG Z (zG Z (zB 2 Z (zL (zD [6] [_] Z (qM (qO Z Z fun w' hw=>?_)))))))
  exact ⟨ret_b (by first | rfl | (simp_all [inB];done) | (simp_all [inB];omega)),hw.below⟩
 replace hg10:=qB hg10;refine zB 5 Z (zL (zD [6] [_] Z (qM (qO Z Z fun w' hw=>?_))))
 exact ⟨ret_b (by first | rfl | (simp_all [inB];done) | (simp_all [inB];omega)),hw.below⟩
set_option maxHeartbeats 400000 in
theorem l1Bits_ok (s:List UInt8) (n:Int) (w:World) (hs:s.length≤1048576) :
    Calls Tryd.prog 81 [str s,i6_ n].toArray w fun en w'=>en=.returned (.bool (bitsB s n))∧Below w.heap.size w w':=by
 refine fnStart (n:=26) (e:=[(0,str s),(1,i6_ n)]) Tryd.func81 Z Z Z Z Ends.both (zF (zC (zB 1 Z (zL (zD [0,1] [_,_] Z (zF (zF (zC (zB 1 Z (zL (zD [0,1,5] [_,_,_] Z (qQ (yZ (σ:=Nat) (fun k=>k≤s.length∧(s.take k).all isBit=true) (fun k=>[(0,str s),(1,i6_ n),(5,i6_ (k:Int))]) (fun k=>Own w.heap.size w []) (fun k=>s.length - k) (0) ⟨by omega,rfl⟩ (Sub.sel [0,1,5] Z) (fun _ h=>h) ?_)))))))))))))
 rintro k ⟨hk,hall⟩;refine zF (zF (zC (zB 2 Z (zE (v:=i6_ (s.length:Int)) Z (xO Z qW Z) (zB 1 Z (zL (zD [0,1,5,9] [_,_,_,_] Z (xA Z (fun h9=>?_) (fun h9=>?_)))))))))
 ·
  refine qR (zD [0,1,5] [_,_,_] Z (zF (qQ (zF (zC (zB 2 Z (zE (v:=.int .u8 (((s.getD ((k:Int).toNat) 0).toNat:Int))) Z (jH Z qW Z Z (by omega) (by omega)) (zB 2 Z (yU fun b16 hg16=>?_)))))))))
  cases b16
  ·
   replace hg16:=not_false hg16
   replace hg16:=qB hg16;refine zG Z (zG Z (zG Z (zG Z (zB 1 Z (zL (zD [0,1,5,21] [_,_,_,_] Z (Wk.condF Z (qR (zD [0,1,5] [_,_,_] Z (zC (zB 1 Z (zE Z (qX Z Z Z (by omega) (by omega)) (zB 1 Z (zL (yA (k+1) ⟨by omega,all_take (by omega) hall (by unfold isBit;simp_all)⟩ (by omega) (Sub.sel [0,1,5] Z) (fun _ h=>h))))))))))))))))
  replace hg16:=not_true hg16
  replace hg16:=zX hg16;refine zB 2 Z (zE (v:=.int .u8 (((s.getD ((k:Int).toNat) 0).toNat:Int))) Z (jH Z qW Z Z (by omega) (by omega)) (zB 2 Z (zL (zD [0,1,5,21] [_,_,_,_] Z (yH (b:=!(decide ((((s.getD ((k:Int).toNat) 0).toNat:Int))=(49:Int)))) Z (fun h21=>?_) (fun h21=>?_))))))
  ·
   replace h21:=not_true h21
   replace h21:=zX h21;refine zF (zC (zB 1 Z (zL (zD [4] [_] Z (qM (qO Z Z fun w' hw=>?_))))))
   exact ⟨ret_b (by unfold bitsB;rw [all_false (k:=k) (by omega) (by unfold isBit;simp_all)];rfl),hw.below⟩
  replace h21:=not_false h21
  replace h21:=qB h21;refine qR (zD [0,1,5] [_,_,_] Z (zC (zB 1 Z (zE Z (qX Z Z Z (by omega) (by omega)) (zB 1 Z (zL (yA (k+1) ⟨by omega,all_take (by omega) hall (by unfold isBit;simp_all)⟩ (by omega) (Sub.sel [0,1,5] Z) (fun _ h=>h))))))))
 refine yV Z (zD [0,1] [_,_] Z (zF (zC (zB 1 Z (zE (v:=i6_ (s.length:Int)) Z (xO Z qW Z) (zB 3 Z (zL (zD [4] [_] Z (qM (qO Z Z fun w' hw=>?_))))))))))
 exact ⟨ret_b (by unfold bitsB;rw [show s.all isBit=true from by rw [← List.take_of_length_le (show s.length≤k by omega)];exact hall];rfl),hw.below⟩
set_option maxHeartbeats 400000 in
theorem sValid_ok (a:St) (w:World) (ha:a.Small) :
    Calls Tryd.prog 38 [vS a].toArray w fun en w'=>en=.returned (.bool (validB a))∧Below w.heap.size w w':=by
 refine fnStart (n:=23) (e:=[(0,vS a)]) Tryd.func38 Z Z Z Z Ends.both ?_
 have h1:=ha.set
 have h2:=ha.rel;refine zF (zZ (yP (v:=vS a) Z Z Z Z Z fun p1 hp1=>?_))
 show Ll _ _ (Own _ _ [_]) _ _ ((1,pt_ p1)::_) _ _ _;refine qL 1 Z (zM (zD [1] [_] Z (zF (zC (zE Z (zP Z zH Z zV Z Z) (zE Z (zQ 0 Z qG Z Z Z) (zE (v:=bo_ (inB a.n 1 8)) Z (qK Z Tryd.call39 Z zY (fun w1 hw1=>l1In_ok a.n 1 8 w1 )) (zB 1 Z (yU fun b6 hg6=>?_)))))))))
 cases b6
 ·
  refine zG Z (zG Z (zG Z (zG Z (zG Z (zB 2 Z (zG Z (zG Z (zG Z (zG Z (zG Z (zG Z (zG Z (zG Z (zB 2 Z (zL (zD [2] [_] Z (qM (qO Z Z fun w' hw=>?_))))))))))))))))))
  exact ⟨ret_b (by first | (simp [validB, *];done) | (simp [validB, *];omega)),hw.below⟩
 have hn:1≤a.n∧a.n≤8:=by unfold inB at hg6;simpa using hg6
 have hq:=sq_le hn.1 hn.2;refine zE Z (zP Z zH Z zT Z Z) (zE Z (zQ 0 Z qJ Z Z Z) (zE Z (zP Z zH Z zV Z Z) (zE Z (zQ 0 Z qG Z Z Z) (zE (v:=bo_ (bitsB a.set a.n)) Z (qK Z Tryd.call81 Z zY (fun w1 hw1=>l1Bits_ok a.set a.n w1 (by omega))) (zB 2 Z (yU fun b13 hg13=>?_))))))
 cases b13
 ·
  refine zG Z (zG Z (zG Z (zG Z (zG Z (zG Z (zG Z (zG Z (zB 2 Z (zL (zD [2] [_] Z (qM (qO Z Z fun w' hw=>?_))))))))))))
  exact ⟨ret_b (by first | (simp [validB, *];done) | (simp [validB, *];omega)),hw.below⟩
 refine zE Z (zP Z zH Z zT Z Z) (zE Z (zQ 0 Z qJ Z Z Z) (zE Z (zP Z zH Z zV Z Z) (zE Z (zQ 0 Z qG Z Z Z) (zE Z (zP Z zH Z zV Z Z) (zE Z (zQ 0 Z qG Z Z Z) (zE Z (OpQ.mul Z Z Z (by omega) (by omega)) (zE (v:=bo_ (bitsB a.rel (a.n*a.n))) Z (qK Z Tryd.call81 Z zY (fun w1 hw1=>l1Bits_ok a.rel (a.n*a.n) w1 (by omega))) (zB 2 Z (zL (zD [2] [_] Z (qM (qO Z Z fun w' hw=>?_))))))))))))
 exact ⟨ret_b (by first | (simp [validB, *];done) | (simp [validB, *];omega)),hw.below⟩
set_option maxHeartbeats 400000 in
theorem l1Set_ok (a:St) (x:Int) (w:World) (ha:a.Fine) (hx:a.El x) :
    Calls Tryd.prog 119 [vS a,i6_ x].toArray w fun en w'=>en=.returned (.bool (a.inSet x))∧Below w.heap.size w w':=by
 refine fnStart (n:=10) (e:=[(0,vS a),(1,i6_ x)]) Tryd.func119 Z Z Z Z Ends.both ?_
 have hs:=ha.set
 obtain ⟨h0,h1⟩:=hx;refine zF (zZ (yP (v:=vS a) Z Z Z Z Z fun p2 hp2=>?_))
 show Ll _ _ (Own _ _ [_]) _ _ ((2,pt_ p2)::_) _ _ _;refine qL 1 Z (zM (zD [1,2] [_,_] Z (zF (zC (zE Z (zP Z zH Z zT Z Z) (zE Z (zQ 0 Z qJ Z Z Z) (zB 1 Z (zE (v:=.int .u8 (((a.set.getD ((x).toNat) 0).toNat:Int))) Z (jH Z qW Z Z (by omega) (by omega)) (zB 2 Z (zL (zD [4] [_] Z (qM (qO Z Z fun w' hw=>?_)))))))))))))
 exact ⟨ret_b (by first | rfl | (simp_all;done) | (simp_all;omega)),hw.below⟩
set_option maxHeartbeats 400000 in
theorem l1Rel_ok (a:St) (x y:Int) (w:World) (ha:a.Fine) (hx:a.El x) (hy:a.El y) :
    Calls Tryd.prog 120 [vS a,i6_ x,i6_ y].toArray w fun en w'=>en=.returned (.bool (a.inRel x y))∧Below w.heap.size w w':=by
 refine fnStart (n:=17) (e:=[(0,vS a),(1,i6_ x),(2,i6_ y)]) Tryd.func120 Z Z Z Z Ends.both ?_
 obtain ⟨k0,k1,k2,k3,k4⟩:=ha.relLt hx hy;refine zF (zZ (yP (v:=vS a) Z Z Z Z Z fun p3 hp3=>?_))
 show Ll _ _ (Own _ _ [_]) _ _ ((3,pt_ p3)::_) _ _ _;refine qL 1 Z (zM (zD [1,2,3] [_,_,_] Z (zF (zC (zE Z (zP Z zH Z zT Z Z) (zE Z (zQ 0 Z qJ Z Z Z) (zB 1 Z (zE Z (zP Z zH Z zV Z Z) (zE Z (zQ 0 Z qG Z Z Z) (zE Z (OpQ.mul Z Z Z (by omega) (by omega)) (zB 1 Z (zE Z (qX Z Z Z (by omega) (by omega)) (zE (v:=.int .u8 (((a.rel.getD (((x*a.n)+y).toNat) 0).toNat:Int))) Z (jH Z qW Z Z (by omega) (by omega)) (zB 2 Z (zL (zD [6] [_] Z (qM (qO Z Z fun w' hw=>?_))))))))))))))))))
 exact ⟨ret_b (by first | rfl | (simp_all;done) | (simp_all;omega)),hw.below⟩
set_option maxHeartbeats 400000 in
theorem areBits_ok (s:List UInt8) (n:Int) (w:World) (hs:s.length≤1048576) :
    Calls Tryd.prog 78 [str s,i6_ n].toArray w fun en w'=>en=.returned (.bool (bitsB s n))∧Below w.heap.size w w':=by
 refine fnStart (n:=14) (e:=[(0,str s),(1,i6_ n)]) Tryd.func78 Z Z Z Z Ends.both (zF (zC (zB 1 Z (zL (zD [0,1] [_,_] Z (zF (zC (zB 1 Z (zE (v:=i6_ (s.length:Int)) Z (xO Z qW Z) (zB 3 Z (yU fun b9 hg9=>?_)))))))))))
 cases b9
 ·
  replace hg9:=zX hg9;refine zG Z (zG Z (zG Z (zB 2 Z (zL (zD [4] [_] Z (qM (qO Z Z fun w' hw=>?_)))))))
  exact ⟨ret_b (by unfold bitsB;simp [*]),hw.below⟩
 replace hg9:=qB hg9;refine zB 1 Z (zE (v:=str (Lib.trimS s [48,49])) Z (qK Z Tryd.call115 Z zY (fun w1 hw1=>trim_ok s w1 (by omega))) (zE Z (OpQ.seql Z Z Z) (zB 2 Z (zL (zD [4] [_] Z (qM (qO Z Z fun w' hw=>?_)))))))
 exact ⟨ret_b (by unfold bitsB;rw [trim_nil];simp [*]),hw.below⟩
set_option maxHeartbeats 400000 in
theorem isStructure_ok (a:St) (w:World) (ha:a.Small) :
    Calls Tryd.prog 34 [vS a].toArray w fun en w'=>en=.returned (.bool (validB a))∧Below w.heap.size w w':=by
 refine fnStart (n:=28) (e:=[(0,vS a)]) Tryd.func34 Z Z Z Z Ends.both ?_
 have h1:=ha.set
 have h2:=ha.rel;refine zF (zZ (yP (v:=vS a) Z Z Z Z Z fun p1 hp1=>?_))
 show Ll _ _ (Own _ _ [_]) _ _ ((1,pt_ p1)::_) _ _ _;refine qL 1 Z (zM (zD [1] [_] Z (zF (zC (zE Z (zP Z zH Z zV Z Z) (zE Z (zQ 0 Z qG Z Z Z) (zB 2 Z (yU fun b6 hg6=>?_))))))))
 cases b6
 ·
  replace hg6:=zX hg6;refine zG Z (zG Z (zG Z (zB 2 Z (zG Z (zG Z (zG Z (zG Z (zG Z (zB 2 Z (zG Z (zG Z (zG Z (zG Z (zG Z (zG Z (zG Z (zG Z (zB 2 Z (zL (zD [2] [_] Z (qM (qO Z Z fun w' hw=>?_))))))))))))))))))))))
  exact ⟨ret_b (by first | (simp [validB,inB, *];done) | (simp [validB,inB, *];omega)),hw.below⟩
 replace hg6:=qB hg6;refine zE Z (zP Z zH Z zV Z Z) (zE Z (zQ 0 Z qG Z Z Z) (zB 3 Z (yU fun b11 hg11=>?_)))
 cases b11
 ·
  replace hg11:=zX hg11;refine zG Z (zG Z (zG Z (zG Z (zG Z (zB 2 Z (zG Z (zG Z (zG Z (zG Z (zG Z (zG Z (zG Z (zG Z (zB 2 Z (zL (zD [2] [_] Z (qM (qO Z Z fun w' hw=>?_))))))))))))))))))
  exact ⟨ret_b (by first | (simp [validB,inB, *];done) | (simp [validB,inB, *];omega)),hw.below⟩
 replace hg11:=qB hg11
 have hq:=sq_le hg6 hg11;refine zE Z (zP Z zH Z zT Z Z) (zE Z (zQ 0 Z qJ Z Z Z) (zE Z (zP Z zH Z zV Z Z) (zE Z (zQ 0 Z qG Z Z Z) (zE (v:=bo_ (bitsB a.set a.n)) Z (qK Z Tryd.call78 Z zY (fun w1 hw1=>areBits_ok a.set a.n w1 (by omega))) (zB 2 Z (yU fun b18 hg18=>?_))))))
 cases b18
 ·
  refine zG Z (zG Z (zG Z (zG Z (zG Z (zG Z (zG Z (zG Z (zB 2 Z (zL (zD [2] [_] Z (qM (qO Z Z fun w' hw=>?_))))))))))))
  exact ⟨ret_b (by first | (simp [validB,inB, *];done) | (simp [validB,inB, *];omega)),hw.below⟩
 refine zE Z (zP Z zH Z zT Z Z) (zE Z (zQ 0 Z qJ Z Z Z) (zE Z (zP Z zH Z zV Z Z) (zE Z (zQ 0 Z qG Z Z Z) (zE Z (zP Z zH Z zV Z Z) (zE Z (zQ 0 Z qG Z Z Z) (zE Z (OpQ.mul Z Z Z (by omega) (by omega)) (zE (v:=bo_ (bitsB a.rel (a.n*a.n))) Z (qK Z Tryd.call78 Z zY (fun w1 hw1=>areBits_ok a.rel (a.n*a.n) w1 (by omega))) (zB 2 Z (zL (zD [2] [_] Z (qM (qO Z Z fun w' hw=>?_))))))))))))
 exact ⟨ret_b (by first | (simp [validB,inB, *];done) | (simp [validB,inB, *];omega)),hw.below⟩
set_option maxHeartbeats 400000 in
theorem inSet_ok (a:St) (x:Int) (w:World) (ha:a.Fine) (hx:a.El x) :
    Calls Tryd.prog 123 [vS a,i6_ x].toArray w fun en w'=>en=.returned (.bool (a.inSet x))∧Below w.heap.size w w':=by
 refine fnStart (n:=10) (e:=[(0,vS a),(1,i6_ x)]) Tryd.func123 Z Z Z Z Ends.both ?_
 have hs:=ha.set
 obtain ⟨h0,h1⟩:=hx;refine zF (zZ (yP (v:=vS a) Z Z Z Z Z fun p2 hp2=>?_))
 show Ll _ _ (Own _ _ [_]) _ _ ((2,pt_ p2)::_) _ _ _;refine qL 1 Z (zM (zD [1,2] [_,_] Z (zF (zC (zE Z (zP Z zH Z zT Z Z) (zE Z (zQ 0 Z qJ Z Z Z) (zB 1 Z (zE (v:=.int .u8 (((a.set.getD ((x).toNat) 0).toNat:Int))) Z (jH Z qW Z Z (by omega) (by omega)) (zB 2 Z (zL (zD [4] [_] Z (qM (qO Z Z fun w' hw=>?_)))))))))))))
 exact ⟨ret_b (by first | rfl | (simp_all;done) | (simp_all;omega)),hw.below⟩
set_option maxHeartbeats 400000 in
theorem inRel_ok (a:St) (x y:Int) (w:World) (ha:a.Fine) (hx:a.El x) (hy:a.El y) :
    Calls Tryd.prog 124 [vS a,i6_ x,i6_ y].toArray w fun en w'=>en=.returned (.bool (a.inRel x y))∧Below w.heap.size w w':=by
 refine fnStart (n:=17) (e:=[(0,vS a),(1,i6_ x),(2,i6_ y)]) Tryd.func124 Z Z Z Z Ends.both ?_
 obtain ⟨k0,k1,k2,k3,k4⟩:=ha.relLt hx hy;refine zF (zZ (yP (v:=vS a) Z Z Z Z Z fun p3 hp3=>?_))
 show Ll _ _ (Own _ _ [_]) _ _ ((3,pt_ p3)::_) _ _ _;refine qL 1 Z (zM (zD [1,2,3] [_,_,_] Z (zF (zC (zE Z (zP Z zH Z zT Z Z) (zE Z (zQ 0 Z qJ Z Z Z) (zB 1 Z (zE Z (zP Z zH Z zV Z Z) (zE Z (zQ 0 Z qG Z Z Z) (zE Z (OpQ.mul Z Z Z (by omega) (by omega)) (zB 1 Z (zE Z (qX Z Z Z (by omega) (by omega)) (zE (v:=.int .u8 (((a.rel.getD (((x*a.n)+y).toNat) 0).toNat:Int))) Z (jH Z qW Z Z (by omega) (by omega)) (zB 2 Z (zL (zD [6] [_] Z (qM (qO Z Z fun w' hw=>?_))))))))))))))))))
 exact ⟨ret_b (by first | rfl | (simp_all;done) | (simp_all;omega)),hw.below⟩
set_option maxHeartbeats 400000 in
theorem noEl_ok (a:St) (g T:Nat) (x:Int) (w:World) (hg:w.heap[g]?=some (.cells #[.int .i64 a.n,str a.set,str a.rel] T (0,0))) :
    Calls Tryd.prog 111 [i6_ x,.pointer (some ⟨g,0,none⟩)].toArray w fun en w'=>en=.returned (.bool (!elB a x))∧Below w.heap.size w w':=by
 refine fnStart (n:=12) (e:=[(0,i6_ x),(1,.pointer (some ⟨g,0,none⟩))]) Tryd.func111 Z Z Z Z Ends.both (zF (zC (zB 1 Z (zL (zD [0,1] [_,_] Z (zF (zC (zB 3 Z (yU fun b6 hg6=>?_)))))))))
 cases b6
 ·
  replace hg6:=zX hg6;refine zB 1 Z (zE Z (zP Z zH Z zV Z Z) (zE (v:=i6_ a.n) Z (yF Z qG Z (fun w1 hw1=>at_box hg hw1 0 Z)) (zB 3 Z (zL (zD [3] [_] Z (qM (qO Z Z fun w' hw=>?_)))))))
  exact ⟨ret_b (by first | exact el_neg (by assumption) | exact el_geq (by assumption)),hw.below⟩
 replace hg6:=qB hg6;refine zG Z (zG Z (zG Z (zG Z (zB 2 Z (zL (zD [3] [_] Z (qM (qO Z Z fun w' hw=>?_))))))))
 exact ⟨ret_b (by first | exact el_neg (by assumption) | exact el_geq (by assumption)),hw.below⟩
set_option maxHeartbeats 400000 in
theorem indexFunc_ok (va:Value) (xs:List Int) (w:World) (hva:Ints w va xs) (hs:xs.length≤140737488355328) (F:FuncId) (caps:Array Value) (q:Int→Bool) (hF:∀ args w,(callFunc F args).run Tryd.prog w=.ok (.enter F args) w) (hq:∀ w1,Below w.heap.size w w1→∀ x,Calls Tryd.prog F (#[.int .i64 x]++caps) w1 fun en w'=>en=.returned (.bool (q x))∧Below w1.heap.size w1 w') :
    Calls Tryd.prog 141 [va,.func (.func F) #[] caps].toArray w fun en w'=>en=.returned (.int .i64 (idxI xs q))∧Below w.heap.size w w':=by
 refine fnStart (n:=19) (e:=[(0,va),(1,.func (.func F) #[] caps)]) Tryd.func141 Z Z Z Z Ends.both (zF (zC (zB 1 Z (zL (zD [0,1] [_,_] Z (zF (zF (zC (zB 1 Z (zE (v:=i6_ (xs.length:Int)) Z (yI Z zK Z (ints_length _) (fun w1 hw1=>Row.own hva hw1)) (zB 1 Z (zL (zD [0,1,7,8] [_,_,_,_] Z (qQ (yZ (σ:=Nat) (fun k=>k≤xs.length∧∀ i:Nat,i<k→q (xs.getD i 0)=false) (fun k=>[(0,va),(1,.func (.func F) #[] caps),(7,i6_ (xs.length:Int)),(8,i6_ (k:Int))]) (fun k=>Own w.heap.size w []) (fun k=>xs.length - k) (0) ⟨by omega,fun i hi=>absurd hi (by omega)⟩ (Sub.sel [0,1,7,8] Z) (fun _ h=>h) ?_)))))))))))))))
 rintro k ⟨hk,hall⟩;refine zF (zC (zB 1 Z (zL (zD [0,1,7,8,9] [_,_,_,_,_] Z (zF (xA Z (fun h9=>?_) (fun h9=>?_)))))))
 ·
  refine qR (zD [0,1,7,8] [_,_,_,_] Z (zF (qQ (zF (zC (zB 2 Z (zL (zD [0,1,5,7,8] [_,_,_,_,_] Z (zF (zC (zB 3 Z (zE (v:=.pointer (some (sAt va (k:Int)))) Z (yG Z zK zV Z Z (by omega) (by rw [ints_length];omega) (fun w1 hw1=>Row.own hva hw1)) (zE (v:=i6_ (xs.getD ((k:Int).toNat) 0)) Z (yF Z qG Z (fun w1 hw1=>Ints.cell (Row.own hva hw1) (by omega) (by omega))) (zE (v:=bo_ (q (xs.getD ((k:Int).toNat) 0))) Z (OpQ.callFn Z Z hF Z zY (fun w1 hw1=>hq w1 hw1.below (xs.getD ((k:Int).toNat) 0))) (zL (zD [0,1,5,7,8,16] [_,_,_,_,_,_] Z (yH (b:=q (xs.getD ((k:Int).toNat) 0)) Z (fun h16=>?_) (fun h16=>?_))))))))))))))))))
  ·
   refine zF (zC (zB 2 Z (zL (zD [4] [_] Z (qM (qO Z Z fun w' hw=>?_))))))
   exact ⟨ret_i (idxI_at (by omega) hall (by simpa using h16)).symm,hw.below⟩
  refine qR (zD [0,1,7,8] [_,_,_,_] Z (zC (zE Z (qX Z Z Z (by omega) (by omega)) (zB 1 Z (zL (yA (k+1) ⟨by omega,fun i hi=>(Nat.lt_succ_iff_lt_or_eq.1 hi).elim (hall i) (fun e=>by subst e;simpa using h16)⟩ (by omega) (Sub.sel [0,1,7,8] Z) (fun _ h=>h)))))))
 refine yV Z (zD [] [] Z (zF (zC (zB 1 Z (zL (zD [4] [_] Z (qM (qO Z Z fun w' hw=>?_))))))))
 exact ⟨ret_i (idxI_none (fun i hi=>hall i (by omega))).symm,hw.below⟩
set_option maxHeartbeats 400000 in
theorem containsFunc_ok (va:Value) (xs:List Int) (w:World) (hva:Ints w va xs) (hs:xs.length≤140737488355328) (F:FuncId) (caps:Array Value) (q:Int→Bool) (hF:∀ args w,(callFunc F args).run Tryd.prog w=.ok (.enter F args) w) (hq:∀ w1,Below w.heap.size w w1→∀ x,Calls Tryd.prog F (#[.int .i64 x]++caps) w1 fun en w'=>en=.returned (.bool (q x))∧Below w1.heap.size w1 w') :
    Calls Tryd.prog 110 [va,.func (.func F) #[] caps].toArray w fun en w'=>en=.returned (.bool (xs.any q))∧Below w.heap.size w w':=by
 refine fnStart (n:=9) (e:=[(0,va),(1,.func (.func F) #[] caps)]) Tryd.func110 Z Z Z Z Ends.both (zF (zC (zB 1 Z (zL (zD [0,1] [_,_] Z (zF (zC (zB 2 Z (zE (v:=i6_ (idxI xs q)) Z (qK Z Tryd.call141 Z zY (fun w1 hw1=>indexFunc_ok va xs w1 (Row.own hva hw1) hs F caps q hF (fun w2 hb x=>hq w2 (hw1.below.trans (hb.mono hw1.base)) x))) (zB 2 Z (zL (zD [4] [_] Z (qM (qO Z Z fun w' hw=>?_))))))))))))))
 exact ⟨ret_b (idxI_any xs q),hw.below⟩
set_option maxHeartbeats 400000 in
theorem stillSame_ok (a b:St) (xs ys:List Int) (va vb:Value) (x y:Int) (w:World) (ha:a.Fine) (hb:b.Fine) (hva:Ints w va xs) (hvb:Ints w vb ys) (hA:a.Els xs) (hB:b.Els ys) (hlen:xs.length=ys.length) (hsmall:xs.length≤1000000) (hx:a.El x) (hy:b.El y) :
    Calls Tryd.prog 116 [vS a,va,vS b,vb,i6_ x,i6_ y].toArray w fun en w'=>en=.returned (.bool (stillB a xs b ys x y))∧Below w.heap.size w w':=by
 refine fnStart (n:=75) (e:=[(0,vS a),(1,va),(2,vS b),(3,vb),(4,i6_ x),(5,i6_ y)]) Tryd.func116 Z Z Z Z Ends.both ?_
 have hT:=stillB_true (a:=a) (b:=b) (x:=x) (y:=y) hlen;refine zF (zZ (yP (v:=vS a) Z Z Z Z Z fun p6 hp6=>?_))
 show Ll _ _ (Own _ _ [_]) _ _ ((6,pt_ p6)::_) _ _ _;refine yP (v:=vS b) Z Z Z Z Z fun p8 hp8=>?_
 show Ll _ _ (Own _ _ [_,_]) _ _ ((8,pt_ p8)::_) _ _ _;refine qL 1 Z (zM (zD [1,3,4,5,6,8] [_,_,_,_,_,_] Z (zF (zF (xV qZ (fun _ h=>h.drawn) (by kernel_rfl) (zE Z (zR (cs:=#[i6_ a.n,str a.set,str a.rel]) 1 Z zN Z Z zI) (zB 1 Z (zE (v:=bo_ (a.inSet x)) Z (qK Z Tryd.call123 Z zY (fun w1 hw1=>inSet_ok a x w1 ha (by first | assumption | exact St.Els.at (by assumption) (by omega) (by omega)))) (zE Z (zR (cs:=#[i6_ b.n,str b.set,str b.rel]) 0 Z zN Z Z zI) (zB 1 Z (zE (v:=bo_ (b.inSet y)) Z (qK Z Tryd.call123 Z zY (fun w1 hw1=>inSet_ok b y w1 hb (by first | assumption | exact St.Els.at (by assumption) (by omega) (by omega)))) (zE Z (jO Z yR Z Z) (zB 1 Z (yU fun b23 hg23=>?_))))))))))))))
 cases b23
 ·
  refine zE Z (zR (cs:=#[i6_ a.n,str a.set,str a.rel]) 1 Z zN Z Z zI) (zB 2 Z (zE (v:=bo_ (a.inRel x x)) Z (qK Z xP Z zY (fun w1 hw1=>inRel_ok a x x w1 ha (by first | assumption | exact St.Els.at (by assumption) (by omega) (by omega)) (by first | assumption | exact St.Els.at (by assumption) (by omega) (by omega)))) (zE Z (zR (cs:=#[i6_ b.n,str b.set,str b.rel]) 0 Z zN Z Z zI) (zB 2 Z (zE (v:=bo_ (b.inRel y y)) Z (qK Z xP Z zY (fun w1 hw1=>inRel_ok b y y w1 hb (by first | assumption | exact St.Els.at (by assumption) (by omega) (by omega)) (by first | assumption | exact St.Els.at (by assumption) (by omega) (by omega)))) (zE Z (jO Z yR Z Z) (zB 1 Z (zL (zD [1,3,4,5,6,8,33] [_,_,_,_,_,_,_] Z (yH (b:=(a.inRel x x) != (b.inRel y y)) Z (fun h33=>?_) (fun h33=>?_)))))))))))
  ·
   refine zF (zC (zB 1 Z (zL (zD [12] [_] Z (qM (qO Z Z fun w' hw=>?_))))))
   have hf:stillB a xs b ys x y=false:=by
    cases hs:stillB a xs b ys x y with
    | false=>rfl
    | true=>obtain ⟨e1,e2,e3⟩:=hT.1 hs;simp_all
   exact ⟨by rw [hf],hw.below⟩
  refine qR (zD [1,3,4,5,6,8] [_,_,_,_,_,_] Z (zF (zF (zC (zB 1 Z (zE (v:=i6_ (xs.length:Int)) Z (yI Z zK Z (ints_length _) (fun w1 hw1=>Row.own hva hw1)) (zB 1 Z (zL (zD [3,4,5,6,8,34,35,36] [_,_,_,_,_,_,_,_] Z (qQ (yZ (σ:=Nat) (fun k=>k≤xs.length∧∀ i:Nat,i<k→pairOk a b x y (xs.getD i 0) (ys.getD i 0)=true) (fun k=>[(3,vb),(4,i6_ x),(5,i6_ y),(6,pt_ p6),(8,pt_ p8),(34,va),(35,i6_ (xs.length:Int)),(36,i6_ (k:Int))]) (fun k=>Own w.heap.size w [bk_ p8 #[i6_ b.n,str b.set,str b.rel] 24,bk_ p6 #[i6_ a.n,str a.set,str a.rel] 24]) (fun k=>xs.length - k) (0) ⟨by omega,fun i hi=>absurd hi (by omega)⟩ (Sub.sel [3,4,5,6,8,34,35,36] Z) (fun _ h=>h) ?_)))))))))))
  rintro k ⟨hk,hall⟩;refine zF (zC (zB 1 Z (zL (zD [3,4,5,6,8,34,35,36,37] [_,_,_,_,_,_,_,_,_] Z (zF (xA Z (fun h37=>?_) (fun h37=>?_)))))))
  ·
   refine qR (zD [3,4,5,6,8,34,35,36] [_,_,_,_,_,_,_,_] Z (zF (qQ (zF (zC (zB 1 Z (zE (v:=.pointer (some (sAt va (k:Int)))) Z (yG Z zK zV Z Z (by omega) (by rw [ints_length];omega) (fun w1 hw1=>Row.own hva hw1)) (zE (v:=i6_ (xs.getD ((k:Int).toNat) 0)) Z (yF Z qG Z (fun w1 hw1=>Ints.cell (Row.own hva hw1) (by omega) (by omega))) (zB 2 Z (zL (zD [3,4,5,6,8,13,14,34,35,36] [_,_,_,_,_,_,_,_,_,_] Z (zF (zC (zB 2 Z (zE (v:=.pointer (some (sAt vb (k:Int)))) Z (yG Z zK zV Z Z (by omega) (by rw [ints_length];omega) (fun w1 hw1=>Row.own hvb hw1)) (zE (v:=i6_ (ys.getD ((k:Int).toNat) 0)) Z (yF Z qG Z (fun w1 hw1=>Ints.cell (Row.own hvb hw1) (by omega) (by omega))) (zB 1 Z (zL (zD [3,4,5,6,8,14,15,34,35,36] [_,_,_,_,_,_,_,_,_,_] Z (zF (xV qZ (fun _ h=>h.drawn) (by kernel_rfl) (zB 6 Z (zE Z (jO Z yR Z Z) (zB 1 Z (yU fun b52 hg52=>?_)))))))))))))))))))))))))
   cases b52
   ·
    refine zE Z (zR (cs:=#[i6_ a.n,str a.set,str a.rel]) 1 Z zN Z Z zI) (zB 2 Z (zE (v:=bo_ (a.inRel (xs.getD ((k:Int).toNat) 0) x)) Z (qK Z xP Z zY (fun w1 hw1=>inRel_ok a (xs.getD ((k:Int).toNat) 0) x w1 ha (by first | assumption | exact St.Els.at (by assumption) (by omega) (by omega)) (by first | assumption | exact St.Els.at (by assumption) (by omega) (by omega)))) (zE Z (zR (cs:=#[i6_ b.n,str b.set,str b.rel]) 0 Z zN Z Z zI) (zB 2 Z (zE (v:=bo_ (b.inRel (ys.getD ((k:Int).toNat) 0) y)) Z (qK Z xP Z zY (fun w1 hw1=>inRel_ok b (ys.getD ((k:Int).toNat) 0) y w1 hb (by first | assumption | exact St.Els.at (by assumption) (by omega) (by omega)) (by first | assumption | exact St.Els.at (by assumption) (by omega) (by omega)))) (zE Z (jO Z yR Z Z) (zB 2 Z (yU fun b63 hg63=>?_))))))))
    cases b63
    ·
     refine zE Z (zR (cs:=#[i6_ a.n,str a.set,str a.rel]) 1 Z zN Z Z zI) (zB 2 Z (zE (v:=bo_ (a.inRel x (xs.getD ((k:Int).toNat) 0))) Z (qK Z xP Z zY (fun w1 hw1=>inRel_ok a x (xs.getD ((k:Int).toNat) 0) w1 ha (by first | assumption | exact St.Els.at (by assumption) (by omega) (by omega)) (by first | assumption | exact St.Els.at (by assumption) (by omega) (by omega)))) (zE Z (zR (cs:=#[i6_ b.n,str b.set,str b.rel]) 0 Z zN Z Z zI) (zB 2 Z (zE (v:=bo_ (b.inRel y (ys.getD ((k:Int).toNat) 0))) Z (qK Z xP Z zY (fun w1 hw1=>inRel_ok b y (ys.getD ((k:Int).toNat) 0) w1 hb (by first | assumption | exact St.Els.at (by assumption) (by omega) (by omega)) (by first | assumption | exact St.Els.at (by assumption) (by omega) (by omega)))) (zE Z (jO Z yR Z Z) (zB 1 Z (zL (zD [3,4,5,6,8,34,35,36,73] [_,_,_,_,_,_,_,_,_] Z (yH (b:=(a.inRel x (xs.getD ((k:Int).toNat) 0)) != (b.inRel y (ys.getD ((k:Int).toNat) 0))) Z (fun h73=>?_) (fun h73=>?_)))))))))))
     ·
      refine zF (zC (zB 1 Z (zL (zD [12] [_] Z (qM (qO Z Z fun w' hw=>?_))))))
      have hf:stillB a xs b ys x y=false:=by
       cases hs:stillB a xs b ys x y with
       | false=>rfl
       | true =>
        obtain ⟨e1,e2,e3⟩:=hT.1 hs
        obtain ⟨e4,e5,e6⟩:=pairOk_true.1 (e3 k (by omega))
        simp only [Int.toNat_natCast] at *
        simp_all
      exact ⟨by rw [hf],hw.below⟩
     refine qR (zD [3,4,5,6,8,34,35,36] [_,_,_,_,_,_,_,_] Z (zC (zE Z (qX Z Z Z (by omega) (by omega)) (zB 1 Z (zL (yA (k+1) ⟨by omega,fun i hi=>(Nat.lt_succ_iff_lt_or_eq.1 hi).elim (hall i) (fun e=>by subst e;exact pairOk_true.2 ⟨by simpa using hg52,by simpa using hg63,by simpa using h73⟩)⟩ (by omega) (Sub.sel [3,4,5,6,8,34,35,36] Z) (fun _ h=>h)))))))
    refine zG Z (zG Z (zG Z (zG Z (zG Z (zG Z (zG Z (zG Z (zG Z (zB 1 Z (zL (zD [3,4,5,6,8,34,35,36,73] [_,_,_,_,_,_,_,_,_] Z (jM Z (zF (zC (zB 1 Z (zL (zD [12] [_] Z (qM (qO Z Z fun w' hw=>?_)))))))))))))))))))
    have hf:stillB a xs b ys x y=false:=by
     cases hs:stillB a xs b ys x y with
     | false=>rfl
     | true =>
      obtain ⟨e1,e2,e3⟩:=hT.1 hs
      obtain ⟨e4,e5,e6⟩:=pairOk_true.1 (e3 k (by omega))
      simp only [Int.toNat_natCast] at *
      simp_all
    exact ⟨by rw [hf],hw.below⟩
   refine zG Z (zG Z (zG Z (zG Z (zG Z (zG Z (zG Z (zG Z (zG Z (zB 2 Z (zG Z (zG Z (zG Z (zG Z (zG Z (zG Z (zG Z (zG Z (zG Z (zB 1 Z (zL (zD [3,4,5,6,8,34,35,36,73] [_,_,_,_,_,_,_,_,_] Z (jM Z (zF (zC (zB 1 Z (zL (zD [12] [_] Z (qM (qO Z Z fun w' hw=>?_)))))))))))))))))))))))))))))
   have hf:stillB a xs b ys x y=false:=by
    cases hs:stillB a xs b ys x y with
    | false=>rfl
    | true =>
     obtain ⟨e1,e2,e3⟩:=hT.1 hs
     obtain ⟨e4,e5,e6⟩:=pairOk_true.1 (e3 k (by omega))
     simp only [Int.toNat_natCast] at *
     simp_all
   exact ⟨by rw [hf],hw.below⟩
  refine yV Z (zD [] [] Z (zF (zC (zB 1 Z (zL (zD [12] [_] Z (qM (qO Z Z fun w' hw=>?_))))))))
  exact ⟨by rw [hT.2 ⟨bne_false ‹_›,bne_false ‹_›,fun i hi=>hall i (by omega)⟩],hw.below⟩
 refine zG Z (zG Z (zG Z (zG Z (zG Z (zG Z (zG Z (zG Z (zG Z (zB 1 Z (zL (zD [1,3,4,5,6,8,33] [_,_,_,_,_,_,_] Z (jM Z (zF (zC (zB 1 Z (zL (zD [12] [_] Z (qM (qO Z Z fun w' hw=>?_)))))))))))))))))))
 have hf:stillB a xs b ys x y=false:=by
  cases hs:stillB a xs b ys x y with
  | false=>rfl
  | true=>obtain ⟨e1,e2,e3⟩:=hT.1 hs;simp_all
 exact ⟨by rw [hf],hw.below⟩
set_option maxHeartbeats 400000 in
theorem sameWay_ok (a b:St) (xs ys:List Int) (va vb:Value) (w:World) (ha:a.Fine) (hb:b.Fine) (hva:Ints w va xs) (hvb:Ints w vb ys) (hA:a.Els xs) (hB:b.Els ys) (hlen:xs.length=ys.length) (hsmall:xs.length≤1000000) :
    Calls Tryd.prog 79 [vS a,va,vS b,vb].toArray w fun en w'=>en=.returned (.bool (sameB a xs b ys))∧Below w.heap.size w w':=by
 refine fnStart (n:=34) (e:=[(0,vS a),(1,va),(2,vS b),(3,vb)]) Tryd.func79 Z Z Z Z Ends.both (zF (zZ (yP (v:=vS a) Z Z Z Z Z fun p4 hp4=>?_)))
 show Ll _ _ (Own _ _ [_]) _ _ ((4,pt_ p4)::_) _ _ _;refine yP (v:=vS b) Z Z Z Z Z fun p6 hp6=>?_
 show Ll _ _ (Own _ _ [_,_]) _ _ ((6,pt_ p6)::_) _ _ _;refine qL 1 Z (zM (zD [1,3,4,6] [_,_,_,_] Z (zF (zF (zC (zB 1 Z (zE (v:=i6_ (xs.length:Int)) Z (yI Z zK Z (ints_length _) (fun w1 hw1=>Row.own hva hw1)) (zB 1 Z (zL (zD [1,3,4,6,11,12] [_,_,_,_,_,_] Z (qQ (yZ (σ:=Nat) (fun k=>k≤xs.length∧∀ i:Nat,i<k→stillAt a xs b ys i=true) (fun k=>[(1,va),(3,vb),(4,pt_ p4),(6,pt_ p6),(11,i6_ (xs.length:Int)),(12,i6_ (k:Int))]) (fun k=>Own w.heap.size w [bk_ p6 #[i6_ b.n,str b.set,str b.rel] 24,bk_ p4 #[i6_ a.n,str a.set,str a.rel] 24]) (fun k=>xs.length - k) (0) ⟨by omega,fun i hi=>absurd hi (by omega)⟩ (Sub.sel [1,3,4,6,11,12] Z) (fun _ h=>h) ?_))))))))))))
 rintro k ⟨hk,hall⟩;refine zF (zC (zB 1 Z (zL (zD [1,3,4,6,11,12,13] [_,_,_,_,_,_,_] Z (zF (xA Z (fun h13=>?_) (fun h13=>?_)))))))
 ·
  refine qR (zD [1,3,4,6,11,12] [_,_,_,_,_,_] Z (zF (qQ (zF (zC (zB 2 Z (zL (zD [1,3,4,6,9,11,12] [_,_,_,_,_,_,_] Z (zF (xV qZ (fun _ h=>h.drawn) (by kernel_rfl) (zE Z (zR (cs:=#[i6_ a.n,str a.set,str a.rel]) 1 Z zN Z Z zI) (zB 2 Z (zE (v:=sTake va k) Z (OpQ.takeRow (i:=(k:Int)) Z zK zV Z Z (by omega) (by rw [ints_length];omega) (fun w1 hw1=>Row.own hva hw1)) (zE Z (zR (cs:=#[i6_ b.n,str b.set,str b.rel]) 0 Z zN Z Z zI) (zB 2 Z (zE (v:=sTake vb k) Z (OpQ.takeRow (i:=(k:Int)) Z zK zV Z Z (by omega) (by rw [ints_length];omega) (fun w1 hw1=>Row.own hvb hw1)) (zB 2 Z (zE (v:=.pointer (some (sAt va (k:Int)))) Z (yG Z zK zV Z Z (by omega) (by rw [ints_length];omega) (fun w1 hw1=>Row.own hva hw1)) (zE (v:=i6_ (xs.getD ((k:Int).toNat) 0)) Z (yF Z qG Z (fun w1 hw1=>Ints.cell (Row.own hva hw1) (by omega) (by omega))) (zB 2 Z (zE (v:=.pointer (some (sAt vb (k:Int)))) Z (yG Z zK zV Z Z (by omega) (by rw [ints_length];omega) (fun w1 hw1=>Row.own hvb hw1)) (zE (v:=i6_ (ys.getD ((k:Int).toNat) 0)) Z (yF Z qG Z (fun w1 hw1=>Ints.cell (Row.own hvb hw1) (by omega) (by omega))) (zE (v:=bo_ (stillB a (xs.take k) b (ys.take k) (xs.getD ((k:Int).toNat) 0) (ys.getD ((k:Int).toNat) 0))) Z (qK Z Tryd.call116 Z zY (fun w1 hw1=>stillSame_ok a b (xs.take k) (ys.take k) (sTake va k) (sTake vb k) (xs.getD ((k:Int).toNat) 0) (ys.getD ((k:Int).toNat) 0) w1 (ha) (hb) (Ints.take (Row.own hva hw1) k (by omega)) (Ints.take (Row.own hvb hw1) k (by omega)) (hA.take _) (hB.take _) (by first | (simp;done) | (simp;omega) | omega) (by first | (simp;done) | (simp;omega) | omega) (by first | assumption | exact St.Els.at (by assumption) (by omega) (by omega)) (by first | assumption | exact St.Els.at (by assumption) (by omega) (by omega)))) (zB 1 Z (zL (zD [1,3,4,6,11,12,32] [_,_,_,_,_,_,_] Z (yH (b:=!(stillB a (xs.take k) b (ys.take k) (xs.getD ((k:Int).toNat) 0) (ys.getD ((k:Int).toNat) 0))) Z (fun h32=>?_) (fun h32=>?_))))))))))))))))))))))))))))
  ·
   replace h32:=not_true h32;refine zF (zC (zB 1 Z (zL (zD [8] [_] Z (qM (qO Z Z fun w' hw=>?_))))))
   exact ⟨ret_b (sameB_false (k:=k) (by omega) (by simpa [stillAt] using h32)).symm,hw.below⟩
  replace h32:=not_false h32;refine qR (zD [1,3,4,6,11,12] [_,_,_,_,_,_] Z (zC (zE Z (qX Z Z Z (by omega) (by omega)) (zB 1 Z (zL (yA (k+1) ⟨by omega,fun i hi=>(Nat.lt_succ_iff_lt_or_eq.1 hi).elim (hall i) (fun e=>by subst e;simpa [stillAt] using h32)⟩ (by omega) (Sub.sel [1,3,4,6,11,12] Z) (fun _ h=>h)))))))
 refine yV Z (zD [] [] Z (zF (zC (zB 1 Z (zL (zD [8] [_] Z (qM (qO Z Z fun w' hw=>?_))))))))
 exact ⟨ret_b (sameB_true (k:=k) (by omega) hall).symm,hw.below⟩
end Go.Proofs.YtagbocafnliabaaDoor
namespace Go.Proofs.YtagbocafnliabaaDoor
open Go.RowKit Go.Wk
set_option linter.unusedSimpArgs false
set_option maxHeartbeats 400000 in
theorem index_ok (va:Value) (xs:List Int) (y:Int) (w:World) (hva:Ints w va xs) (hs1:xs.length≤1000000) :
    Calls Tryd.prog 112 [va,i6_ y].toArray w fun en w'=>en=.returned (.int .i64 (idxI xs fun z=>decide (y=z)))∧Below w.heap.size w w':=by
 refine fnStart (n:=19) (e:=[(0,va),(1,i6_ y)]) Tryd.func112 Z Z Z Z Ends.both (zF (zC (zB 1 Z (zL (zD [0,1] [_,_] Z (zF (zF (zC (zB 1 Z (zE (v:=i6_ (xs.length:Int)) Z (yI Z zK Z (ints_length _) (fun w1 hw1=>Row.own hva hw1)) (zB 1 Z (zL (zD [0,1,7,8] [_,_,_,_] Z (qQ (yZ (σ:=Nat) (fun k=>k≤xs.length∧∀ i:Nat,i<k→(fun z=>decide (y=z)) (xs.getD i 0)=false) (fun k=>[(0,va),(1,i6_ y),(7,i6_ (xs.length:Int)),(8,i6_ (k:Int))]) (fun k=>Own w.heap.size w []) (fun k=>xs.length - k) (0) ⟨by omega,fun i hi=>absurd hi (by omega)⟩ (Sub.sel [0,1,7,8] Z) (fun _ h=>h) ?_)))))))))))))))
 rintro k ⟨hk,hall⟩;refine zF (zC (zB 1 Z (zL (zD [0,1,7,8,9] [_,_,_,_,_] Z (zF (xA Z (fun h9=>?_) (fun h9=>?_)))))))
 ·
  refine qR (zD [0,1,7,8] [_,_,_,_] Z (zF (qQ (zF (zC (zB 2 Z (zL (zD [0,1,5,7,8] [_,_,_,_,_] Z (zF (zC (zB 3 Z (zE (v:=.pointer (some (sAt va (k:Int)))) Z (yG Z zK zV Z Z (by omega) (by rw [ints_length];omega) (fun w1 hw1=>Row.own hva hw1)) (zE (v:=i6_ (xs.getD ((k:Int).toNat) 0)) Z (yF Z qG Z (fun w1 hw1=>Ints.cell (Row.own hva hw1) (by omega) (by omega))) (zB 1 Z (zL (zD [0,1,5,7,8,16] [_,_,_,_,_,_] Z (xA Z (fun h16=>?_) (fun h16=>?_))))))))))))))))))
  ·
   refine zF (zC (zB 2 Z (zL (zD [4] [_] Z (qM (qO Z Z fun w' hw=>?_))))))
   exact ⟨ret_i (idxI_at (by omega) hall (by simpa using h16)).symm,hw.below⟩
  refine qR (zD [0,1,7,8] [_,_,_,_] Z (zC (zE Z (qX Z Z Z (by omega) (by omega)) (zB 1 Z (zL (yA (k+1) ⟨by omega,fun i hi=>(Nat.lt_succ_iff_lt_or_eq.1 hi).elim (hall i) (fun e=>by subst e;simpa using h16)⟩ (by omega) (Sub.sel [0,1,7,8] Z) (fun _ h=>h)))))))
 refine yV Z (zD [] [] Z (zF (zC (zB 1 Z (zL (zD [4] [_] Z (qM (qO Z Z fun w' hw=>?_))))))))
 exact ⟨ret_i (idxI_none (fun i hi=>hall i (by omega))).symm,hw.below⟩
set_option maxHeartbeats 400000 in
theorem contains_ok (va:Value) (xs:List Int) (y:Int) (w:World) (hva:Ints w va xs) (hs1:xs.length≤1000000) :
    Calls Tryd.prog 74 [va,i6_ y].toArray w fun en w'=>en=.returned (.bool (decide (y∈xs)))∧Below w.heap.size w w':=by
 refine fnStart (n:=9) (e:=[(0,va),(1,i6_ y)]) Tryd.func74 Z Z Z Z Ends.both (zF (zC (zB 1 Z (zL (zD [0,1] [_,_] Z (zF (zC (zB 2 Z (zE (v:=i6_ (idxI xs fun z=>decide (y=z))) Z (qK Z Tryd.call112 Z zY (fun w1 hw1=>index_ok va xs y w1 (Row.own hva hw1) (by omega))) (zB 2 Z (zL (zD [4] [_] Z (qM (qO Z Z fun w' hw=>?_))))))))))))))
 exact ⟨ret_b (has_idx xs y),hw.below⟩
set_option maxHeartbeats 400000 in
theorem placed_ok (a b:St) (va:Value) (os:List Int) (x:Int) (w:World) (ha:a.Fine) (hb:b.Fine) (hva:Ints w va os) (hs:os.length≤8) (hA:a.Els os) (hx:a.El x) (hbi:b.El os.length) :
    Calls Tryd.prog 92 [vS a,vS b,va,i6_ x].toArray w fun en w'=>en=.returned (.bool (placedB a b os x))∧Below w.heap.size w w':=by
 refine fnStart (n:=60) (e:=[(0,vS a),(1,vS b),(2,va),(3,i6_ x)]) Tryd.func92 Z Z Z Z Ends.both (zF (zZ (yP (v:=vS a) Z Z Z Z Z fun p4 hp4=>?_)))
 show Ll _ _ (Own _ _ [_]) _ _ ((4,pt_ p4)::_) _ _ _;refine yP (v:=vS b) Z Z Z Z Z fun p5 hp5=>?_
 show Ll _ _ (Own _ _ [_,_]) _ _ ((5,pt_ p5)::_) _ _ _;refine qL 1 Z (zM (zD [2,3,4,5] [_,_,_,_] Z (zF (zC (zB 1 Z (zE (v:=i6_ (os.length:Int)) Z (yI Z zK Z (ints_length _) (fun w1 hw1=>Row.own hva hw1)) (zB 1 Z (zL (zD [2,3,4,5,9] [_,_,_,_,_] Z (zF (zF (xV qZ (fun _ h=>h.drawn) (by kernel_rfl) (zE Z (zR (cs:=#[i6_ a.n,str a.set,str a.rel]) 1 Z zN Z Z zI) (zB 1 Z (zE (v:=bo_ (a.inSet x)) Z (qK Z Tryd.call123 Z zY (fun w1 hw1=>inSet_ok a x w1 ha (by first | assumption | exact St.Els.at (by assumption) (by omega) (by omega)))) (zE Z (zR (cs:=#[i6_ b.n,str b.set,str b.rel]) 0 Z zN Z Z zI) (zB 1 Z (zE (v:=bo_ (b.inSet (os.length:Int))) Z (qK Z Tryd.call123 Z zY (fun w1 hw1=>inSet_ok b (os.length:Int) w1 hb (by first | assumption | exact St.Els.at (by assumption) (by omega) (by omega)))) (zE Z (jO Z yR Z Z) (zB 1 Z (yU fun b21 hg21=>?_)))))))))))))))))))))
 cases b21
 ·
  refine zE Z (zR (cs:=#[i6_ a.n,str a.set,str a.rel]) 1 Z zN Z Z zI) (zB 2 Z (zE (v:=bo_ (a.inRel x x)) Z (qK Z xP Z zY (fun w1 hw1=>inRel_ok a x x w1 ha (by first | assumption | exact St.Els.at (by assumption) (by omega) (by omega)) (by first | assumption | exact St.Els.at (by assumption) (by omega) (by omega)))) (zE Z (zR (cs:=#[i6_ b.n,str b.set,str b.rel]) 0 Z zN Z Z zI) (zB 2 Z (zE (v:=bo_ (b.inRel (os.length:Int) (os.length:Int))) Z (qK Z xP Z zY (fun w1 hw1=>inRel_ok b (os.length:Int) (os.length:Int) w1 hb (by first | assumption | exact St.Els.at (by assumption) (by omega) (by omega)) (by first | assumption | exact St.Els.at (by assumption) (by omega) (by omega)))) (zE Z (jO Z yR Z Z) (zB 1 Z (zL (zD [2,3,4,5,9,31] [_,_,_,_,_,_] Z (yH (b:=(a.inRel x x) != (b.inRel (os.length:Int) (os.length:Int))) Z (fun h31=>?_) (fun h31=>?_)))))))))))
  ·
   refine zF (zC (zB 1 Z (zL (zD [8] [_] Z (qM (qO Z Z fun w' hw=>?_))))))
   first | exact ⟨ret_b (placed_head (.inl (by assumption))).symm,hw.below⟩ | exact ⟨ret_b (placed_head (.inr (by assumption))).symm,hw.below⟩ | exact ⟨ret_b (placed_no (k:=k) (by omega) (.inl (by simpa using hg48))).symm,hw.below⟩ | exact ⟨ret_b (placed_no (k:=k) (by omega) (.inr (by simpa using h58))).symm,hw.below⟩ | exact ⟨ret_b (placed_yes (by assumption) (by assumption) (fun i hi=>hall i (by omega))).symm,hw.below⟩
  refine qR (zD [2,3,4,5,9] [_,_,_,_,_] Z (zF (zF (zC (zB 1 Z (zE (v:=i6_ (os.length:Int)) Z (yI Z zK Z (ints_length _) (fun w1 hw1=>Row.own hva hw1)) (zB 1 Z (zL (zD [3,4,5,9,32,33,34] [_,_,_,_,_,_,_] Z (qQ (yZ (σ:=Nat) (fun k=>k≤os.length∧∀ i:Nat,i<k→(a.inRel x (os.getD i 0) != b.inRel os.length i)=false∧(a.inRel (os.getD i 0) x != b.inRel i os.length)=false) (fun k=>[(3,i6_ x),(4,pt_ p4),(5,pt_ p5),(9,i6_ (os.length:Int)),(32,va),(33,i6_ (os.length:Int)),(34,i6_ (k:Int))]) (fun k=>Own w.heap.size w [bk_ p5 #[i6_ b.n,str b.set,str b.rel] 24,bk_ p4 #[i6_ a.n,str a.set,str a.rel] 24]) (fun k=>os.length - k) (0) ⟨by omega,fun i hi=>absurd hi (by omega)⟩ (Sub.sel [3,4,5,9,32,33,34] Z) (fun _ h=>h) ?_)))))))))))
  rintro k ⟨hk,hall⟩;refine zF (zC (zB 1 Z (zL (zD [3,4,5,9,32,33,34,35] [_,_,_,_,_,_,_,_] Z (zF (yH (b:=decide ((k:Int)<(os.length:Int))) Z (fun h35=>?_) (fun h35=>?_)))))))
  ·
   replace h35:=qB h35
   have hbk:b.El (k:Int):=⟨by omega,by have:=hbi.2;omega⟩;refine qR (zD [3,4,5,9,32,33,34] [_,_,_,_,_,_,_] Z (zF (qQ (zF (zC (zB 1 Z (zE (v:=.pointer (some (sAt va (k:Int)))) Z (yG Z zK zV Z Z (by omega) (by rw [ints_length];omega) (fun w1 hw1=>Row.own hva hw1)) (zE (v:=i6_ (os.getD ((k:Int).toNat) 0)) Z (yF Z qG Z (fun w1 hw1=>Ints.cell (Row.own hva hw1) (by omega) (by omega))) (zB 2 Z (zL (zD [3,4,5,9,10,11,32,33,34] [_,_,_,_,_,_,_,_,_] Z (zF (xV qZ (fun _ h=>h.drawn) (by kernel_rfl) (zE Z (zR (cs:=#[i6_ a.n,str a.set,str a.rel]) 1 Z zN Z Z zI) (zB 2 Z (zE (v:=bo_ (a.inRel x (os.getD ((k:Int).toNat) 0))) Z (qK Z xP Z zY (fun w1 hw1=>inRel_ok a x (os.getD ((k:Int).toNat) 0) w1 ha (by first | assumption | exact St.Els.at (by assumption) (by omega) (by omega)) (by first | assumption | exact St.Els.at (by assumption) (by omega) (by omega)))) (zE Z (zR (cs:=#[i6_ b.n,str b.set,str b.rel]) 0 Z zN Z Z zI) (zB 2 Z (zE (v:=bo_ (b.inRel (os.length:Int) (k:Int))) Z (qK Z xP Z zY (fun w1 hw1=>inRel_ok b (os.length:Int) (k:Int) w1 hb (by first | assumption | exact St.Els.at (by assumption) (by omega) (by omega)) (by first | assumption | exact St.Els.at (by assumption) (by omega) (by omega)))) (zE Z (jO Z yR Z Z) (zB 1 Z (yU fun b48 hg48=>?_))))))))))))))))))))))
   cases b48
   ·
    refine zE Z (zR (cs:=#[i6_ a.n,str a.set,str a.rel]) 1 Z zN Z Z zI) (zB 2 Z (zE (v:=bo_ (a.inRel (os.getD ((k:Int).toNat) 0) x)) Z (qK Z xP Z zY (fun w1 hw1=>inRel_ok a (os.getD ((k:Int).toNat) 0) x w1 ha (by first | assumption | exact St.Els.at (by assumption) (by omega) (by omega)) (by first | assumption | exact St.Els.at (by assumption) (by omega) (by omega)))) (zE Z (zR (cs:=#[i6_ b.n,str b.set,str b.rel]) 0 Z zN Z Z zI) (zB 2 Z (zE (v:=bo_ (b.inRel (k:Int) (os.length:Int))) Z (qK Z xP Z zY (fun w1 hw1=>inRel_ok b (k:Int) (os.length:Int) w1 hb (by first | assumption | exact St.Els.at (by assumption) (by omega) (by omega)) (by first | assumption | exact St.Els.at (by assumption) (by omega) (by omega)))) (zE Z (jO Z yR Z Z) (zB 1 Z (zL (zD [3,4,5,9,32,33,34,58] [_,_,_,_,_,_,_,_] Z (yH (b:=(a.inRel (os.getD ((k:Int).toNat) 0) x) != (b.inRel (k:Int) (os.length:Int))) Z (fun h58=>?_) (fun h58=>?_)))))))))))
    ·
     refine zF (zC (zB 1 Z (zL (zD [8] [_] Z (qM (qO Z Z fun w' hw=>?_))))))
     first | exact ⟨ret_b (placed_head (.inl (by assumption))).symm,hw.below⟩ | exact ⟨ret_b (placed_head (.inr (by assumption))).symm,hw.below⟩ | exact ⟨ret_b (placed_no (k:=k) (by omega) (.inl (by simpa using hg48))).symm,hw.below⟩ | exact ⟨ret_b (placed_no (k:=k) (by omega) (.inr (by simpa using h58))).symm,hw.below⟩ | exact ⟨ret_b (placed_yes (by assumption) (by assumption) (fun i hi=>hall i (by omega))).symm,hw.below⟩
    refine qR (zD [3,4,5,9,32,33,34] [_,_,_,_,_,_,_] Z (zC (zE Z (qX Z Z Z (by omega) (by omega)) (zB 1 Z (zL (yA (k+1) ⟨by omega,fun i hi=>(Nat.lt_succ_iff_lt_or_eq.1 hi).elim (hall i) (fun e=>by subst e;exact ⟨by simpa using hg48,by simpa using h58⟩)⟩ (by omega) (Sub.sel [3,4,5,9,32,33,34] Z) (fun _ h=>h)))))))
   refine zG Z (zG Z (zG Z (zG Z (zG Z (zG Z (zG Z (zG Z (zG Z (zB 1 Z (zL (zD [3,4,5,9,32,33,34,58] [_,_,_,_,_,_,_,_] Z (jM Z (zF (zC (zB 1 Z (zL (zD [8] [_] Z (qM (qO Z Z fun w' hw=>?_)))))))))))))))))))
   first | exact ⟨ret_b (placed_head (.inl (by assumption))).symm,hw.below⟩ | exact ⟨ret_b (placed_head (.inr (by assumption))).symm,hw.below⟩ | exact ⟨ret_b (placed_no (k:=k) (by omega) (.inl (by simpa using hg48))).symm,hw.below⟩ | exact ⟨ret_b (placed_no (k:=k) (by omega) (.inr (by simpa using h58))).symm,hw.below⟩ | exact ⟨ret_b (placed_yes (by assumption) (by assumption) (fun i hi=>hall i (by omega))).symm,hw.below⟩
  replace h35:=zX h35;refine yV Z (zD [] [] Z (zF (zC (zB 1 Z (zL (zD [8] [_] Z (qM (qO Z Z fun w' hw=>?_))))))))
  first | exact ⟨ret_b (placed_head (.inl (by assumption))).symm,hw.below⟩ | exact ⟨ret_b (placed_head (.inr (by assumption))).symm,hw.below⟩ | exact ⟨ret_b (placed_no (k:=k) (by omega) (.inl (by simpa using hg48))).symm,hw.below⟩ | exact ⟨ret_b (placed_no (k:=k) (by omega) (.inr (by simpa using h58))).symm,hw.below⟩ | exact ⟨ret_b (placed_yes (by assumption) (by assumption) (fun i hi=>hall i (by omega))).symm,hw.below⟩
 refine zG Z (zG Z (zG Z (zG Z (zG Z (zG Z (zG Z (zG Z (zG Z (zB 1 Z (zL (zD [2,3,4,5,9,31] [_,_,_,_,_,_] Z (jM Z (zF (zC (zB 1 Z (zL (zD [8] [_] Z (qM (qO Z Z fun w' hw=>?_)))))))))))))))))))
 first | exact ⟨ret_b (placed_head (.inl (by assumption))).symm,hw.below⟩ | exact ⟨ret_b (placed_head (.inr (by assumption))).symm,hw.below⟩ | exact ⟨ret_b (placed_no (k:=k) (by omega) (.inl (by simpa using hg48))).symm,hw.below⟩ | exact ⟨ret_b (placed_no (k:=k) (by omega) (.inr (by simpa using h58))).symm,hw.below⟩ | exact ⟨ret_b (placed_yes (by assumption) (by assumption) (fun i hi=>hall i (by omega))).symm,hw.below⟩
set_option maxHeartbeats 400000 in
theorem place_zero (a b:St) {τ α:Type} (D:τ→α→List (Nat×Obj)) (okD:τ→α→Prop) (step:List Int→τ→τ×Bool) (tf:FuncId) (tcap:Array Value) (B:Nat) (w0:World) (hcf:∀ args w,(callFunc tf args).run Tryd.prog w=.ok (.enter tf args) w) (hT:Tells Tryd.prog tf tcap a b B w0 D okD step) (ha:a.Fine) (_hb:b.Fine) (hn:a.n=b.n) (pp po pt pb pa:Nat) (os:List Int) (t:τ) (al:α) (g cap:Nat) (cur:Array Value) (w:World) (hm:os.length+0=a.n.toNat) (hA:a.Els os) (hsm:sameB a os b (upto os.length)=true) (hok:okD t al) (hcg:cur.size=cap*1) (hlg:os.length≤cap) (htg:cur.toList.take os.length=ints os) (hw:Own B w0 (bk_ pp #[.func (.func 91) #[] #[pt_ po,pt_ pa,pt_ pt,pt_ pb,pt_ pp]] 73::bk_ po #[sl_ g os.length cap] 27::bk_ g cur 3::bk_ pt #[.func (.func tf) #[] tcap] 68::bk_ pb #[i6_ b.n,str b.set,str b.rel] 24::bk_ pa #[i6_ a.n,str a.set,str a.rel] 24::(D t al)) w) :
    Calls Tryd.prog 91 [pt_ po,pt_ pa,pt_ pt,pt_ pb,pt_ pp].toArray w fun en w'=>∃ (os':List Int) (g' cap':Nat) (cur':Array Value) (al':α),en=.returned (.bool (shS a b step 0 os t).2)∧okD (shS a b step 0 os t).1 al'∧((shS a b step 0 os t).2=true→os'=os)∧(cur'.size=cap'*1∧os'.length≤cap'∧cur'.toList.take os'.length=ints os')∧Own B w0 (bk_ pp #[.func (.func 91) #[] #[pt_ po,pt_ pa,pt_ pt,pt_ pb,pt_ pp]] 73::bk_ po #[sl_ g' os'.length cap'] 27::bk_ g' cur' 3::bk_ pt #[.func (.func tf) #[] tcap] 68::bk_ pb #[i6_ b.n,str b.set,str b.rel] 24::bk_ pa #[i6_ a.n,str a.set,str a.rel] 24::(D (shS a b step 0 os t).1 al')) w':=by
 refine fnStartC (Own B w0 (bk_ pp #[.func (.func 91) #[] #[pt_ po,pt_ pa,pt_ pt,pt_ pb,pt_ pp]] 73::bk_ po #[sl_ g os.length cap] 27::bk_ g cur 3::bk_ pt #[.func (.func tf) #[] tcap] 68::bk_ pb #[i6_ b.n,str b.set,str b.rel] 24::bk_ pa #[i6_ a.n,str a.set,str a.rel] 24::(D t al))) (n:=44) (e:=[(0,pt_ po),(1,pt_ pa),(2,pt_ pt),(3,pt_ pb),(4,pt_ pp)]) Tryd.func91 Z Z Z Z Ends.both hw ?_
 have hm8:=ha.hi
 have hm1:=ha.lo;refine zF (zC (zB 1 Z (zL (zD [0,1,2,3,4] [_,_,_,_,_] Z (zF (zC (zE Z (zQ 1 Z xK Z Z Z) (zE Z (OpQ.lenS Z zK Z) (zB 1 Z (zL (zD [0,1,2,3,4,6] [_,_,_,_,_,_] Z (zF (zF (zC (zB 1 Z (zE Z (zP Z zH Z zV Z Z) (zE Z (zQ 5 Z qG Z Z Z) (zB 1 Z (zL (zD [0,1,2,3,4,6,13] [_,_,_,_,_,_,_] Z (yH (b:=decide ((os.length:Int)=a.n)) Z (fun h13=>?_) (fun h13=>?_))))))))))))))))))))))
 ·
  replace h13:=qB h13;refine zF (zZ (qA Z (zQ 3 Z Tryd.isAgg68 Z Z Z) (qA Z (zQ 1 Z xK Z Z Z) (Ll.callFnGet (ok:=fun al'=>okD (step os t).1 al') (v:=fun _=>.bool (step os t).2) (hs':=fun al'=>([bk_ pp #[.func (.func 91) #[] #[pt_ po,pt_ pa,pt_ pt,pt_ pb,pt_ pp]] 73,bk_ po #[sl_ g os.length cap] 27,bk_ g cur 3,bk_ pt #[.func (.func tf) #[] tcap] 68,bk_ pb #[i6_ b.n,str b.set,str b.rel] 24,bk_ pa #[i6_ a.n,str a.set,str a.rel] 24]:List (Nat×Obj))++D (step os t).1 al') (xs:=[.tmp 15]) (vs:=[sl_ g os.length cap]) Z Z Z Z Z hcf Z (fun w1 hw1=>hT ([bk_ pp #[.func (.func 91) #[] #[pt_ po,pt_ pa,pt_ pt,pt_ pb,pt_ pp]] 73,bk_ po #[sl_ g os.length cap] 27,bk_ g cur 3,bk_ pt #[.func (.func tf) #[] tcap] 68,bk_ pb #[i6_ b.n,str b.set,str b.rel] 24,bk_ pa #[i6_ a.n,str a.set,str a.rel] 24]:List (Nat×Obj)) (sl_ g os.length cap) os t al w1 hok (fun w2 hw2=>(yK hw2 (i:=2) Z htg (by simp) hlg)) (by omega) hsm hA hw1) fun al16 hok2=>?_))))
  show Ll _ _ (Own _ _ (_::_::_::_::_::_::(D (step os t).1 al16))) _ _ ((16,bo_ ((step os t).2))::_) _ _ _;refine qL 1 Z (zM (zD [5] [_] Z (qM (qO Z Z fun w' hw=>?_))))
  exact ⟨os,g,cap,cur,al16,rfl,hok2,fun _=>rfl,⟨hcg,hlg,htg⟩,hw⟩
 replace h13:=zX h13
 exact absurd (by omega) h13
set_option maxHeartbeats 1000000 in
theorem place_of (a b:St) {τ α:Type} (D:τ→α→List (Nat×Obj)) (okD:τ→α→Prop) (step:List Int→τ→τ×Bool) (tf:FuncId) (tcap:Array Value) (B:Nat) (w0:World) (_hcf:∀ args w,(callFunc tf args).run Tryd.prog w=.ok (.enter tf args) w) (_hT:Tells Tryd.prog tf tcap a b B w0 D okD step) (ha:a.Fine) (hb:b.Fine) (hn:a.n=b.n) (pp po pt pb pa:Nat) (m:Nat) (ih:∀ (os:List Int) (t:τ) (al:α) (g cap:Nat) (cur:Array Value) (w:World) (_:os.length+m=a.n.toNat) (_:a.Els os) (_:sameB a os b (upto os.length)=true) (_:okD t al) (_:cur.size=cap*1) (_:os.length≤cap) (_:cur.toList.take os.length=ints os),Own B w0 (bk_ pp #[.func (.func 91) #[] #[pt_ po,pt_ pa,pt_ pt,pt_ pb,pt_ pp]] 73::bk_ po #[sl_ g os.length cap] 27::bk_ g cur 3::bk_ pt #[.func (.func tf) #[] tcap] 68::bk_ pb #[i6_ b.n,str b.set,str b.rel] 24::bk_ pa #[i6_ a.n,str a.set,str a.rel] 24::(D t al)) w→Calls Tryd.prog 91 #[pt_ po,pt_ pa,pt_ pt,pt_ pb,pt_ pp] w fun en w'=>∃ (os':List Int) (g' cap':Nat) (cur':Array Value) (al':α),en=.returned (.bool (shS a b step m os t).2)∧okD (shS a b step m os t).1 al'∧((shS a b step m os t).2=true→os'=os)∧(cur'.size=cap'*1∧os'.length≤cap'∧cur'.toList.take os'.length=ints os')∧Own B w0 (bk_ pp #[.func (.func 91) #[] #[pt_ po,pt_ pa,pt_ pt,pt_ pb,pt_ pp]] 73::bk_ po #[sl_ g' os'.length cap'] 27::bk_ g' cur' 3::bk_ pt #[.func (.func tf) #[] tcap] 68::bk_ pb #[i6_ b.n,str b.set,str b.rel] 24::bk_ pa #[i6_ a.n,str a.set,str a.rel] 24::(D (shS a b step m os t).1 al')) w') (os:List Int) (t:τ) (al:α) (g cap:Nat) (cur:Array Value) (w:World) (hm:os.length+(m+1)=a.n.toNat) (hA:a.Els os) (hsm:sameB a os b (upto os.length)=true) (hok:okD t al) (hcg:cur.size=cap*1) (hlg:os.length≤cap) (htg:cur.toList.take os.length=ints os) (hw:Own B w0 (bk_ pp #[.func (.func 91) #[] #[pt_ po,pt_ pa,pt_ pt,pt_ pb,pt_ pp]] 73::bk_ po #[sl_ g os.length cap] 27::bk_ g cur 3::bk_ pt #[.func (.func tf) #[] tcap] 68::bk_ pb #[i6_ b.n,str b.set,str b.rel] 24::bk_ pa #[i6_ a.n,str a.set,str a.rel] 24::(D t al)) w) :
    Calls Tryd.prog 91 [pt_ po,pt_ pa,pt_ pt,pt_ pb,pt_ pp].toArray w fun en w'=>∃ (os':List Int) (g' cap':Nat) (cur':Array Value) (al':α),en=.returned (.bool (shS a b step (m+1) os t).2)∧okD (shS a b step (m+1) os t).1 al'∧((shS a b step (m+1) os t).2=true→os'=os)∧(cur'.size=cap'*1∧os'.length≤cap'∧cur'.toList.take os'.length=ints os')∧Own B w0 (bk_ pp #[.func (.func 91) #[] #[pt_ po,pt_ pa,pt_ pt,pt_ pb,pt_ pp]] 73::bk_ po #[sl_ g' os'.length cap'] 27::bk_ g' cur' 3::bk_ pt #[.func (.func tf) #[] tcap] 68::bk_ pb #[i6_ b.n,str b.set,str b.rel] 24::bk_ pa #[i6_ a.n,str a.set,str a.rel] 24::(D (shS a b step (m+1) os t).1 al')) w':=by
 refine fnStartC (Own B w0 (bk_ pp #[.func (.func 91) #[] #[pt_ po,pt_ pa,pt_ pt,pt_ pb,pt_ pp]] 73::bk_ po #[sl_ g os.length cap] 27::bk_ g cur 3::bk_ pt #[.func (.func tf) #[] tcap] 68::bk_ pb #[i6_ b.n,str b.set,str b.rel] 24::bk_ pa #[i6_ a.n,str a.set,str a.rel] 24::(D t al))) (n:=44) (e:=[(0,pt_ po),(1,pt_ pa),(2,pt_ pt),(3,pt_ pb),(4,pt_ pp)]) Tryd.func91 Z Z Z Z Ends.both hw ?_
 have hm8:=ha.hi
 have hm1:=ha.lo;refine zF (zC (zB 1 Z (zL (zD [0,1,2,3,4] [_,_,_,_,_] Z (zF (zC (zE Z (zQ 1 Z xK Z Z Z) (zE Z (OpQ.lenS Z zK Z) (zB 1 Z (zL (zD [0,1,2,3,4,6] [_,_,_,_,_,_] Z (zF (zF (zC (zB 1 Z (zE Z (zP Z zH Z zV Z Z) (zE Z (zQ 5 Z qG Z Z Z) (zB 1 Z (zL (zD [0,1,2,3,4,6,13] [_,_,_,_,_,_,_] Z (yH (b:=decide ((os.length:Int)=a.n)) Z (fun h13=>?_) (fun h13=>?_))))))))))))))))))))))
 ·
  replace h13:=qB h13
  exact absurd h13 (by omega)
 replace h13:=zX h13;refine qR (zD [0,1,3,4,6] [_,_,_,_,_] Z (zF (zF (zC (zE Z (zP Z zH Z zV Z Z) (zE Z (zQ 5 Z qG Z Z Z) (zB 1 Z (zL (zD [0,1,3,4,6,18,19] [_,_,_,_,_,_,_] Z (qQ (yZ (σ:=Nat×Nat×Nat×Array Value×τ×α) (fun ⟨k,g1,cap1,cur1,t1,al1⟩=>(k:Int)≤a.n∧shLoop (shF a b (shS a b step m) os) k t=(t1,true)∧okD t1 al1∧(cur1.size=cap1*1∧os.length≤cap1∧cur1.toList.take os.length=ints os)) (fun ⟨k,g1,cap1,cur1,t1,al1⟩=>[(0,pt_ po),(1,pt_ pa),(3,pt_ pb),(4,pt_ pp),(6,i6_ (os.length:Int)),(18,i6_ a.n),(19,i6_ (k:Int))]) (fun ⟨k,g1,cap1,cur1,t1,al1⟩=>Own B w0 (bk_ pp #[.func (.func 91) #[] #[pt_ po,pt_ pa,pt_ pt,pt_ pb,pt_ pp]] 73::bk_ po #[sl_ g1 os.length cap1] 27::bk_ g1 cur1 3::bk_ pt #[.func (.func tf) #[] tcap] 68::bk_ pb #[i6_ b.n,str b.set,str b.rel] 24::bk_ pa #[i6_ a.n,str a.set,str a.rel] 24::(D t1 al1))) (fun ⟨k,g1,cap1,cur1,t1,al1⟩=>(a.n - k).toNat) (0,g,cap,cur,t,al) ⟨by omega,rfl,hok,⟨hcg,hlg,htg⟩⟩ (Sub.sel [0,1,3,4,6,18,19] Z) (fun _ h=>h) ?_)))))))))))
 rintro ⟨k,g1,cap1,cur1,t1,al1⟩ ⟨hk,hlp,hok1,⟨hcg1,hlg1,htg1⟩⟩
 dsimp only;refine zF (zC (zB 1 Z (zL (zD [0,1,3,4,6,18,19,20] [_,_,_,_,_,_,_,_] Z (zF (yH (b:=decide ((k:Int)<a.n)) Z (fun h20=>?_) (fun h20=>?_)))))))
 ·
  replace h20:=qB h20
  have hx:a.El (k:Int):=⟨by omega,by omega⟩
  have hbi:b.El (os.length:Int):=⟨by omega,by omega⟩;refine qR (zD [0,1,3,4,6,18,19] [_,_,_,_,_,_,_] Z (zF (qQ (zF (zC (zB 2 Z (zL (zD [0,1,3,4,6,7,18,19] [_,_,_,_,_,_,_,_] Z (zF (zF (zC (zE Z (zQ 1 Z xK Z Z Z) (zB 1 Z (zE (v:=bo_ (decide ((k:Int)∈os))) Z (qK Z Tryd.call74 Z zY (fun w1 hw1=>contains_ok (sl_ g1 os.length cap1) os (k:Int) w1 (yK hw1 (i:=2) Z htg1 (by simp) hlg1) (by omega))) (zB 1 Z (yU fun b25 hg25=>?_))))))))))))))))
  cases b25
  ·
   replace hg25:=zX hg25;refine zE Z (zR (cs:=#[i6_ a.n,str a.set,str a.rel]) 5 Z zN Z Z zI) (zE Z (zR (cs:=#[i6_ b.n,str b.set,str b.rel]) 4 Z zN Z Z zI) (zE Z (zQ 1 Z xK Z Z Z) (zB 1 Z (zE (v:=bo_ (placedB a b os (k:Int))) Z (qK Z Tryd.call92 Z zY (fun w1 hw1=>placed_ok a b (sl_ g1 os.length cap1) os (k:Int) w1 ha hb (yK hw1 (i:=2) Z htg1 (by simp) hlg1) (by omega) hA hx hbi)) (zB 2 Z (zL (zD [0,1,3,4,6,7,18,19,32] [_,_,_,_,_,_,_,_,_] Z (yH (b:=!(placedB a b os (k:Int))) Z (fun h32=>?_) (fun h32=>?_)))))))))
   ·
    replace h32:=not_true h32
    have hno:¬ stillB a os b (upto os.length) (k:Int) os.length=true:=by
     rw [still_placed];simp_all
    refine yV Z (zD [0,1,3,4,6,18,19] [_,_,_,_,_,_,_] Z (zC (zE Z (qX Z Z Z (by omega) (by omega)) (zB 1 Z (zL (yA (k+1,g1,cap1,cur1,t1,al1) ⟨by omega,by rw [shLoop_step hlp,shF,if_neg hno],hok1,⟨hcg1,hlg1,htg1⟩⟩ (by omega) (Sub.sel [0,1,3,4,6,18,19] Z) (fun _ h=>h)))))))
   replace h32:=not_false h32
   have hst:stillB a os b (upto os.length) (k:Int) os.length=true:=by
    rw [still_placed];simp_all
   refine qR (zD [0,1,3,4,6,7,18,19] [_,_,_,_,_,_,_,_] Z (zF (zZ (qA Z (zQ 1 Z xK Z Z Z) (qL 1 Z (yE (xs:=[.tmp 34]) (vs:=[i6_ (k:Int)]) qH Z Z Z Z Z Z (by decide) Z fun p35 hp35=>(yB (xs:=os) (ys:=[(k:Int)]) qH 3 Z Z Z Z Z Z Z hcg1 hlg1 htg1 (fun w1 hw1=>(yK hw1 (i:=0) Z (n:=1) (cap:=1) (vs:=ints [(k:Int)]) Z Z (by decide))) ((os++([(k:Int)])).length) (by first | (simp;done) | (simp;omega)) (by first | (simp;done) | (simp;omega) | omega) fun p36 cap36 cur36 hp36 hcp36 hlp36 htp36=>?_)))))))
   show Ll _ _ (Own _ _ (_::_::_::_::_::_::_::(D t1 al1))) _ _ ((36,sl_ p36 (((os++([(k:Int)])).length)) cap36)::_) _ _ _;refine qU (v:=sl_ p36 (((os++([(k:Int)])).length)) cap36) (hs':=(_::_::bk_ po #[sl_ p36 (((os++([(k:Int)])).length)) cap36] 27::_::_::_::_::(D t1 al1))) 2 Z Z Z Z Z Z jC Z (by simp) Z (zM (zD [0,1,3,4,6,18,19] [_,_,_,_,_,_,_] Z (zF (zF (zZ (qA Z (zQ 1 Z Tryd.isAgg73 Z Z Z) (Ll.callFnGet (σ:=List Int×Nat×Nat×Array Value×α) (ok:=fun (os',_,cap',cur',al')=>okD (shS a b step m (os++[(k:Int)]) t1).1 al'∧((shS a b step m (os++[(k:Int)]) t1).2=true→os'=os++[(k:Int)])∧(cur'.size=cap'*1∧os'.length≤cap'∧cur'.toList.take os'.length=ints os')) (v:=fun _=>.bool (shS a b step m (os++[(k:Int)]) t1).2) (hs':=fun (os',g',cap',cur',al')=>(bk_ pp #[.func (.func 91) #[] #[pt_ po,pt_ pa,pt_ pt,pt_ pb,pt_ pp]] 73::bk_ po #[sl_ g' os'.length cap'] 27::bk_ g' cur' 3::bk_ pt #[.func (.func tf) #[] tcap] 68::bk_ pb #[i6_ b.n,str b.set,str b.rel] 24::bk_ pa #[i6_ a.n,str a.set,str a.rel] 24::(D (shS a b step m (os++[(k:Int)]) t1).1 al'))) (xs:=[]) (vs:=[]) Z Z Z Z Z Tryd.call91 Z (fun w1 hw1=>(ih (os++[(k:Int)]) t1 al1 p36 cap36 cur36 w1 (by simp;omega) (els_more hA hx) (same_grown hsm hst) hok1 hcp36 hlp36 (by simpa using (by simpa using htp36)) (hw1.sub (zU _ (zA _ (zA _ (zA _ (zA _ (zA _ (zA _ (qC _)))))))))).mono fun en w' ⟨os',g',cap',cur',al',h1,h2,h3,h4,h5⟩=>⟨(os',g',cap',cur',al'),h1,⟨h2,h3,h4⟩,h5⟩) fun ⟨os38,g38,cap38,cur38,al38⟩ ⟨hok2,hos2,hcg2,hlg2,htg2⟩=>?_)))))))
   show Ll _ _ (Own _ _ (_::_::_::_::_::_::((D (shS a b step m (os++[(k:Int)]) t1).1 al38)))) _ _ ((38,bo_ ((shS a b step m (os++[(k:Int)]) t1).2))::_) _ _ _;refine qL 1 Z (zM (zD [0,1,3,4,6,18,19,39] [_,_,_,_,_,_,_,_] Z (yH (b:=!((shS a b step m (os++[(k:Int)]) t1).2)) Z (fun h39=>?_) (fun h39=>?_))))
   ·
    replace h39:=not_true h39;refine zF (zC (zB 1 Z (zL (zD [5] [_] Z (qM (qO Z Z fun w' hw=>?_))))))
    have hfin:shS a b step (m+1) os t=shS a b step m (os++[(k:Int)]) t1:=by
     show shLoop _ a.n.toNat t=_
     have h8:shLoop (shF a b (shS a b step m) os) (k+1) t=shS a b step m (os++[(k:Int)]) t1:=by rw [shLoop_step hlp,shF,if_pos hst]
     rw [shLoop_stop (k:=k+1) (by rw [h8];assumption) _ (by omega),h8]
    refine ⟨os38,g38,cap38,cur38,al38,?_,?_,?_,⟨hcg2,hlg2,htg2⟩,?_⟩
    · rw [hfin];congr 2;exact (by assumption:_=false).symm
    · rw [hfin];exact hok2
    · rw [hfin];intro h;simp_all
    · rw [hfin];exact hw
   replace h39:=not_false h39
   have hose:=hos2 (by first | assumption | (simp_all;done))
   have hosl:os38.length=os.length+1:=by rw [hose];simp
   refine qR (zD [0,1,3,4,6,18,19] [_,_,_,_,_,_,_] Z (zZ (qA Z (zQ 1 Z xK Z Z Z) (qL 1 Z (qA (v:=sl_ g38 ((os.length:Int).toNat) cap38) Z (OpQ.takeS (i:=(os.length:Int)) Z zK zV Z Z (by omega) (by omega)) (qU (v:=sl_ g38 ((os.length:Int).toNat) cap38) (hs':=(_::bk_ po #[sl_ g38 ((os.length:Int).toNat) cap38] 27::_::_::_::_::((D (shS a b step m (os++[(k:Int)]) t1).1 al38)))) 1 Z Z Z Z Z Z jC Z (by simp) Z (zM (zD [0,1,3,4,6,18,19] [_,_,_,_,_,_,_] Z (zC (zE Z (qX Z Z Z (by omega) (by omega)) (zB 1 Z (zL (yA ((k+1,g38,cap38,cur38,(shS a b step m (os++[(k:Int)]) t1).1,al38)) ⟨by omega,by rw [shLoop_step hlp,shF,if_pos hst];exact Prod.ext Z (by assumption),hok2,⟨by simpa using hcg2,by have:=hlg2;rw [hose] at this;simp at this;dsimp only;omega,by dsimp only;have h9:=congrArg (List.take os.length) htg2;rw [hose,List.take_take,zJ,Nat.min_eq_left (by omega)] at h9;rw [h9];simp [ints]⟩⟩ (by omega) (Sub.sel [0,1,3,4,6,18,19] Z) (fun _ h=>by simpa using h))))))))))))))
  replace hg25:=qB hg25
  have hno:¬ stillB a os b (upto os.length) (k:Int) os.length=true:=by
   rw [still_placed];simp_all
  refine zG Z (zG Z (zG Z (zG Z (zG Z (zG Z (zB 1 Z (zL (zD [0,1,3,4,6,7,18,19,32] [_,_,_,_,_,_,_,_,_] Z (jM Z (yV Z (zD [0,1,3,4,6,18,19] [_,_,_,_,_,_,_] Z (zC (zE Z (qX Z Z Z (by omega) (by omega)) (zB 1 Z (zL (yA (k+1,g1,cap1,cur1,t1,al1) ⟨by omega,by rw [shLoop_step hlp,shF,if_neg hno],hok1,⟨hcg1,hlg1,htg1⟩⟩ (by omega) (Sub.sel [0,1,3,4,6,18,19] Z) (fun _ h=>h)))))))))))))))))
 replace h20:=zX h20;refine yV Z (zD [] [] Z (zF (zC (zB 1 Z (zL (zD [5] [_] Z (qM (qO Z Z fun w' hw=>?_))))))))
 have hfin:shS a b step (m+1) os t=(t1,true):=by
  show shLoop _ a.n.toNat t=_
  rw [show a.n.toNat=k from by omega];exact hlp
 exact ⟨os,g1,cap1,cur1,al1,by rw [hfin],by rw [hfin];exact hok1,fun _=>rfl,⟨hcg1,hlg1,htg1⟩,by rw [hfin];exact hw⟩
theorem place_ok (a b:St) {τ α:Type} (D:τ→α→List (Nat×Obj)) (okD:τ→α→Prop) (step:List Int→τ→τ×Bool) (tf:FuncId) (tcap:Array Value) (B:Nat) (w0:World) (hcf:∀ args w,(callFunc tf args).run Tryd.prog w=.ok (.enter tf args) w) (hT:Tells Tryd.prog tf tcap a b B w0 D okD step) (ha:a.Fine) (hb:b.Fine) (hn:a.n=b.n) (pp po pt pb pa:Nat):∀ m:Nat,∀ (os:List Int) (t:τ) (al:α) (g cap:Nat) (cur:Array Value) (w:World) (_:os.length+m=a.n.toNat) (_:a.Els os) (_:sameB a os b (upto os.length)=true) (_:okD t al) (_:cur.size=cap*1) (_:os.length≤cap) (_:cur.toList.take os.length=ints os),Own B w0 (bk_ pp #[.func (.func 91) #[] #[pt_ po,pt_ pa,pt_ pt,pt_ pb,pt_ pp]] 73::bk_ po #[sl_ g os.length cap] 27::bk_ g cur 3::bk_ pt #[.func (.func tf) #[] tcap] 68::bk_ pb #[i6_ b.n,str b.set,str b.rel] 24::bk_ pa #[i6_ a.n,str a.set,str a.rel] 24::(D t al)) w→Calls Tryd.prog 91 #[pt_ po,pt_ pa,pt_ pt,pt_ pb,pt_ pp] w fun en w'=>∃ (os':List Int) (g' cap':Nat) (cur':Array Value) (al':α),en=.returned (.bool (shS a b step m os t).2)∧okD (shS a b step m os t).1 al'∧((shS a b step m os t).2=true→os'=os)∧(cur'.size=cap'*1∧os'.length≤cap'∧cur'.toList.take os'.length=ints os')∧Own B w0 (bk_ pp #[.func (.func 91) #[] #[pt_ po,pt_ pa,pt_ pt,pt_ pb,pt_ pp]] 73::bk_ po #[sl_ g' os'.length cap'] 27::bk_ g' cur' 3::bk_ pt #[.func (.func tf) #[] tcap] 68::bk_ pb #[i6_ b.n,str b.set,str b.rel] 24::bk_ pa #[i6_ a.n,str a.set,str a.rel] 24::(D (shS a b step m os t).1 al')) w'
  | 0,os,t,al,g,cap,cur,w,h1,h2,h3,h4,h5,h6,h7,hw=>place_zero a b D okD step tf tcap B w0 hcf hT ha hb hn pp po pt pb pa os t al g cap cur w h1 h2 h3 h4 h5 h6 h7 hw
  | m+1,os,t,al,g,cap,cur,w,h1,h2,h3,h4,h5,h6,h7,hw=>place_of a b D okD step tf tcap B w0 hcf hT ha hb hn pp po pt pb pa m (place_ok a b D okD step tf tcap B w0 hcf hT ha hb hn pp po pt pb pa m) os t al g cap cur w h1 h2 h3 h4 h5 h6 h7 hw
set_option maxHeartbeats 400000 in
theorem eachShape_ok (a b:St) {τ α:Type} (D:τ→α→List (Nat×Obj)) (okD:τ→α→Prop) (step:List Int→τ→τ×Bool) (tf:FuncId) (tcap:Array Value) (B:Nat) (w0:World) (hcf:∀ args w,(callFunc tf args).run Tryd.prog w=.ok (.enter tf args) w) (hT:Tells Tryd.prog tf tcap a b B w0 D okD step) (ha:a.Fine) (hb:b.Fine) (hn:a.n=b.n) (t:τ) (al:α) (w:World) (hok:okD t al) (hw:Own B w0 (D t al) w) :
    Calls Tryd.prog 53 [vS a,vS b,.func (.func tf) #[] tcap].toArray w fun en w'=>∃ al':α,en=.returned (.tuple #[])∧okD (shS a b step a.n.toNat [] t).1 al'∧Own B w0 (D (shS a b step a.n.toNat [] t).1 al') w':=by
 refine fnStartC (Own B w0 (D t al)) (n:=12) (e:=[(0,vS a),(1,vS b),(2,.func (.func tf) #[] tcap)]) Tryd.func53 Z Z Z Z Ends.both hw (zF (zZ (yP (v:=vS a) Z Z Z Z Z fun p3 hp3=>?_)))
 show Ll _ _ (Own _ _ (_::(D t al))) _ _ ((3,pt_ p3)::_) _ _ _;refine yP (v:=vS b) Z Z Z Z Z fun p4 hp4=>?_
 show Ll _ _ (Own _ _ (_::_::(D t al))) _ _ ((4,pt_ p4)::_) _ _ _;refine yP (v:=.func (.func tf) #[] tcap) Z Z Z Z Z fun p5 hp5=>?_
 show Ll _ _ (Own _ _ (_::_::_::(D t al))) _ _ ((5,pt_ p5)::_) _ _ _;refine zM (zD [3,4,5] [_,_,_] Z (zF (zZ (yE (xs:=[]) (vs:=[]) qH Z Z Z Z Z Z (by decide) Z fun p8 hp8=>(xB Z Z Z Z Tryd.zeroValue27 fun p6 hp6=>?_)))))
 show Ll _ _ (Own _ _ (bk_ p6 #[.slice none 0 0] 27::_::_::_::_::(D t al))) _ _ ((6,pt_ p6)::_) _ _ _;refine qU (v:=sl_ p8 0 0) (hs':=(bk_ p6 #[sl_ p8 0 0] 27::_::_::_::_::(D t al))) 0 Z Z Z Z Z Z jC Z (by simp) Z (zM (zD [3,4,5,6] [_,_,_,_] Z (zF (zZ (xB Z Z Z Z Tryd.zeroValue73 fun p7 hp7=>?_)))))
 show Ll _ _ (Own _ _ (bk_ p7 #[.nilFunc] 73::_::_::_::_::_::(D t al))) _ _ ((7,pt_ p7)::_) _ _ _;refine zM (zD [3,4,5,6,7] [_,_,_,_,_] Z (zF (zZ (qA (v:=.func (.func 91) #[] #[pt_ p6,pt_ p3,pt_ p5,pt_ p4,pt_ p7]) Z (OpQ.func' (cap:=[.tmp 6,.tmp 3,.tmp 5,.tmp 4,.tmp 7]) Z Z) (qU (v:=.func (.func 91) #[] #[pt_ p6,pt_ p3,pt_ p5,pt_ p4,pt_ p7]) (hs':=(bk_ p7 #[.func (.func 91) #[] #[pt_ p6,pt_ p3,pt_ p5,pt_ p4,pt_ p7]] 73::_::_::_::_::_::(D t al))) 0 Z Z Z Z Z Z Tryd.sizeOf73 Z (by simp) Z (zM (zD [7] [_] Z (zZ (qA Z (zQ 0 Z Tryd.isAgg73 Z Z Z) (Ll.callFnGet (σ:=List Int×Nat×Nat×Array Value×α) (ok:=fun (os',_,cap',cur',al')=>okD (shS a b step a.n.toNat [] t).1 al') (v:=fun _=>.bool (shS a b step a.n.toNat [] t).2) (hs':=fun (os',g',cap',cur',al')=>(bk_ p7 #[.func (.func 91) #[] #[pt_ p6,pt_ p3,pt_ p5,pt_ p4,pt_ p7]] 73::bk_ p6 #[sl_ g' os'.length cap'] 27::bk_ g' cur' 3::bk_ p5 #[.func (.func tf) #[] tcap] 68::bk_ p4 #[i6_ b.n,str b.set,str b.rel] 24::bk_ p3 #[i6_ a.n,str a.set,str a.rel] 24::(D (shS a b step a.n.toNat [] t).1 al'))) (xs:=[]) (vs:=[]) Z Z Z Z Z Tryd.call91 Z (fun w1 hw1=>(place_ok a b D okD step tf tcap B w0 hcf hT ha hb hn p7 p6 p5 p4 p3 a.n.toNat [] t al p8 0 #[] w1 (by simp) (fun x hx=>by cases hx) Z hok Z (Nat.le_refl 0) Z hw1).mono fun en w' ⟨os',g',cap',cur',al',h1,h2,h3,h4,h5⟩=>⟨(os',g',cap',cur',al'),h1,h2,h5⟩) fun ⟨os9,g9,cap9,cur9,al11⟩ hok9=>?_))))))))))
 show Ll _ _ (Own _ _ (_::_::_::_::_::_::(D (shS a b step a.n.toNat [] t).1 al11))) _ _ ((11,bo_ ((shS a b step a.n.toNat [] t).2))::_) _ _ _;refine zM (Kt.end0 Z fun w' hw=>?_)
 exact ⟨al11,rfl,hok9,qF (f:=[_,_,_,_,_,_]) hw⟩
set_option maxHeartbeats 400000 in
theorem keepFirst_ok (B:Nat) (w0:World) (pf:Nat) (fv:Value) (fr:List (Nat×Obj)) (v:Value) (os:List Int) (w:World) (hva:∀ w,Own B w0 ((pf,.cells #[fv] 27 (0,0))::fr) w→Ints w v os) (hs:os.length≤8) (hw:Own B w0 ((pf,.cells #[fv] 27 (0,0))::fr) w) :
    Calls Tryd.prog 54 [v,pt_ pf].toArray w fun en w'=>∃ g c:Nat,en=.returned (.bool false)∧Own B w0 ((pf,.cells #[.slice (some ⟨g,0,none⟩) os.length c] 27 (0,0))::fr) w':=by
 refine fnStartC (Own B w0 ((pf,.cells #[fv] 27 (0,0))::fr)) (n:=7) (e:=[(0,v),(1,pt_ pf)]) Tryd.func54 Z Z Z Z Ends.both hw (zF (zC (zB 1 Z (zL (zD [0,1] [_,_] Z (zF (zZ (yE (xs:=[]) (vs:=[]) qH Z Z Z Z Z Z (by decide) Z fun p4 hp4=>(qL 1 Z (yB (xs:=[]) (ys:=os) qH 0 Z Z Z Z Z Z Z Z (by decide) Z (fun w1 hw1=>(hva _ (qF (f:=[_]) hw1))) ((os).length) (by first | (simp;done) | (simp;omega)) (by first | (simp;done) | (simp;omega) | omega) fun p6 cap6 cur6 hp6 hcp6 hlp6 htp6=>?_))))))))))
 show Ll _ _ (Own _ _ (_::_::fr)) _ _ ((6,sl_ p6 ((os).length) cap6)::_) _ _ _;refine qU (v:=sl_ p6 ((os).length) cap6) (hs':=(_::bk_ pf #[sl_ p6 ((os).length) cap6] 27::fr)) 1 Z Z Z Z Z Z jC Z (by simp) Z (zM (zD [] [] Z (zF (zC (zB 1 Z (zL (zD [3] [_] Z (qM (qO Z Z fun w' hw=>?_)))))))))
 exact ⟨p6,cap6,rfl,hw.sub (zU _ (zA _ (qC _)))⟩
theorem keepTells (a b:St) (B:Nat) (w0:World) (pf:Nat) (rest:List (Nat×Obj)) (hn:a.n≤8):Tells Tryd.prog 54 #[.pointer (some ⟨pf,0,none⟩)] a b B w0 (fun (o:Option (List Int)) (al:Nat×Nat)=>(pf,.cells #[fndV o al] 27 (0,0))::rest) (fun _ _=>True) keepStep:=by
  intro fr v os t al w _ hv hl _ _ hw
  refine (keepFirst_ok B w0 pf (fndV t al) (fr++rest) v os w (fun w h=>hv w (xJ (qF (f:=[_]) h))) (by omega) (hw.perm List.perm_middle)).mono fun en w' ⟨g,c,h1,h2⟩=>?_
  exact ⟨(g,c),h1,trivial,h2.perm List.perm_middle.symm⟩
set_option maxHeartbeats 400000 in
theorem iShape_ok (a b:St) (w:World) (hsa:a.Small) (hsb:b.Small) :
    Calls Tryd.prog 18 [vS a,vS b].toArray w fun en w'=>∃ (v:Value) (y:Bool),en=.returned (.tuple #[v,.bool y])∧(y=true→Shaped a b)∧Below w.heap.size w w':=by
 refine fnStart (n:=29) (e:=[(0,vS a),(1,vS b)]) Tryd.func18 Z Z Z Z Ends.both (zF (zZ (yP (v:=vS a) Z Z Z Z Z fun p2 hp2=>?_)))
 show Ll _ _ (Own _ _ [_]) _ _ ((2,pt_ p2)::_) _ _ _;refine yP (v:=vS b) Z Z Z Z Z fun p3 hp3=>?_
 show Ll _ _ (Own _ _ [_,_]) _ _ ((3,pt_ p3)::_) _ _ _;refine qL 2 Z (zM (zD [2,3] [_,_] Z (zF (zF (zC (zE Z (zR (cs:=#[i6_ a.n,str a.set,str a.rel]) 1 Z zN Z Z zI) (zE (v:=bo_ (validB a)) Z (qK Z Tryd.call34 Z zY (fun w1 hw1=>isStructure_ok a w1 hsa)) (zB 2 Z (yU fun b10 hg10=>?_)))))))))
 cases b10
 ·
  replace hg10:=not_false hg10;refine zE Z (zR (cs:=#[i6_ b.n,str b.set,str b.rel]) 0 Z zN Z Z zI) (zE (v:=bo_ (validB b)) Z (qK Z Tryd.call34 Z zY (fun w1 hw1=>isStructure_ok b w1 hsb)) (zB 3 Z (yU fun b15 hg15=>?_)))
  cases b15
  ·
   replace hg15:=not_false hg15;refine zE Z (zP Z zH Z zV Z Z) (zE Z (zQ 1 Z qG Z Z Z) (zE Z (zP Z zH Z zV Z Z) (zE Z (zQ 0 Z qG Z Z Z) (zB 2 Z (zL (zD [2,3,21] [_,_,_] Z (yH (b:=!(decide (a.n=b.n))) Z (fun h21=>?_) (fun h21=>?_))))))))
   ·
    replace h21:=not_true h21
    replace h21:=zX h21;refine zF (zC (zB 2 Z (zL (zD [4,5] [_,_] Z (qM (jP Z Z Z fun w' hw=>?_))))))
    exact ⟨_,false,rfl,(fun (h:false=true)=>by cases h),hw.below⟩
   replace h21:=not_false h21
   replace h21:=qB h21
   have hva:validB a=true:=by simp_all
   have hvb:validB b=true:=by simp_all
   have ha:=validB_fine hva
   have hb:=validB_fine hvb
   have hn:a.n=b.n:=by omega
   refine qR (zD [2,3] [_,_] Z (zF (zZ (xB Z Z Z Z Tryd.zeroValue27 fun p6 hp6=>?_))))
   show Ll _ _ (Own _ _ [bk_ p6 #[.slice none 0 0] 27,_,_]) _ _ ((6,pt_ p6)::_) _ _ _;refine zM (zD [2,3,6] [_,_,_] Z (zF (zZ (qA Z (zR (cs:=#[i6_ a.n,str a.set,str a.rel]) 2 Z zN Z Z zI) (qA Z (zR (cs:=#[i6_ b.n,str b.set,str b.rel]) 1 Z zN Z Z zI) (qA (v:=.func (.func 54) #[] #[pt_ p6]) Z (OpQ.func' (cap:=[.tmp 6]) Z Z) (Ll.callGet (σ:=Nat×Nat) (ok:=fun _=>True) (v:=fun _=>.tuple #[]) (hs':=fun al=>(p6,.cells #[fndV (shS a b keepStep a.n.toNat [] none).1 al] 27 (0,0))::([bk_ p3 #[i6_ b.n,str b.set,str b.rel] 24,bk_ p2 #[i6_ a.n,str a.set,str a.rel] 24]:List (Nat×Obj))) (xs:=[.tmp 22,.tmp 23,.tmp 24]) (vs:=[vS a,vS b,.func (.func 54) #[] #[pt_ p6]]) Z Z Z Z Tryd.call53 Z (fun w1 hw1=>(eachShape_ok a b (fun (o:Option (List Int)) (al:Nat×Nat)=>(p6,.cells #[fndV o al] 27 (0,0))::([bk_ p3 #[i6_ b.n,str b.set,str b.rel] 24,bk_ p2 #[i6_ a.n,str a.set,str a.rel] 24]:List (Nat×Obj))) (fun _ _=>True) keepStep 54 #[.pointer (some ⟨p6,0,none⟩)] _ _ Tryd.call54 (keepTells a b _ _ p6 ([bk_ p3 #[i6_ b.n,str b.set,str b.rel] 24,bk_ p2 #[i6_ a.n,str a.set,str a.rel] 24]:List (Nat×Obj)) ha.hi) ha hb hn none (0,0) w1 trivial hw1).mono fun en w' ⟨al,h1,_,h2⟩=>⟨al,h1,trivial,h2⟩) fun al _=>?_)))))))
   show Ll _ _ (Own _ _ [_,_,_]) _ _ _ _ _ _;refine zM (zD [6] [_] Z (zF (xV qZ (fun _ h=>h.drawn) (by kernel_rfl) (zE Z (zQ 0 Z xK Z Z Z) (zE Z (zQ 0 Z xK Z Z Z) (zE (v:=bo_ (!((shS a b keepStep a.n.toNat [] none).1.map fun _=>(⟨al.1,0,none⟩:Addr)).isNone)) Z (OpQ.neNilS Z Tryd.underlying27 Z Z) (zB 2 Z (zL (zD [4,5] [_,_] Z (qM (jP Z Z Z fun w' hw=>?_)))))))))))
   exact ⟨_,(!((shS a b keepStep a.n.toNat [] none).1.map fun _=>(⟨al.1,0,none⟩:Addr)).isNone),rfl,fun h=>keep_shaped ha hb h hn,hw.below⟩
  replace hg15:=not_true hg15;refine zG Z (zG Z (zG Z (zG Z (zG Z (zB 1 Z (zL (zD [2,3,21] [_,_,_] Z (jM Z (zF (zC (zB 2 Z (zL (zD [4,5] [_,_] Z (qM (jP Z Z Z fun w' hw=>?_)))))))))))))))
  exact ⟨_,false,rfl,(fun (h:false=true)=>by cases h),hw.below⟩
 replace hg10:=not_true hg10;refine zG Z (zG Z (zG Z (zB 2 Z (zG Z (zG Z (zG Z (zG Z (zG Z (zB 1 Z (zL (zD [2,3,21] [_,_,_] Z (jM Z (zF (zC (zB 2 Z (zL (zD [4,5] [_,_] Z (qM (jP Z Z Z fun w' hw=>?_)))))))))))))))))))
 exact ⟨_,false,rfl,(fun (h:false=true)=>by cases h),hw.below⟩
end Go.Proofs.YtagbocafnliabaaDoor
namespace Go.Proofs.YtagbocafnliabaaDoor
open Go.RowKit Go.Wk
set_option linter.unusedSimpArgs false
set_option maxHeartbeats 400000 in
theorem bitD_ok (b:Bool) (w:World) :
    Calls Tryd.prog 118 [bo_ b].toArray w fun en w'=>en=.returned (str (if b then [49] else [48]))∧Below w.heap.size w w':=by
 refine fnStart (n:=4) (e:=[(0,bo_ b)]) Tryd.func118 Z Z Z Z Ends.both (zF (zC (zE (v:=str ([])) Z (jD Z Z) (zL (zD [0] [_] Z (zF (zF (zC (zB 1 Z (zL (zD [3] [_] Z (yH (b:=b) Z (fun h3=>?_) (fun h3=>?_)))))))))))))
 ·
  refine zF (zC (zE (v:=str ([49])) Z (jD Z Z) (zL (zD [2] [_] Z (qM (qO Z Z fun w' hw=>?_))))))
  exact ⟨by rw [‹b=_›];rfl,hw.below⟩
 refine qR (zD [] [] Z (zF (zC (zE (v:=str ([48])) Z (jD Z Z) (zL (zD [2] [_] Z (qM (qO Z Z fun w' hw=>?_))))))))
 exact ⟨by rw [‹b=_›];rfl,hw.below⟩
set_option maxHeartbeats 400000 in
theorem pick_ok (B:Nat) (w0:World) (hs:List (Nat×Obj)) (rp p:Nat) (bv:Value) (L:List Int) (n:Int) (w:World) (hb:∀ w,Own B w0 hs w→Row w bv (u8s L)) (hL8:Bytes8 L) (hL:L.length≤2000) (hp:p≤1000000) (hw:Own B w0 ((rp,.cells #[bv,.int .i64 (p:Int)] 104 (0,0))::hs) w) :
    Calls Tryd.prog 64 [pt_ rp,i6_ n].toArray w fun en w'=>∃ k:Int,∃ p':Nat,en=.returned (i6_ k)∧(0≤k∧(1≤n→k<n)∧p'=p+1)∧Own B w0 (((rp,.cells #[bv,.int .i64 (p':Int)] 104 (0,0))::hs)) w':=by
 refine fnStartC (Own B w0 ((rp,.cells #[bv,.int .i64 (p:Int)] 104 (0,0))::hs)) (n:=99) (e:=[(0,pt_ rp),(1,i6_ n)]) Tryd.func64 Z Z Z Z Ends.both hw (zF (zC (zB 1 Z (zL (zD [0,1] [_,_] Z (zF (zZ (qL 2 Z (qA (v:=pt_ rp) Z (xS Z Z) (qA Z (zP Z yW Z zV Z Z) (qA Z (zQ 0 Z qG Z Z Z) (qA Z (qX Z Z Z (by omega) (by omega)) (qA (v:=pt_ rp) Z (xS Z Z) (qA Z (zP Z yW Z zV Z Z) (qU (v:=i6_ ((p:Int)+(1:Int))) (hs':=(bk_ rp #[bv,i6_ ((p:Int)+(1:Int))] 104::hs)) 0 Z Z Z Z Z Z zV Z (by simp) Z (zM (zD [0,1] [_,_] Z (zF (zF (zC (zB 3 Z (yU fun b17 hg17=>?_))))))))))))))))))))))
 cases b17
 ·
  replace hg17:=zX hg17;refine zB 1 Z (zE (v:=pt_ rp) Z (xS Z Z) (zE Z (zP Z yW Z jE Z Z) (zE Z (zQ 0 Z jI Z Z Z) (zE (v:=i6_ (L.length:Int)) Z (yI Z yL Z (u8s_length _) (fun w1 hw1=>hb _ (qF (f:=[_]) hw1))) (zB 2 Z (zL (zD [0,1,24] [_,_,_] Z (yH (b:=decide ((L.length:Int)=(0:Int))) Z (fun h24=>?_) (fun h24=>?_)))))))))
  ·
   replace h24:=qB h24;refine zF (zC (zB 1 Z (zL (zD [4] [_] Z (qM (qO Z Z fun w' hw=>?_))))))
   exact ⟨0,p+1,rfl,⟨Int.le_refl 0,fun _=>by omega,rfl⟩,hw⟩
  replace h24:=zX h24
  have hlp:0<L.length:=by omega
  refine qR (zD [0,1] [_,_] Z (zF (zC (zB 1 Z (zE (v:=pt_ rp) Z (xS Z Z) (zE Z (zP Z yW Z zV Z Z) (zE Z (zQ 0 Z qG Z Z Z) (zE (v:=i6_ (p:Int)) Z (xE (by congr 1;omega) (OpQ.sub Z Z Z (by omega) (by omega))) (zB 1 Z (zL (zD [0,1,5] [_,_,_] Z (zF (zF (zC (zB 2 Z (zE (v:=pt_ rp) Z (xS Z Z) (zE Z (zP Z yW Z jE Z Z) (zE Z (zQ 0 Z jI Z Z Z) (zE (v:=i6_ (L.length:Int)) Z (yI Z yL Z (u8s_length _) (fun w1 hw1=>hb _ (qF (f:=[_]) hw1))) (zB 1 Z (zL (zD [0,1,5,36] [_,_,_,_] Z (yH (b:=decide ((p:Int)<(L.length:Int))) Z (fun h36=>?_) (fun h36=>?_))))))))))))))))))))))))
  ·
   replace h36:=qB h36
   have hb0:=hL8.at (i:=(p:Int).toNat) (by omega);refine zF (zC (zB 1 Z (zE (v:=pt_ rp) Z (xS Z Z) (zE Z (zP Z yW Z jE Z Z) (zE Z (zQ 0 Z jI Z Z Z) (zB 1 Z (zE (v:=.pointer (some (sAt bv (p:Int)))) Z (yG Z yL Tryd.sizeOf5 Z Z (by omega) (by rw [u8s_length];omega) (fun w1 hw1=>hb _ (qF (f:=[_]) hw1))) (zE (v:=.int .u8 (L.getD ((p:Int).toNat) 0)) Z (yF Z Tryd.isAgg5 Z (fun w1 hw1=>u8s_cell (hb _ (qF (f:=[_]) hw1)) (by omega) (by omega))) (zE (v:=i6_ (L.getD ((p:Int).toNat) 0)) Z (OpQ.convInt .i64 Z xH xX Z (IntWalk.i64_in _ (by omega))) (zB 1 Z (zE (v:=i6_ ((L.getD ((p:Int).toNat) 0) % n)) Z (OpQ.rem Z Z Z (by omega) (by omega)) (zB 1 Z (zL (zD [4] [_] Z (qM (qO Z Z fun w' hw=>?_))))))))))))))))
   exact ⟨_,p+1,rfl,⟨Int.emod_nonneg _ (by omega),fun _=>Int.emod_lt_of_pos _ (by omega),rfl⟩,hw⟩
  replace h36:=zX h36
  have hm1:=Int.emod_nonneg (p:Int) (b:=(L.length:Int)) (by omega)
  have hm2:=Int.emod_lt_of_pos (p:Int) (b:=(L.length:Int)) (by omega)
  have hm3:=Int.emod_nonneg ((p:Int)*(7:Int)+(3:Int)) (b:=(L.length:Int)) (by omega)
  have hm4:=Int.emod_lt_of_pos ((p:Int)*(7:Int)+(3:Int)) (b:=(L.length:Int)) (by omega)
  have hd1:=Int.ediv_nonneg (a:=(p:Int)) (b:=(L.length:Int)) (by omega) (by omega)
  have hd2:=Int.ediv_le_self (L.length:Int) (show (0:Int)≤(p:Int) by omega)
  have hb1:=hL8.at (i:=((p:Int) % (L.length:Int)).toNat) (by omega)
  have hb2:=hL8.at (i:=(((p:Int)*(7:Int)+(3:Int)) % (L.length:Int)).toNat) (by omega);refine qR (zD [0,1,5] [_,_,_] Z (zF (xV qZ (fun _ h=>h.drawn) (by kernel_rfl) (zB 1 Z (zE (v:=pt_ rp) Z (xS Z Z) (zE Z (zP Z yW Z jE Z Z) (zE Z (zQ 0 Z jI Z Z Z) (zB 2 Z (zE (v:=pt_ rp) Z (xS Z Z) (zE Z (zP Z yW Z jE Z Z) (zE Z (zQ 0 Z jI Z Z Z) (zE (v:=i6_ (L.length:Int)) Z (yI Z yL Z (u8s_length _) (fun w1 hw1=>hb _ (qF (f:=[_]) hw1))) (zE (v:=i6_ ((p:Int) % (L.length:Int))) Z (OpQ.rem Z Z Z (by omega) (by omega)) (zE (v:=.pointer (some (sAt bv ((p:Int) % (L.length:Int))))) Z (yG Z yL Tryd.sizeOf5 Z Z (by omega) (by rw [u8s_length];omega) (fun w1 hw1=>hb _ (qF (f:=[_]) hw1))) (zE (v:=.int .u8 (L.getD (((p:Int) % (L.length:Int)).toNat) 0)) Z (yF Z Tryd.isAgg5 Z (fun w1 hw1=>u8s_cell (hb _ (qF (f:=[_]) hw1)) (by omega) (by omega))) (zE (v:=i6_ (L.getD (((p:Int) % (L.length:Int)).toNat) 0)) Z (OpQ.convInt .i64 Z xH xX Z (IntWalk.i64_in _ (by omega))) (zE Z (OpQ.mul Z Z Z (by omega) (by omega)) (zB 1 Z ?_))))))))))))))))));refine zE (v:=pt_ rp) Z (xS Z Z) (zE Z (zP Z yW Z jE Z Z) (zE Z (zQ 0 Z jI Z Z Z) (zB 1 Z (zE Z (OpQ.mul Z Z Z (by omega) (by omega)) (zE Z (qX Z Z Z (by omega) (by omega)) (zB 1 Z (zE (v:=pt_ rp) Z (xS Z Z) (zE Z (zP Z yW Z jE Z Z) (zE Z (zQ 0 Z jI Z Z Z) (zE (v:=i6_ (L.length:Int)) Z (yI Z yL Z (u8s_length _) (fun w1 hw1=>hb _ (qF (f:=[_]) hw1))) (zE (v:=i6_ ((((p:Int)*(7:Int))+(3:Int)) % (L.length:Int))) Z (OpQ.rem Z Z Z (by omega) (by omega)) (zE (v:=.pointer (some (sAt bv ((((p:Int)*(7:Int))+(3:Int)) % (L.length:Int))))) Z (yG Z yL Tryd.sizeOf5 Z Z (by omega) (by rw [u8s_length];omega) (fun w1 hw1=>hb _ (qF (f:=[_]) hw1))) (zE (v:=.int .u8 (L.getD (((((p:Int)*(7:Int))+(3:Int)) % (L.length:Int)).toNat) 0)) Z (yF Z Tryd.isAgg5 Z (fun w1 hw1=>u8s_cell (hb _ (qF (f:=[_]) hw1)) (by omega) (by omega))) (zE (v:=i6_ (L.getD (((((p:Int)*(7:Int))+(3:Int)) % (L.length:Int)).toNat) 0)) Z (OpQ.convInt .i64 Z xH xX Z (IntWalk.i64_in _ (by omega))) (zE Z (OpQ.mul Z Z Z (by omega) (by omega)) (zE Z (qX Z Z Z (by omega) (by omega)) (zB 1 Z (zE Z (OpQ.mul Z Z Z (by omega) (by omega)) (zE Z (qX Z Z Z (by omega) (by omega)) (zB 2 Z (zE (v:=pt_ rp) Z (xS Z Z) (zE Z (zP Z yW Z jE Z Z) (zE Z (zQ 0 Z jI Z Z Z) (zE (v:=i6_ (L.length:Int)) Z (yI Z yL Z (u8s_length _) (fun w1 hw1=>hb _ (qF (f:=[_]) hw1))) (zE (v:=i6_ ((p:Int) / (L.length:Int))) Z (OpQ.quo Z Z Z (by omega) (by omega) (by omega)) (zE Z (OpQ.mul Z Z Z (by omega) (by omega)) (zE Z (qX Z Z Z (by omega) (by omega)) (zB 1 Z (zL (zD [1,6] [_,_] Z (zF (zC (zB 2 Z (zE (v:=i6_ ((((((L.getD (((p:Int) % (L.length:Int)).toNat) 0)*(131:Int))+((L.getD (((((p:Int)*(7:Int))+(3:Int)) % (L.length:Int)).toNat) 0)*(1117:Int)))+((p:Int)*(29:Int)))+(((p:Int) / (L.length:Int))*(53:Int))) / (64:Int))) Z (OpQ.quo Z Z Z (by omega) (by omega) (by decide)) (zE (v:=i6_ (bits .xor .i64 (((((L.getD (((p:Int) % (L.length:Int)).toNat) 0)*(131:Int))+((L.getD (((((p:Int)*(7:Int))+(3:Int)) % (L.length:Int)).toNat) 0)*(1117:Int)))+((p:Int)*(29:Int)))+(((p:Int) / (L.length:Int))*(53:Int))) ((((((L.getD (((p:Int) % (L.length:Int)).toNat) 0)*(131:Int))+((L.getD (((((p:Int)*(7:Int))+(3:Int)) % (L.length:Int)).toNat) 0)*(1117:Int)))+((p:Int)*(29:Int)))+(((p:Int) / (L.length:Int))*(53:Int))) / (64:Int)))) Z (OpQ.xor Z Z Z) (zB 1 Z (zL (zD [1,6] [_,_] Z (zF (zC ?_))))))))))))))))))))))))))))))))))))))))
  have hx0:0≤bits .xor .i64 (((((L.getD (((p:Int) % (L.length:Int)).toNat) 0)*(131:Int))+((L.getD (((((p:Int)*(7:Int))+(3:Int)) % (L.length:Int)).toNat) 0)*(1117:Int)))+((p:Int)*(29:Int)))+(((p:Int) / (L.length:Int))*(53:Int))) ((((((L.getD (((p:Int) % (L.length:Int)).toNat) 0)*(131:Int))+((L.getD (((((p:Int)*(7:Int))+(3:Int)) % (L.length:Int)).toNat) 0)*(1117:Int)))+((p:Int)*(29:Int)))+(((p:Int) / (L.length:Int))*(53:Int))) / (64:Int)):=xor_pos (by omega) (by omega) (Int.ediv_nonneg (by omega) (by decide)) (by omega);refine zB 2 Z (zE (v:=i6_ ((bits .xor .i64 (((((L.getD (((p:Int) % (L.length:Int)).toNat) 0)*(131:Int))+((L.getD (((((p:Int)*(7:Int))+(3:Int)) % (L.length:Int)).toNat) 0)*(1117:Int)))+((p:Int)*(29:Int)))+(((p:Int) / (L.length:Int))*(53:Int))) ((((((L.getD (((p:Int) % (L.length:Int)).toNat) 0)*(131:Int))+((L.getD (((((p:Int)*(7:Int))+(3:Int)) % (L.length:Int)).toNat) 0)*(1117:Int)))+((p:Int)*(29:Int)))+(((p:Int) / (L.length:Int))*(53:Int))) / (64:Int))) % n)) Z (OpQ.rem Z Z Z hx0 (by omega)) (zB 1 Z (zL (zD [4] [_] Z (qM (qO Z Z fun w' hw=>?_))))))
  exact ⟨_,p+1,rfl,⟨Int.emod_nonneg _ (by omega),fun _=>Int.emod_lt_of_pos _ (by omega),rfl⟩,hw⟩
 replace hg17:=qB hg17;refine zG Z (zG Z (zG Z (zG Z (zG Z (zG Z (zB 1 Z (zL (zD [0,1,24] [_,_,_] Z (jM Z (zF (zC (zB 1 Z (zL (zD [4] [_] Z (qM (qO Z Z fun w' hw=>?_))))))))))))))))
 exact ⟨0,p+1,rfl,⟨Int.le_refl 0,fun _=>by omega,rfl⟩,hw⟩
set_option maxHeartbeats 400000 in
theorem num_ok (B:Nat) (w0:World) (hs:List (Nat×Obj)) (rp p:Nat) (bv:Value) (L:List Int) (va:Value) (xs:List Int) (w:World) (hb:∀ w,Own B w0 hs w→Row w bv (u8s L)) (hL8:Bytes8 L) (hL:L.length≤2000) (hva:∀ w,Own B w0 hs w→Ints w va xs) (hne:0<xs.length) (hp:p≤1000000) (hw:Own B w0 ((rp,.cells #[bv,.int .i64 (p:Int)] 104 (0,0))::hs) w) :
    Calls Tryd.prog 33 [pt_ rp,va].toArray w fun en w'=>∃ v:Int,∃ p':Nat,en=.returned (i6_ v)∧(v∈xs∧p'=p+1)∧Own B w0 (((rp,.cells #[bv,.int .i64 (p':Int)] 104 (0,0))::hs)) w':=by
 refine fnStartC (Own B w0 ((rp,.cells #[bv,.int .i64 (p:Int)] 104 (0,0))::hs)) (n:=12) (e:=[(0,pt_ rp),(1,va)]) Tryd.func33 Z Z Z Z Ends.both hw (zF (zC (zB 1 Z (zL (zD [0,1] [_,_] Z (zF (zZ (qL 3 Z (qA (v:=i6_ (xs.length:Int)) Z (yI Z zK Z (ints_length _) (fun w1 hw1=>hva _ (qF (f:=[_]) hw1))) (yC (rp:=rp) (RT:=104) (p:=p) (bv:=bv) (hs:=hs) (ok:=fun (k:Int) p'=>0≤k∧(1≤(xs.length:Int)→k<(xs.length:Int))∧p'=p+1) (v:=fun (k:Int)=>i6_ k) (new:=fun (k:Int)=>[]) (xs:=[.tmp 6,.tmp 8]) (vs:=[pt_ rp,i6_ (xs.length:Int)]) ([]:List (Nat×Obj)) Z Z Z Z xI Z (fun w1 hw1=>(pick_ok B w0 (([]:List (Nat×Obj))++hs) rp p bv L (xs.length:Int) w1 (fun w2 hw2=>hb w2 (qF (f:=([]:List (Nat×Obj))) hw2)) hL8 hL (by omega) hw1).mono fun en w' ⟨k',p',h1,h2,h3⟩=>⟨k',p',h1,h2,h3⟩) fun k9 p_9 hKp_9=>?_))))))))))
 show Ll _ _ (Own _ _ (_::hs)) _ _ ((9,i6_ k9)::_) _ _ _
 obtain ⟨h0k9,h1k9,hep_9⟩:=hKp_9
 try have hltk9:=h1k9 (by first | omega | (split <;> omega) | decide);refine qA (v:=.pointer (some (sAt va k9))) Z (yG Z zK zV Z Z (by omega) (by rw [ints_length];omega) (fun w1 hw1=>hva _ (qF (f:=[_]) hw1))) (qA (v:=i6_ (xs.getD ((k9).toNat) 0)) Z (yF Z qG Z (fun w1 hw1=>Ints.cell (hva _ (qF (f:=[_]) hw1)) (by omega) (by omega))) (qL 1 Z (zM (zD [4] [_] Z (qM (qO Z Z fun w' hw=>?_))))))
 exact ⟨_,p_9,rfl,⟨by rw [getD_at (by omega)];exact List.getElem_mem _,hep_9⟩,hw⟩
set_option maxHeartbeats 400000 in
theorem of_ok (B:Nat) (w0:World) (hs:List (Nat×Obj)) (rp p:Nat) (bv:Value) (L:List Int) (va:Value) (xs:List (List UInt8)) (w:World) (hb:∀ w,Own B w0 hs w→Row w bv (u8s L)) (hL8:Bytes8 L) (hL:L.length≤2000) (hva:∀ w,Own B w0 hs w→Strs w va xs) (hne:0<xs.length) (hp:p≤1000000) (hw:Own B w0 ((rp,.cells #[bv,.int .i64 (p:Int)] 104 (0,0))::hs) w) :
    Calls Tryd.prog 63 [pt_ rp,va].toArray w fun en w'=>∃ v:List UInt8,∃ p':Nat,en=.returned (str v)∧(v∈xs∧p'=p+1)∧Own B w0 (((rp,.cells #[bv,.int .i64 (p':Int)] 104 (0,0))::hs)) w':=by
 refine fnStartC (Own B w0 ((rp,.cells #[bv,.int .i64 (p:Int)] 104 (0,0))::hs)) (n:=12) (e:=[(0,pt_ rp),(1,va)]) Tryd.func63 Z Z Z Z Ends.both hw (zF (zC (zE (v:=str ([])) Z (jD Z Z) (zL (zD [0,1] [_,_] Z (zF (zZ (qL 3 Z (qA (v:=i6_ (xs.length:Int)) Z (yI Z Tryd.runUnderlying83 Z (strs_length _) (fun w1 hw1=>hva _ (qF (f:=[_]) hw1))) (yC (rp:=rp) (RT:=104) (p:=p) (bv:=bv) (hs:=hs) (ok:=fun (k:Int) p'=>0≤k∧(1≤(xs.length:Int)→k<(xs.length:Int))∧p'=p+1) (v:=fun (k:Int)=>i6_ k) (new:=fun (k:Int)=>[]) (xs:=[.tmp 6,.tmp 8]) (vs:=[pt_ rp,i6_ (xs.length:Int)]) ([]:List (Nat×Obj)) Z Z Z Z xI Z (fun w1 hw1=>(pick_ok B w0 (([]:List (Nat×Obj))++hs) rp p bv L (xs.length:Int) w1 (fun w2 hw2=>hb w2 (qF (f:=([]:List (Nat×Obj))) hw2)) hL8 hL (by omega) hw1).mono fun en w' ⟨k',p',h1,h2,h3⟩=>⟨k',p',h1,h2,h3⟩) fun k9 p_9 hKp_9=>?_))))))))))
 show Ll _ _ (Own _ _ (_::hs)) _ _ ((9,i6_ k9)::_) _ _ _
 obtain ⟨h0k9,h1k9,hep_9⟩:=hKp_9
 try have hltk9:=h1k9 (by first | omega | (split <;> omega) | decide);refine qA (v:=.pointer (some (sAt va k9))) Z (yG Z Tryd.runUnderlying83 zT Z Z (by omega) (by rw [strs_length];omega) (fun w1 hw1=>hva _ (qF (f:=[_]) hw1))) (qA (v:=str (xs.getD ((k9).toNat) [])) Z (yF Z qJ Z (fun w1 hw1=>Strs.cell (hva _ (qF (f:=[_]) hw1)) (by omega) (by omega))) (qL 1 Z (zM (zD [4] [_] Z (qM (qO Z Z fun w' hw=>?_))))))
 exact ⟨_,p_9,rfl,⟨by rw [getD_at (by omega)];exact List.getElem_mem _,hep_9⟩,hw⟩
set_option maxHeartbeats 400000 in
theorem many_ok (s:List UInt8) (w:World) (n:Int) (hn0:0≤n) (hn:n≤100) (hs1:s.length=1) :
    Calls Tryd.prog 113 [str s,i6_ n].toArray w fun en w'=>∃ t:List UInt8,en=.returned (str t)∧(t.length≤40000)∧Below w.heap.size w w':=by
 refine fnStart (n:=20) (e:=[(0,str s),(1,i6_ n)]) Tryd.func113 Z Z Z Z Ends.both (zF (zC (zE (v:=str ([])) Z (jD Z Z) (zL (zD [0,1] [_,_] Z (zF (zC (zE (v:=str ([])) Z (jD Z Z) (zL (zD [0,1,5] [_,_,_] Z (zF (qQ (yZ (σ:=Nat×List UInt8×List UInt8×Int) (fun ⟨i,t,u,m⟩=>(0≤m∧m≤100)∧m.toNat*2 ^ i≤100∧u.length=2 ^ i∧t.length≤2 ^ i∧i≤7) (fun ⟨i,t,u,m⟩=>[(0,str u),(1,i6_ m),(5,str t)]) (fun ⟨i,t,u,m⟩=>Own w.heap.size w []) (fun ⟨i,t,u,m⟩=>m.toNat) (0,[],s,n) ⟨by omega,by omega,hs1,by simp,by omega⟩ (Sub.sel [0,1,5] Z) (fun _ h=>h) ?_)))))))))))))
 rintro ⟨i,t,u,m⟩ ⟨⟨hm0,hm9⟩,hm1,hu,ht,hi⟩
 dsimp only;refine zF (zF (zC (zB 2 Z (zL (zD [0,1,5,7] [_,_,_,_] Z (yH (b:=decide ((0:Int)<m)) Z (fun h7=>?_) (fun h7=>?_)))))))
 ·
  replace h7:=qB h7
  have h128:2 ^ i≤128:=Nat.le_trans (Nat.pow_le_pow_right (by decide) hi) (by decide);refine qR (zD [0,1,5] [_,_,_] Z (qQ (zF (zF (zC (zB 1 Z (zE (v:=i6_ (m % (2:Int))) Z (OpQ.rem Z Z Z (by omega) (by decide)) (zB 1 Z (zL (zD [0,1,5,10] [_,_,_,_] Z (xA Z (fun h10=>?_) (fun h10=>?_))))))))))))
  ·
   refine zC (zB 2 Z (zE Z (qS Z Z Z (by first | omega | (simp only [zJ,qD,qE];omega))) (zB 1 Z (zL (zD [0,1,5] [_,_,_] Z (zF (zC (zB 2 Z (zE Z (qS Z Z Z (by first | omega | (simp only [zJ,qD,qE];omega))) (zB 1 Z (zL (zD [0,1,5] [_,_,_] Z (zC (zB 1 Z (zE (v:=i6_ (m / (2:Int))) Z (OpQ.quo Z Z Z (by omega) (by omega) (by decide)) (zB 1 Z (zL (yA (i+1,t++u,u++u,m / (2:Int)) ⟨by dsimp only;omega,many_half hm0 hm1,by rw [zJ,hu,Nat.pow_succ];omega,by dsimp only;(try rw [zJ]);rw [Nat.pow_succ];omega,many_more hm1 (by omega)⟩ (by dsimp only;omega) (Sub.sel [0,1,5] Z) (fun _ h=>h)))))))))))))))))))
  refine qR (zD [0,1,5] [_,_,_] Z (zF (zC (zB 2 Z (zE Z (qS Z Z Z (by first | omega | (simp only [zJ,qD,qE];omega))) (zB 1 Z (zL (zD [0,1,5] [_,_,_] Z (zC (zB 1 Z (zE (v:=i6_ (m / (2:Int))) Z (OpQ.quo Z Z Z (by omega) (by omega) (by decide)) (zB 1 Z (zL (yA (i+1,t,u++u,m / (2:Int)) ⟨by dsimp only;omega,many_half hm0 hm1,by rw [zJ,hu,Nat.pow_succ];omega,by dsimp only;(try rw [zJ]);rw [Nat.pow_succ];omega,many_more hm1 (by omega)⟩ (by dsimp only;omega) (Sub.sel [0,1,5] Z) (fun _ h=>h)))))))))))))))
 replace h7:=zX h7;refine yV Z (zD [5] [_] Z (zF (zC (zB 2 Z (zL (zD [4] [_] Z (qM (qO Z Z fun w' hw=>?_))))))))
 exact ⟨t,rfl,Nat.le_trans ht (Nat.le_trans (Nat.pow_le_pow_right (by decide) hi) (by decide)),hw.below⟩
end Go.Proofs.YtagbocafnliabaaDoor
namespace Go.Proofs.YtagbocafnliabaaDoor
open Go.RowKit Go.Wk
set_option linter.unusedSimpArgs false
set_option maxHeartbeats 400000 in
theorem l5Atoms_ok (a:St) (va:Value) (xs:List Int) (w:World) (ha:a.Fine) (hva:Ints w va xs) (hA:a.Els xs) (hl7:xs.length≤7) :
    Calls Tryd.prog 82 [vS a,va].toArray w fun en w'=>en=.returned (str (atomBits a xs))∧Below w.heap.size w w':=by
 refine fnStart (n:=65) (e:=[(0,vS a),(1,va)]) Tryd.func82 Z Z Z Z Ends.both (zF (zZ (yP (v:=vS a) Z Z Z Z Z fun p2 hp2=>?_)))
 show Ll _ _ (Own _ _ [_]) _ _ ((2,pt_ p2)::_) _ _ _;refine qA (v:=str ([])) Z (jD Z Z) (zM (zD [1,2] [_,_] Z (zF (zC (zE (v:=str ([])) Z (jD Z Z) (zL (zD [1,2,5] [_,_,_] Z (zF (zF (zC (zB 1 Z (zL (zD [1,2,5,6] [_,_,_,_] Z (qQ (yZ (σ:=Nat) (fun k=>k≤xs.length) (fun k=>[(1,va),(2,pt_ p2),(5,str (bitsTo a xs k)),(6,i6_ (k:Int))]) (fun k=>Own w.heap.size w [bk_ p2 #[i6_ a.n,str a.set,str a.rel] 24]) (fun k=>xs.length - k) (0) (by omega) (Sub.cons Z (Sub.cons Z (Sub.cons Z (Sub.sel [6] Z)))) (fun _ h=>h) ?_)))))))))))))))
 rintro k hk;refine zF (zF (zC (zB 2 Z (zE (v:=i6_ (xs.length:Int)) Z (yI Z zK Z (ints_length _) (fun w1 hw1=>Row.own hva hw1)) (zB 1 Z (zL (zD [1,2,5,6,11] [_,_,_,_,_] Z (yH (b:=decide ((k:Int)<(xs.length:Int))) Z (fun h11=>?_) (fun h11=>?_)))))))))
 ·
  replace h11:=qB h11
  have hb:=bits_small (a:=a) (xs:=xs) (i:=k) (by omega);refine qR (zD [1,2,5,6] [_,_,_,_] Z (zF (qQ (zF (xV qZ (fun _ h=>h.drawn) (by kernel_rfl) (zB 1 Z (zE Z (zR (cs:=#[i6_ a.n,str a.set,str a.rel]) 0 Z zN Z Z zI) (zB 2 Z (zE (v:=.pointer (some (sAt va (k:Int)))) Z (yG Z zK zV Z Z (by omega) (by rw [ints_length];omega) (fun w1 hw1=>Row.own hva hw1)) (zE (v:=i6_ (xs.getD ((k:Int).toNat) 0)) Z (yF Z qG Z (fun w1 hw1=>Ints.cell (Row.own hva hw1) (by omega) (by omega))) (zE (v:=bo_ (a.inSet (xs.getD ((k:Int).toNat) 0))) Z (qK Z Tryd.call119 Z zY (fun w1 hw1=>l1Set_ok a (xs.getD ((k:Int).toNat) 0) w1 ha (by first | assumption | exact St.Els.at (by assumption) (by omega) (by omega)))) (zE (v:=str ((if a.inSet (xs.getD ((k:Int).toNat) 0) then [49] else [48]))) Z (qK Z yQ Z zY (fun w1 hw1=>bitD_ok (a.inSet (xs.getD ((k:Int).toNat) 0)) w1 )) (zE Z (qS Z Z Z (by simp only [zJ,pairBits_length,bit_len,bitS_length,qD,qE];omega)) (zB 1 Z (zL (zD [1,2,5,6] [_,_,_,_] Z (zF (zC (zB 1 Z (zL (zD [1,2,5,6,7] [_,_,_,_,_] Z (qQ (yZ (σ:=Nat) (fun j=>j≤k+1) (fun j=>[(1,va),(2,pt_ p2),(5,str ((bitsTo a xs k++bitS (a.inSet (xs.getD k 0)))++pairBits a xs k j)),(6,i6_ (k:Int)),(7,i6_ (j:Int))]) (fun j=>Own w.heap.size w [bk_ p2 #[i6_ a.n,str a.set,str a.rel] 24]) (fun j=>k+1 - j) (0) (by omega) (Sub.cons Z (Sub.cons Z (Sub.cons (by simp [pairBits,List.lookup];rfl) (Sub.sel [6,7] Z)))) (fun _ h=>h) ?_)))))))))))))))))))))))
  rintro j hj;refine zF (zF (zC (zB 3 Z (zL (zD [1,2,5,6,7,25] [_,_,_,_,_,_] Z (xA Z (fun h25=>?_) (fun h25=>?_)))))))
  ·
   refine qR (zD [1,2,5,6,7] [_,_,_,_,_] Z ?_);refine zF (qQ (xV qZ (fun _ h=>h.drawn) (by kernel_rfl) (zB 3 Z (zE (v:=.pointer (some (sAt va (k:Int)))) Z (yG Z zK zV Z Z (by omega) (by rw [ints_length];omega) (fun w1 hw1=>Row.own hva hw1)) (zE (v:=i6_ (xs.getD ((k:Int).toNat) 0)) Z (yF Z qG Z (fun w1 hw1=>Ints.cell (Row.own hva hw1) (by omega) (by omega))) (zB 2 Z (zE (v:=.pointer (some (sAt va (j:Int)))) Z (yG Z zK zV Z Z (by omega) (by rw [ints_length];omega) (fun w1 hw1=>Row.own hva hw1)) (zE (v:=i6_ (xs.getD ((j:Int).toNat) 0)) Z (yF Z qG Z (fun w1 hw1=>Ints.cell (Row.own hva hw1) (by omega) (by omega))) (zB 1 Z (zE (v:=str ((if decide ((xs.getD ((k:Int).toNat) 0)=(xs.getD ((j:Int).toNat) 0)) then [49] else [48]))) Z (qK Z yQ Z zY (fun w1 hw1=>bitD_ok (decide ((xs.getD ((k:Int).toNat) 0)=(xs.getD ((j:Int).toNat) 0))) w1 )) (zE Z (qS Z Z Z (by simp only [zJ,pairBits_length,bit_len,bitS_length,qD,qE];omega)) (zE Z (zR (cs:=#[i6_ a.n,str a.set,str a.rel]) 0 Z zN Z Z zI) (zB 2 Z (zE (v:=.pointer (some (sAt va (k:Int)))) Z (yG Z zK zV Z Z (by omega) (by rw [ints_length];omega) (fun w1 hw1=>Row.own hva hw1)) (zE (v:=i6_ (xs.getD ((k:Int).toNat) 0)) Z (yF Z qG Z (fun w1 hw1=>Ints.cell (Row.own hva hw1) (by omega) (by omega))) (zB 2 Z (zE (v:=.pointer (some (sAt va (j:Int)))) Z (yG Z zK zV Z Z (by omega) (by rw [ints_length];omega) (fun w1 hw1=>Row.own hva hw1)) (zE (v:=i6_ (xs.getD ((j:Int).toNat) 0)) Z (yF Z qG Z (fun w1 hw1=>Ints.cell (Row.own hva hw1) (by omega) (by omega))) (zE (v:=bo_ (a.inRel (xs.getD ((k:Int).toNat) 0) (xs.getD ((j:Int).toNat) 0))) Z (qK Z xQ Z zY (fun w1 hw1=>l1Rel_ok a (xs.getD ((k:Int).toNat) 0) (xs.getD ((j:Int).toNat) 0) w1 ha (by first | assumption | exact St.Els.at (by assumption) (by omega) (by omega)) (by first | assumption | exact St.Els.at (by assumption) (by omega) (by omega)))) (zE (v:=str ((if a.inRel (xs.getD ((k:Int).toNat) 0) (xs.getD ((j:Int).toNat) 0) then [49] else [48]))) Z (qK Z yQ Z zY (fun w1 hw1=>bitD_ok (a.inRel (xs.getD ((k:Int).toNat) 0) (xs.getD ((j:Int).toNat) 0)) w1 )) (zE Z (qS Z Z Z (by simp only [zJ,pairBits_length,bit_len,bitS_length,qD,qE];omega)) (zE Z (zR (cs:=#[i6_ a.n,str a.set,str a.rel]) 0 Z zN Z Z zI) (zB 2 Z (zE (v:=.pointer (some (sAt va (j:Int)))) Z (yG Z zK zV Z Z (by omega) (by rw [ints_length];omega) (fun w1 hw1=>Row.own hva hw1)) (zE (v:=i6_ (xs.getD ((j:Int).toNat) 0)) Z (yF Z qG Z (fun w1 hw1=>Ints.cell (Row.own hva hw1) (by omega) (by omega))) (zB 2 Z (zE (v:=.pointer (some (sAt va (k:Int)))) Z (yG Z zK zV Z Z (by omega) (by rw [ints_length];omega) (fun w1 hw1=>Row.own hva hw1)) (zE (v:=i6_ (xs.getD ((k:Int).toNat) 0)) Z (yF Z qG Z (fun w1 hw1=>Ints.cell (Row.own hva hw1) (by omega) (by omega))) (zE (v:=bo_ (a.inRel (xs.getD ((j:Int).toNat) 0) (xs.getD ((k:Int).toNat) 0))) Z (qK Z xQ Z zY (fun w1 hw1=>l1Rel_ok a (xs.getD ((j:Int).toNat) 0) (xs.getD ((k:Int).toNat) 0) w1 ha (by first | assumption | exact St.Els.at (by assumption) (by omega) (by omega)) (by first | assumption | exact St.Els.at (by assumption) (by omega) (by omega)))) (zE (v:=str ((if a.inRel (xs.getD ((j:Int).toNat) 0) (xs.getD ((k:Int).toNat) 0) then [49] else [48]))) Z (qK Z yQ Z zY (fun w1 hw1=>bitD_ok (a.inRel (xs.getD ((j:Int).toNat) 0) (xs.getD ((k:Int).toNat) 0)) w1 )) (zE Z (qS Z Z Z (by simp only [zJ,pairBits_length,bit_len,bitS_length,qD,qE];omega)) (zB 1 Z (zL (zD [1,2,5,6,7] [_,_,_,_,_] Z (zC (zB 1 Z (zE Z (qX Z Z Z (by omega) (by omega)) (zB 1 Z (zL (yA (j+1) (by omega) (by omega) (Sub.cons Z (Sub.cons Z (Sub.cons (by rw [pair_step];rfl) (Sub.sel [6,7] Z)))) (fun _ h=>h)))))))))))))))))))))))))))))))))))))))))
  refine yV Z (zD [1,2,5,6] [_,_,_,_] Z (zC (zB 1 Z (zE Z (qX Z Z Z (by omega) (by omega)) (zB 1 Z (zL (yA (k+1) (by omega) (by omega) (Sub.cons Z (Sub.cons Z (Sub.cons (by rw [show j=k+1 from by omega];rfl) (Sub.sel [6] Z)))) (fun _ h=>h))))))))
 replace h11:=zX h11;refine yV Z (zD [5] [_] Z (zF (zC (zB 2 Z (zL (zD [4] [_] Z (qM (qO Z Z fun w' hw=>?_))))))))
 exact ⟨ret_s (by rw [show k=xs.length from by omega];rfl),hw.below⟩
end Go.Proofs.YtagbocafnliabaaDoor
namespace Go.Proofs.YtagbocafnliabaaDoor
open Go.RowKit Go.Wk
set_option linter.unusedSimpArgs false
set_option maxHeartbeats 400000 in
theorem l15Dec_ok (x:Int) (w:World) (h0:0≤x) (h1:x<1000000000000) :
    Calls Tryd.prog 85 [i6_ x].toArray w fun en w'=>en=.returned (str (decS x.toNat))∧Below w.heap.size w w':=by
 refine fnStart (n:=31) (e:=[(0,i6_ x)]) Tryd.func85 Z Z Z Z Ends.both ?_
 have hdl:=decS_len x.toNat 12 (show x.toNat<1000000000000 by omega) (by decide);refine zF (zC (zE (v:=str ([])) Z (jD Z Z) (zL (zD [0] [_] Z (zF (zF (zC (zB 2 Z (zL (zD [0,5] [_,_] Z (yH (b:=decide (x<(-9223372036854775807:Int))) Z (fun h5=>?_) (fun h5=>?_))))))))))))
 ·
  replace h5:=qB h5
  omega
 replace h5:=zX h5;refine qR (zD [0] [_] Z (zF (zF (zC (zB 2 Z (zL (zD [0,7] [_,_] Z (yH (b:=decide (x<(0:Int))) Z (fun h7=>?_) (fun h7=>?_)))))))))
 ·
  replace h7:=qB h7
  omega
 replace h7:=zX h7;refine qR (zD [0] [_] Z (zF (zC (zE (v:=str ([])) Z (jD Z Z) (zL (zD [0,3] [_,_] Z (zF (qQ (yZ (σ:=Nat×List UInt8) (fun ⟨n,o⟩=>decS x.toNat=decS n++o∧n≤x.toNat) (fun ⟨n,o⟩=>[(0,i6_ (n:Int)),(3,str o)]) (fun ⟨n,o⟩=>Own w.heap.size w []) (fun ⟨n,o⟩=>n) (x.toNat,[]) ⟨by simp,Nat.le_refl _⟩ (Sub.cons (by rw [Int.toNat_of_nonneg h0];rfl) (Sub.sel [3] Z)) (fun _ h=>h) ?_)))))))))
 rintro ⟨n,o⟩ ⟨ho,hn⟩
 dsimp only
 have hol:=dec_len ho hdl;refine zF (zF (zC (zB 2 Z (zL (zD [0,3,13] [_,_,_] Z (xA Z (fun h13=>?_) (fun h13=>?_)))))))
 ·
  refine qR (zD [0,3] [_,_] Z (qQ (zF (zZ (qL 1 Z (qA (v:=i6_ ((n:Int) % (10:Int))) Z (OpQ.rem Z Z Z (by omega) (by decide)) (qA Z (qX Z Z Z (by omega) (by omega)) (qA (v:=.int .u8 ((48:Int)+((n:Int) % (10:Int)))) Z (OpQ.convInt .u8 Z xX xH Z (IntWalk.u8_in _ (by omega))) (yE (xs:=[.tmp 17]) (vs:=[.int .u8 ((48:Int)+((n:Int) % (10:Int)))]) Base.elem22 Z Z Z Z Z Z (by decide) Z fun p18 hp18=>(qA (v:=str ([UInt8.ofNat (48+n % 10)])) Z (OpQ.byteStr (b:=UInt8.ofNat (48+n % 10)) 0 Z Tryd.underlying22 xH qP Z Z (by rw [toNat_dig (by omega)];omega)) (qL 1 Z (qA Z (qS Z Z Z (by first | omega | (simp only [zJ,qD,qE];omega))) (qL 1 Z (zM (zD [0,3] [_,_] Z (zC (zB 1 Z (zE (v:=i6_ ((n / 10:Nat):Int)) Z (xE (by simp) (OpQ.quo Z Z Z (by omega) (by omega) (by decide))) (zB 1 Z (zL (yA (n / 10,[UInt8.ofNat (48+n % 10)]++o) ⟨dec_step ho (by omega),by omega⟩ (by omega) (Sub.sel [0,3] Z) (fun _ h=>h.tail))))))))))))))))))))))
 refine yV Z (zD [0,3] [_,_] Z (zF (zZ (qL 1 Z (qA Z (qX Z Z Z (by omega) (by omega)) (qA (v:=.int .u8 ((48:Int)+(n:Int))) Z (OpQ.convInt .u8 Z xX xH Z (IntWalk.u8_in _ (by omega))) (yE (xs:=[.tmp 26]) (vs:=[.int .u8 ((48:Int)+(n:Int))]) Base.elem22 Z Z Z Z Z Z (by decide) Z fun p27 hp27=>(qA (v:=str ([UInt8.ofNat (48+n)])) Z (OpQ.byteStr (b:=UInt8.ofNat (48+n)) 0 Z Tryd.underlying22 xH qP Z Z (by rw [toNat_dig (by omega)];omega)) (qL 1 Z (qA Z (qS Z Z Z (by first | omega | (simp only [zJ,qD,qE];omega))) (qL 1 Z (zM (zD [2] [_] Z (qM (qO Z Z fun w' hw=>?_)))))))))))))))
 exact ⟨ret_s (by rw [ho,decS,if_pos (by omega)]),hw.below⟩
set_option maxHeartbeats 400000 in
theorem l5Insert_ok (B:Nat) (w0:World) (hs:List (Nat×Obj)) (g cap:Nat) (cur:Array Value) (xs:List Int) (m:Int) (w:World) (hc:cur.size=cap*1) (hle:xs.length≤cap) (ht:cur.toList.take xs.length=ints xs) (hs1:xs.length≤1000) (hw:Own B w0 ((g,.cells cur 3 (0,0))::hs) w) :
    Calls Tryd.prog 83 [sl_ g xs.length cap,i6_ m].toArray w fun en w'=>∃ (g' cap':Nat) (cur':Array Value),en=.returned (.slice (some ⟨g',0,none⟩) (insS xs m).length cap')∧(cur'.size=cap'*1∧(insS xs m).length≤cap'∧cur'.toList.take (insS xs m).length=ints (insS xs m))∧Own B w0 ((g',.cells cur' 3 (0,0))::hs) w':=by
 refine fnStartC (Own B w0 ((g,.cells cur 3 (0,0))::hs)) (n:=41) (e:=[(0,sl_ g xs.length cap),(1,i6_ m)]) Tryd.func83 Z Z Z Z Ends.both hw (zF (zC (zB 1 Z (zL (zD [0,1] [_,_] Z (zF (zF (zC (zB 1 Z (zL (zD [0,1,5] [_,_,_] Z (qQ (yZ (σ:=Nat) (fun k=>k≤xs.length∧∀ j:Nat,j<k→¬ xs.getD j 0=m∧¬ m<xs.getD j 0) (fun k=>[(0,sl_ g xs.length cap),(1,i6_ m),(5,i6_ (k:Int))]) (fun k=>Own B w0 (bk_ g cur 3::hs)) (fun k=>xs.length - k) (0) ⟨by omega,fun i hi=>absurd hi (by omega)⟩ (Sub.sel [0,1,5] Z) (fun _ h=>h) ?_)))))))))))))
 rintro k ⟨hk,hall⟩;refine zF (zF (zC (zB 2 Z (zE Z (OpQ.lenS Z zK Z) (zB 1 Z (zL (zD [0,1,5,9] [_,_,_,_] Z (yH (b:=decide ((k:Int)<(xs.length:Int))) Z (fun h9=>?_) (fun h9=>?_)))))))))
 ·
  replace h9:=qB h9
  have hk2:k<xs.length:=by omega
  refine qR (zD [0,1,5] [_,_,_] Z (zF (qQ (zF (zF (zC (zB 2 Z (zE (v:=pf_ g k) Z (xE (by simp) (yM Z zK zV Z Z (by omega) (by omega))) (zE (v:=i6_ (xs.getD (k) 0)) Z (xR 0 Z qG Z Z (cur_at ht (ints_at2 (by omega)))) (zB 2 Z (zL (zD [0,1,5,17] [_,_,_,_] Z (xA Z (fun h17=>?_) (fun h17=>?_))))))))))))))
  ·
   refine zF (zC (zB 2 Z (zL (zD [4] [_] Z (qM (qO Z Z fun w' hw=>?_))))))
   have e:=insS_at (n:=m) hk2 hall (by simpa using h17)
   exact ⟨g,cap,cur,by rw [e],⟨hc,by rw [e];exact hle,by rw [e];exact ht⟩,hw⟩
  refine qR (zD [0,1,5] [_,_,_] Z (zF (zC (zB 2 Z (zE (v:=pf_ g k) Z (xE (by simp) (yM Z zK zV Z Z (by omega) (by omega))) (zE (v:=i6_ (xs.getD (k) 0)) Z (xR 0 Z qG Z Z (cur_at ht (ints_at2 (by omega)))) (zB 2 Z (zL (zD [0,1,5,24] [_,_,_,_] Z (xA Z (fun h24=>?_) (fun h24=>?_)))))))))))
  ·
   refine zF (Wk.regionT (S:=Own B w0 [bk_ g cur 3]) (.take 1 (.take 2 (.take 3 (.take 5 (.take 8 (.take 9 (.take 10 (.two 0 (.two 4 (.one 6 (.one 7 (.one 11 (.take 12 .done)))) 6 (.one 4 (.one 7 (.one 11 (.take 12 .done))))) 6 (.one 0 (.one 4 (.one 7 (.one 11 (.take 12 .done))))))))))))) qZ (fun _ h=>h.drawn) (by kernel_rfl) (Lt.run 2 Z (pk [0] Z Z) (jA (v:=sl_ g ((k:Int).toNat) cap) Z Z Z Z Z (OpQ.takeS (i:=(k:Int)) Z zK zV Z Z (by omega) (by omega)) (pk [0] Z Z) (Lt.run 3 Z (pk [0] Z Z) (jA (v:=.slice (some ⟨g,(k:Int).toNat,none⟩) (xs.length - (k:Int).toNat) (cap - (k:Int).toNat)) Z Z Z Z Z (OpQ.dropS Z zK zV Z Z (by omega) (by omega) (by omega)) (pk [0] Z Z) (Lt.two Z Z ?_ ?_))))))
   ·
    refine yE (xs:=[]) (vs:=[]) qH Z Z Z Z Z Z (by decide) Z fun p25 hp25=>(zM (xC (pk [1] Z Z) ?_));refine Lt.two Z Z ?_ ?_
    ·
     refine yB (xs:=[]) (ys:=(xs).take ((k:Int).toNat)) qH 0 Z Z Z Z Z Z Z Z (by decide) Z (fun w1 hw1=>(Own.rowTake hw1 (i:=1) Z ht (by omega) hle)) (((xs).take ((k:Int).toNat)).length) (by first | (simp;done) | (simp;omega)) (by first | (simp;done) | (simp;omega) | omega) fun p29 cap29 cur29 hp29 hcp29 hlp29 htp29=>?_
     show Ll _ _ (Own _ _ (_::_::hs)) _ _ ((29,sl_ p29 ((((xs).take ((k:Int).toNat)).length)) cap29)::_) _ _ _;refine zM (xC (pk [1] Z Z) ?_);refine xT Z (yE (xs:=[.tmp 30]) (vs:=[i6_ m]) qH Z Z Z Z Z Z (by decide) Z fun p31 hp31=>(zM (xC (pk [2] Z Z) ?_)));refine xT Z (yB (xs:=(xs).take ((k:Int).toNat)) (ys:=[m]) qH 1 Z Z Z Z Z Z Z hcp29 hlp29 (by simpa using htp29) (fun w1 hw1=>(yK hw1 (i:=0) Z (n:=1) (cap:=1) (vs:=ints [m]) Z Z (by decide))) ((((xs).take ((k:Int).toNat))++([m])).length) (by first | (simp;done) | (simp;omega)) (by first | (simp;done) | (simp;omega) | omega) fun p32 cap32 cur32 hp32 hcp32 hlp32 htp32=>?_)
     show Ll _ _ (Own _ _ (_::_::_::hs)) _ _ ((32,sl_ p32 (((((xs).take ((k:Int).toNat))++([m])).length)) cap32)::_) _ _ _;refine zM (xC (pk [2] Z Z) ?_);refine xT Z (yB (xs:=((xs).take ((k:Int).toNat))++([m])) (ys:=(xs).drop ((k:Int).toNat)) qH 1 Z Z Z Z Z Z Z hcp32 hlp32 (by simpa using htp32) (fun w1 hw1=>(Own.rowDrop hw1 (i:=2) Z ht (by omega) hle)) (((((xs).take ((k:Int).toNat))++([m]))++((xs).drop ((k:Int).toNat))).length) (by first | (simp;done) | (simp;omega)) (by first | (simp;done) | (simp;omega) | omega) fun p36 cap36 cur36 hp36 hcp36 hlp36 htp36=>?_)
     show Ll _ _ (Own _ _ (_::_::_::hs)) _ _ ((36,sl_ p36 ((((((xs).take ((k:Int).toNat))++([m]))++((xs).drop ((k:Int).toNat))).length)) cap36)::_) _ _ _;refine zM (xC (pk [2] Z Z) ?_);refine Lt.run 1 Z (pk [2] Z Z) (Lt.nil (zD [4] [_] Z (qM (qO Z Z fun w' hw=>?_))))
     have e:=insS_mid (n:=m) hk2 hall (by simpa using h24)
     simp only [Int.toNat_natCast,Nat.mul_one] at *
     exact ⟨p36,cap36,cur36,by rw [e],⟨by simpa using hcp36,by rw [e];exact hlp36,by rw [e];exact htp36⟩,hw.sub (zU _ (zA _ (zU _ (qC _))))⟩
    refine yE (xs:=[.tmp 30]) (vs:=[i6_ m]) qH Z Z Z Z Z Z (by decide) Z fun p31_1 hp31_1=>(zM (xC (pk [2] Z Z) ?_));refine xT Z (yB (xs:=[]) (ys:=(xs).take ((k:Int).toNat)) qH 1 Z Z Z Z Z Z Z Z (by decide) Z (fun w1 hw1=>(Own.rowTake hw1 (i:=2) Z ht (by omega) hle)) (((xs).take ((k:Int).toNat)).length) (by first | (simp;done) | (simp;omega)) (by first | (simp;done) | (simp;omega) | omega) fun p29_1 cap29_1 cur29_1 hp29_1 hcp29_1 hlp29_1 htp29_1=>?_)
    show Ll _ _ (Own _ _ (_::_::_::hs)) _ _ ((29,sl_ p29_1 ((((xs).take ((k:Int).toNat)).length)) cap29_1)::_) _ _ _;refine zM (xC (pk [2] Z Z) ?_);refine xT Z (yB (xs:=(xs).take ((k:Int).toNat)) (ys:=[m]) qH 1 Z Z Z Z Z Z Z hcp29_1 hlp29_1 (by simpa using htp29_1) (fun w1 hw1=>(yK hw1 (i:=0) Z (n:=1) (cap:=1) (vs:=ints [m]) Z Z (by decide))) ((((xs).take ((k:Int).toNat))++([m])).length) (by first | (simp;done) | (simp;omega)) (by first | (simp;done) | (simp;omega) | omega) fun p32_1 cap32_1 cur32_1 hp32_1 hcp32_1 hlp32_1 htp32_1=>?_)
    show Ll _ _ (Own _ _ (_::_::_::hs)) _ _ ((32,sl_ p32_1 (((((xs).take ((k:Int).toNat))++([m])).length)) cap32_1)::_) _ _ _;refine zM (xC (pk [2] Z Z) ?_);refine xT Z (yB (xs:=((xs).take ((k:Int).toNat))++([m])) (ys:=(xs).drop ((k:Int).toNat)) qH 1 Z Z Z Z Z Z Z hcp32_1 hlp32_1 (by simpa using htp32_1) (fun w1 hw1=>(Own.rowDrop hw1 (i:=2) Z ht (by omega) hle)) (((((xs).take ((k:Int).toNat))++([m]))++((xs).drop ((k:Int).toNat))).length) (by first | (simp;done) | (simp;omega)) (by first | (simp;done) | (simp;omega) | omega) fun p36_1 cap36_1 cur36_1 hp36_1 hcp36_1 hlp36_1 htp36_1=>?_)
    show Ll _ _ (Own _ _ (_::_::_::hs)) _ _ ((36,sl_ p36_1 ((((((xs).take ((k:Int).toNat))++([m]))++((xs).drop ((k:Int).toNat))).length)) cap36_1)::_) _ _ _;refine zM (xC (pk [2] Z Z) ?_);refine Lt.run 1 Z (pk [2] Z Z) (Lt.nil (zD [4] [_] Z (qM (qO Z Z fun w' hw=>?_))))
    have e:=insS_mid (n:=m) hk2 hall (by simpa using h24)
    simp only [Int.toNat_natCast,Nat.mul_one] at *
    exact ⟨p36_1,cap36_1,cur36_1,by rw [e],⟨by simpa using hcp36_1,by rw [e];exact hlp36_1,by rw [e];exact htp36_1⟩,hw.sub (zU _ (zA _ (zU _ (qC _))))⟩
   refine yE (xs:=[.tmp 30]) (vs:=[i6_ m]) qH Z Z Z Z Z Z (by decide) Z fun p31_2 hp31_2=>(zM (xC (pk [1] Z Z) ?_));refine xT Z (yE (xs:=[]) (vs:=[]) qH Z Z Z Z Z Z (by decide) Z fun p25_1 hp25_1=>(zM (xC (pk [2] Z Z) ?_)));refine xT Z (yB (xs:=[]) (ys:=(xs).take ((k:Int).toNat)) qH 0 Z Z Z Z Z Z Z Z (by decide) Z (fun w1 hw1=>(Own.rowTake hw1 (i:=2) Z ht (by omega) hle)) (((xs).take ((k:Int).toNat)).length) (by first | (simp;done) | (simp;omega)) (by first | (simp;done) | (simp;omega) | omega) fun p29_2 cap29_2 cur29_2 hp29_2 hcp29_2 hlp29_2 htp29_2=>?_)
   show Ll _ _ (Own _ _ (_::_::_::hs)) _ _ ((29,sl_ p29_2 ((((xs).take ((k:Int).toNat)).length)) cap29_2)::_) _ _ _;refine zM (xC (pk [2] Z Z) ?_);refine xT Z (yB (xs:=(xs).take ((k:Int).toNat)) (ys:=[m]) qH 0 Z Z Z Z Z Z Z hcp29_2 hlp29_2 (by simpa using htp29_2) (fun w1 hw1=>(yK hw1 (i:=1) Z (n:=1) (cap:=1) (vs:=ints [m]) Z Z (by decide))) ((((xs).take ((k:Int).toNat))++([m])).length) (by first | (simp;done) | (simp;omega)) (by first | (simp;done) | (simp;omega) | omega) fun p32_2 cap32_2 cur32_2 hp32_2 hcp32_2 hlp32_2 htp32_2=>?_)
   show Ll _ _ (Own _ _ (_::_::_::hs)) _ _ ((32,sl_ p32_2 (((((xs).take ((k:Int).toNat))++([m])).length)) cap32_2)::_) _ _ _;refine zM (xC (pk [2] Z Z) ?_);refine xT Z (yB (xs:=((xs).take ((k:Int).toNat))++([m])) (ys:=(xs).drop ((k:Int).toNat)) qH 0 Z Z Z Z Z Z Z hcp32_2 hlp32_2 (by simpa using htp32_2) (fun w1 hw1=>(Own.rowDrop hw1 (i:=2) Z ht (by omega) hle)) (((((xs).take ((k:Int).toNat))++([m]))++((xs).drop ((k:Int).toNat))).length) (by first | (simp;done) | (simp;omega)) (by first | (simp;done) | (simp;omega) | omega) fun p36_2 cap36_2 cur36_2 hp36_2 hcp36_2 hlp36_2 htp36_2=>?_)
   show Ll _ _ (Own _ _ (_::_::_::hs)) _ _ ((36,sl_ p36_2 ((((((xs).take ((k:Int).toNat))++([m]))++((xs).drop ((k:Int).toNat))).length)) cap36_2)::_) _ _ _;refine zM (xC (pk [2] Z Z) ?_);refine Lt.run 1 Z (pk [2] Z Z) (Lt.nil (zD [4] [_] Z (qM (qO Z Z fun w' hw=>?_))))
   have e:=insS_mid (n:=m) hk2 hall (by simpa using h24)
   simp only [Int.toNat_natCast,Nat.mul_one] at *
   exact ⟨p36_2,cap36_2,cur36_2,by rw [e],⟨by simpa using hcp36_2,by rw [e];exact hlp36_2,by rw [e];exact htp36_2⟩,hw.sub (zA _ (zU _ (zU _ (qC _))))⟩
  refine qR (zD [0,1,5] [_,_,_] Z (zC (zB 1 Z (zE Z (qX Z Z Z (by omega) (by omega)) (zB 1 Z (zL (yA (k+1) ⟨by omega,fun i hi=>(Nat.lt_succ_iff_lt_or_eq.1 hi).elim (hall i) (fun e=>by subst e;exact ⟨by simpa using h17,by simpa using h24⟩)⟩ (by omega) (Sub.sel [0,1,5] Z) (fun _ h=>h))))))))
 replace h9:=zX h9;refine yV Z (zD [0,1] [_,_] Z (zF (zZ (qL 2 Z (yE (xs:=[.tmp 38]) (vs:=[i6_ m]) qH Z Z Z Z Z Z (by decide) Z fun p39 hp39=>(yB (xs:=xs) (ys:=[m]) qH 1 Z Z Z Z Z Z Z hc hle ht (fun w1 hw1=>(yK hw1 (i:=0) Z (n:=1) (cap:=1) (vs:=ints [m]) Z Z (by decide))) ((xs++([m])).length) (by first | (simp;done) | (simp;omega)) (by first | (simp;done) | (simp;omega) | omega) fun p40 cap40 cur40 hp40 hcp40 hlp40 htp40=>?_))))))
 show Ll _ _ (Own _ _ (_::_::hs)) _ _ ((40,sl_ p40 (((xs++([m])).length)) cap40)::_) _ _ _;refine qL 1 Z (zM (zD [4] [_] Z (qM (qO Z Z fun w' hw=>?_))))
 have e:=insS_end (l:=xs) (n:=m) (fun j hj=>hall j (by omega))
 simp only [Int.toNat_natCast,Nat.mul_one] at *
 exact ⟨p40,cap40,cur40,by rw [e],⟨by simpa using hcp40,by rw [e];exact hlp40,by rw [e];exact htp40⟩,hw.sub (zU _ (zA _ (qC _)))⟩
set_option maxHeartbeats 400000 in
theorem l5New_ok (B:Nat) (w0:World) (hs:List (Nat×Obj)) (w:World) (hw:Own B w0 hs w) :
    Calls Tryd.prog 40 [].toArray w fun en w'=>∃ q c:Nat,en=.returned (.agg #[.slice (some ⟨q,0,none⟩) 997 997,.slice (some ⟨c,0,none⟩) 1 1])∧Own B w0 (tabL 145 3 147 q c (List.replicate 997 none) []++hs) w':=by
 refine fnStartC (Own B w0 hs) (n:=4) (e:=[]) Tryd.func40 Z Z Z Z Ends.both hw (zF (zZ (xB Z Z Z Z Tryd.zeroValue59 fun p0 hp0=>?_)))
 show Ll _ _ (Own _ _ (bk_ p0 #[.slice none 0 0,.slice none 0 0] 59::hs)) _ _ ((0,pt_ p0)::_) _ _ _;refine zM (zD [0] [_] Z (zF (zZ (Ll.make (k:=997) Base.elem57 Tryd.zeroValue145 Z Z Z Z Z (by omega) fun p1 hp1=>?_))))
 rw [show madeCells (Value.cells (.slice none 0 0)) (997*1)=(List.replicate 997 (.slice none 0 0)).toArray from made_list _ _ rfl];refine yE (xs:=[.const (i6_ 0)]) (vs:=[i6_ 0]) qH Z Z Z Z Z Z (by decide) Z fun p2 hp2=>(qA (v:=.agg #[sl_ p1 997 997,sl_ p2 1 1]) Z (OpQ.build (xs:=[.tmp 1,.tmp 2]) (vs:=[sl_ p1 997 997,sl_ p2 1 1]) Z Z (by kernel_rfl)) (qT (cs':=#[sl_ p1 997 997,sl_ p2 1 1]) (hs':=(_::_::bk_ p0 #[sl_ p1 997 997,sl_ p2 1 1] 59::hs)) 2 Z Z Z Z Z (by kernel_rfl:_=some Tryd.t59) Z Z Z Z Z (zM (zD [0] [_] Z (qM (Kt.endBox (cs:=#[sl_ p1 997 997,sl_ p2 1 1]) 2 Z Z Z Tryd.isAgg59 Tryd.sizeOf59 fun w' hw=>?_))))));refine ⟨p1,p2,rfl,?_⟩
 show Own B w0 (_::_::(blks _ _++hs)) w'
 rw [blks_new,← new_bkts]
 exact (hw.perm (List.Perm.swap _ _ _)).sub (zA _ (zA _ (zU _ (qC _))))
set_option maxHeartbeats 400000 in
theorem number_nil (B:Nat) (w0:World) (hs:List (Nat×Obj)) (q c:Nat) (bs:List Bkt) (T:List (List UInt8)) (s:List UInt8) (w:World) (hT:TabOk bs T) (hlT:T.length≤1000000) (hls:s.length≤1000) (hb:bs.getD (hashS s) none=none) (hw:Own B w0 (bk_ q ((bs.map bktV).toArray) 145::bk_ c #[i6_ (T.length:Int)] 3::hs) w) :
    Calls Tryd.prog 86 [.agg #[sl_ q 997 997,sl_ c 1 1],str s].toArray w fun en w'=>en=.returned (.int .i64 (T.length:Int))∧s ∉ T∧∃ (g' cap':Nat) (cur':Array Value),cur'.size=cap'*2∧1≤cap'∧cur'.toList.take (1*2)=entC (s,T.length)∧Own B w0 ((g',.cells cur' 147 (0,0))::(q,.cells ((bs.set (hashS s) (some (g',1,cap',cur'))).map bktV).toArray 145 (0,0))::(c,.cells #[.int .i64 ((T.length:Int)+1)] 3 (0,0))::hs) w':=by
 refine fnStartC (Own B w0 (bk_ q ((bs.map bktV).toArray) 145::bk_ c #[i6_ (T.length:Int)] 3::hs)) (n:=77) (e:=[(0,.agg #[sl_ q 997 997,sl_ c 1 1]),(1,str s)]) Tryd.func86 Z Z Z Z Ends.both hw ?_
 have h997:=hash_lt s
 have hkl:hashS s<bs.length:=by rw [hT.len];exact h997
 have hE:=hT.no _ h997 hb
 have hEl:(ents T (hashS s)).length=0:=by rw [hE];rfl
 refine zF (zZ (yP (v:=.agg #[sl_ q 997 997,sl_ c 1 1]) Z Z Z Z Z fun p2 hp2=>?_))
 show Ll _ _ (Own _ _ (_::_::_::hs)) _ _ ((2,pt_ p2)::_) _ _ _;refine qL 1 Z (zM (zD [1,2] [_,_] Z (zF (zC (zB 1 Z (zL (zD [1,2,5] [_,_,_] Z (zF (zF (zC (zB 1 Z (zL (zD [1,2,5,6] [_,_,_,_] Z (qQ (yZ (σ:=Nat) (fun k=>k≤s.length) (fun k=>[(1,str s),(2,pt_ p2),(5,i6_ (((hashS (s.take k):Nat):Int))),(6,i6_ (k:Int))]) (fun k=>Own B w0 (bk_ p2 #[sl_ q 997 997,sl_ c 1 1] 59::bk_ q ((bs.map bktV).toArray) 145::bk_ c #[i6_ (T.length:Int)] 3::hs)) (fun k=>s.length - k) (0) (by omega) (Sub.cons Z (Sub.cons Z (Sub.cons Z (Sub.sel [6] Z)))) (fun _ h=>h) ?_)))))))))))))))
 rintro k hk;refine zF (zF (zC (zB 2 Z (zE (v:=i6_ (s.length:Int)) Z (xO Z qW Z) (zB 1 Z (zL (zD [1,2,5,6,12] [_,_,_,_,_] Z (yH (b:=decide ((k:Int)<(s.length:Int))) Z (fun h12=>?_) (fun h12=>?_)))))))))
 ·
  replace h12:=qB h12
  have hk2:k<s.length:=by omega
  have hkh:=hash_lt (s.take k)
  have hby:=UInt8.toNat_lt (s.getD k 0);refine qR (zD [1,2,5,6] [_,_,_,_] Z (zF (qQ (zC (zB 1 Z (zE Z (OpQ.mul Z Z Z (by omega) (by omega)) (zB 2 Z (zE (v:=.int .u8 (((s.getD ((k:Int).toNat) 0).toNat:Int))) Z (jH Z qW Z Z (by omega) (by omega)) (zE (v:=i6_ (((s.getD ((k:Int).toNat) 0).toNat:Int))) Z (OpQ.convInt .i64 Z xH xX Z (IntWalk.i64_in _ (by have:=UInt8.toNat_lt (s.getD ((k:Int).toNat) 0);omega))) (zE Z (qX Z Z Z (by simp only [Int.toNat_natCast];omega) (by simp only [Int.toNat_natCast];omega)) (zE (v:=i6_ (((hashS (s.take (k+1)):Nat):Int))) Z (xE (by rw [Wk.hash_step hk2];simp) (OpQ.rem Z Z Z (by omega) (by decide))) (zB 1 Z (zL (zD [1,2,5,6] [_,_,_,_] Z (zC (zB 1 Z (zE Z (qX Z Z Z (by omega) (by omega)) (zB 1 Z (zL (yA (k+1) (by omega) (by omega) (Sub.sel [1,2,5,6] Z) (fun _ h=>h)))))))))))))))))))))
 replace h12:=zX h12
 obtain rfl:k=s.length:=by omega
 rw [List.take_length];refine yV Z (zD [1,2,5] [_,_,_] Z (zF (zF (zC (zB 1 Z (zL (zD [1,2,5,7] [_,_,_,_] Z (qQ (yZ (σ:=Nat) (fun j=>j≤0∧∀ i:Nat,i<j→¬ ((ents T (hashS s)).getD i ([],0)).1=s) (fun j=>[(1,str s),(2,pt_ p2),(5,i6_ ((hashS s:Nat):Int)),(7,i6_ (j:Int))]) (fun j=>Own B w0 (bk_ p2 #[sl_ q 997 997,sl_ c 1 1] 59::bk_ q ((bs.map bktV).toArray) 145::bk_ c #[i6_ (T.length:Int)] 3::hs)) (fun j=>0 - j) (0) ⟨by omega,fun i hi=>absurd hi (by omega)⟩ (Sub.sel [1,2,5,7] Z) (fun _ h=>h) ?_)))))))))
 rintro j ⟨hj0,hall⟩;refine zF (zF (zC (zB 1 Z (zE Z (zP Z yT Z jF Z Z) (zE Z (zQ 0 Z jJ Z Z Z) (zB 1 Z (zE (v:=pf_ q (hashS s)) Z (xE (by simp) (yM Z xD xF Z Z (by omega) (by omega))) (zE (v:=.slice none 0 0) Z (xR (v:=.slice none 0 0) 1 Z jG Z Z (bkt_at (b:=none) hkl hb)) (zE Z (OpQ.lenS Z Tryd.runUnderlying145 Z) (zB 1 Z (zL (zD [1,2,5,7,30] [_,_,_,_,_] Z (yH (b:=decide ((j:Int)<(0:Int))) Z (fun h30=>?_) (fun h30=>?_))))))))))))))
 ·
  replace h30:=qB h30
  omega
 replace h30:=zX h30;refine yV Z (zD [1,2,5] [_,_,_] Z (zF (zC (zE Z (zP Z yT Z jC Z Z) (zE Z (zQ 0 Z xK Z Z Z) (zE (v:=pt_ c) Z (xE Z (yM (i:=0) Z zK zV Z Z (by decide) (by decide))) (zE Z (zQ 2 Z qG Z Z Z) (zB 1 Z (zL (zD [1,2,5,8] [_,_,_,_] Z (zF (zZ (qA Z (zP Z yT Z jC Z Z) (qA Z (zQ 0 Z xK Z Z Z) (qL 1 Z (qA Z (qX Z Z Z (by omega) (by omega)) (qA (v:=pt_ c) Z (xE Z (yM (i:=0) Z zK zV Z Z (by decide) (by decide))) (qU (v:=i6_ ((T.length:Int)+(1:Int))) (hs':=(_::_::bk_ c #[i6_ ((T.length:Int)+(1:Int))] 3::hs)) 2 Z Z Z Z Z Z zV Z (by simp) Z (zM (zD [1,2,5,8] [_,_,_,_] Z (zF (Wk.regionT (S:=Own B w0 [bk_ p2 #[sl_ q 997 997,sl_ c 1 1] 59,bk_ c #[i6_ ((T.length:Int)+(1:Int))] 3]) (.take 0 (.take 1 (.take 2 (.take 3 (.take 4 (.take 5 (.take 6 (.take 8 (.take 9 (.take 10 (.two 7 (.one 11 (.one 12 (.take 13 (.one 14 .done)))) 11 (.one 7 (.one 12 (.take 13 (.one 14 .done))))))))))))))) qZ (fun _ h=>h.drawn) (by kernel_rfl) (jA Z Z Z Z Z (zP Z yT Z jF Z Z) (pk [0,2] Z Z) (jA Z Z Z Z Z (zQ 0 Z jJ Z Z Z) (pk [0,2] Z Z) (Lt.run 1 Z (pk [0,2] Z Z) (jA Z Z Z Z Z (zP Z yT Z jF Z Z) (pk [0,2] Z Z) (jA Z Z Z Z Z (zQ 0 Z jJ Z Z Z) (pk [0,2] Z Z) (Lt.run 1 Z (pk [0,2] Z Z) (jA (v:=pf_ q (hashS s)) Z Z Z Z Z (xE (by simp) (yM Z xD xF Z Z (by omega) (by omega))) (pk [0,2] Z Z) (Lt.run 2 Z (pk [0,2] Z Z) (jA (v:=.agg #[str s,i6_ (T.length:Int)]) Z Z Z Z Z (OpQ.build (xs:=[.tmp 70,.tmp 71]) (vs:=[str s,i6_ (T.length:Int)]) Z Z (by kernel_rfl)) (pk [0,2] Z Z) (Lt.two Z Z ?_ ?_))))))))))))))))))))))))))))))))
 ·
  refine qA (v:=.slice none 0 0) Z (xR (v:=.slice none 0 0) 1 Z jG Z Z (bkt_at (b:=none) hkl hb)) (zM (xC (pk [0,2] Z Z) ?_));refine xT Z (Ll.slice2 jK Z Z Z Z Z fun p73 hp73=>(zM (xC (pk [1,3] Z Z) ?_)));refine xT Z (Ll.appendNil jK (entC (s,T.length)) Z Z Z Z Z Z (by decide) (by simp) Z (fun w1 hw1 ad had j u hj=>by injection had with had;subst had;rw [Addr.add_lit,Nat.zero_add,hw1.cell (i:=0) rfl];simpa [entC] using hj) (by decide) fun g2 cap2 cur2 hg2 hcg2 hlg2 htg2=>?_)
  show Ll _ _ (Own _ _ (_::_::_::_::_::hs)) _ _ ((74,sl_ g2 1 cap2)::_) _ _ _;refine zM (xC (pk [2,4] Z Z) ?_);refine jA (v:=pf_ q (hashS s)) Z Z Z Z Z (xE (by simp) (yM Z xD xF Z Z (by omega) (by omega))) (pk [2,4] Z Z) (xT Z (qU (v:=sl_ g2 1 cap2) (hs':=(_::_::_::bk_ q (((bs.set (hashS s) (some (g2,1,cap2,cur2))).map bktV).toArray) 145::_::hs)) 3 Z Z Z Z Z Z xF Z (by simpa using hkl) (by rw [← set_bkt];rfl) (zM (xC (pk [2,4] Z Z) ?_))));refine Lt.nil (zD [8] [_] Z (zF (zC (zB 2 Z (zL (zD [4] [_] Z (qM (qO Z Z fun w' hw=>?_))))))))
  exact ⟨rfl,ents_not (fun e he=>by obtain ⟨i,hi,rfl⟩:=List.mem_iff_getElem.1 he;have:=hall i (by omega);rwa [getD_at hi] at this),g2,cap2,cur2,hcg2,hlg2,htg2,hw.sub (zA _ (zU _ (zU _ (zA _ (zA _ (qC _))))))⟩
 refine Ll.slice2 jK Z Z Z Z Z fun p73_1 hp73_1=>(zM (xC (pk [1,3] Z Z) ?_));refine xT Z (qA (v:=.slice none 0 0) Z (xR (v:=.slice none 0 0) 2 Z jG Z Z (bkt_at (b:=none) hkl hb)) (zM (xC (pk [1,3] Z Z) ?_)));refine xT Z (Ll.appendNil jK (entC (s,T.length)) Z Z Z Z Z Z (by decide) (by simp) Z (fun w1 hw1 ad had j u hj=>by injection had with had;subst had;rw [Addr.add_lit,Nat.zero_add,hw1.cell (i:=0) rfl];simpa [entC] using hj) (by decide) fun g2_1 cap2_1 cur2_1 hg2_1 hcg2_1 hlg2_1 htg2_1=>?_)
 show Ll _ _ (Own _ _ (_::_::_::_::_::hs)) _ _ ((74,sl_ g2_1 1 cap2_1)::_) _ _ _;refine zM (xC (pk [2,4] Z Z) ?_);refine jA (v:=pf_ q (hashS s)) Z Z Z Z Z (xE (by simp) (yM Z xD xF Z Z (by omega) (by omega))) (pk [2,4] Z Z) (xT Z (qU (v:=sl_ g2_1 1 cap2_1) (hs':=(_::_::_::bk_ q (((bs.set (hashS s) (some (g2_1,1,cap2_1,cur2_1))).map bktV).toArray) 145::_::hs)) 3 Z Z Z Z Z Z xF Z (by simpa using hkl) (by rw [← set_bkt];rfl) (zM (xC (pk [2,4] Z Z) ?_))));refine Lt.nil (zD [8] [_] Z (zF (zC (zB 2 Z (zL (zD [4] [_] Z (qM (qO Z Z fun w' hw=>?_))))))))
 exact ⟨rfl,ents_not (fun e he=>by obtain ⟨i,hi,rfl⟩:=List.mem_iff_getElem.1 he;have:=hall i (by omega);rwa [getD_at hi] at this),g2_1,cap2_1,cur2_1,hcg2_1,hlg2_1,htg2_1,hw.sub (zA _ (zU _ (zU _ (zA _ (zA _ (qC _))))))⟩
set_option maxHeartbeats 400000 in
theorem number_some (B:Nat) (w0:World) (hs:List (Nat×Obj)) (q c:Nat) (bs:List Bkt) (T:List (List UInt8)) (s:List UInt8) (w:World) (hT:TabOk bs T) (hlT:T.length≤1000000) (hls:s.length≤1000) (g m cap:Nat) (cur:Array Value) (hb:bs.getD (hashS s) none=some (g,m,cap,cur)) (hw:Own B w0 (bk_ g cur 147::bk_ q ((bs.map bktV).toArray) 145::bk_ c #[i6_ (T.length:Int)] 3::hs) w) :
    Calls Tryd.prog 86 [.agg #[sl_ q 997 997,sl_ c 1 1],str s].toArray w fun en w'=>(∃ n:Nat,en=.returned (.int .i64 (n:Int))∧T[n]?=some s∧Own B w0 (bk_ g cur 147::bk_ q ((bs.map bktV).toArray) 145::bk_ c #[i6_ (T.length:Int)] 3::hs) w')∨(en=.returned (.int .i64 (T.length:Int))∧s ∉ T∧∃ (g' cap':Nat) (cur':Array Value),cur'.size=cap'*2∧m+1≤cap'∧cur'.toList.take ((m+1)*2)=flatE (ents T (hashS s))++entC (s,T.length)∧Own B w0 ((g',.cells cur' 147 (0,0))::(q,.cells ((bs.set (hashS s) (some (g',m+1,cap',cur'))).map bktV).toArray 145 (0,0))::(c,.cells #[.int .i64 ((T.length:Int)+1)] 3 (0,0))::hs) w'):=by
 refine fnStartC (Own B w0 (bk_ g cur 147::bk_ q ((bs.map bktV).toArray) 145::bk_ c #[i6_ (T.length:Int)] 3::hs)) (n:=77) (e:=[(0,.agg #[sl_ q 997 997,sl_ c 1 1]),(1,str s)]) Tryd.func86 Z Z Z Z Ends.both hw ?_
 have h997:=hash_lt s
 have hkl:hashS s<bs.length:=by rw [hT.len];exact h997
 obtain ⟨hm,hc,hle,ht⟩:=hT.yes _ h997 _ _ _ _ hb
 have hmT:=ents_le T (hashS s);refine zF (zZ (yP (v:=.agg #[sl_ q 997 997,sl_ c 1 1]) Z Z Z Z Z fun p2 hp2=>?_))
 show Ll _ _ (Own _ _ (_::_::_::_::hs)) _ _ ((2,pt_ p2)::_) _ _ _;refine qL 1 Z (zM (zD [1,2] [_,_] Z (zF (zC (zB 1 Z (zL (zD [1,2,5] [_,_,_] Z (zF (zF (zC (zB 1 Z (zL (zD [1,2,5,6] [_,_,_,_] Z (qQ (yZ (σ:=Nat) (fun k=>k≤s.length) (fun k=>[(1,str s),(2,pt_ p2),(5,i6_ (((hashS (s.take k):Nat):Int))),(6,i6_ (k:Int))]) (fun k=>Own B w0 (bk_ p2 #[sl_ q 997 997,sl_ c 1 1] 59::bk_ g cur 147::bk_ q ((bs.map bktV).toArray) 145::bk_ c #[i6_ (T.length:Int)] 3::hs)) (fun k=>s.length - k) (0) (by omega) (Sub.cons Z (Sub.cons Z (Sub.cons Z (Sub.sel [6] Z)))) (fun _ h=>h) ?_)))))))))))))))
 rintro k hk;refine zF (zF (zC (zB 2 Z (zE (v:=i6_ (s.length:Int)) Z (xO Z qW Z) (zB 1 Z (zL (zD [1,2,5,6,12] [_,_,_,_,_] Z (yH (b:=decide ((k:Int)<(s.length:Int))) Z (fun h12=>?_) (fun h12=>?_)))))))))
 ·
  replace h12:=qB h12
  have hk2:k<s.length:=by omega
  have hkh:=hash_lt (s.take k)
  have hby:=UInt8.toNat_lt (s.getD k 0);refine qR (zD [1,2,5,6] [_,_,_,_] Z (zF (qQ (zC (zB 1 Z (zE Z (OpQ.mul Z Z Z (by omega) (by omega)) (zB 2 Z (zE (v:=.int .u8 (((s.getD ((k:Int).toNat) 0).toNat:Int))) Z (jH Z qW Z Z (by omega) (by omega)) (zE (v:=i6_ (((s.getD ((k:Int).toNat) 0).toNat:Int))) Z (OpQ.convInt .i64 Z xH xX Z (IntWalk.i64_in _ (by have:=UInt8.toNat_lt (s.getD ((k:Int).toNat) 0);omega))) (zE Z (qX Z Z Z (by simp only [Int.toNat_natCast];omega) (by simp only [Int.toNat_natCast];omega)) (zE (v:=i6_ (((hashS (s.take (k+1)):Nat):Int))) Z (xE (by rw [Wk.hash_step hk2];simp) (OpQ.rem Z Z Z (by omega) (by decide))) (zB 1 Z (zL (zD [1,2,5,6] [_,_,_,_] Z (zC (zB 1 Z (zE Z (qX Z Z Z (by omega) (by omega)) (zB 1 Z (zL (yA (k+1) (by omega) (by omega) (Sub.sel [1,2,5,6] Z) (fun _ h=>h)))))))))))))))))))))
 replace h12:=zX h12
 obtain rfl:k=s.length:=by omega
 rw [List.take_length];refine yV Z (zD [1,2,5] [_,_,_] Z (zF (zF (zC (zB 1 Z (zL (zD [1,2,5,7] [_,_,_,_] Z (qQ (yZ (σ:=Nat) (fun j=>j≤m∧∀ i:Nat,i<j→¬ ((ents T (hashS s)).getD i ([],0)).1=s) (fun j=>[(1,str s),(2,pt_ p2),(5,i6_ ((hashS s:Nat):Int)),(7,i6_ (j:Int))]) (fun j=>Own B w0 (bk_ p2 #[sl_ q 997 997,sl_ c 1 1] 59::bk_ g cur 147::bk_ q ((bs.map bktV).toArray) 145::bk_ c #[i6_ (T.length:Int)] 3::hs)) (fun j=>m - j) (0) ⟨by omega,fun i hi=>absurd hi (by omega)⟩ (Sub.sel [1,2,5,7] Z) (fun _ h=>h) ?_)))))))))
 rintro j ⟨hj0,hall⟩;refine zF (zF (zC (zB 1 Z (zE Z (zP Z yT Z jF Z Z) (zE Z (zQ 0 Z jJ Z Z Z) (zB 1 Z (zE (v:=pf_ q (hashS s)) Z (xE (by simp) (yM Z xD xF Z Z (by omega) (by omega))) (zE (v:=sl_ g m cap) Z (xR (v:=sl_ g m cap) 2 Z jG Z Z (bkt_at (b:=some (g,m,cap,cur)) hkl hb)) (zE Z (OpQ.lenS Z Tryd.runUnderlying145 Z) (zB 1 Z (zL (zD [1,2,5,7,30] [_,_,_,_,_] Z (yH (b:=decide ((j:Int)<(m:Int))) Z (fun h30=>?_) (fun h30=>?_))))))))))))))
 ·
  replace h30:=qB h30
  have hj:j<m:=by omega
  refine qR (zD [1,2,5,7] [_,_,_,_] Z (zF (qQ (zF (zC (zE Z (zP Z yT Z jF Z Z) (zE Z (zQ 0 Z jJ Z Z Z) (zB 1 Z (zE (v:=pf_ q (hashS s)) Z (xE (by simp) (yM Z xD xF Z Z (by omega) (by omega))) (zE (v:=sl_ g m cap) Z (xR (v:=sl_ g m cap) 2 Z jG Z Z (bkt_at (b:=some (g,m,cap,cur)) hkl hb)) (zB 1 Z (zE (v:=pf_ g (j*2)) Z (xE (v':=pf_ g (j*2)) (by simp) (OpQ.indexAddr (i:=(j:Int)) Z Tryd.runUnderlying145 Tryd.sizeOf147 Z Z (by omega) (by omega))) (zE Z (zP Z Tryd.runUnderlying147 Z zT Z Z) (zE (v:=str (((ents T (hashS s)).getD j ([],0)).1)) Z (xR (v:=str (((ents T (hashS s)).getD j ([],0)).1)) 1 Z qJ Z Z (ent_at ht hm hj).1) (zB 1 Z (zE Z (OpQ.seql Z Z Z) (zL (zD [1,2,5,7,43] [_,_,_,_,_] Z (yH (b:=(((ents T (hashS s)).getD j ([],0)).1)==s) Z (fun h43=>?_) (fun h43=>?_))))))))))))))))))))
  ·
   refine zF (zC (zE Z (zP Z yT Z jF Z Z) (zE Z (zQ 0 Z jJ Z Z Z) (zB 1 Z (zE (v:=pf_ q (hashS s)) Z (xE (by simp) (yM Z xD xF Z Z (by omega) (by omega))) (zE (v:=sl_ g m cap) Z (xR (v:=sl_ g m cap) 2 Z jG Z Z (bkt_at (b:=some (g,m,cap,cur)) hkl hb)) (zB 1 Z (zE (v:=pf_ g (j*2)) Z (xE (v':=pf_ g (j*2)) (by simp) (OpQ.indexAddr (i:=(j:Int)) Z Tryd.runUnderlying145 Tryd.sizeOf147 Z Z (by omega) (by omega))) (zE Z (zP Z Tryd.runUnderlying147 Z zV Z Z) (zE (v:=i6_ ((((ents T (hashS s)).getD j ([],0)).2:Int))) Z (xR (v:=i6_ ((((ents T (hashS s)).getD j ([],0)).2:Int))) 1 Z qG Z Z (ent_at ht hm hj).2) (zB 1 Z (zL (zD [4] [_] Z (qM (qO Z Z fun w' hw=>?_)))))))))))))))
   exact .inl ⟨_,rfl,ents_mem (e:=(ents T (hashS s)).getD j ([],0)) (by rw [getD_at (by omega)];exact List.getElem_mem _) |>.trans (by rw [show ((ents T (hashS s)).getD j ([],0)).1=s from by simpa using h43]),hw.sub ((zU _ (zA _ (zA _ (zA _ (qC _))))))⟩
  refine qR (zD [1,2,5,7] [_,_,_,_] Z (zC (zB 1 Z (zE Z (qX Z Z Z (by omega) (by omega)) (zB 1 Z (zL (yA (j+1) ⟨by omega,fun i hi=>(Nat.lt_succ_iff_lt_or_eq.1 hi).elim (hall i) (fun e=>by subst e;simpa using h43)⟩ (by omega) (Sub.sel [1,2,5,7] Z) (fun _ h=>h))))))))
 replace h30:=zX h30;refine yV Z (zD [1,2,5] [_,_,_] Z (zF (zC (zE Z (zP Z yT Z jC Z Z) (zE Z (zQ 0 Z xK Z Z Z) (zE (v:=pt_ c) Z (xE Z (yM (i:=0) Z zK zV Z Z (by decide) (by decide))) (zE Z (zQ 3 Z qG Z Z Z) (zB 1 Z (zL (zD [1,2,5,8] [_,_,_,_] Z (zF (zZ (qA Z (zP Z yT Z jC Z Z) (qA Z (zQ 0 Z xK Z Z Z) (qL 1 Z (qA Z (qX Z Z Z (by omega) (by omega)) (qA (v:=pt_ c) Z (xE Z (yM (i:=0) Z zK zV Z Z (by decide) (by decide))) (qU (v:=i6_ ((T.length:Int)+(1:Int))) (hs':=(_::_::_::bk_ c #[i6_ ((T.length:Int)+(1:Int))] 3::hs)) 3 Z Z Z Z Z Z zV Z (by simp) Z (zM (zD [1,2,5,8] [_,_,_,_] Z (zF (Wk.regionT (S:=Own B w0 [bk_ p2 #[sl_ q 997 997,sl_ c 1 1] 59,bk_ c #[i6_ ((T.length:Int)+(1:Int))] 3]) (.take 0 (.take 1 (.take 2 (.take 3 (.take 4 (.take 5 (.take 6 (.take 8 (.take 9 (.take 10 (.two 7 (.one 11 (.one 12 (.take 13 (.one 14 .done)))) 11 (.one 7 (.one 12 (.take 13 (.one 14 .done))))))))))))))) qZ (fun _ h=>h.drawn) (by kernel_rfl) (jA Z Z Z Z Z (zP Z yT Z jF Z Z) (pk [0,3] Z Z) (jA Z Z Z Z Z (zQ 0 Z jJ Z Z Z) (pk [0,3] Z Z) (Lt.run 1 Z (pk [0,3] Z Z) (jA Z Z Z Z Z (zP Z yT Z jF Z Z) (pk [0,3] Z Z) (jA Z Z Z Z Z (zQ 0 Z jJ Z Z Z) (pk [0,3] Z Z) (Lt.run 1 Z (pk [0,3] Z Z) (jA (v:=pf_ q (hashS s)) Z Z Z Z Z (xE (by simp) (yM Z xD xF Z Z (by omega) (by omega))) (pk [0,3] Z Z) (Lt.run 2 Z (pk [0,3] Z Z) (jA (v:=.agg #[str s,i6_ (T.length:Int)]) Z Z Z Z Z (OpQ.build (xs:=[.tmp 70,.tmp 71]) (vs:=[str s,i6_ (T.length:Int)]) Z Z (by kernel_rfl)) (pk [0,3] Z Z) (Lt.two Z Z ?_ ?_))))))))))))))))))))))))))))))))
 ·
  refine qA (v:=sl_ g m cap) Z (xR (v:=sl_ g m cap) 2 Z jG Z Z (bkt_at (b:=some (g,m,cap,cur)) hkl hb)) (zM (xC (pk [0,3] Z Z) ?_));refine xT Z (Ll.slice2 jK Z Z Z Z Z fun p73 hp73=>(zM (xC (pk [1,4] Z Z) ?_)));refine xT Z (Ll.append jK 2 (entC (s,T.length)) Z Z Z Z Z Z Z hc hle Z (fun h=>by cases h) (fun w1 hw1 ad had j u hj=>by injection had with had;subst had;rw [Addr.add_lit,Nat.zero_add,hw1.cell (i:=0) rfl];simpa [entC] using hj) (by simp [entC,str,Value.oneCell']) (by omega) fun g2 cap2 cur2 hg2 hcg2 hlg2 htg2=>?_)
  show Ll _ _ (Own _ _ (_::_::_::_::_::hs)) _ _ ((74,sl_ g2 (m+1) cap2)::_) _ _ _;refine zM (xC (pk [1,4] Z Z) ?_);refine jA (v:=pf_ q (hashS s)) Z Z Z Z Z (xE (by simp) (yM Z xD xF Z Z (by omega) (by omega))) (pk [1,4] Z Z) (xT Z (qU (v:=sl_ g2 (m+1) cap2) (hs':=(_::_::_::bk_ q (((bs.set (hashS s) (some (g2,(m+1),cap2,cur2))).map bktV).toArray) 145::_::hs)) 3 Z Z Z Z Z Z xF Z (by simpa using hkl) (by rw [← set_bkt];rfl) (zM (xC (pk [1,4] Z Z) ?_))));refine Lt.nil (zD [8] [_] Z (zF (zC (zB 2 Z (zL (zD [4] [_] Z (qM (qO Z Z fun w' hw=>?_))))))))
  exact .inr ⟨rfl,ents_not (fun e he=>by obtain ⟨i,hi,rfl⟩:=List.mem_iff_getElem.1 he;have:=hall i (by omega);rwa [getD_at hi] at this),g2,cap2,cur2,hcg2,hlg2,by rw [htg2,ht],hw.sub (zU _ (zU _ (zA _ (zA _ (zA _ (qC _))))))⟩
 refine Ll.slice2 jK Z Z Z Z Z fun p73_1 hp73_1=>(zM (xC (pk [1,4] Z Z) ?_));refine xT Z (qA (v:=sl_ g m cap) Z (xR (v:=sl_ g m cap) 3 Z jG Z Z (bkt_at (b:=some (g,m,cap,cur)) hkl hb)) (zM (xC (pk [1,4] Z Z) ?_)));refine xT Z (Ll.append jK 2 (entC (s,T.length)) Z Z Z Z Z Z Z hc hle Z (fun h=>by cases h) (fun w1 hw1 ad had j u hj=>by injection had with had;subst had;rw [Addr.add_lit,Nat.zero_add,hw1.cell (i:=0) rfl];simpa [entC] using hj) (by simp [entC,str,Value.oneCell']) (by omega) fun g2_1 cap2_1 cur2_1 hg2_1 hcg2_1 hlg2_1 htg2_1=>?_)
 show Ll _ _ (Own _ _ (_::_::_::_::_::hs)) _ _ ((74,sl_ g2_1 (m+1) cap2_1)::_) _ _ _;refine zM (xC (pk [1,4] Z Z) ?_);refine jA (v:=pf_ q (hashS s)) Z Z Z Z Z (xE (by simp) (yM Z xD xF Z Z (by omega) (by omega))) (pk [1,4] Z Z) (xT Z (qU (v:=sl_ g2_1 (m+1) cap2_1) (hs':=(_::_::_::bk_ q (((bs.set (hashS s) (some (g2_1,(m+1),cap2_1,cur2_1))).map bktV).toArray) 145::_::hs)) 3 Z Z Z Z Z Z xF Z (by simpa using hkl) (by rw [← set_bkt];rfl) (zM (xC (pk [1,4] Z Z) ?_))));refine Lt.nil (zD [8] [_] Z (zF (zC (zB 2 Z (zL (zD [4] [_] Z (qM (qO Z Z fun w' hw=>?_))))))))
 exact .inr ⟨rfl,ents_not (fun e he=>by obtain ⟨i,hi,rfl⟩:=List.mem_iff_getElem.1 he;have:=hall i (by omega);rwa [getD_at hi] at this),g2_1,cap2_1,cur2_1,hcg2_1,hlg2_1,by rw [htg2_1,ht],hw.sub (zU _ (zU _ (zA _ (zA _ (zA _ (qC _))))))⟩
theorem number_ok (B:Nat) (w0:World) (hs:List (Nat×Obj)) (q c:Nat) (bs:List Bkt) (T:List (List UInt8)) (s:List UInt8) (w:World) (hT:TabOk bs T) (hlT:T.length≤1000000) (hls:s.length≤1000) (hw:Own B w0 (tabL 145 3 147 q c bs T++hs) w) :
    Calls Tryd.prog 86 [.agg #[.slice (some ⟨q,0,none⟩) 997 997,.slice (some ⟨c,0,none⟩) 1 1],str s].toArray w fun en w'=>∃ (n:Nat) (bs':List Bkt) (T':List (List UInt8)),en=.returned (.int .i64 (n:Int))∧(TabTo T bs' T' 1∧T'[n]?=some s)∧Own B w0 (tabL 145 3 147 q c bs' T'++hs) w':=by
  have h997:=hash_lt s
  have hkl:hashS s<bs.length:=by rw [hT.len];exact h997
  cases hb:bs.getD (hashS s) none with
  | none =>
    refine (number_nil B w0 (blks 147 bs++hs) q c bs T s w hT hlT hls hb hw).mono fun en w' ⟨h1,h2,g',cap',cur',h3,h4,h5,h6⟩=>(⟨T.length,bs.set (hashS s) (some (g',1,cap',cur')),T++[s],h1,⟨⟨hT.add h2 (by rw [hT.no _ h997 hb];rfl) h3 h4 (by rw [hT.no _ h997 hb];exact h5),List.prefix_append _ _,by simp⟩,by simp⟩,?_⟩)
    have hp:=(blks_put (E:=147) (g:=g') (m:=1) (cap:=cap') (cur:=cur') hkl)
    rw [blks_none hkl hb] at hp
    have e1:((T++[s]).length:Int)=(T.length:Int)+1:=by simp
    show Own B w0 (_::(_,.cells #[.int .i64 ((T++[s]).length:Int)] _ (0,0))::(blks _ _++hs)) w'
    rw [e1]
    exact h6.perm ((perm_back [_] [_,_] _).trans (List.Perm.cons _ (List.Perm.cons _ (hp.symm.append_right hs))))
  | some b =>
    obtain ⟨g,m,cap,cur⟩:=b
    have hp:=(blks_take (E:=147) hkl hb)
    have hw2:Own B w0 ((g,.cells cur 147 (0,0))::(q,.cells (bs.map bktV).toArray 145 (0,0))::(c,.cells #[.int .i64 (T.length:Int)] 3 (0,0))::(blks 147 (bs.set (hashS s) none)++hs)) w :=
      hw.perm ((List.Perm.cons _ (List.Perm.cons _ (hp.append_right hs))).trans (perm_back [_,_] [_] _))
    refine (number_some B w0 (blks 147 (bs.set (hashS s) none)++hs) q c bs T s w hT hlT hls g m cap cur hb hw2).mono fun en w' h=>?_
    rcases h with ⟨n,h1,h2,h3⟩ | ⟨h1,h2,g',cap',cur',h3,h4,h5,h6⟩
    · exact ⟨n,bs,T,h1,⟨⟨hT,List.prefix_refl _,by omega⟩,h2⟩,h3.perm ((perm_back [_] [_,_] _).trans (List.Perm.cons _ (List.Perm.cons _ (hp.symm.append_right hs))))⟩
    · refine ⟨T.length,bs.set (hashS s) (some (g',m+1,cap',cur')),T++[s],h1,⟨⟨hT.add h2 (by rw [(hT.yes _ h997 _ _ _ _ hb).1]) h3 h4 h5,List.prefix_append _ _,by simp⟩,by simp⟩,?_⟩
      have hp2:=(blks_put (E:=147) (g:=g') (m:=m+1) (cap:=cap') (cur:=cur') hkl)
      have e1:((T++[s]).length:Int)=(T.length:Int)+1:=by simp
      show Own B w0 (_::(_,.cells #[.int .i64 ((T++[s]).length:Int)] _ (0,0))::(blks _ _++hs)) w'
      rw [e1]
      exact h6.perm ((perm_back [_] [_,_] _).trans (List.Perm.cons _ (List.Perm.cons _ (hp2.symm.append_right hs))))
end Go.Proofs.YtagbocafnliabaaDoor
namespace Go.Proofs.YtagbocafnliabaaDoor
open Go.RowKit Go.Wk
set_option linter.unusedSimpArgs false
set_option maxHeartbeats 400000 in
theorem areElements_ok (a:St) (va:Value) (xs:List Int) (w:World) (hva:Ints w va xs) (hs:xs.length≤140737488355328) :
    Calls Tryd.prog 72 [vS a,va].toArray w fun en w'=>en=.returned (.bool (xs.all (elB a)))∧Below w.heap.size w w':=by
 refine fnStart (n:=9) (e:=[(0,vS a),(1,va)]) Tryd.func72 Z Z Z Z Ends.both (zF (zZ (yP (v:=vS a) Z Z Z Z Z fun p2 hp2=>?_)))
 show Ll _ _ (Own _ _ [_]) _ _ ((2,pt_ p2)::_) _ _ _;refine qL 1 Z (zM (zD [1,2] [_,_] Z (zF (zC (zB 1 Z (zE (v:=.func (.func 111) #[] #[pt_ p2]) Z (OpQ.func' (cap:=[.tmp 2]) Z Z) (zE (v:=bo_ (xs.any fun x=>!elB a x)) Z (qK Z Tryd.call110 Z zY (fun w1 hw1=>containsFunc_ok va xs w1 (Row.own hva hw1) hs 111 #[.pointer (some ⟨p2,0,none⟩)] (fun x=>!elB a x) Tryd.call111 (fun w2 hb x=>noEl_ok a p2 _ x w2 ((hw1.stable _ _ hb).has 0 _ _ Z).2))) (zB 2 Z (zL (zD [4] [_] Z (qM (qO Z Z fun w' hw=>?_))))))))))))
 exact ⟨ret_b (not_any_elB a xs),hw.below⟩
set_option maxHeartbeats 400000 in
theorem isList_ok (a:St) (va:Value) (xs:List Int) (w:World) (hsa:a.Small) (hva:Ints w va xs) (hs:xs.length≤140737488355328) :
    Calls Tryd.prog 89 [vS a,va].toArray w fun en w'=>en=.returned (.bool (listB a xs))∧Below w.heap.size w w':=by
 refine fnStart (n:=17) (e:=[(0,vS a),(1,va)]) Tryd.func89 Z Z Z Z Ends.both (zF (zZ (yP (v:=vS a) Z Z Z Z Z fun p2 hp2=>?_)))
 show Ll _ _ (Own _ _ [_]) _ _ ((2,pt_ p2)::_) _ _ _;refine qL 1 Z (zM (zD [1,2] [_,_] Z (zF (zC (zE Z (zR (cs:=#[i6_ a.n,str a.set,str a.rel]) 0 Z zN Z Z zI) (zE (v:=bo_ (validB a)) Z (qK Z Tryd.call34 Z zY (fun w1 hw1=>isStructure_ok a w1 hsa)) (zB 1 Z (yU fun b7 hg7=>?_))))))))
 cases b7
 ·
  refine zG Z (zG Z (zG Z (zB 2 Z (zG Z (zG Z (zG Z (zB 2 Z (zL (zD [4] [_] Z (qM (qO Z Z fun w' hw=>?_)))))))))))
  exact ⟨ret_b (by unfold listB;simp [*]),hw.below⟩
 refine zB 1 Z (zE (v:=i6_ (xs.length:Int)) Z (yI Z zK Z (ints_length _) (fun w1 hw1=>Row.own hva hw1)) (zB 3 Z (yU fun b12 hg12=>?_)))
 cases b12
 ·
  replace hg12:=zX hg12;refine zG Z (zG Z (zG Z (zB 2 Z (zL (zD [4] [_] Z (qM (qO Z Z fun w' hw=>?_)))))))
  exact ⟨ret_b (by unfold listB;simp [*]),hw.below⟩
 replace hg12:=qB hg12;refine zE Z (zR (cs:=#[i6_ a.n,str a.set,str a.rel]) 0 Z zN Z Z zI) (zB 1 Z (zE (v:=bo_ (xs.all (elB a))) Z (qK Z Tryd.call72 Z zY (fun w1 hw1=>areElements_ok a va xs w1 (Row.own hva hw1) (by first | (simp;done) | (simp;omega) | omega))) (zB 2 Z (zL (zD [4] [_] Z (qM (qO Z Z fun w' hw=>?_)))))))
 exact ⟨ret_b (by unfold listB;simp [*]),hw.below⟩
set_option maxHeartbeats 400000 in
theorem l4List_ok (a:St) (va:Value) (xs:List Int) (w:World) (hsa:a.Small) (hva:Ints w va xs) (hs:xs.length≤140737488355328) (hn : -9223372036854775808≤a.n) (hn1:a.n≤9223372036854775807) :
    Calls Tryd.prog 90 [vS a,va].toArray w fun en w'=>en=.returned (.bool (listB a xs))∧Below w.heap.size w w':=by
 refine fnStart (n:=28) (e:=[(0,vS a),(1,va)]) Tryd.func90 Z Z Z Z Ends.both (zF (zZ (yP (v:=vS a) Z Z Z Z Z fun p2 hp2=>?_)))
 show Ll _ _ (Own _ _ [_]) _ _ ((2,pt_ p2)::_) _ _ _;refine qL 1 Z (zM (zD [1,2] [_,_] Z (zF (zF (zC (zB 1 Z (zL (zD [1,2,5] [_,_,_] Z (qQ (yZ (σ:=Nat) (fun k=>k≤xs.length∧∀ i:Nat,i<k→inB (xs.getD i 0) 0 (pred64 a.n)=true) (fun k=>[(1,va),(2,pt_ p2),(5,i6_ (k:Int))]) (fun k=>Own w.heap.size w [bk_ p2 #[i6_ a.n,str a.set,str a.rel] 24]) (fun k=>xs.length - k) (0) ⟨by omega,fun i hi=>absurd hi (by omega)⟩ (Sub.sel [1,2,5] Z) (fun _ h=>h) ?_))))))))))
 rintro k ⟨hk,hall⟩;refine zF (zF (zC (zB 2 Z (zE (v:=i6_ (xs.length:Int)) Z (yI Z zK Z (ints_length _) (fun w1 hw1=>Row.own hva hw1)) (zB 1 Z (zL (zD [1,2,5,9] [_,_,_,_] Z (xA Z (fun h9=>?_) (fun h9=>?_)))))))))
 ·
  refine qR (zD [1,2,5] [_,_,_] Z (zF (qQ (zF (xV qZ (fun _ h=>h.drawn) (by kernel_rfl) (zB 2 Z (zE (v:=.pointer (some (sAt va (k:Int)))) Z (yG Z zK zV Z Z (by omega) (by rw [ints_length];omega) (fun w1 hw1=>Row.own hva hw1)) (zE (v:=i6_ (xs.getD ((k:Int).toNat) 0)) Z (yF Z qG Z (fun w1 hw1=>Ints.cell (Row.own hva hw1) (by omega) (by omega))) (zE Z (zP Z zH Z zV Z Z) (zE Z (zQ 0 Z qG Z Z Z) (zE (v:=i6_ (pred64 a.n)) Z (OpQ.pred Z Z Z (by omega) (by omega)) (zE (v:=bo_ (inB (xs.getD ((k:Int).toNat) 0) 0 (pred64 a.n))) Z (qK Z Tryd.call39 Z zY (fun w1 hw1=>l1In_ok (xs.getD ((k:Int).toNat) 0) 0 (pred64 a.n) w1 )) (zB 1 Z (zL (zD [1,2,5,20] [_,_,_,_] Z (yH (b:=!(inB (xs.getD ((k:Int).toNat) 0) 0 (pred64 a.n))) Z (fun h20=>?_) (fun h20=>?_)))))))))))))))))
  ·
   replace h20:=not_true h20;refine zF (zC (zB 1 Z (zL (zD [4] [_] Z (qM (qO Z Z fun w' hw=>?_))))))
   exact ⟨ret_b (list_no (i:=k) (by omega) (by simpa using h20)).symm,hw.below⟩
  replace h20:=not_false h20;refine qR (zD [1,2,5] [_,_,_] Z (zC (zB 1 Z (zE Z (qX Z Z Z (by omega) (by omega)) (zB 1 Z (zL (yA (k+1) ⟨by omega,fun i hi=>(Nat.lt_succ_iff_lt_or_eq.1 hi).elim (hall i) (fun e=>by subst e;simpa using h20)⟩ (by omega) (Sub.sel [1,2,5] Z) (fun _ h=>h))))))))
 refine yV Z (zD [1,2] [_,_] Z (zF (zC (zE Z (zR (cs:=#[i6_ a.n,str a.set,str a.rel]) 0 Z zN Z Z zI) (zE (v:=bo_ (validB a)) Z (qK Z Tryd.call38 Z zY (fun w1 hw1=>sValid_ok a w1 hsa)) (zB 1 Z (yU fun b23 hg23=>?_)))))))
 cases b23
 ·
  refine zG Z (zG Z (zG Z (zB 2 Z (zL (zD [4] [_] Z (qM (qO Z Z fun w' hw=>?_)))))))
  exact ⟨ret_b (by rw [list_yes (fun i hi=>hall i (by omega))];simp [*]),hw.below⟩
 refine zB 1 Z (zE (v:=i6_ (xs.length:Int)) Z (yI Z zK Z (ints_length _) (fun w1 hw1=>Row.own hva hw1)) (zB 3 Z (zL (zD [4] [_] Z (qM (qO Z Z fun w' hw=>?_))))))
 exact ⟨ret_b (by rw [list_yes (fun i hi=>hall i (by omega))];simp [*]),hw.below⟩
set_option maxHeartbeats 400000 in
theorem areLists_ok (a b:St) (xs ys:List Int) (va vb:Value) (w:World) (hsa:a.Small) (hsb:b.Small) (hva:Ints w va xs) (hvb:Ints w vb ys) (hs1:xs.length≤140737488355328) (hs2:ys.length≤140737488355328) :
    Calls Tryd.prog 50 [vS a,va,vS b,vb].toArray w fun en w'=>en=.returned (.bool (listsB a xs b ys))∧Below w.heap.size w w':=by
 refine fnStart (n:=24) (e:=[(0,vS a),(1,va),(2,vS b),(3,vb)]) Tryd.func50 Z Z Z Z Ends.both (zF (zZ (yP (v:=vS a) Z Z Z Z Z fun p4 hp4=>?_)))
 show Ll _ _ (Own _ _ [_]) _ _ ((4,pt_ p4)::_) _ _ _;refine yP (v:=vS b) Z Z Z Z Z fun p6 hp6=>?_
 show Ll _ _ (Own _ _ [_,_]) _ _ ((6,pt_ p6)::_) _ _ _;refine qL 1 Z (zM (zD [1,3,4,6] [_,_,_,_] Z (zF (zC (zE Z (zR (cs:=#[i6_ a.n,str a.set,str a.rel]) 1 Z zN Z Z zI) (zB 1 Z (zE (v:=bo_ (listB a xs)) Z (qK Z Tryd.call89 Z zY (fun w1 hw1=>isList_ok a va xs w1 hsa (Row.own hva hw1) (by first | (simp;done) | (simp;omega) | omega))) (zB 1 Z (yU fun b12 hg12=>?_)))))))))
 cases b12
 ·
  refine zG Z (zG Z (zG Z (zB 2 Z (zG Z (zG Z (zG Z (zG Z (zG Z (zB 2 Z (zL (zD [8] [_] Z (qM (qO Z Z fun w' hw=>?_)))))))))))))
  exact ⟨ret_b (by unfold listsB;simp [*]),hw.below⟩
 refine zE Z (zR (cs:=#[i6_ b.n,str b.set,str b.rel]) 0 Z zN Z Z zI) (zB 1 Z (zE (v:=bo_ (listB b ys)) Z (qK Z Tryd.call89 Z zY (fun w1 hw1=>isList_ok b vb ys w1 hsb (Row.own hvb hw1) (by first | (simp;done) | (simp;omega) | omega))) (zB 2 Z (yU fun b17 hg17=>?_))))
 cases b17
 ·
  refine zG Z (zG Z (zG Z (zG Z (zG Z (zB 2 Z (zL (zD [8] [_] Z (qM (qO Z Z fun w' hw=>?_)))))))))
  exact ⟨ret_b (by unfold listsB;simp [*]),hw.below⟩
 refine zB 1 Z (zE (v:=i6_ (xs.length:Int)) Z (yI Z zK Z (ints_length _) (fun w1 hw1=>Row.own hva hw1)) (zB 1 Z (zE (v:=i6_ (ys.length:Int)) Z (yI Z zK Z (ints_length _) (fun w1 hw1=>Row.own hvb hw1)) (zB 3 Z (zL (zD [8] [_] Z (qM (qO Z Z fun w' hw=>?_))))))))
 exact ⟨ret_b (by unfold listsB;simp [*]),hw.below⟩
set_option maxHeartbeats 400000 in
theorem l4Lists_ok (a b:St) (xs ys:List Int) (va vb:Value) (w:World) (hsa:a.Small) (hsb:b.Small) (hva:Ints w va xs) (hvb:Ints w vb ys) (hs1:xs.length≤140737488355328) (hs2:ys.length≤140737488355328) (loa : -9223372036854775808≤a.n) (hia:a.n≤9223372036854775807) (lob : -9223372036854775808≤b.n) (hib:b.n≤9223372036854775807) :
    Calls Tryd.prog 51 [vS a,va,vS b,vb].toArray w fun en w'=>en=.returned (.bool (listsB a xs b ys))∧Below w.heap.size w w':=by
 refine fnStart (n:=24) (e:=[(0,vS a),(1,va),(2,vS b),(3,vb)]) Tryd.func51 Z Z Z Z Ends.both (zF (zZ (yP (v:=vS a) Z Z Z Z Z fun p4 hp4=>?_)))
 show Ll _ _ (Own _ _ [_]) _ _ ((4,pt_ p4)::_) _ _ _;refine yP (v:=vS b) Z Z Z Z Z fun p6 hp6=>?_
 show Ll _ _ (Own _ _ [_,_]) _ _ ((6,pt_ p6)::_) _ _ _;refine qL 1 Z (zM (zD [1,3,4,6] [_,_,_,_] Z (zF (zC (zE Z (zR (cs:=#[i6_ a.n,str a.set,str a.rel]) 1 Z zN Z Z zI) (zB 1 Z (zE (v:=bo_ (listB a xs)) Z (qK Z Tryd.call90 Z zY (fun w1 hw1=>l4List_ok a va xs w1 hsa (Row.own hva hw1) (by first | (simp;done) | (simp;omega) | omega) loa hia)) (zB 1 Z (yU fun b12 hg12=>?_)))))))))
 cases b12
 ·
  refine zG Z (zG Z (zG Z (zB 2 Z (zG Z (zG Z (zG Z (zG Z (zG Z (zB 2 Z (zL (zD [8] [_] Z (qM (qO Z Z fun w' hw=>?_)))))))))))))
  exact ⟨ret_b (by unfold listsB;simp [*]),hw.below⟩
 refine zE Z (zR (cs:=#[i6_ b.n,str b.set,str b.rel]) 0 Z zN Z Z zI) (zB 1 Z (zE (v:=bo_ (listB b ys)) Z (qK Z Tryd.call90 Z zY (fun w1 hw1=>l4List_ok b vb ys w1 hsb (Row.own hvb hw1) (by first | (simp;done) | (simp;omega) | omega) lob hib)) (zB 2 Z (yU fun b17 hg17=>?_))))
 cases b17
 ·
  refine zG Z (zG Z (zG Z (zG Z (zG Z (zB 2 Z (zL (zD [8] [_] Z (qM (qO Z Z fun w' hw=>?_)))))))))
  exact ⟨ret_b (by unfold listsB;simp [*]),hw.below⟩
 refine zB 1 Z (zE (v:=i6_ (xs.length:Int)) Z (yI Z zK Z (ints_length _) (fun w1 hw1=>Row.own hva hw1)) (zB 1 Z (zE (v:=i6_ (ys.length:Int)) Z (yI Z zK Z (ints_length _) (fun w1 hw1=>Row.own hvb hw1)) (zB 3 Z (zL (zD [8] [_] Z (qM (qO Z Z fun w' hw=>?_))))))))
 exact ⟨ret_b (by unfold listsB;simp [*]),hw.below⟩
set_option maxHeartbeats 400000 in
theorem fits_ok (a b:St) (xs ys:List Int) (va vb:Value) (m:Nat) (w:World) (ha:a.Fine) (hb:b.Fine) (hva:Ints w va xs) (hvb:Ints w vb ys) (hA:a.Els xs) (hB:b.Els ys) (hm:xs.length=m+1) (hm2:ys.length=m+1) (hsmall:m≤1000000) :
    Calls Tryd.prog 161 [vS a,va,vS b,vb].toArray w fun en w'=>en=.returned (.bool (stillAt a xs b ys m))∧Below w.heap.size w w':=by
 refine fnStart (n:=97) (e:=[(0,vS a),(1,va),(2,vS b),(3,vb)]) Tryd.func161 Z Z Z Z Ends.both ?_
 have hT:=fits_true (a:=a) (b:=b) hm hm2;refine zF (zZ (yP (v:=vS a) Z Z Z Z Z fun p4 hp4=>?_))
 show Ll _ _ (Own _ _ [_]) _ _ ((4,pt_ p4)::_) _ _ _;refine yP (v:=vS b) Z Z Z Z Z fun p6 hp6=>?_
 show Ll _ _ (Own _ _ [_,_]) _ _ ((6,pt_ p6)::_) _ _ _;refine qL 1 Z (zM (zD [1,3,4,6] [_,_,_,_] Z (zF (zC (zB 1 Z (zE (v:=i6_ ((m+1):Int)) Z (yI Z zK Z ((ints_length _).trans hm) (fun w1 hw1=>Row.own hva hw1)) (zE (v:=i6_ (m:Int)) Z (xE (by simp) (OpQ.sub Z Z Z (by omega) (by omega))) (zB 1 Z (zL (zD [1,3,4,6,9] [_,_,_,_,_] Z (zF (zF (xV qZ (fun _ h=>h.drawn) (by kernel_rfl) (zE Z (zR (cs:=#[i6_ a.n,str a.set,str a.rel]) 1 Z zN Z Z zI) (zB 2 Z (zE (v:=.pointer (some (sAt va (m:Int)))) Z (yG Z zK zV Z Z (by omega) (by rw [ints_length];omega) (fun w1 hw1=>Row.own hva hw1)) (zE (v:=i6_ (xs.getD ((m:Int).toNat) 0)) Z (yF Z qG Z (fun w1 hw1=>Ints.cell (Row.own hva hw1) (by omega) (by omega))) (zE (v:=bo_ (a.inSet (xs.getD ((m:Int).toNat) 0))) Z (qK Z Tryd.call119 Z zY (fun w1 hw1=>l1Set_ok a (xs.getD ((m:Int).toNat) 0) w1 ha (by first | assumption | exact St.Els.at (by assumption) (by omega) (by omega)))) (zE Z (zR (cs:=#[i6_ b.n,str b.set,str b.rel]) 0 Z zN Z Z zI) (zB 2 Z (zE (v:=.pointer (some (sAt vb (m:Int)))) Z (yG Z zK zV Z Z (by omega) (by rw [ints_length];omega) (fun w1 hw1=>Row.own hvb hw1)) (zE (v:=i6_ (ys.getD ((m:Int).toNat) 0)) Z (yF Z qG Z (fun w1 hw1=>Ints.cell (Row.own hvb hw1) (by omega) (by omega))) (zE (v:=bo_ (b.inSet (ys.getD ((m:Int).toNat) 0))) Z (qK Z Tryd.call119 Z zY (fun w1 hw1=>l1Set_ok b (ys.getD ((m:Int).toNat) 0) w1 hb (by first | assumption | exact St.Els.at (by assumption) (by omega) (by omega)))) (zE Z (jO Z yR Z Z) (zL (zD [1,3,4,6,9,26] [_,_,_,_,_,_] Z (yH (b:=(a.inSet (xs.getD ((m:Int).toNat) 0)) != (b.inSet (ys.getD ((m:Int).toNat) 0))) Z (fun h26=>?_) (fun h26=>?_))))))))))))))))))))))))))))
 ·
  refine zF (zC (zB 1 Z (zL (zD [8] [_] Z (qM (qO Z Z fun w' hw=>?_))))))
  have hf:stillAt a xs b ys m=false:=by
   cases hs:stillAt a xs b ys m with
   | false=>rfl
   | true =>
    obtain ⟨e1,e3⟩:=hT.1 hs
    simp_all
  exact ⟨ret_b hf.symm,hw.below⟩
 refine qR (zD [1,3,4,6,9] [_,_,_,_,_] Z (zF (zF (zC (zB 1 Z (zL (zD [1,3,4,6,9,10] [_,_,_,_,_,_] Z (qQ (yZ (σ:=Nat) (fun k=>k≤m+1∧∀ i:Nat,i<k→pairOk a b (xs.getD m 0) (ys.getD m 0) (xs.getD i 0) (ys.getD i 0)=true) (fun k=>[(1,va),(3,vb),(4,pt_ p4),(6,pt_ p6),(9,i6_ (m:Int)),(10,i6_ (k:Int))]) (fun k=>Own w.heap.size w [bk_ p6 #[i6_ b.n,str b.set,str b.rel] 24,bk_ p4 #[i6_ a.n,str a.set,str a.rel] 24]) (fun k=>m+1 - k) (0) ⟨by omega,fun i hi=>absurd hi (by omega)⟩ (Sub.sel [1,3,4,6,9,10] Z) (fun _ h=>h) ?_)))))))))
 rintro k ⟨hk,hall⟩;refine zF (zF (zC (zB 3 Z (zL (zD [1,3,4,6,9,10,29] [_,_,_,_,_,_,_] Z (xA Z (fun h29=>?_) (fun h29=>?_)))))))
 ·
  refine qR (zD [1,3,4,6,9,10] [_,_,_,_,_,_] Z (zF (qQ (zF (xV qZ (fun _ h=>h.drawn) (by kernel_rfl) (zB 2 Z (zE (v:=.pointer (some (sAt va (k:Int)))) Z (yG Z zK zV Z Z (by omega) (by rw [ints_length];omega) (fun w1 hw1=>Row.own hva hw1)) (zE (v:=i6_ (xs.getD ((k:Int).toNat) 0)) Z (yF Z qG Z (fun w1 hw1=>Ints.cell (Row.own hva hw1) (by omega) (by omega))) (zB 2 Z (zE (v:=.pointer (some (sAt va (m:Int)))) Z (yG Z zK zV Z Z (by omega) (by rw [ints_length];omega) (fun w1 hw1=>Row.own hva hw1)) (zE (v:=i6_ (xs.getD ((m:Int).toNat) 0)) Z (yF Z qG Z (fun w1 hw1=>Ints.cell (Row.own hva hw1) (by omega) (by omega))) (zB 3 Z (zE (v:=.pointer (some (sAt vb (k:Int)))) Z (yG Z zK zV Z Z (by omega) (by rw [ints_length];omega) (fun w1 hw1=>Row.own hvb hw1)) (zE (v:=i6_ (ys.getD ((k:Int).toNat) 0)) Z (yF Z qG Z (fun w1 hw1=>Ints.cell (Row.own hvb hw1) (by omega) (by omega))) (zB 2 Z (zE (v:=.pointer (some (sAt vb (m:Int)))) Z (yG Z zK zV Z Z (by omega) (by rw [ints_length];omega) (fun w1 hw1=>Row.own hvb hw1)) (zE (v:=i6_ (ys.getD ((m:Int).toNat) 0)) Z (yF Z qG Z (fun w1 hw1=>Ints.cell (Row.own hvb hw1) (by omega) (by omega))) (zB 1 Z (zE Z (jO Z yR Z Z) (zB 1 Z (yU fun b51 hg51=>?_)))))))))))))))))))))
  cases b51
  ·
   refine zE Z (zR (cs:=#[i6_ a.n,str a.set,str a.rel]) 1 Z zN Z Z zI) (zB 2 Z (zE (v:=.pointer (some (sAt va (k:Int)))) Z (yG Z zK zV Z Z (by omega) (by rw [ints_length];omega) (fun w1 hw1=>Row.own hva hw1)) (zE (v:=i6_ (xs.getD ((k:Int).toNat) 0)) Z (yF Z qG Z (fun w1 hw1=>Ints.cell (Row.own hva hw1) (by omega) (by omega))) (zB 2 Z (zE (v:=.pointer (some (sAt va (m:Int)))) Z (yG Z zK zV Z Z (by omega) (by rw [ints_length];omega) (fun w1 hw1=>Row.own hva hw1)) (zE (v:=i6_ (xs.getD ((m:Int).toNat) 0)) Z (yF Z qG Z (fun w1 hw1=>Ints.cell (Row.own hva hw1) (by omega) (by omega))) (zE (v:=bo_ (a.inRel (xs.getD ((k:Int).toNat) 0) (xs.getD ((m:Int).toNat) 0))) Z (qK Z xQ Z zY (fun w1 hw1=>l1Rel_ok a (xs.getD ((k:Int).toNat) 0) (xs.getD ((m:Int).toNat) 0) w1 ha (by first | assumption | exact St.Els.at (by assumption) (by omega) (by omega)) (by first | assumption | exact St.Els.at (by assumption) (by omega) (by omega)))) (zE Z (zR (cs:=#[i6_ b.n,str b.set,str b.rel]) 0 Z zN Z Z zI) (zB 2 Z (zE (v:=.pointer (some (sAt vb (k:Int)))) Z (yG Z zK zV Z Z (by omega) (by rw [ints_length];omega) (fun w1 hw1=>Row.own hvb hw1)) (zE (v:=i6_ (ys.getD ((k:Int).toNat) 0)) Z (yF Z qG Z (fun w1 hw1=>Ints.cell (Row.own hvb hw1) (by omega) (by omega))) (zB 2 Z (zE (v:=.pointer (some (sAt vb (m:Int)))) Z (yG Z zK zV Z Z (by omega) (by rw [ints_length];omega) (fun w1 hw1=>Row.own hvb hw1)) (zE (v:=i6_ (ys.getD ((m:Int).toNat) 0)) Z (yF Z qG Z (fun w1 hw1=>Ints.cell (Row.own hvb hw1) (by omega) (by omega))) (zE (v:=bo_ (b.inRel (ys.getD ((k:Int).toNat) 0) (ys.getD ((m:Int).toNat) 0))) Z (qK Z xQ Z zY (fun w1 hw1=>l1Rel_ok b (ys.getD ((k:Int).toNat) 0) (ys.getD ((m:Int).toNat) 0) w1 hb (by first | assumption | exact St.Els.at (by assumption) (by omega) (by omega)) (by first | assumption | exact St.Els.at (by assumption) (by omega) (by omega)))) (zE Z (jO Z yR Z Z) (zB 2 Z (yU fun b74 hg74=>?_))))))))))))))))))
   cases b74
   ·
    refine zE Z (zR (cs:=#[i6_ a.n,str a.set,str a.rel]) 1 Z zN Z Z zI) (zB 2 Z (zE (v:=.pointer (some (sAt va (m:Int)))) Z (yG Z zK zV Z Z (by omega) (by rw [ints_length];omega) (fun w1 hw1=>Row.own hva hw1)) (zE (v:=i6_ (xs.getD ((m:Int).toNat) 0)) Z (yF Z qG Z (fun w1 hw1=>Ints.cell (Row.own hva hw1) (by omega) (by omega))) (zB 2 Z (zE (v:=.pointer (some (sAt va (k:Int)))) Z (yG Z zK zV Z Z (by omega) (by rw [ints_length];omega) (fun w1 hw1=>Row.own hva hw1)) (zE (v:=i6_ (xs.getD ((k:Int).toNat) 0)) Z (yF Z qG Z (fun w1 hw1=>Ints.cell (Row.own hva hw1) (by omega) (by omega))) (zE (v:=bo_ (a.inRel (xs.getD ((m:Int).toNat) 0) (xs.getD ((k:Int).toNat) 0))) Z (qK Z xQ Z zY (fun w1 hw1=>l1Rel_ok a (xs.getD ((m:Int).toNat) 0) (xs.getD ((k:Int).toNat) 0) w1 ha (by first | assumption | exact St.Els.at (by assumption) (by omega) (by omega)) (by first | assumption | exact St.Els.at (by assumption) (by omega) (by omega)))) (zE Z (zR (cs:=#[i6_ b.n,str b.set,str b.rel]) 0 Z zN Z Z zI) (zB 2 Z (zE (v:=.pointer (some (sAt vb (m:Int)))) Z (yG Z zK zV Z Z (by omega) (by rw [ints_length];omega) (fun w1 hw1=>Row.own hvb hw1)) (zE (v:=i6_ (ys.getD ((m:Int).toNat) 0)) Z (yF Z qG Z (fun w1 hw1=>Ints.cell (Row.own hvb hw1) (by omega) (by omega))) (zB 2 Z (zE (v:=.pointer (some (sAt vb (k:Int)))) Z (yG Z zK zV Z Z (by omega) (by rw [ints_length];omega) (fun w1 hw1=>Row.own hvb hw1)) (zE (v:=i6_ (ys.getD ((k:Int).toNat) 0)) Z (yF Z qG Z (fun w1 hw1=>Ints.cell (Row.own hvb hw1) (by omega) (by omega))) (zE (v:=bo_ (b.inRel (ys.getD ((m:Int).toNat) 0) (ys.getD ((k:Int).toNat) 0))) Z (qK Z xQ Z zY (fun w1 hw1=>l1Rel_ok b (ys.getD ((m:Int).toNat) 0) (ys.getD ((k:Int).toNat) 0) w1 hb (by first | assumption | exact St.Els.at (by assumption) (by omega) (by omega)) (by first | assumption | exact St.Els.at (by assumption) (by omega) (by omega)))) (zE Z (jO Z yR Z Z) (zB 1 Z (zL (zD [1,3,4,6,9,10,96] [_,_,_,_,_,_,_] Z (yH (b:=(a.inRel (xs.getD ((m:Int).toNat) 0) (xs.getD ((k:Int).toNat) 0)) != (b.inRel (ys.getD ((m:Int).toNat) 0) (ys.getD ((k:Int).toNat) 0))) Z (fun h96=>?_) (fun h96=>?_)))))))))))))))))))))
    ·
     refine zF (zC (zB 1 Z (zL (zD [8] [_] Z (qM (qO Z Z fun w' hw=>?_))))))
     have hf:stillAt a xs b ys m=false:=by
      cases hs:stillAt a xs b ys m with
      | false=>rfl
      | true =>
       obtain ⟨e1,e3⟩:=hT.1 hs
       obtain ⟨e4,e5,e6⟩:=pairOk_true.1 (e3 k (by omega))
       simp only [Int.toNat_natCast] at *
       simp_all
     exact ⟨ret_b hf.symm,hw.below⟩
    refine qR (zD [1,3,4,6,9,10] [_,_,_,_,_,_] Z (zC (zB 1 Z (zE Z (qX Z Z Z (by omega) (by omega)) (zB 1 Z (zL (yA (k+1) ⟨by omega,fun i hi=>(Nat.lt_succ_iff_lt_or_eq.1 hi).elim (hall i) (fun e=>by subst e;exact pairOk_true.2 ⟨by simpa using hg51,by simpa using hg74,by simpa using h96⟩)⟩ (by omega) (Sub.sel [1,3,4,6,9,10] Z) (fun _ h=>h))))))))
   refine zG Z (zG Z (zG Z (zG Z (zG Z (zG Z (zG Z (zG Z (zG Z (zG Z (zG Z (zG Z (zG Z (zG Z (zG Z (zG Z (zG Z (zG Z (zG Z (zG Z (zG Z (zB 1 Z (zL (zD [1,3,4,6,9,10,96] [_,_,_,_,_,_,_] Z (jM Z (zF (zC (zB 1 Z (zL (zD [8] [_] Z (qM (qO Z Z fun w' hw=>?_)))))))))))))))))))))))))))))))
   have hf:stillAt a xs b ys m=false:=by
    cases hs:stillAt a xs b ys m with
    | false=>rfl
    | true =>
     obtain ⟨e1,e3⟩:=hT.1 hs
     obtain ⟨e4,e5,e6⟩:=pairOk_true.1 (e3 k (by omega))
     simp only [Int.toNat_natCast] at *
     simp_all
   exact ⟨ret_b hf.symm,hw.below⟩
  refine zG Z (zG Z (zG Z (zG Z (zG Z (zG Z (zG Z (zG Z (zG Z (zG Z (zG Z (zG Z ?_)))))))))));refine zG Z (zG Z (zG Z (zG Z (zG Z (zG Z (zG Z (zG Z (zG Z (zB 2 Z (zG Z (zG Z (zG Z (zG Z (zG Z (zG Z (zG Z (zG Z (zG Z (zG Z (zG Z (zG Z (zG Z (zG Z (zG Z (zG Z (zG Z (zG Z (zG Z (zG Z (zG Z (zB 1 Z (zL (zD [1,3,4,6,9,10,96] [_,_,_,_,_,_,_] Z (jM Z (zF (zC (zB 1 Z (zL (zD [8] [_] Z (qM (qO Z Z fun w' hw=>?_)))))))))))))))))))))))))))))))))))))))))
  have hf:stillAt a xs b ys m=false:=by
   cases hs:stillAt a xs b ys m with
   | false=>rfl
   | true =>
    obtain ⟨e1,e3⟩:=hT.1 hs
    obtain ⟨e4,e5,e6⟩:=pairOk_true.1 (e3 k (by omega))
    simp only [Int.toNat_natCast] at *
    simp_all
  exact ⟨ret_b hf.symm,hw.below⟩
 refine yV Z (zD [] [] Z (zF (zC (zB 1 Z (zL (zD [8] [_] Z (qM (qO Z Z fun w' hw=>?_))))))))
 exact ⟨ret_b (hT.2 ⟨bne_false ‹_›,fun i hi=>hall i (by omega)⟩).symm,hw.below⟩
end Go.Proofs.YtagbocafnliabaaDoor
namespace Go.Proofs.YtagbocafnliabaaDoor
open Go.RowKit Go.Wk
set_option linter.unusedSimpArgs false
set_option maxHeartbeats 400000 in
theorem l4With_ok (va:Value) (xs:List Int) (x:Int) (w:World) (hva:Ints w va xs) (hs:xs.length≤1048576) :
    Calls Tryd.prog 84 [va,i6_ x].toArray w fun en w'=>∃ v,en=.returned v∧Below w.heap.size w w'∧NewRow w.heap.size 3 1 w' v (xs++[x]).length (ints (xs++[x])):=by
 refine fnStart (n:=11) (e:=[(0,va),(1,i6_ x)]) Tryd.func84 Z Z Z Z Ends.both (zF (zC (zB 1 Z (zL (zD [0,1] [_,_] Z (zF (zZ (yE (xs:=[]) (vs:=[]) qH Z Z Z Z Z Z (by decide) Z fun p5 hp5=>(qL 1 Z (yB (xs:=[]) (ys:=xs) qH 0 Z Z Z Z Z Z Z Z (by decide) Z (fun w1 hw1=>(Row.own hva hw1)) ((xs).length) (by first | (simp;done) | (simp;omega)) (by first | (simp;done) | (simp;omega) | omega) fun p7 cap7 cur7 hp7 hcp7 hlp7 htp7=>?_))))))))))
 show Ll _ _ (Own _ _ [_]) _ _ ((7,sl_ p7 ((xs).length) cap7)::_) _ _ _;refine qL 1 Z (yE (xs:=[.tmp 8]) (vs:=[i6_ x]) qH Z Z Z Z Z Z (by decide) Z fun p9 hp9=>(yB (xs:=xs) (ys:=[x]) qH 1 Z Z Z Z Z Z Z hcp7 hlp7 (by simpa using htp7) (fun w1 hw1=>(yK hw1 (i:=0) Z (n:=1) (cap:=1) (vs:=ints [x]) Z Z (by decide))) ((xs++([x])).length) (by first | (simp;done) | (simp;omega)) (by first | (simp;done) | (simp;omega) | omega) fun p10 cap10 cur10 hp10 hcp10 hlp10 htp10=>?_))
 show Ll _ _ (Own _ _ [_,_]) _ _ ((10,sl_ p10 (((xs++([x])).length)) cap10)::_) _ _ _;refine qL 1 Z (zM (zD [4] [_] Z (qM (qO Z Z fun w' hw=>?_))))
 exact ⟨_,rfl,hw.below,hw.newRow (i:=1) (n:=_) rfl (by assumption) (by assumption) (by assumption)⟩
set_option maxHeartbeats 400000 in
theorem with_ok (va:Value) (xs:List Int) (x:Int) (w:World) (hva:Ints w va xs) (hs:xs.length≤1048576) :
    Calls Tryd.prog 149 [va,i6_ x].toArray w fun en w'=>∃ v,en=.returned v∧Below w.heap.size w w'∧NewRow w.heap.size 3 1 w' v (xs++[x]).length (ints (xs++[x])):=by
 refine fnStart (n:=11) (e:=[(0,va),(1,i6_ x)]) Tryd.func149 Z Z Z Z Ends.both (zF (zC (zB 1 Z (zL (zD [0,1] [_,_] Z (zF (zZ (yE (xs:=[]) (vs:=[]) qH Z Z Z Z Z Z (by decide) Z fun p5 hp5=>(qL 1 Z (yB (xs:=[]) (ys:=xs) qH 0 Z Z Z Z Z Z Z Z (by decide) Z (fun w1 hw1=>(Row.own hva hw1)) ((xs).length) (by first | (simp;done) | (simp;omega)) (by first | (simp;done) | (simp;omega) | omega) fun p7 cap7 cur7 hp7 hcp7 hlp7 htp7=>?_))))))))))
 show Ll _ _ (Own _ _ [_]) _ _ ((7,sl_ p7 ((xs).length) cap7)::_) _ _ _;refine qL 1 Z (yE (xs:=[.tmp 8]) (vs:=[i6_ x]) qH Z Z Z Z Z Z (by decide) Z fun p9 hp9=>(yB (xs:=xs) (ys:=[x]) qH 1 Z Z Z Z Z Z Z hcp7 hlp7 (by simpa using htp7) (fun w1 hw1=>(yK hw1 (i:=0) Z (n:=1) (cap:=1) (vs:=ints [x]) Z Z (by decide))) ((xs++([x])).length) (by first | (simp;done) | (simp;omega)) (by first | (simp;done) | (simp;omega) | omega) fun p10 cap10 cur10 hp10 hcp10 hlp10 htp10=>?_))
 show Ll _ _ (Own _ _ [_,_]) _ _ ((10,sl_ p10 (((xs++([x])).length)) cap10)::_) _ _ _;refine qL 1 Z (zM (zD [4] [_] Z (qM (qO Z Z fun w' hw=>?_))))
 exact ⟨_,rfl,hw.below,hw.newRow (i:=1) (n:=_) rfl (by assumption) (by assumption) (by assumption)⟩
set_option maxHeartbeats 400000 in
theorem reply_of (n:Nat) (ih:∀ (a b:St) (xs ys:List Int) (va vb:Value) (w:World),a.Fine→b.Fine→Ints w va xs→Ints w vb ys→a.Els xs→b.Els ys→xs.length=ys.length→xs.length+n≤7→Calls Tryd.prog 80 #[vS a,va,vS b,vb,.int .i64 (n:Int)] w fun en w'=>en=.returned (.bool (goB n a xs b ys))∧Below w.heap.size w w') (a b:St) (xs ys:List Int) (va vb:Value) (w:World) (ha:a.Fine) (hb:b.Fine) (hva:Ints w va xs) (hvb:Ints w vb ys) (hA:a.Els xs) (hB:b.Els ys) (hlen:xs.length=ys.length) (h7:xs.length+(n+1)≤7) (x:Int) (hx:a.El x) :
    Calls Tryd.prog 117 [vS a,va,vS b,vb,i6_ ((n:Int)+1),i6_ x].toArray w fun en w'=>en=.returned (.tuple #[.int .i64 (((rep (goB n) a xs b ys x).getD 0:Nat):Int),.bool (rep (goB n) a xs b ys x).isSome])∧Below w.heap.size w w':=by
 refine fnStart (n:=48) (e:=[(0,vS a),(1,va),(2,vS b),(3,vb),(4,i6_ ((n:Int)+1)),(5,i6_ x)]) Tryd.func117 Z Z Z Z Ends.both ?_
 have hn8:=hb.hi
 have hn1:=hb.lo
 have hL:=rep_law (g:=goB n) (a:=a) (xs:=xs) (b:=b) (ys:=ys) (x:=x);refine zF (zZ (yP (v:=vS a) Z Z Z Z Z fun p6 hp6=>?_))
 show Ll _ _ (Own _ _ [_]) _ _ ((6,pt_ p6)::_) _ _ _;refine yP (v:=vS b) Z Z Z Z Z fun p8 hp8=>?_
 show Ll _ _ (Own _ _ [_,_]) _ _ ((8,pt_ p8)::_) _ _ _;refine qL 2 Z (zM (zD [1,3,4,5,6,8] [_,_,_,_,_,_] Z (zF (zF (zC (zE Z (zR (cs:=#[i6_ a.n,str a.set,str a.rel]) 1 Z zN Z Z zI) (zB 1 Z (zE Z (zR (cs:=#[i6_ b.n,str b.set,str b.rel]) 0 Z zN Z Z zI) (zB 1 Z (zE (v:=bo_ (sameB a xs b ys)) Z (qK Z Tryd.call79 Z zY (fun w1 hw1=>sameWay_ok a b xs ys va vb w1 ha hb (Row.own hva hw1) (Row.own hvb hw1) hA hB (by omega) (by omega))) (zB 1 Z (zL (zD [1,3,4,5,6,8,20] [_,_,_,_,_,_,_] Z (yH (b:=!(sameB a xs b ys)) Z (fun h20=>?_) (fun h20=>?_)))))))))))))))
 ·
  replace h20:=not_true h20;refine zF (zC (zB 2 Z (zL (zD [12,13] [_,_] Z (qM (jP Z Z Z fun w' hw=>?_))))))
  exact ⟨by rw [hL.1 (by simpa using h20)];rfl,hw.below⟩
 replace h20:=not_false h20;refine qR (zD [1,3,4,5,6,8] [_,_,_,_,_,_] Z (zF (zF (zC (zE Z (zP Z zH Z zV Z Z) (zE Z (zQ 0 Z qG Z Z Z) (zB 1 Z (zL (zD [1,3,4,5,6,8,22,23] [_,_,_,_,_,_,_,_] Z (qQ (yZ (σ:=Nat) (fun k=>(k:Int)≤b.n∧∀ i:Nat,i<k→(stillB a xs b ys x i&&goB n a (xs++[x]) b (ys++[(i:Int)]))=false) (fun k=>[(1,va),(3,vb),(4,i6_ ((n:Int)+1)),(5,i6_ x),(6,pt_ p6),(8,pt_ p8),(22,i6_ b.n),(23,i6_ (k:Int))]) (fun k=>Own w.heap.size w [bk_ p8 #[i6_ b.n,str b.set,str b.rel] 24,bk_ p6 #[i6_ a.n,str a.set,str a.rel] 24]) (fun k=>(b.n - k).toNat) (0) ⟨by omega,fun i hi=>absurd hi (by omega)⟩ (Sub.sel [1,3,4,5,6,8,22,23] Z) (fun _ h=>h) ?_)))))))))))
 rintro k ⟨hk,hall⟩;refine zF (zC (zB 1 Z (zL (zD [1,3,4,5,6,8,22,23,24] [_,_,_,_,_,_,_,_,_] Z (zF (yH (b:=decide ((k:Int)<b.n)) Z (fun h24=>?_) (fun h24=>?_)))))))
 ·
  replace h24:=qB h24
  have hy:b.El k:=⟨by omega,by omega⟩;refine qR (zD [1,3,4,5,6,8,22,23] [_,_,_,_,_,_,_,_] Z (zF (qQ (zF (zC (zB 2 Z (zL (zD [1,3,4,5,6,8,14,22,23] [_,_,_,_,_,_,_,_,_] Z (zF (Wk.regionO [(0,true),(1,true),(2,true),(3,true),(4,true),(5,true),(6,false),(7,true),(8,true),(9,true),(10,true),(12,true),(13,true),(14,true),(16,true),(17,true),(11,false),(15,false),(18,false),(19,true)] qZ (fun _ h=>h.drawn) (by kernel_rfl) (yS Z Z Z Z Z (zR (cs:=#[i6_ a.n,str a.set,str a.rel]) 1 Z zN Z Z zI) (fun _ h=>h) (yX 1 Z (fun _ h=>h) (yS Z Z Z Z Z (zR (cs:=#[i6_ b.n,str b.set,str b.rel]) 0 Z zN Z Z zI) (fun _ h=>h) (yX 3 Z (fun _ h=>h) (yJ Z (qA (v:=bo_ (stillB a xs b ys x (k:Int))) Z (qK Z Tryd.call116 Z zY (fun w1 hw1=>stillSame_ok a b xs ys va vb x (k:Int) w1 (ha) (hb) (Row.own hva hw1) (Row.own hvb hw1) (hA) (hB) (by first | (simp;done) | (simp;omega) | omega) (by first | (simp;done) | (simp;omega) | omega) (by first | assumption | exact St.Els.at (by assumption) (by omega) (by omega)) (by first | assumption | exact St.Els.at (by assumption) (by omega) (by omega)))) (zM (yD (fun _ h=>h) ?_))))))))))))))))));refine yX 1 Z (fun _ h=>h) (Ld.bool fun b33 hg33=>?_)
  cases b33
  ·
   refine Ld.pass Z Z Z Z (fun _ h=>h) (Ld.pass Z Z Z Z (fun _ h=>h) (Ld.pass Z Z Z Z (fun _ h=>h) (Ld.pass Z Z Z Z (fun _ h=>h) (Ld.pass Z Z Z Z (fun _ h=>h) (Ld.pass Z Z Z Z (fun _ h=>h) (Ld.pass Z Z Z Z (fun _ h=>h) (Ld.pass Z Z Z Z (fun _ h=>h) (yJ Z (Ll.pass3 Z (zM (yD (fun _ h=>h) ?_)))))))))));refine yJ Z (Ll.pass3 Z (zM (yD (fun _ h=>h) ?_)));refine yJ Z (Ll.pass3 Z (zM (yD (fun _ h=>h) ?_)));refine yX 1 Z (fun _ h=>h) (jN (zD [1,3,4,5,6,8,14,22,23,45] [_,_,_,_,_,_,_,_,_,_] Z (Wk.condF Z (qR (zD [1,3,4,5,6,8,22,23] [_,_,_,_,_,_,_,_] Z (zC (zE Z (qX Z Z Z (by omega) (by omega)) (zB 1 Z (zL (yA (k+1) ⟨by omega,fun i hi=>(Nat.lt_succ_iff_lt_or_eq.1 hi).elim (hall i) (fun e=>by subst e;simp_all)⟩ (by omega) (Sub.sel [1,3,4,5,6,8,22,23] Z) (fun _ h=>h)))))))))))
  refine yS Z Z Z Z Z (zR (cs:=#[i6_ a.n,str a.set,str a.rel]) 1 Z zN Z Z zI) (fun _ h=>h) (yX 2 Z (fun _ h=>h) (yS Z Z Z Z Z (zR (cs:=#[i6_ b.n,str b.set,str b.rel]) 0 Z zN Z Z zI) (fun _ h=>h) (yX 3 Z (fun _ h=>h) (yS (v:=i6_ (n:Int)) Z Z Z Z Z (xE (by congr 1;omega) (OpQ.sub Z Z Z (by omega) (by omega))) (fun _ h=>h) (yJ Z (Ll.callRow (xs:=[.tmp 35,.tmp 36]) (m:=(xs++[x]).length) (vs:=ints (xs++[x])) (el:=3) (size:=1) Z Z Z Z Tryd.call149 Z (fun w1 hw1=>with_ok va xs x w1 (Row.own hva hw1) (by omega)) fun p37 cap37 cur37 hp37 hcp37 hlp37 htp37=>(zM (yD (fun _ h=>h.tail) ?_))))))));refine yJ Z (Ll.callRow (xs:=[.tmp 39,.tmp 40]) (m:=(ys++[(k:Int)]).length) (vs:=ints (ys++[(k:Int)])) (el:=3) (size:=1) Z Z Z Z Tryd.call149 Z (fun w1 hw1=>with_ok vb ys (k:Int) w1 (Row.own hvb hw1) (by omega)) fun p41 cap41 cur41 hp41 hcp41 hlp41 htp41=>(zM (yD (fun _ h=>h.tail.tail) ?_)));refine yJ Z (qA (v:=bo_ (goB n a (xs++[x]) b (ys++[(k:Int)]))) Z (qK Z Tryd.call80 Z zY (fun w1 hw1=>ih a b (xs++[x]) (ys++[(k:Int)]) (sl_ p37 ((xs++[x]).length) cap37) (sl_ p41 ((ys++[(k:Int)]).length) cap41) w1 ha hb (yK hw1 (i:=1) Z (by simpa using htp37) (by simp) hlp37) (yK hw1 (i:=0) Z (by simpa using htp41) (by simp) hlp41) (els_more hA hx) (els_more hB hy) (by first | (simp;done) | (simp;omega) | omega) (by first | (simp;done) | (simp;omega) | omega))) (zM (yD (fun _ h=>h.tail.tail) ?_)));refine yX 1 Z (fun _ h=>h.tail.tail) (jN (zD [1,3,4,5,6,8,14,22,23,45] [_,_,_,_,_,_,_,_,_,_] Z (yH (b:=goB n a (xs++[x]) b (ys++[(k:Int)])) Z (fun h45=>?_) (fun h45=>?_))))
  ·
   refine zF (zC (zB 3 Z (zL (zD [12,13] [_,_] Z (qM (jP Z Z Z fun w' hw=>?_))))))
   exact ⟨by rw [hL.2.1 (by simpa using h20) k (by omega) hall (by simp [*])];rfl,hw.below⟩
  refine qR (zD [1,3,4,5,6,8,22,23] [_,_,_,_,_,_,_,_] Z (zC (zE Z (qX Z Z Z (by omega) (by omega)) (zB 1 Z (zL (yA (k+1) ⟨by omega,fun i hi=>(Nat.lt_succ_iff_lt_or_eq.1 hi).elim (hall i) (fun e=>by subst e;simp_all)⟩ (by omega) (Sub.sel [1,3,4,5,6,8,22,23] Z) (fun _ h=>h.tail.tail)))))))
 replace h24:=zX h24;refine yV Z (zD [] [] Z (zF (zC (zB 2 Z (zL (zD [12,13] [_,_] Z (qM (jP Z Z Z fun w' hw=>?_))))))))
 exact ⟨by rw [hL.2.2 (fun i hi=>hall i (by omega))];rfl,hw.below⟩
set_option maxHeartbeats 400000 in
theorem goes_zero (a b:St) (xs ys:List Int) (va vb:Value) (w:World) :
    Calls Tryd.prog 80 [vS a,va,vS b,vb,i6_ 0].toArray w fun en w'=>en=.returned (.bool (goB 0 a xs b ys))∧Below w.heap.size w w':=by
 refine fnStart (n:=55) (e:=[(0,vS a),(1,va),(2,vS b),(3,vb),(4,i6_ 0)]) Tryd.func80 Z Z Z Z Ends.both (zF (zZ (yP (v:=vS a) Z Z Z Z Z fun p5 hp5=>?_)))
 show Ll _ _ (Own _ _ [_]) _ _ ((5,pt_ p5)::_) _ _ _;refine yP (v:=vS b) Z Z Z Z Z fun p7 hp7=>?_
 show Ll _ _ (Own _ _ [_,_]) _ _ ((7,pt_ p7)::_) _ _ _;refine qL 1 Z (zM (zD [1,3,4,5,7] [_,_,_,_,_] Z (zF (zF (zC (zB 2 Z (zL (zD [1,3,4,5,7,18] [_,_,_,_,_,_] Z (yH (b:=decide ((0:Int)=(0:Int))) Z (fun h18=>?_) (fun h18=>?_))))))))))
 ·
  replace h18:=qB h18;refine zF (zC (zB 1 Z (zL (zD [10] [_] Z (qM (qO Z Z fun w' hw=>?_))))))
  exact ⟨rfl,hw.below⟩
 replace h18:=zX h18
 exact absurd rfl h18
set_option maxHeartbeats 400000 in
theorem goes_of (n:Nat) (ih:∀ (a b:St) (xs ys:List Int) (va vb:Value) (w:World),a.Fine→b.Fine→Ints w va xs→Ints w vb ys→a.Els xs→b.Els ys→xs.length=ys.length→xs.length+(n+1)≤7→∀ x:Int,a.El x→Calls Tryd.prog 117 #[vS a,va,vS b,vb,.int .i64 ((n:Int)+1),.int .i64 x] w fun en w'=>en=.returned (.tuple #[.int .i64 (((rep (goB n) a xs b ys x).getD 0:Nat):Int),.bool (rep (goB n) a xs b ys x).isSome])∧Below w.heap.size w w') (a b:St) (xs ys:List Int) (va vb:Value) (w:World) (ha:a.Fine) (hb:b.Fine) (hva:Ints w va xs) (hvb:Ints w vb ys) (hA:a.Els xs) (hB:b.Els ys) (hlen:xs.length=ys.length) (h7:xs.length+(n+1)≤7) :
    Calls Tryd.prog 80 [vS a,va,vS b,vb,i6_ ((n:Int)+1)].toArray w fun en w'=>en=.returned (.bool (goB (n+1) a xs b ys))∧Below w.heap.size w w':=by
 refine fnStart (n:=55) (e:=[(0,vS a),(1,va),(2,vS b),(3,vb),(4,i6_ ((n:Int)+1))]) Tryd.func80 Z Z Z Z Ends.both ?_
 have hn8:=hb.hi
 have hn1:=hb.lo
 have hm8:=ha.hi
 have hm1:=ha.lo;refine zF (zZ (yP (v:=vS a) Z Z Z Z Z fun p5 hp5=>?_))
 show Ll _ _ (Own _ _ [_]) _ _ ((5,pt_ p5)::_) _ _ _;refine yP (v:=vS b) Z Z Z Z Z fun p7 hp7=>?_
 show Ll _ _ (Own _ _ [_,_]) _ _ ((7,pt_ p7)::_) _ _ _;refine qL 1 Z (zM (zD [1,3,4,5,7] [_,_,_,_,_] Z (zF (zF (zC (zB 2 Z (zL (zD [1,3,4,5,7,18] [_,_,_,_,_,_] Z (yH (b:=decide (((n:Int)+1)=(0:Int))) Z (fun h18=>?_) (fun h18=>?_))))))))))
 ·
  replace h18:=qB h18
  omega
 replace h18:=zX h18;refine qR (zD [1,3,4,5,7] [_,_,_,_,_] Z (zF (zF (zC (zE Z (zP Z zH Z zV Z Z) (zE Z (zQ 1 Z qG Z Z Z) (zB 1 Z (zL (zD [1,3,4,5,7,20,21] [_,_,_,_,_,_,_] Z (qQ (yZ (σ:=Nat) (fun k=>(k:Int)≤a.n∧∀ i:Nat,i<k→(rep (goB n) a xs b ys i).isSome=true) (fun k=>[(1,va),(3,vb),(4,i6_ ((n:Int)+1)),(5,pt_ p5),(7,pt_ p7),(20,i6_ a.n),(21,i6_ (k:Int))]) (fun k=>Own w.heap.size w [bk_ p7 #[i6_ b.n,str b.set,str b.rel] 24,bk_ p5 #[i6_ a.n,str a.set,str a.rel] 24]) (fun k=>(a.n - k).toNat) (0) ⟨by omega,fun i hi=>absurd hi (by omega)⟩ (Sub.sel [1,3,4,5,7,20,21] Z) (fun _ h=>h) ?_)))))))))))
 rintro k ⟨hk1,hall1⟩;refine zF (zC (zB 1 Z (zL (zD [1,3,4,5,7,20,21,22] [_,_,_,_,_,_,_,_] Z (zF (yH (b:=decide ((k:Int)<a.n)) Z (fun h22=>?_) (fun h22=>?_)))))))
 ·
  replace h22:=qB h22
  have hx:a.El k:=⟨by omega,by omega⟩;refine qR (zD [1,3,4,5,7,20,21] [_,_,_,_,_,_,_] Z (zF (qQ (zF (zC (zB 2 Z (zL (zD [1,3,4,5,7,11,20,21] [_,_,_,_,_,_,_,_] Z (zF (zC (zE Z (zR (cs:=#[i6_ a.n,str a.set,str a.rel]) 1 Z zN Z Z zI) (zB 1 Z (zE Z (zR (cs:=#[i6_ b.n,str b.set,str b.rel]) 0 Z zN Z Z zI) (zB 3 Z (zE (v:=.tuple #[i6_ ((((rep (goB n) a xs b ys (k:Int)).getD 0:Nat):Int)),bo_ ((rep (goB n) a xs b ys (k:Int)).isSome)]) Z (qK Z Tryd.call117 Z zY (fun w1 hw1=>ih a b xs ys va vb w1 ha hb (Row.own hva hw1) (Row.own hvb hw1) hA hB (by first | (simp;done) | (simp;omega) | omega) (by first | (simp;done) | (simp;omega) | omega) (k:Int) hx)) (zB 1 Z (zE (v:=i6_ ((((rep (goB n) a xs b ys (k:Int)).getD 0:Nat):Int))) Z (yO Z Z Z) (zE (v:=bo_ ((rep (goB n) a xs b ys (k:Int)).isSome)) Z (yO Z Z Z) (zB 2 Z (zL (zD [1,3,4,5,7,13,20,21] [_,_,_,_,_,_,_,_] Z (zF (zC (zB 2 Z (zL (zD [1,3,4,5,7,20,21,35] [_,_,_,_,_,_,_,_] Z (yH (b:=!((rep (goB n) a xs b ys (k:Int)).isSome)) Z (fun h35=>?_) (fun h35=>?_))))))))))))))))))))))))))))
  ·
   replace h35:=not_true h35;refine zF (zC (zB 1 Z (zL (zD [10] [_] Z (qM (qO Z Z fun w' hw=>?_))))))
   exact ⟨ret_b (go_no1 (x:=k) (by omega) (by simpa using h35)).symm,hw.below⟩
  replace h35:=not_false h35;refine qR (zD [1,3,4,5,7,20,21] [_,_,_,_,_,_,_] Z (zC (zE Z (qX Z Z Z (by omega) (by omega)) (zB 1 Z (zL (yA (k+1) ⟨by omega,fun i hi=>(Nat.lt_succ_iff_lt_or_eq.1 hi).elim (hall1 i) (fun e=>by subst e;assumption)⟩ (by omega) (Sub.sel [1,3,4,5,7,20,21] Z) (fun _ h=>h)))))))
 replace h22:=zX h22;refine yV Z (zD [1,3,4,5,7] [_,_,_,_,_] Z (zF (zF (zC (zE Z (zP Z zH Z zV Z Z) (zE Z (zQ 0 Z qG Z Z Z) (zB 1 Z (zL (zD [1,3,4,5,7,38,39] [_,_,_,_,_,_,_] Z (qQ (yZ (σ:=Nat) (fun m=>(m:Int)≤b.n∧∀ i:Nat,i<m→(rep (goB n) b ys a xs i).isSome=true) (fun m=>[(1,va),(3,vb),(4,i6_ ((n:Int)+1)),(5,pt_ p5),(7,pt_ p7),(38,i6_ b.n),(39,i6_ (m:Int))]) (fun m=>Own w.heap.size w [bk_ p7 #[i6_ b.n,str b.set,str b.rel] 24,bk_ p5 #[i6_ a.n,str a.set,str a.rel] 24]) (fun m=>(b.n - m).toNat) (0) ⟨by omega,fun i hi=>absurd hi (by omega)⟩ (Sub.sel [1,3,4,5,7,38,39] Z) (fun _ h=>h) ?_)))))))))))
 rintro m ⟨hk2,hall2⟩;refine zF (zC (zB 1 Z (zL (zD [1,3,4,5,7,38,39,40] [_,_,_,_,_,_,_,_] Z (zF (yH (b:=decide ((m:Int)<b.n)) Z (fun h40=>?_) (fun h40=>?_)))))))
 ·
  replace h40:=qB h40
  have hy:b.El m:=⟨by omega,by omega⟩;refine qR (zD [1,3,4,5,7,38,39] [_,_,_,_,_,_,_] Z (zF (qQ (zF (zC (zB 2 Z (zL (zD [1,3,4,5,7,14,38,39] [_,_,_,_,_,_,_,_] Z (zF (zC (zE Z (zR (cs:=#[i6_ b.n,str b.set,str b.rel]) 0 Z zN Z Z zI) (zB 1 Z (zE Z (zR (cs:=#[i6_ a.n,str a.set,str a.rel]) 1 Z zN Z Z zI) (zB 3 Z (zE (v:=.tuple #[i6_ ((((rep (goB n) b ys a xs (m:Int)).getD 0:Nat):Int)),bo_ ((rep (goB n) b ys a xs (m:Int)).isSome)]) Z (qK Z Tryd.call117 Z zY (fun w1 hw1=>ih b a ys xs vb va w1 hb ha (Row.own hvb hw1) (Row.own hva hw1) hB hA (by first | (simp;done) | (simp;omega) | omega) (by first | (simp;done) | (simp;omega) | omega) (m:Int) hy)) (zB 1 Z (zE (v:=i6_ ((((rep (goB n) b ys a xs (m:Int)).getD 0:Nat):Int))) Z (yO Z Z Z) (zE (v:=bo_ ((rep (goB n) b ys a xs (m:Int)).isSome)) Z (yO Z Z Z) (zB 2 Z (zL (zD [1,3,4,5,7,16,38,39] [_,_,_,_,_,_,_,_] Z (zF (zC (zB 2 Z (zL (zD [1,3,4,5,7,38,39,53] [_,_,_,_,_,_,_,_] Z (yH (b:=!((rep (goB n) b ys a xs (m:Int)).isSome)) Z (fun h53=>?_) (fun h53=>?_))))))))))))))))))))))))))))
  ·
   replace h53:=not_true h53;refine zF (zC (zB 1 Z (zL (zD [10] [_] Z (qM (qO Z Z fun w' hw=>?_))))))
   exact ⟨ret_b (go_no2 (y:=m) (by omega) (by simpa using h53)).symm,hw.below⟩
  replace h53:=not_false h53;refine qR (zD [1,3,4,5,7,38,39] [_,_,_,_,_,_,_] Z (zC (zE Z (qX Z Z Z (by omega) (by omega)) (zB 1 Z (zL (yA (m+1) ⟨by omega,fun i hi=>(Nat.lt_succ_iff_lt_or_eq.1 hi).elim (hall2 i) (fun e=>by subst e;assumption)⟩ (by omega) (Sub.sel [1,3,4,5,7,38,39] Z) (fun _ h=>h)))))))
 replace h40:=zX h40;refine yV Z (zD [] [] Z (zF (zC (zB 1 Z (zL (zD [10] [_] Z (qM (qO Z Z fun w' hw=>?_))))))))
 exact ⟨ret_b (go_yes (fun i hi=>hall1 i (by omega)) (fun i hi=>hall2 i (by omega))).symm,hw.below⟩
theorem goes_ok:∀ n:Nat,∀ (a b:St) (xs ys:List Int) (va vb:Value) (w:World),a.Fine→b.Fine→Ints w va xs→Ints w vb ys→a.Els xs→b.Els ys→xs.length=ys.length→xs.length+n≤7→Calls Tryd.prog 80 #[vS a,va,vS b,vb,.int .i64 (n:Int)] w fun en w'=>en=.returned (.bool (goB n a xs b ys))∧Below w.heap.size w w'
  | 0=>fun a b xs ys va vb w _ _ _ _ _ _ _ _=>goes_zero a b xs ys va vb w
  | n+1=>fun a b xs ys va vb w ha hb hva hvb hA hB hl h7 =>
    goes_of n (fun a b xs ys va vb w ha hb hva hvb hA hB hl h7 x hx=>reply_of n (goes_ok n) a b xs ys va vb w ha hb hva hvb hA hB hl h7 x hx) a b xs ys va vb w ha hb hva hvb hA hB hl h7
theorem goes_at (r:Int) (h0:0≤r):∀ (a b:St) (xs ys:List Int) (va vb:Value) (w:World),a.Fine→b.Fine→Ints w va xs→Ints w vb ys→a.Els xs→b.Els ys→xs.length=ys.length→xs.length+r.toNat≤7→Calls Tryd.prog 80 #[vS a,va,vS b,vb,.int .i64 r] w fun en w'=>en=.returned (.bool (goB r.toNat a xs b ys))∧Below w.heap.size w w':=by
  have h:=goes_ok r.toNat
  rw [Int.toNat_of_nonneg h0] at h
  exact h
set_option maxHeartbeats 400000 in
theorem isGame_ok (a b:St) (xs ys:List Int) (va vb:Value) (w:World) (hsa:a.Small) (hsb:b.Small) (hva:Ints w va xs) (hvb:Ints w vb ys) (hs1:xs.length≤140737488355328) (hs2:ys.length≤140737488355328) (r:Int) :
    Calls Tryd.prog 43 [vS a,va,vS b,vb,i6_ r].toArray w fun en w'=>en=.returned (.bool (gameB a xs b ys r))∧Below w.heap.size w w':=by
 refine fnStart (n:=24) (e:=[(0,vS a),(1,va),(2,vS b),(3,vb),(4,i6_ r)]) Tryd.func43 Z Z Z Z Ends.both (zF (zZ (yP (v:=vS a) Z Z Z Z Z fun p5 hp5=>?_)))
 show Ll _ _ (Own _ _ [_]) _ _ ((5,pt_ p5)::_) _ _ _;refine yP (v:=vS b) Z Z Z Z Z fun p7 hp7=>?_
 show Ll _ _ (Own _ _ [_,_]) _ _ ((7,pt_ p7)::_) _ _ _;refine qL 1 Z (zM (zD [1,3,4,5,7] [_,_,_,_,_] Z (zF (zC (zE Z (zR (cs:=#[i6_ a.n,str a.set,str a.rel]) 1 Z zN Z Z zI) (zB 1 Z (zE Z (zR (cs:=#[i6_ b.n,str b.set,str b.rel]) 0 Z zN Z Z zI) (zB 1 Z (zE (v:=bo_ (listsB a xs b ys)) Z (qK Z Tryd.call50 Z zY (fun w1 hw1=>areLists_ok a b xs ys va vb w1 hsa hsb (Row.own hva hw1) (Row.own hvb hw1) (by first | (simp;done) | (simp;omega) | omega) (by first | (simp;done) | (simp;omega) | omega))) (zB 1 Z (yU fun b16 hg16=>?_)))))))))))
 cases b16
 ·
  refine zG Z (zG Z (zB 2 Z (zG Z (zG Z (zB 2 Z (zL (zD [10] [_] Z (qM (qO Z Z fun w' hw=>?_)))))))))
  exact ⟨ret_b (by unfold gameB inB;first | (simp_all;done) | (simp_all;omega)),hw.below⟩
 refine zB 4 Z (yU fun b20 hg20=>?_)
 cases b20
 ·
  replace hg20:=zX hg20;refine zG Z (zG Z (zB 2 Z (zL (zD [10] [_] Z (qM (qO Z Z fun w' hw=>?_))))))
  exact ⟨ret_b (by unfold gameB inB;first | (simp_all;done) | (simp_all;omega)),hw.below⟩
 replace hg20:=qB hg20;refine zB 4 Z (zL (zD [10] [_] Z (qM (qO Z Z fun w' hw=>?_))))
 exact ⟨ret_b (by unfold gameB inB;first | (simp_all;done) | (simp_all;omega)),hw.below⟩
set_option maxHeartbeats 400000 in
theorem wins_ok (a b:St) (xs ys:List Int) (va vb:Value) (w:World) (ha:a.Fine) (hb:b.Fine) (hva:Ints w va xs) (hvb:Ints w vb ys) (hA:a.Els xs) (hB:b.Els ys) (hlen:xs.length=ys.length) (h4:xs.length≤4) (r:Int) (h0:0≤r) (h3:r≤3) :
    Calls Tryd.prog 37 [vS a,va,vS b,vb,i6_ r].toArray w fun en w'=>en=.returned (.bool (winB r.toNat a xs b ys))∧Below w.heap.size w w':=by
 refine fnStart (n:=24) (e:=[(0,vS a),(1,va),(2,vS b),(3,vb),(4,i6_ r)]) Tryd.func37 Z Z Z Z Ends.both (zF (zZ (yP (v:=vS a) Z Z Z Z Z fun p5 hp5=>?_)))
 show Ll _ _ (Own _ _ [_]) _ _ ((5,pt_ p5)::_) _ _ _;refine yP (v:=vS b) Z Z Z Z Z fun p7 hp7=>?_
 show Ll _ _ (Own _ _ [_,_]) _ _ ((7,pt_ p7)::_) _ _ _;refine qL 1 Z (zM (zD [1,3,4,5,7] [_,_,_,_,_] Z (zF (zC (zE Z (zR (cs:=#[i6_ a.n,str a.set,str a.rel]) 1 Z zN Z Z zI) (zB 1 Z (zE Z (zR (cs:=#[i6_ b.n,str b.set,str b.rel]) 0 Z zN Z Z zI) (zB 1 Z (zE (v:=bo_ (sameB a xs b ys)) Z (qK Z Tryd.call79 Z zY (fun w1 hw1=>sameWay_ok a b xs ys va vb w1 ha hb (Row.own hva hw1) (Row.own hvb hw1) hA hB (by omega) (by omega))) (zB 1 Z (yU fun b16 hg16=>?_)))))))))))
 cases b16
 ·
  refine zG Z (zG Z (zG Z (zG Z (zG Z (zG Z (zB 2 Z (zL (zD [10] [_] Z (qM (qO Z Z fun w' hw=>?_))))))))))
  exact ⟨ret_b (by unfold winB;simp [*]),hw.below⟩
 refine zE Z (zR (cs:=#[i6_ a.n,str a.set,str a.rel]) 1 Z zN Z Z zI) (zB 1 Z (zE Z (zR (cs:=#[i6_ b.n,str b.set,str b.rel]) 0 Z zN Z Z zI) (zB 2 Z (zE (v:=bo_ (goB r.toNat a xs b ys)) Z (qK Z Tryd.call80 Z zY (fun w1 hw1=>goes_at r h0 a b xs ys va vb w1 ha hb (Row.own hva hw1) (Row.own hvb hw1) hA hB (by first | (simp;done) | (simp;omega) | omega) (by first | (simp;done) | (simp;omega) | omega))) (zB 2 Z (zL (zD [10] [_] Z (qM (qO Z Z fun w' hw=>?_)))))))))
 exact ⟨ret_b (by unfold winB;simp [*]),hw.below⟩
set_option maxHeartbeats 400000 in
theorem iWins_ok (a b:St) (xs ys:List Int) (va vb:Value) (w:World) (hsa:a.Small) (hsb:b.Small) (hva:Ints w va xs) (hvb:Ints w vb ys) (hs1:xs.length≤140737488355328) (hs2:ys.length≤140737488355328) (r:Int) :
    Calls Tryd.prog 12 [vS a,va,vS b,vb,i6_ r].toArray w fun en w'=>en=.returned (.bool (secB a xs b ys r))∧Below w.heap.size w w':=by
 refine fnStart (n:=25) (e:=[(0,vS a),(1,va),(2,vS b),(3,vb),(4,i6_ r)]) Tryd.func12 Z Z Z Z Ends.both (zF (zZ (yP (v:=vS a) Z Z Z Z Z fun p5 hp5=>?_)))
 show Ll _ _ (Own _ _ [_]) _ _ ((5,pt_ p5)::_) _ _ _;refine yP (v:=vS b) Z Z Z Z Z fun p7 hp7=>?_
 show Ll _ _ (Own _ _ [_,_]) _ _ ((7,pt_ p7)::_) _ _ _;refine qL 1 Z (zM (zD [1,3,4,5,7] [_,_,_,_,_] Z (zF (zC (zE Z (zR (cs:=#[i6_ a.n,str a.set,str a.rel]) 1 Z zN Z Z zI) (zB 1 Z (zE Z (zR (cs:=#[i6_ b.n,str b.set,str b.rel]) 0 Z zN Z Z zI) (zB 2 Z (zE (v:=bo_ (gameB a xs b ys r)) Z (qK Z Tryd.call43 Z zY (fun w1 hw1=>isGame_ok a b xs ys va vb w1 hsa hsb (Row.own hva hw1) (Row.own hvb hw1) (by first | (simp;done) | (simp;omega) | omega) (by first | (simp;done) | (simp;omega) | omega) r)) (zB 1 Z (yU fun b17 hg17=>?_)))))))))))
 cases b17
 ·
  refine zG Z (zG Z (zG Z (zG Z (zG Z (zG Z (zB 2 Z (zL (zD [10] [_] Z (qM (qO Z Z fun w' hw=>?_))))))))))
  exact ⟨ret_b (by unfold secB;simp [*]),hw.below⟩
 replace hg17:gameB a xs b ys r=true:=by simpa using hg17
 obtain ⟨hLL,hr0,hr3⟩:=gameB_true hg17
 obtain ⟨LA,LB,hlen⟩:=listsB_true hLL
 have ha:=LA.fine
 have hb:=LB.fine
 have hA:=LA.els
 have hB:=LB.els
 have hl4:=LA.len;refine zE Z (zR (cs:=#[i6_ a.n,str a.set,str a.rel]) 1 Z zN Z Z zI) (zB 1 Z (zE Z (zR (cs:=#[i6_ b.n,str b.set,str b.rel]) 0 Z zN Z Z zI) (zB 2 Z (zE (v:=bo_ (winB r.toNat a xs b ys)) Z (qK Z Tryd.call37 Z zY (fun w1 hw1=>wins_ok a b xs ys va vb w1 ha hb (Row.own hva hw1) (Row.own hvb hw1) hA hB (by first | (simp;done) | (simp;omega) | omega) (by first | (simp;done) | (simp;omega) | omega) r (by omega) (by omega))) (zB 2 Z (zL (zD [10] [_] Z (qM (qO Z Z fun w' hw=>?_)))))))))
 exact ⟨ret_b (by unfold secB;simp [*]),hw.below⟩
set_option maxHeartbeats 400000 in
theorem type_zero (B:Nat) (w0:World) (hs:List (Nat×Obj)) (q c:Nat) (bs:List Bkt) (T:List (List UInt8)) (a:St) (va:Value) (xs:List Int) (w:World) (hT:TabOk bs T) (ha:a.Fine) (hva:∀ w,Own B w0 hs w→Ints w va xs) (hA:a.Els xs) (h7:xs.length+0≤7) (hcap:T.length+cnt 0≤1000000) (hw:Own B w0 (tabL 145 3 147 q c bs T++hs) w) :
    Calls Tryd.prog 41 [.agg #[sl_ q 997 997,sl_ c 1 1],vS a,va,i6_ 0].toArray w fun en w'=>∃ (m:Nat) (bs':List Bkt) (T':List (List UInt8)),en=.returned (.int .i64 (m:Int))∧(TabTo T bs' T' (cnt 0)∧Means T' 0 a xs m)∧Own B w0 (tabL 145 3 147 q c bs' T'++hs) w':=by
 refine fnStartC (Own B w0 (tabL 145 3 147 q c bs T++hs)) (n:=56) (e:=[(0,.agg #[sl_ q 997 997,sl_ c 1 1]),(1,vS a),(2,va),(3,i6_ 0)]) Tryd.func41 Z Z Z Z Ends.both hw ?_
 have hc0:cnt 0=1:=rfl
 have hbits:(atomBits a xs).length≤175:=bits_small (by omega)
 have hd0:=decS_len 0 12 (by decide) (by decide);refine zF (zZ (yP (v:=.agg #[sl_ q 997 997,sl_ c 1 1]) Z Z Z Z Z fun p4 hp4=>?_))
 show Ll _ _ (Own _ _ (_::_::_::(blks 147 bs++hs))) _ _ ((4,pt_ p4)::_) _ _ _;refine yP (v:=vS a) Z Z Z Z Z fun p5 hp5=>?_
 show Ll _ _ (Own _ _ (_::_::_::_::(blks 147 bs++hs))) _ _ ((5,pt_ p5)::_) _ _ _;refine qL 1 Z (zM (zD [2,3,4,5] [_,_,_,_] Z (zF (zC (zE Z (zR (cs:=#[i6_ a.n,str a.set,str a.rel]) 0 Z zN Z Z zI) (zB 1 Z (zE (v:=str (atomBits a xs)) Z (qK Z Tryd.call82 Z zY (fun w1 hw1=>l5Atoms_ok a va xs w1 ha (hva _ (qF (f:=bk_ p5 #[i6_ a.n,str a.set,str a.rel] 24::bk_ p4 #[sl_ q 997 997,sl_ c 1 1] 59::bk_ q ((bs.map bktV).toArray) 145::bk_ c #[i6_ (T.length:Int)] 3::blks 147 (bs)) hw1)) hA (by first | (simp;done) | (simp;omega) | omega))) (zB 1 Z (zL (zD [2,3,4,5,9] [_,_,_,_,_] Z (zF (zF (zC (zB 2 Z (zL (zD [2,3,4,5,9,17] [_,_,_,_,_,_] Z (yH (b:=decide ((0:Int)<(0:Int))) Z (fun h17=>?_) (fun h17=>?_))))))))))))))))))
 ·
  replace h17:=qB h17
  exact absurd h17 (by decide)
 replace h17:=zX h17;refine qR (zD [3,4,9] [_,_,_] Z (zF (xL (S:=Own B w0 [bk_ p5 #[i6_ a.n,str a.set,str a.rel] 24,bk_ p4 #[sl_ q 997 997,sl_ c 1 1] 59]) [(0,true),(1,true),(4,true),(2,false),(3,true),(5,true),(6,false),(7,true)] qZ (fun _ h=>h.drawn) (by kernel_rfl) (yS Z Z Z Z Z (zR (cs:=#[sl_ q 997 997,sl_ c 1 1]) 1 Z Tryd.isAgg59 Z Z Tryd.sizeOf59) (pk [0,1] Z Z) (yX 2 Z (pk [0,1] Z Z) (yJ Z (qA (v:=str (decS 0)) Z (xE Z (qK Z Tryd.call85 Z zY (fun w1 hw1=>l15Dec_ok 0 w1 (by omega) (by omega)))) (zM (yD (pk [0,1] Z Z) ?_)))))))));refine yS Z Z Z Z Z (qS Z Z Z (by simp only [zJ,qD,qE];omega)) (pk [0,1] Z Z) (yS Z Z Z Z Z (qS Z Z Z (by simp only [zJ,qD,qE];omega)) (pk [0,1] Z Z) (yJ Z (Ll.callTab (S:=145) (I:=3) (E:=147) (q:=q) (c:=c) (bs:=bs) (T:=T) (hs:=hs) (ok:=fun m bs' T'=>TabTo T bs' T' 1∧T'[m]?=some (((decS 0)++([58]))++(atomBits a xs))) (xs:=[.tmp 49,.tmp 54]) (vs:=[.agg #[sl_ q 997 997,sl_ c 1 1],str (((decS 0)++([58]))++(atomBits a xs))]) [bk_ p5 #[i6_ a.n,str a.set,str a.rel] 24,bk_ p4 #[sl_ q 997 997,sl_ c 1 1] 59] Z Z Z Z Tryd.call86 Z (fun w1 hw1=>number_ok B w0 ([bk_ p5 #[i6_ a.n,str a.set,str a.rel] 24,bk_ p4 #[sl_ q 997 997,sl_ c 1 1] 59]++hs) q c bs T (((decS 0)++([58]))++(atomBits a xs)) w1 hT (by omega) (by simp only [zJ,qD,qE];omega) hw1) fun m bs_ T_ hKm=>?_)))
 show Ll _ _ (Own _ _ (_::_::_::_::(blks 147 bs_++hs))) _ _ ((55,i6_ (m:Int))::_) _ _ _;refine zM (yD (pk [0,1] Z Z) ?_);refine yX 1 Z (pk [0,1] Z Z) (jN (zD [8] [_] Z (qM (qO Z Z fun w' hw=>?_))))
 exact ⟨m,bs_,T_,rfl,⟨hKm.1,by show _=some (descr 0 _ []);simpa [descr,commas] using hKm.2⟩,hw.drop (f:=[bk_ p5 #[i6_ a.n,str a.set,str a.rel] 24,bk_ p4 #[sl_ q 997 997,sl_ c 1 1] 59])⟩
set_option maxHeartbeats 400000 in
theorem type_of (n:Nat) (ih:∀ (B:Nat) (w0:World) (hs:List (Nat×Obj)) (q c:Nat) (bs:List Bkt) (T:List (List UInt8)) (a:St) (va:Value) (xs:List Int) (w:World),TabOk bs T→a.Fine→(∀ w,Own B w0 hs w→Ints w va xs)→a.Els xs→xs.length+n≤7→T.length+cnt n≤1000000→Own B w0 (tabL 145 3 147 q c bs T++hs) w→Calls Tryd.prog 41 #[.agg #[.slice (some ⟨q,0,none⟩) 997 997,.slice (some ⟨c,0,none⟩) 1 1],vS a,va,.int .i64 (n:Int)] w fun en w'=>∃ (m:Nat) (bs':List Bkt) (T':List (List UInt8)),en=.returned (.int .i64 (m:Int))∧(TabTo T bs' T' (cnt n)∧Means T' n a xs m)∧Own B w0 (tabL 145 3 147 q c bs' T'++hs) w') (B:Nat) (w0:World) (hs:List (Nat×Obj)) (q c:Nat) (bs:List Bkt) (T:List (List UInt8)) (a:St) (va:Value) (xs:List Int) (w:World) (hT:TabOk bs T) (ha:a.Fine) (hva:∀ w,Own B w0 hs w→Ints w va xs) (hA:a.Els xs) (h7:xs.length+(n+1)≤7) (hcap:T.length+cnt (n+1)≤1000000) (hw:Own B w0 (tabL 145 3 147 q c bs T++hs) w) :
    Calls Tryd.prog 41 [.agg #[sl_ q 997 997,sl_ c 1 1],vS a,va,i6_ ((n:Int)+1)].toArray w fun en w'=>∃ (m:Nat) (bs':List Bkt) (T':List (List UInt8)),en=.returned (.int .i64 (m:Int))∧(TabTo T bs' T' (cnt (n+1))∧Means T' (n+1) a xs m)∧Own B w0 (tabL 145 3 147 q c bs' T'++hs) w':=by
 refine fnStartC (Own B w0 (tabL 145 3 147 q c bs T++hs)) (n:=56) (e:=[(0,.agg #[sl_ q 997 997,sl_ c 1 1]),(1,vS a),(2,va),(3,i6_ ((n:Int)+1))]) Tryd.func41 Z Z Z Z Ends.both hw ?_
 have hcs:=cnt_succ n
 have hbits:(atomBits a xs).length≤175:=bits_small (by omega)
 have hm8:=ha.hi
 have hm1:=ha.lo
 have hdn:=decS_len (n+1) 12 (show n+1<1000000000000 by omega) (by decide);refine zF (zZ (yP (v:=.agg #[sl_ q 997 997,sl_ c 1 1]) Z Z Z Z Z fun p4 hp4=>?_))
 show Ll _ _ (Own _ _ (_::_::_::(blks 147 bs++hs))) _ _ ((4,pt_ p4)::_) _ _ _;refine yP (v:=vS a) Z Z Z Z Z fun p5 hp5=>?_
 show Ll _ _ (Own _ _ (_::_::_::_::(blks 147 bs++hs))) _ _ ((5,pt_ p5)::_) _ _ _;refine qL 1 Z (zM (zD [2,3,4,5] [_,_,_,_] Z (zF (zC (zE Z (zR (cs:=#[i6_ a.n,str a.set,str a.rel]) 0 Z zN Z Z zI) (zB 1 Z (zE (v:=str (atomBits a xs)) Z (qK Z Tryd.call82 Z zY (fun w1 hw1=>l5Atoms_ok a va xs w1 ha (hva _ (qF (f:=bk_ p5 #[i6_ a.n,str a.set,str a.rel] 24::bk_ p4 #[sl_ q 997 997,sl_ c 1 1] 59::bk_ q ((bs.map bktV).toArray) 145::bk_ c #[i6_ (T.length:Int)] 3::blks 147 (bs)) hw1)) hA (by first | (simp;done) | (simp;omega) | omega))) (zB 1 Z (zL (zD [2,3,4,5,9] [_,_,_,_,_] Z (zF (zF (zC (zB 2 Z (zL (zD [2,3,4,5,9,17] [_,_,_,_,_,_] Z (yH (b:=decide ((0:Int)<((n:Int)+1))) Z (fun h17=>?_) (fun h17=>?_))))))))))))))))))
 ·
  replace h17:=qB h17;refine zF (zZ (yE (xs:=[]) (vs:=[]) qH Z Z Z Z Z Z (by decide) Z fun p18 hp18=>(qL 1 Z (zM (zD [2,3,4,5,9,10] [_,_,_,_,_,_] Z (zF (zF (zC (zB 1 Z (zL (zD [2,3,4,5,9,10,11] [_,_,_,_,_,_,_] Z (qQ (yZ (σ:=Nat×List Bkt×List (List UInt8)×Nat×Nat×Array Value×List Int) (fun ⟨k,bs1,T1,g,cap,cur,L⟩=>(k:Int)≤a.n∧TabTo T bs1 T1 (k*cnt n)∧FoundL T1 n a xs L k∧cur.size=cap*1∧L.length≤cap∧cur.toList.take L.length=ints L) (fun ⟨k,bs1,T1,g,cap,cur,L⟩=>[(2,va),(3,i6_ ((n:Int)+1)),(4,pt_ p4),(5,pt_ p5),(9,str (atomBits a xs)),(10,sl_ g L.length cap),(11,i6_ (k:Int))]) (fun ⟨k,bs1,T1,g,cap,cur,L⟩=>Own B w0 (bk_ g cur 3::bk_ p5 #[i6_ a.n,str a.set,str a.rel] 24::bk_ p4 #[sl_ q 997 997,sl_ c 1 1] 59::bk_ q ((bs1.map bktV).toArray) 145::bk_ c #[i6_ (T1.length:Int)] 3::(blks 147 bs1++hs))) (fun ⟨k,bs1,T1,g,cap,cur,L⟩=>(a.n - k).toNat) (0,bs,T,p18,0,#[],[]) ⟨by omega,⟨hT,List.prefix_refl _,by omega⟩,FoundL.zero,rfl,Nat.le_refl _,rfl⟩ (Sub.sel [2,3,4,5,9,10,11] Z) (fun _ h=>h) ?_)))))))))))))
  rintro ⟨k,bs1,T1,g,cap,cur,L⟩ ⟨hk,hTT,hF,hc,hle,ht⟩
  dsimp only
  have hFl:=hF.len
  have hTl:=hTT.len
  have hk8:=cnt_le k n (by omega);refine zF (zF (zC (zB 1 Z (zE Z (zP Z zH Z zV Z Z) (zE Z (zQ 1 Z qG Z Z Z) (zB 1 Z (zL (zD [2,3,4,5,9,10,11,22] [_,_,_,_,_,_,_,_] Z (yH (b:=decide ((k:Int)<a.n)) Z (fun h22=>?_) (fun h22=>?_))))))))))
  ·
   replace h22:=qB h22
   have hx:a.El k:=⟨by omega,by omega⟩
   have hk8b:=cnt_le (k+1) n (by omega)
   rw [Nat.add_mul,Nat.one_mul] at hk8b;refine qR (zD [2,3,4,5,9,10,11] [_,_,_,_,_,_,_] Z (zF (qQ (xL (S:=Own B w0 [bk_ p5 #[i6_ a.n,str a.set,str a.rel] 24,bk_ p4 #[sl_ q 997 997,sl_ c 1 1] 59]) [(0,true),(1,true),(2,true),(3,true),(4,true),(6,true),(7,true),(5,false),(8,false),(9,false),(10,true)] qZ (fun _ h=>h.drawn) (by kernel_rfl) (yX 1 Z (pk [1,2] Z Z) (yS Z Z Z Z Z (zR (cs:=#[sl_ q 997 997,sl_ c 1 1]) 1 Z Tryd.isAgg59 Z Z Tryd.sizeOf59) (pk [1,2] Z Z) (yS Z Z Z Z Z (zR (cs:=#[i6_ a.n,str a.set,str a.rel]) 0 Z zN Z Z zI) (pk [1,2] Z Z) (yX 3 Z (pk [1,2] Z Z) (yS (v:=i6_ (n:Int)) Z Z Z Z Z (xE (by congr 1;omega) (OpQ.sub Z Z Z (by omega) (by omega))) (pk [1,2] Z Z) (yJ Z (Ll.callRow (xs:=[.tmp 28,.tmp 29]) (m:=(xs++[(k:Int)]).length) (vs:=ints (xs++[(k:Int)])) (el:=3) (size:=1) Z Z Z Z Tryd.call84 Z (fun w1 hw1=>l4With_ok va xs (k:Int) w1 (hva _ (qF (f:=bk_ g cur 3::bk_ p5 #[i6_ a.n,str a.set,str a.rel] 24::bk_ p4 #[sl_ q 997 997,sl_ c 1 1] 59::bk_ q ((bs1.map bktV).toArray) 145::bk_ c #[i6_ (T1.length:Int)] 3::blks 147 (bs1)) hw1)) (by omega)) fun p30 cap30 cur30 hp30 hcp30 hlp30 htp30=>(zM (yD (pk [2,3] Z Z) ?_)))))))))))));refine yJ Z (Ll.callTab (S:=145) (I:=3) (E:=147) (q:=q) (c:=c) (bs:=bs1) (T:=T1) (hs:=hs) (ok:=fun m bs' T'=>TabTo T1 bs' T' (cnt n)∧Means T' n a (xs++[(k:Int)]) m) (xs:=[.tmp 26,.tmp 27,.tmp 30,.tmp 32]) (vs:=[.agg #[sl_ q 997 997,sl_ c 1 1],vS a,sl_ p30 ((xs++[(k:Int)]).length) cap30,i6_ (n:Int)]) [bk_ p30 cur30 3,bk_ g cur 3,bk_ p5 #[i6_ a.n,str a.set,str a.rel] 24,bk_ p4 #[sl_ q 997 997,sl_ c 1 1] 59] Z Z Z Z Tryd.call41 Z (fun w1 hw1=>ih B w0 ([bk_ p30 cur30 3,bk_ g cur 3,bk_ p5 #[i6_ a.n,str a.set,str a.rel] 24,bk_ p4 #[sl_ q 997 997,sl_ c 1 1] 59]++hs) q c bs1 T1 a (sl_ p30 ((xs++[(k:Int)]).length) cap30) (xs++[(k:Int)]) w1 hTT.ok ha (fun w2 hw2=>(yK hw2 (i:=0) Z (by simpa using htp30) (by simp) hlp30)) (els_more hA hx) (by first | (simp;done) | (simp;omega) | omega) (by omega) hw1) fun m bs_ T_ hKm=>?_)
   show Ll _ _ (Own _ _ (_::_::_::_::_::_::(blks 147 bs_++hs))) _ _ ((33,i6_ (m:Int))::_) _ _ _;refine zM (yD (pk [2,3] Z Z) ?_);refine yJ Z (Ll.callGet (σ:=Nat×Nat×Array Value) (ok:=fun (g,c',u)=>u.size=c'*1∧(insS L (m:Int)).length≤c'∧u.toList.take (insS L (m:Int)).length=ints (insS L (m:Int))) (v:=fun (g,c',u)=>.slice (some ⟨g,0,none⟩) (insS L (m:Int)).length c') (xs:=[.tmp 25,.tmp 33]) (vs:=[sl_ g L.length cap,i6_ (m:Int)]) (hs':=fun (g,c',u)=>(bk_ p30 cur30 3::bk_ g u 3::bk_ p5 #[i6_ a.n,str a.set,str a.rel] 24::bk_ p4 #[sl_ q 997 997,sl_ c 1 1] 59::bk_ q ((bs_.map bktV).toArray) 145::bk_ c #[i6_ (T_.length:Int)] 3::(blks 147 bs_++hs))) Z Z Z Z Tryd.call83 Z (fun w1 hw1=>(l5Insert_ok _ _ _ g cap cur L (m:Int) w1 hc hle ht (by omega) (hw1.perm (perm_back [bk_ p30 cur30 3] [_] _))).mono fun en w' ⟨g',cap',cur',h1,h2,h3⟩=>⟨(g',cap',cur'),h1,h2,h3.perm (perm_back [_] [bk_ p30 cur30 3] _)⟩) fun ⟨g_,cap_,cur_⟩ ⟨hcg_,hlg_,htg_⟩=>?_)
   show Ll _ _ (Own _ _ (_::_::_::_::_::_::(blks 147 bs_++hs))) _ _ ((34,sl_ g_ ((insS L (m:Int)).length) cap_)::_) _ _ _;refine zM (yD (pk [2,3] Z Z) ?_);refine yX 1 Z (pk [2,3] Z Z) (jN (zD [2,3,4,5,9,10,11] [_,_,_,_,_,_,_] Z (zC (zB 1 Z (zE Z (qX Z Z Z (by omega) (by omega)) (zB 1 Z (zL (yA ((k+1,bs_,T_,g_,cap_,cur_,(insS L (m:Int)))) ⟨by omega,hTT.trans hKm.1 (by rw [Nat.add_mul,Nat.one_mul];exact Nat.le_refl _),hF.step hKm.1.pre hKm.2,hcg_,hlg_,htg_⟩ (by omega) (Sub.sel [2,3,4,5,9,10,11] Z) (fun _ h=>h.tail)))))))))
  replace h22:=zX h22
  have hsm:=hF.small (by omega);refine yV Z (zD [3,4,9,10] [_,_,_,_] Z (zF (zC (zB 1 Z (zL (zD [3,4,9,10,12] [_,_,_,_,_] Z (qQ (yZ (σ:=Nat) (fun i=>i≤L.length) (fun i=>[(3,i6_ ((n:Int)+1)),(4,pt_ p4),(9,str (atomBits a xs++commas (L.take i))),(10,sl_ g L.length cap),(12,i6_ (i:Int))]) (fun i=>Own B w0 (bk_ g cur 3::bk_ p5 #[i6_ a.n,str a.set,str a.rel] 24::bk_ p4 #[sl_ q 997 997,sl_ c 1 1] 59::bk_ q ((bs1.map bktV).toArray) 145::bk_ c #[i6_ (T1.length:Int)] 3::(blks 147 bs1++hs))) (fun i=>L.length - i) (0) (by omega) (Sub.cons Z (Sub.cons Z (Sub.cons (by simp [commas,List.lookup]) (Sub.sel [10,12] Z)))) (fun _ h=>h) ?_))))))))
  rintro i hi;refine zF (zF (zC (zB 2 Z (zE Z (OpQ.lenS Z zK Z) (zB 1 Z (zL (zD [3,4,9,10,12,38] [_,_,_,_,_,_] Z (yH (b:=decide ((i:Int)<(L.length:Int))) Z (fun h38=>?_) (fun h38=>?_)))))))))
  ·
   replace h38:=qB h38
   have hct:=commas_take (i:=i) hsm (by omega)
   obtain ⟨hs0,hs1⟩:=at_small hsm (i:=i) (by omega)
   have hdi:=decS_len (L.getD i 0).toNat 12 (show _<1000000000000 by omega) (by decide);refine qR (zD [3,4,9,10,12] [_,_,_,_,_] Z (zF (qQ (zC (zB 1 Z (zE Z (qS Z Z Z (by simp only [zJ,qD,qE];omega)) (zB 2 Z (zE (v:=pf_ g i) Z (xE (by simp) (yM Z zK zV Z Z (by omega) (by omega))) (zE (v:=i6_ (L.getD (i) 0)) Z (xR 0 Z qG Z Z (cur_at ht (ints_at2 (by omega)))) (zE (v:=str (decS (L.getD (i) 0).toNat)) Z (qK Z Tryd.call85 Z zY (fun w1 hw1=>l15Dec_ok (L.getD (i) 0) w1 (by omega) (by omega))) (zE Z (qS Z Z Z (by simp only [zJ,qD,qE,Int.toNat_natCast] at *;omega)) (zB 1 Z (zL (zD [3,4,9,10,12] [_,_,_,_,_] Z (zC (zB 1 Z (zE Z (qX Z Z Z (by omega) (by omega)) (zB 1 Z (zL (yA (i+1) (by omega) (by omega) (Sub.cons Z (Sub.cons Z (Sub.cons (by rw [commas_step (by omega)];rfl) (Sub.sel [10,12] Z)))) (fun _ h=>h)))))))))))))))))))))
  replace h38:=zX h38
  obtain rfl:i=L.length:=by omega
  rw [List.take_length]
  have hcl:=commas_len hsm;refine yV Z (zD [3,4,9] [_,_,_] Z (zF (xL (S:=Own B w0 [bk_ g cur 3,bk_ p5 #[i6_ a.n,str a.set,str a.rel] 24,bk_ p4 #[sl_ q 997 997,sl_ c 1 1] 59]) [(0,true),(1,true),(4,true),(2,false),(3,true),(5,true),(6,false),(7,true)] qZ (fun _ h=>h.drawn) (by kernel_rfl) (yS Z Z Z Z Z (zR (cs:=#[sl_ q 997 997,sl_ c 1 1]) 2 Z Tryd.isAgg59 Z Z Tryd.sizeOf59) (pk [0,1,2] Z Z) (yX 2 Z (pk [0,1,2] Z Z) (yJ Z (qA (v:=str (decS (n+1))) Z (xE (by rw [show ((n:Int)+1).toNat=n+1 from by omega]) (qK Z Tryd.call85 Z zY (fun w1 hw1=>l15Dec_ok ((n:Int)+1) w1 (by omega) (by omega)))) (zM (yD (pk [0,1,2] Z Z) ?_)))))))));refine yS Z Z Z Z Z (qS Z Z Z (by simp only [zJ,qD,qE];omega)) (pk [0,1,2] Z Z) (yS Z Z Z Z Z (qS Z Z Z (by simp only [zJ,qD,qE];omega)) (pk [0,1,2] Z Z) (yJ Z (Ll.callTab (S:=145) (I:=3) (E:=147) (q:=q) (c:=c) (bs:=bs1) (T:=T1) (hs:=hs) (ok:=fun m bs' T'=>TabTo T1 bs' T' 1∧T'[m]?=some (((decS (n+1))++([58]))++(atomBits a xs++commas L))) (xs:=[.tmp 49,.tmp 54]) (vs:=[.agg #[sl_ q 997 997,sl_ c 1 1],str (((decS (n+1))++([58]))++(atomBits a xs++commas L))]) [bk_ g cur 3,bk_ p5 #[i6_ a.n,str a.set,str a.rel] 24,bk_ p4 #[sl_ q 997 997,sl_ c 1 1] 59] Z Z Z Z Tryd.call86 Z (fun w1 hw1=>number_ok B w0 ([bk_ g cur 3,bk_ p5 #[i6_ a.n,str a.set,str a.rel] 24,bk_ p4 #[sl_ q 997 997,sl_ c 1 1] 59]++hs) q c bs1 T1 (((decS (n+1))++([58]))++(atomBits a xs++commas L)) w1 hTT.ok (by omega) (by simp only [zJ,qD,qE];omega) hw1) fun m_1 bs__1 T__1 hKm_1=>?_)))
  show Ll _ _ (Own _ _ (_::_::_::_::_::(blks 147 bs__1++hs))) _ _ ((55,i6_ (m_1:Int))::_) _ _ _;refine zM (yD (pk [0,1,2] Z Z) ?_);refine yX 1 Z (pk [0,1,2] Z Z) (jN (zD [8] [_] Z (qM (qO Z Z fun w' hw=>?_))))
  obtain rfl:k=a.n.toNat:=by omega
  exact ⟨m_1,bs__1,T__1,rfl,⟨hTT.trans hKm_1.1 (by rw [cnt_succ];omega),hF.means hKm_1.1.pre hKm_1.2⟩,hw.drop (f:=[bk_ g cur 3,bk_ p5 #[i6_ a.n,str a.set,str a.rel] 24,bk_ p4 #[sl_ q 997 997,sl_ c 1 1] 59])⟩
 replace h17:=zX h17
 exact absurd h17 (by omega)
theorem type_ok:∀ n:Nat,∀ (B:Nat) (w0:World) (hs:List (Nat×Obj)) (q c:Nat) (bs:List Bkt) (T:List (List UInt8)) (a:St) (va:Value) (xs:List Int) (w:World),TabOk bs T→a.Fine→(∀ w,Own B w0 hs w→Ints w va xs)→a.Els xs→xs.length+n≤7→T.length+cnt n≤1000000→Own B w0 (tabL 145 3 147 q c bs T++hs) w→Calls Tryd.prog 41 #[.agg #[.slice (some ⟨q,0,none⟩) 997 997,.slice (some ⟨c,0,none⟩) 1 1],vS a,va,.int .i64 (n:Int)] w fun en w'=>∃ (m:Nat) (bs':List Bkt) (T':List (List UInt8)),en=.returned (.int .i64 (m:Int))∧(TabTo T bs' T' (cnt n)∧Means T' n a xs m)∧Own B w0 (tabL 145 3 147 q c bs' T'++hs) w'
  | 0=>fun B w0 hs q c bs T a va xs w hT ha hva hA h7 hcap hw=>type_zero B w0 hs q c bs T a va xs w hT ha hva hA h7 hcap hw
  | n+1=>fun B w0 hs q c bs T a va xs w hT ha hva hA h7 hcap hw=>type_of n (type_ok n) B w0 hs q c bs T a va xs w hT ha hva hA h7 hcap hw
theorem type_at (r:Int) (h0:0≤r):∀ (B:Nat) (w0:World) (hs:List (Nat×Obj)) (q c:Nat) (bs:List Bkt) (T:List (List UInt8)) (a:St) (va:Value) (xs:List Int) (w:World),TabOk bs T→a.Fine→(∀ w,Own B w0 hs w→Ints w va xs)→a.Els xs→xs.length+r.toNat≤7→T.length+cnt r.toNat≤1000000→Own B w0 (tabL 145 3 147 q c bs T++hs) w→Calls Tryd.prog 41 #[.agg #[.slice (some ⟨q,0,none⟩) 997 997,.slice (some ⟨c,0,none⟩) 1 1],vS a,va,.int .i64 r] w fun en w'=>∃ (m:Nat) (bs':List Bkt) (T':List (List UInt8)),en=.returned (.int .i64 (m:Int))∧(TabTo T bs' T' (cnt r.toNat)∧Means T' r.toNat a xs m)∧Own B w0 (tabL 145 3 147 q c bs' T'++hs) w':=by
  have h:=type_ok r.toNat
  rw [Int.toNat_of_nonneg h0] at h
  exact h
set_option maxHeartbeats 400000 in
theorem l5Wins_ok (a b:St) (xs ys:List Int) (va vb:Value) (w:World) (ha:a.Fine) (hb:b.Fine) (hva:Ints w va xs) (hvb:Ints w vb ys) (hA:a.Els xs) (hB:b.Els ys) (hlen:xs.length=ys.length) (h4:xs.length≤4) (r:Int) (h0:0≤r) (h3:r≤3) :
    Calls Tryd.prog 52 [vS a,va,vS b,vb,i6_ r].toArray w fun en w'=>en=.returned (.bool (winB r.toNat a xs b ys))∧Below w.heap.size w w':=by
 refine fnStart (n:=24) (e:=[(0,vS a),(1,va),(2,vS b),(3,vb),(4,i6_ r)]) Tryd.func52 Z Z Z Z Ends.both ?_
 have hcn:=cnt_small (n:=r.toNat) (by omega);refine zF (zZ (yP (v:=vS a) Z Z Z Z Z fun p5 hp5=>?_))
 show Ll _ _ (Own _ _ [_]) _ _ ((5,pt_ p5)::_) _ _ _;refine yP (v:=vS b) Z Z Z Z Z fun p7 hp7=>?_
 show Ll _ _ (Own _ _ [_,_]) _ _ ((7,pt_ p7)::_) _ _ _;refine qL 1 Z (zM (zD [1,3,4,5,7] [_,_,_,_,_] Z (zF (zZ (Ll.callGet (σ:=Nat×Nat×List Bkt) (ok:=fun s=>TabOk s.2.2 []) (v:=fun s=>.agg #[.slice (some ⟨s.1,0,none⟩) 997 997,.slice (some ⟨s.2.1,0,none⟩) 1 1]) (xs:=[]) (vs:=[]) (hs':=fun s=>[bk_ p7 #[i6_ b.n,str b.set,str b.rel] 24,bk_ p5 #[i6_ a.n,str a.set,str a.rel] 24]++(tabL 145 3 147 s.1 s.2.1 s.2.2 []++[])) Z Z Z Z Tryd.call40 Z (fun w1 hw1=>(l5New_ok _ _ _ w1 hw1).mono fun en w' ⟨q,c,h1,h2⟩=>⟨(q,c,_),h1,TabOk.new,by dsimp only;rw [List.append_nil];exact h2.perm perm_front⟩) fun ⟨q,c,bs0⟩ hT0=>?_)))))
 show Ll _ _ (Own _ _ (_::_::_::_::(blks 147 bs0++[]))) _ _ ((12,.agg #[sl_ q 997 997,sl_ c 1 1])::_) _ _ _;refine xB Z Z Z Z Tryd.zeroValue59 fun p11 hp11=>?_
 show Ll _ _ (Own _ _ (bk_ p11 #[.slice none 0 0,.slice none 0 0] 59::_::_::_::_::(blks 147 bs0++[]))) _ _ ((11,pt_ p11)::_) _ _ _;refine qT (cs':=#[sl_ q 997 997,sl_ c 1 1]) (hs':=(bk_ p11 #[sl_ q 997 997,sl_ c 1 1] 59::_::_::_::_::(blks 147 bs0++[]))) 0 Z Z Z Z Z (by kernel_rfl:_=some Tryd.t59) Z Z Z Z Z (zM (zD [1,3,4,5,7,11] [_,_,_,_,_,_] Z (zF (xL (S:=Own w.heap.size w [bk_ p11 #[sl_ q 997 997,sl_ c 1 1] 59,bk_ p7 #[i6_ b.n,str b.set,str b.rel] 24,bk_ p5 #[i6_ a.n,str a.set,str a.rel] 24]) [(0,true),(1,true),(2,true),(3,true),(5,true),(6,true),(7,true),(8,true),(4,false),(9,false),(10,true),(11,true)] qZ (fun _ h=>h.drawn) (by kernel_rfl) (yS Z Z Z Z Z (zR (cs:=#[sl_ q 997 997,sl_ c 1 1]) 0 Z Tryd.isAgg59 Z Z Tryd.sizeOf59) (pk [0,1,2] Z Z) (yS Z Z Z Z Z (zR (cs:=#[i6_ a.n,str a.set,str a.rel]) 2 Z zN Z Z zI) (pk [0,1,2] Z Z) (yX 2 Z (pk [0,1,2] Z Z) (yS Z Z Z Z Z (zR (cs:=#[sl_ q 997 997,sl_ c 1 1]) 0 Z Tryd.isAgg59 Z Z Tryd.sizeOf59) (pk [0,1,2] Z Z) (yS Z Z Z Z Z (zR (cs:=#[i6_ b.n,str b.set,str b.rel]) 1 Z zN Z Z zI) (pk [0,1,2] Z Z) (yX 2 Z (pk [0,1,2] Z Z) (yJ Z (Ll.callTab (S:=145) (I:=3) (E:=147) (q:=q) (c:=c) (bs:=bs0) (T:=([]:List (List UInt8))) (hs:=[]) (ok:=fun m bs' T'=>TabTo ([]:List (List UInt8)) bs' T' (cnt r.toNat)∧Means T' r.toNat a xs m) (xs:=[.tmp 13,.tmp 14,.tmp 15,.tmp 16]) (vs:=[.agg #[sl_ q 997 997,sl_ c 1 1],vS a,va,i6_ r]) [bk_ p11 #[sl_ q 997 997,sl_ c 1 1] 59,bk_ p7 #[i6_ b.n,str b.set,str b.rel] 24,bk_ p5 #[i6_ a.n,str a.set,str a.rel] 24] Z Z Z Z Tryd.call41 Z (fun w1 hw1=>type_at r h0 w.heap.size w ([bk_ p11 #[sl_ q 997 997,sl_ c 1 1] 59,bk_ p7 #[i6_ b.n,str b.set,str b.rel] 24,bk_ p5 #[i6_ a.n,str a.set,str a.rel] 24]++[]) q c bs0 ([]:List (List UInt8)) a va xs w1 hT0 ha (fun w2 hw2=>(Row.own hva hw2)) hA (by first | (simp;done) | (simp;omega) | omega) (by simp only [qE];omega) hw1) fun m bs_ T_ hKm=>?_))))))))))))
 show Ll _ _ (Own _ _ (_::_::_::_::_::(blks 147 bs_++[]))) _ _ ((17,i6_ (m:Int))::_) _ _ _;refine zM (yD (pk [0,1,2] Z Z) ?_);refine yJ Z (Ll.callTab (S:=145) (I:=3) (E:=147) (q:=q) (c:=c) (bs:=bs_) (T:=T_) (hs:=[]) (ok:=fun m bs' T'=>TabTo T_ bs' T' (cnt r.toNat)∧Means T' r.toNat b ys m) (xs:=[.tmp 18,.tmp 19,.tmp 20,.tmp 21]) (vs:=[.agg #[sl_ q 997 997,sl_ c 1 1],vS b,vb,i6_ r]) [bk_ p11 #[sl_ q 997 997,sl_ c 1 1] 59,bk_ p7 #[i6_ b.n,str b.set,str b.rel] 24,bk_ p5 #[i6_ a.n,str a.set,str a.rel] 24] Z Z Z Z Tryd.call41 Z (fun w1 hw1=>type_at r h0 w.heap.size w ([bk_ p11 #[sl_ q 997 997,sl_ c 1 1] 59,bk_ p7 #[i6_ b.n,str b.set,str b.rel] 24,bk_ p5 #[i6_ a.n,str a.set,str a.rel] 24]++[]) q c bs_ T_ b vb ys w1 hKm.1.ok hb (fun w2 hw2=>(Row.own hvb hw2)) hB (by first | (simp;done) | (simp;omega) | omega) (by have:=hKm.1.len;simp only [qE] at this;omega) hw1) fun m_1 bs__1 T__1 hKm_1=>?_)
 show Ll _ _ (Own _ _ (_::_::_::_::_::(blks 147 bs__1++[]))) _ _ ((22,i6_ (m_1:Int))::_) _ _ _;refine zM (yD (pk [0,1,2] Z Z) ?_);refine yX 2 Z (pk [0,1,2] Z Z) (jN (zD [10] [_] Z (qM (qO Z Z fun w' hw=>?_))))
 exact ⟨ret_b (winB_eq hKm_1.1.ok.nodup hlen (hKm.2.mono hKm_1.1.pre _ _ _ _) hKm_1.2),hw.below⟩
end Go.Proofs.YtagbocafnliabaaDoor
