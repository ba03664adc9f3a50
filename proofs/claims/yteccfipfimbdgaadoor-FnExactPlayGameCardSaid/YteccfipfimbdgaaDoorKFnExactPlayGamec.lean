/-
  FnExactPlayGame: all that its proof names (part 3)
-/
import Derived.Test.YteccfipfimbdgaaDoorKFnExactPlayGameb
import Derived.Test.YteccfipfimbdgaaDoorKFnExactPlayGamea
namespace Go.Proofs.YteccfipfimbdgaaDoor
open Go.RowKit Go.Wk
set_option linter.unusedSimpArgs false
set_option maxHeartbeats 400000 in
theorem lawPlay_yes (a b:St) (s:List UInt8) (w:World) (h1a:a.set.length≤9223372036854775807) (h2a:a.rel.length≤9223372036854775807) (h1b:b.set.length≤9223372036854775807) (h2b:b.rel.length≤9223372036854775807) (loa : -9223372036854775808≤a.n) (hia:a.n≤9223372036854775807) (lob : -9223372036854775808≤b.n) (hib:b.n≤9223372036854775807) (hG:GW w.heap.size w) (hvm:(validB a&&validB b&&movesB a.n b.n s)=true) :
    Calls Tryd.prog 4 [vS a,vS b,str s].toArray w fun en w'=>en=.returned (.bool true)∧Below w.heap.size w w':=by
 refine fnStart (n:=124) (e:=[(0,vS a),(1,vS b),(2,str s)]) Tryd.func4 Z Z Z Z Ends.both ?_
 obtain ⟨hpl1,hpl2⟩:=play_len hvm;refine zD (zW (yD (v:=vS a) Z Z Z Z Z fun p3 hp3=>?_))
 show Ll _ _ (Own _ _ [_]) _ _ ((3,pt_ p3)::_) _ _ _;refine yD (v:=vS b) Z Z Z Z Z fun p4 hp4=>?_
 show Ll _ _ (Own _ _ [_,_]) _ _ ((4,pt_ p4)::_) _ _ _;refine qD 1 Z (zS (zC [2,3,4] [_,_,_] Z (zD (zD (zA (zB 1 Z (zE (v:=i6_ (s.length:Int)) Z (yX Z zO Z) (zB 1 Z (zF (zC [2,3,4,21] [_,_,_,_] Z (qB (b:=decide ((1048576:Int)<(s.length:Int))) Z (fun h21=>?_) (fun h21=>?_))))))))))))
 ·
  replace h21:=zI h21;refine zD (zA (zB 1 Z (zF (zC [6] [_] Z (zZ (qA Z Z fun w' hw=>?_))))))
  exact ⟨ret_b (by first | rfl | (simp_all;done) | (simp_all;omega)),hw.below⟩
 replace h21:=zH h21
 have hsx:s.length≤1048576:=by omega
 refine zV (zC [2,3,4] [_,_,_] Z (zD (zA (zB 1 Z (zF (zC [2,3,4,7] [_,_,_,_] Z (zD (zA (zE Z (zK (cs:=#[i6_ a.n,str a.set,str a.rel]) 1 Z yL Z Z yH) (zB 1 Z (zE (v:=i6_ (szB a 1048576)) Z (zT Z Tryd.call13 Z zL (fun w1 hw1=>sz_ok a 1048576 w1 (by omega) (by omega) h1a h2a)) (zB 1 Z (zF (zC [2,3,4,7] [_,_,_,_] Z (zD (zD (zA (zB 2 Z (zF (zC [2,3,4,7,26] [_,_,_,_,_] Z (qB (b:=decide ((szB a 1048576)<(0:Int))) Z (fun h26=>?_) (fun h26=>?_))))))))))))))))))))))
 ·
  replace h26:=zI h26;refine zD (zA (zB 1 Z (zF (zC [6] [_] Z (zZ (qA Z Z fun w' hw=>?_))))))
  exact ⟨ret_b (by first | rfl | (simp_all;done) | (simp_all;omega)),hw.below⟩
 replace h26:=zH h26
 obtain ⟨hsa,hz0a,hz1a⟩:=szB_small (by omega) h26;refine zV (zC [2,3,4,7] [_,_,_,_] Z (zD (zA (zE Z (zK (cs:=#[i6_ b.n,str b.set,str b.rel]) 0 Z yL Z Z yH) (zB 1 Z (zE (v:=i6_ (szB b (szB a 1048576))) Z (zT Z Tryd.call13 Z zL (fun w1 hw1=>sz_ok b (szB a 1048576) w1 (by omega) (by omega) h1b h2b)) (zB 1 Z (zF (zC [2,3,4,7] [_,_,_,_] Z (zD (zD (zA (zB 2 Z (zF (zC [2,3,4,31] [_,_,_,_] Z (qB (b:=decide ((szB b (szB a 1048576))<(0:Int))) Z (fun h31=>?_) (fun h31=>?_)))))))))))))))))
 ·
  replace h31:=zI h31;refine zD (zA (zB 1 Z (zF (zC [6] [_] Z (zZ (qA Z Z fun w' hw=>?_))))))
  exact ⟨ret_b (by first | rfl | (simp_all;done) | (simp_all;omega)),hw.below⟩
 replace h31:=zH h31
 obtain ⟨hsb,hz0b,hz1b⟩:=szB_small (by omega) h31;refine zV (zC [2,3,4] [_,_,_] Z (zD (Wk.regionO [(0,true),(2,true),(4,true),(1,false),(3,false),(5,false),(6,true),(7,true),(8,true),(9,true),(10,true),(11,true),(12,true)] yB (fun _ h=>h.drawn) (by kernel_rfl) (qM Z Z Z Z Z (zK (cs:=#[i6_ a.n,str a.set,str a.rel]) 1 Z yL Z Z yH) (fun _ h=>h) (qM Z Z Z Z Z (zK (cs:=#[i6_ b.n,str b.set,str b.rel]) 0 Z yL Z Z yH) (fun _ h=>h) (yN 1 Z (fun _ h=>h) (yA Z (qL (v:=vS a) Z (zT Z yW Z zL (fun w1 hw1=>toSt_ok a w1 )) (zS (qO (fun _ h=>h) ?_))))))))));refine yA Z (qL (v:=vS b) Z (zT Z yW Z zL (fun w1 hw1=>toSt_ok b w1 )) (zS (qO (fun _ h=>h) ?_)));refine yA Z (Ll.callRowsZ (xs:=[.tmp 34,.tmp 36,.tmp 37]) (m1:=(playO a b s).1.length) (vs1:=ints ((playO a b s).1)) (el1:=3) (m2:=(playO a b s).2.1.length) (vs2:=ints ((playO a b s).2.1)) (el2:=3) (z:=str ((playO a b s).2.2)) Z Z Z Z Tryd.call14 Z (fun w1 hw1=>sPlay_ok a b s w1 hsa hsb hsx loa hia lob hib) fun p38a cap38a cur38a p38b cap38b cur38b hp38a hcp38a hlp38a htp38a hp38b hcp38b hlp38b htp38b=>(zS (qO (fun _ h=>h.tail.tail) ?_)));refine yN 1 Z (fun _ h=>h.tail.tail) (qM (v:=sl_ p38a ((playO a b s).1.length) cap38a) Z Z Z Z Z (qJ Z Z Z) (fun _ h=>h.tail.tail) (qM (v:=sl_ p38b ((playO a b s).2.1.length) cap38b) Z Z Z Z Z (qJ Z Z Z) (fun _ h=>h.tail.tail) (qM (v:=str ((playO a b s).2.2)) Z Z Z Z Z (qJ Z Z Z) (fun _ h=>h.tail.tail) (yN 3 Z (fun _ h=>h.tail.tail) (Ld.nil (zC [2,3,4,8,9,10] [_,_,_,_,_,_] Z (zD (Wk.regionO [(0,true),(2,true),(4,true),(1,false),(3,false),(5,false),(6,true),(7,true),(8,true),(9,true),(10,true),(11,true),(12,true)] yB (fun _ h=>h.drawn) (by kernel_rfl) (qM Z Z Z Z Z (zK (cs:=#[i6_ a.n,str a.set,str a.rel]) 3 Z yL Z Z yH) (fun _ h=>h) (qM Z Z Z Z Z (zK (cs:=#[i6_ b.n,str b.set,str b.rel]) 2 Z yL Z Z yH) (fun _ h=>h) (yN 1 Z (fun _ h=>h) (yA Z (qL (v:=vS a) Z (zT Z yW Z zL (fun w1 hw1=>toSt_ok a w1 )) (zS (qO (fun _ h=>h) ?_)))))))))))))));refine yA Z (qL (v:=vS b) Z (zT Z yW Z zL (fun w1 hw1=>toSt_ok b w1 )) (zS (qO (fun _ h=>h) ?_)));refine yA Z (Ll.callRowsZ (xs:=[.tmp 44,.tmp 46,.tmp 47]) (m1:=(playO a b s).1.length) (vs1:=ints ((playO a b s).1)) (el1:=3) (m2:=(playO a b s).2.1.length) (vs2:=ints ((playO a b s).2.1)) (el2:=3) (z:=str ((playO a b s).2.2)) Z Z Z Z Tryd.call16 Z (fun w1 hw1=>iPlay_yes a b s w1 hsa hsb hsx (gw_own hG hw1) hvm) fun p48a cap48a cur48a p48b cap48b cur48b hp48a hcp48a hlp48a htp48a hp48b hcp48b hlp48b htp48b=>(zS (qO (fun _ h=>h.tail.tail) ?_)))
 refine yN 1 Z (fun _ h=>h.tail.tail) (qM (v:=sl_ p48a ((playO a b s).1.length) cap48a) Z Z Z Z Z (qJ Z Z Z) (fun _ h=>h.tail.tail) (qM (v:=sl_ p48b ((playO a b s).2.1.length) cap48b) Z Z Z Z Z (qJ Z Z Z) (fun _ h=>h.tail.tail) (qM (v:=str ((playO a b s).2.2)) Z Z Z Z Z (qJ Z Z Z) (fun _ h=>h.tail.tail) (yN 3 Z (fun _ h=>h.tail.tail) (Ld.nil (zC [2,3,4,8,9,10,11,12,13] [_,_,_,_,_,_,_,_,_] Z (zD (zD (zA (zB 2 Z (zE (v:=bo_ true) Z (zT Z xL Z zL (fun w1 hw1=>known_b (beq_self_eq_true _) (eqInt_ok (sl_ p48a ((playO a b s).1.length) cap48a) (sl_ p38a ((playO a b s).1.length) cap38a) ((playO a b s).1) ((playO a b s).1) w1 (qN hw1 (i:=0) Z (by simpa using htp48a) (by simp) hlp48a) (qN hw1 (i:=2) Z (by simpa using htp38a) (by simp) hlp38a) (by first | (simp;done) | (simp;omega) | omega)))) (zB 4 Z (zE (v:=bo_ true) Z (zT Z xL Z zL (fun w1 hw1=>known_b (beq_self_eq_true _) (eqInt_ok (sl_ p48b ((playO a b s).2.1.length) cap48b) (sl_ p38b ((playO a b s).2.1.length) cap38b) ((playO a b s).2.1) ((playO a b s).2.1) w1 (qN hw1 (i:=1) Z (by simpa using htp48b) (by simp) hlp48b) (qN hw1 (i:=3) Z (by simpa using htp38b) (by simp) hlp38b) (by first | (simp;done) | (simp;omega) | omega)))) (zB 5 Z (zE Z (OpQ.sneq Z Z Z) (zB 1 Z (zF (zC [2,3,4,8,9,10,11,12,66] [_,_,_,_,_,_,_,_,_] Z (qB (b:=!(((playO a b s).2.2)==((playO a b s).2.2))) Z (fun h66=>?_) (fun h66=>?_))))))))))))))))))))
 ·
  replace h66:=not_true h66
  exact absurd h66 (by simp)
 replace h66:=not_false h66;refine zV (zC [2,3,4,8,9,10,11,12] [_,_,_,_,_,_,_,_] Z (zD (zA (zB 1 Z (zF (zC [2,3,4,8,9,10,11,12,14] [_,_,_,_,_,_,_,_,_] Z (zD (zW (qD 2 Z (Ll.callSet (xs:=[.tmp 67,.tmp 68]) (v:=i6_ ((1:Int)+((playO a b s).1.length:Nat))) (hs':=[bk_ p48a ((markA cur48a 1 ((playO a b s).1.length))) 3,bk_ p48b cur48b 3,bk_ p38a cur38a 3,bk_ p38b cur38b 3,bk_ p4 #[i6_ b.n,str b.set,str b.rel] 36,bk_ p3 #[i6_ a.n,str a.set,str a.rel] 36]) 0 Z Z Z Z Tryd.call18 Z Z (fun w1 hg=>markInt_ok2 p48a ((playO a b s).1.length) cap48a 3 cur48a 1 w1 hg (by simp [*];try omega) (by first | omega | (simp;omega)) (by omega) (by omega)) Z (qD 1 Z (zS (zC [2,3,4,8,9,10,11,12,14] [_,_,_,_,_,_,_,_,_] Z (zD (zW (qD 2 Z (Ll.callSet (xs:=[.tmp 70,.tmp 71]) (v:=i6_ ((1:Int)+((playO a b s).1.length:Nat)+((playO a b s).2.1.length:Nat))) (hs':=[bk_ p48a ((markA cur48a 1 ((playO a b s).1.length))) 3,bk_ p48b ((markA cur48b ((1:Int)+((playO a b s).1.length:Nat)) ((playO a b s).2.1.length))) 3,bk_ p38a cur38a 3,bk_ p38b cur38b 3,bk_ p4 #[i6_ b.n,str b.set,str b.rel] 36,bk_ p3 #[i6_ a.n,str a.set,str a.rel] 36]) 1 Z Z Z Z Tryd.call18 Z Z (fun w1 hg=>markInt_ok2 p48b ((playO a b s).2.1.length) cap48b 3 cur48b ((1:Int)+((playO a b s).1.length:Nat)) w1 hg (by simp [*];try omega) (by first | omega | (simp;omega)) (by omega) (by omega)) Z (qD 1 Z (zS (zC [2,3,4,8,9,10,11,12,14] [_,_,_,_,_,_,_,_,_] Z (zD (zA (zB 1 Z (zF (zC [2,3,4,8,9,10,11,12,14,15] [_,_,_,_,_,_,_,_,_,_] Z (zD (zA (zB 2 Z (zE (v:=i6_ ((1:Int)+((playO a b s).1.length:Nat))) Z (qC (by rw [held_all]) (zT Z xM Z zL (fun w1 hw1=>heldInt_ok (sl_ p48a ((playO a b s).1.length) cap48a) (marks 1 ((playO a b s).1.length)) 1 w1 (qN hw1 (i:=0) Z (by simpa using markA_take cur48a 1 ((playO a b s).1.length) (by simp [*];try omega)) (by simp) hlp48a) (by first | (simp;done) | (simp;omega) | omega) (by omega) (by omega)))) (zB 1 Z (zF (zC [2,3,4,8,9,10,11,12,14,15] [_,_,_,_,_,_,_,_,_,_] Z (zD (zD (zA (zB 2 Z (zF (zC [2,3,4,8,9,10,11,12,14,15,77] [_,_,_,_,_,_,_,_,_,_,_] Z (qB (b:=decide (((1:Int)+((playO a b s).1.length:Nat))<(0:Int))) Z (fun h77=>?_) (fun h77=>?_))))))))))))))))))))))))))))))))))))))))
 ·
  replace h77:=zI h77
  omega
 replace h77:=zH h77;refine zV (zC [2,3,4,8,9,10,11,12,14,15] [_,_,_,_,_,_,_,_,_,_] Z (zD (zA (zB 2 Z (zE (v:=i6_ ((1:Int)+((playO a b s).1.length:Nat)+((playO a b s).2.1.length:Nat))) Z (qC (by rw [held_all]) (zT Z xM Z zL (fun w1 hw1=>heldInt_ok (sl_ p48b ((playO a b s).2.1.length) cap48b) (marks ((1:Int)+((playO a b s).1.length:Nat)) ((playO a b s).2.1.length)) ((1:Int)+((playO a b s).1.length:Nat)) w1 (qN hw1 (i:=1) Z (by simpa using markA_take cur48b ((1:Int)+((playO a b s).1.length:Nat)) ((playO a b s).2.1.length) (by simp [*];try omega)) (by simp) hlp48b) (by first | (simp;done) | (simp;omega) | omega) (by omega) (by omega)))) (zB 1 Z (zF (zC [2,3,4,8,9,10,11,12,14,15] [_,_,_,_,_,_,_,_,_,_] Z (zD (zD (zA (zB 2 Z (zF (zC [2,3,4,8,9,10,11,12,14,15,82] [_,_,_,_,_,_,_,_,_,_,_] Z (qB (b:=decide (((1:Int)+((playO a b s).1.length:Nat)+((playO a b s).2.1.length:Nat))<(0:Int))) Z (fun h82=>?_) (fun h82=>?_))))))))))))))))
 ·
  replace h82:=zI h82
  omega
 replace h82:=zH h82;refine zV (zC [2,3,4,8,9,10,11,12,14,15] [_,_,_,_,_,_,_,_,_,_] Z (zD (zD (zA (zB 3 Z (zF (zC [2,3,4,8,9,10,11,12,14,85] [_,_,_,_,_,_,_,_,_,_] Z (qB (b:=!(decide (((1:Int)+((playO a b s).1.length:Nat)+((playO a b s).2.1.length:Nat))=((1:Int)+((playO a b s).1.length:Nat)+((playO a b s).2.1.length:Nat))))) Z (fun h85=>?_) (fun h85=>?_)))))))))
 ·
  replace h85:=not_true h85
  replace h85:=zH h85
  omega
 replace h85:=not_false h85
 replace h85:=zI h85;refine zV (zC [2,3,4,8,9,10,11,12,14] [_,_,_,_,_,_,_,_,_] Z (zD (Wk.regionO [(0,true),(2,true),(4,true),(1,false),(3,false),(5,false),(6,true),(7,true),(8,true),(9,true),(10,true),(11,true),(12,true)] yB (fun _ h=>h.drawn) (by kernel_rfl) (qM Z Z Z Z Z (zK (cs:=#[i6_ a.n,str a.set,str a.rel]) 5 Z yL Z Z yH) (fun _ h=>h) (qM Z Z Z Z Z (zK (cs:=#[i6_ b.n,str b.set,str b.rel]) 4 Z yL Z Z yH) (fun _ h=>h) (yN 1 Z (fun _ h=>h) (yA Z (qL (v:=vS a) Z (zT Z yW Z zL (fun w1 hw1=>toSt_ok a w1 )) (zS (qO (fun _ h=>h) ?_))))))))));refine yA Z (qL (v:=vS b) Z (zT Z yW Z zL (fun w1 hw1=>toSt_ok b w1 )) (zS (qO (fun _ h=>h) ?_)));refine yA Z (Ll.callRowsZ (xs:=[.tmp 88,.tmp 90,.tmp 91]) (m1:=(playO a b s).1.length) (vs1:=ints ((playO a b s).1)) (el1:=3) (m2:=(playO a b s).2.1.length) (vs2:=ints ((playO a b s).2.1)) (el2:=3) (z:=str ((playO a b s).2.2)) Z Z Z Z Tryd.call16 Z (fun w1 hw1=>iPlay_yes a b s w1 hsa hsb hsx (gw_own hG hw1) hvm) fun p92a cap92a cur92a p92b cap92b cur92b hp92a hcp92a hlp92a htp92a hp92b hcp92b hlp92b htp92b=>(zS (qO (fun _ h=>h.tail.tail) ?_)));refine yN 1 Z (fun _ h=>h.tail.tail) (qM (v:=sl_ p92a ((playO a b s).1.length) cap92a) Z Z Z Z Z (qJ Z Z Z) (fun _ h=>h.tail.tail) (qM (v:=sl_ p92b ((playO a b s).2.1.length) cap92b) Z Z Z Z Z (qJ Z Z Z) (fun _ h=>h.tail.tail) (qM (v:=str ((playO a b s).2.2)) Z Z Z Z Z (qJ Z Z Z) (fun _ h=>h.tail.tail) (yN 3 Z (fun _ h=>h.tail.tail) (Ld.nil (zC [8,9,10,11,12,14,16,17,18] [_,_,_,_,_,_,_,_,_] Z (zD (zD (zA (zB 2 Z (zE (v:=bo_ true) Z (zT Z xL Z zL (fun w1 hw1=>known_b (beq_self_eq_true _) (eqInt_ok (sl_ p92a ((playO a b s).1.length) cap92a) (sl_ p38a ((playO a b s).1.length) cap38a) ((playO a b s).1) ((playO a b s).1) w1 (qN hw1 (i:=0) Z (by simpa using htp92a) (by simp) hlp92a) (qN hw1 (i:=4) Z (by simpa using htp38a) (by simp) hlp38a) (by first | (simp;done) | (simp;omega) | omega)))) (zB 4 Z (zE (v:=bo_ true) Z (zT Z xL Z zL (fun w1 hw1=>known_b (beq_self_eq_true _) (eqInt_ok (sl_ p92b ((playO a b s).2.1.length) cap92b) (sl_ p38b ((playO a b s).2.1.length) cap38b) ((playO a b s).2.1) ((playO a b s).2.1) w1 (qN hw1 (i:=1) Z (by simpa using htp92b) (by simp) hlp92b) (qN hw1 (i:=5) Z (by simpa using htp38b) (by simp) hlp38b) (by first | (simp;done) | (simp;omega) | omega)))) (zB 5 Z (zE Z (OpQ.sneq Z Z Z) (zB 1 Z (zF (zC [11,12,14,110] [_,_,_,_] Z (qB (b:=!(((playO a b s).2.2)==((playO a b s).2.2))) Z (fun h110=>?_) (fun h110=>?_))))))))))))))))))))
 ·
  replace h110:=not_true h110
  exact absurd h110 (by simp)
 replace h110:=not_false h110;refine zV (zC [11,12,14] [_,_,_] Z (zD (zA (zB 1 Z (zF (zC [11,12,14,15] [_,_,_,_] Z (zD (zA (zB 2 Z (zE (v:=i6_ ((1:Int)+((playO a b s).1.length:Nat))) Z (qC (by rw [held_all]) (zT Z xM Z zL (fun w1 hw1=>heldInt_ok (sl_ p48a ((playO a b s).1.length) cap48a) (marks 1 ((playO a b s).1.length)) 1 w1 (qN hw1 (i:=2) Z (by simpa using markA_take cur48a 1 ((playO a b s).1.length) (by simp [*];try omega)) (by simp) hlp48a) (by first | (simp;done) | (simp;omega) | omega) (by omega) (by omega)))) (zB 1 Z (zF (zC [12,14,15] [_,_,_] Z (zD (zD (zA (zB 2 Z (zF (zC [12,14,15,115] [_,_,_,_] Z (qB (b:=decide (((1:Int)+((playO a b s).1.length:Nat))<(0:Int))) Z (fun h115=>?_) (fun h115=>?_)))))))))))))))))))))
 ·
  replace h115:=zI h115
  omega
 replace h115:=zH h115;refine zV (zC [12,14,15] [_,_,_] Z (zD (zA (zB 2 Z (zE (v:=i6_ ((1:Int)+((playO a b s).1.length:Nat)+((playO a b s).2.1.length:Nat))) Z (qC (by rw [held_all]) (zT Z xM Z zL (fun w1 hw1=>heldInt_ok (sl_ p48b ((playO a b s).2.1.length) cap48b) (marks ((1:Int)+((playO a b s).1.length:Nat)) ((playO a b s).2.1.length)) ((1:Int)+((playO a b s).1.length:Nat)) w1 (qN hw1 (i:=3) Z (by simpa using markA_take cur48b ((1:Int)+((playO a b s).1.length:Nat)) ((playO a b s).2.1.length) (by simp [*];try omega)) (by simp) hlp48b) (by first | (simp;done) | (simp;omega) | omega) (by omega) (by omega)))) (zB 1 Z (zF (zC [14,15] [_,_] Z (zD (zD (zA (zB 2 Z (zF (zC [14,15,120] [_,_,_] Z (qB (b:=decide (((1:Int)+((playO a b s).1.length:Nat)+((playO a b s).2.1.length:Nat))<(0:Int))) Z (fun h120=>?_) (fun h120=>?_))))))))))))))))
 ·
  replace h120:=zI h120
  omega
 replace h120:=zH h120;refine zV (zC [14,15] [_,_] Z (zD (zD (zA (zB 3 Z (zF (zC [123] [_] Z (qB (b:=!(decide (((1:Int)+((playO a b s).1.length:Nat)+((playO a b s).2.1.length:Nat))=((1:Int)+((playO a b s).1.length:Nat)+((playO a b s).2.1.length:Nat))))) Z (fun h123=>?_) (fun h123=>?_)))))))))
 ·
  replace h123:=not_true h123
  replace h123:=zH h123
  omega
 replace h123:=not_false h123
 replace h123:=zI h123;refine zV (zC [] [] Z (zD (zA (zB 1 Z (zF (zC [6] [_] Z (zZ (qA Z Z fun w' hw=>?_))))))))
 exact ⟨ret_b (by first | rfl | (simp_all;done) | (simp_all;omega)),hw.below⟩
set_option maxHeartbeats 400000 in
theorem lawPlay_no (a b:St) (s:List UInt8) (w:World) (h1a:a.set.length≤9223372036854775807) (h2a:a.rel.length≤9223372036854775807) (h1b:b.set.length≤9223372036854775807) (h2b:b.rel.length≤9223372036854775807) (loa : -9223372036854775808≤a.n) (hia:a.n≤9223372036854775807) (lob : -9223372036854775808≤b.n) (hib:b.n≤9223372036854775807) (hG:GW w.heap.size w) (hvm:(validB a&&validB b&&movesB a.n b.n s)=false) :
    Calls Tryd.prog 4 [vS a,vS b,str s].toArray w fun en w'=>en=.returned (.bool true)∧Below w.heap.size w w':=by
 refine fnStart (n:=124) (e:=[(0,vS a),(1,vS b),(2,str s)]) Tryd.func4 Z Z Z Z Ends.both (zD (zW (yD (v:=vS a) Z Z Z Z Z fun p3 hp3=>?_)))
 show Ll _ _ (Own _ _ [_]) _ _ ((3,pt_ p3)::_) _ _ _;refine yD (v:=vS b) Z Z Z Z Z fun p4 hp4=>?_
 show Ll _ _ (Own _ _ [_,_]) _ _ ((4,pt_ p4)::_) _ _ _;refine qD 1 Z (zS (zC [2,3,4] [_,_,_] Z (zD (zD (zA (zB 1 Z (zE (v:=i6_ (s.length:Int)) Z (yX Z zO Z) (zB 1 Z (zF (zC [2,3,4,21] [_,_,_,_] Z (qB (b:=decide ((1048576:Int)<(s.length:Int))) Z (fun h21=>?_) (fun h21=>?_))))))))))))
 ·
  replace h21:=zI h21;refine zD (zA (zB 1 Z (zF (zC [6] [_] Z (zZ (qA Z Z fun w' hw=>?_))))))
  exact ⟨ret_b (by first | rfl | (simp_all;done) | (simp_all;omega)),hw.below⟩
 replace h21:=zH h21
 have hsx:s.length≤1048576:=by omega
 refine zV (zC [2,3,4] [_,_,_] Z (zD (zA (zB 1 Z (zF (zC [2,3,4,7] [_,_,_,_] Z (zD (zA (zE Z (zK (cs:=#[i6_ a.n,str a.set,str a.rel]) 1 Z yL Z Z yH) (zB 1 Z (zE (v:=i6_ (szB a 1048576)) Z (zT Z Tryd.call13 Z zL (fun w1 hw1=>sz_ok a 1048576 w1 (by omega) (by omega) h1a h2a)) (zB 1 Z (zF (zC [2,3,4,7] [_,_,_,_] Z (zD (zD (zA (zB 2 Z (zF (zC [2,3,4,7,26] [_,_,_,_,_] Z (qB (b:=decide ((szB a 1048576)<(0:Int))) Z (fun h26=>?_) (fun h26=>?_))))))))))))))))))))))
 ·
  replace h26:=zI h26;refine zD (zA (zB 1 Z (zF (zC [6] [_] Z (zZ (qA Z Z fun w' hw=>?_))))))
  exact ⟨ret_b (by first | rfl | (simp_all;done) | (simp_all;omega)),hw.below⟩
 replace h26:=zH h26
 obtain ⟨hsa,hz0a,hz1a⟩:=szB_small (by omega) h26;refine zV (zC [2,3,4,7] [_,_,_,_] Z (zD (zA (zE Z (zK (cs:=#[i6_ b.n,str b.set,str b.rel]) 0 Z yL Z Z yH) (zB 1 Z (zE (v:=i6_ (szB b (szB a 1048576))) Z (zT Z Tryd.call13 Z zL (fun w1 hw1=>sz_ok b (szB a 1048576) w1 (by omega) (by omega) h1b h2b)) (zB 1 Z (zF (zC [2,3,4,7] [_,_,_,_] Z (zD (zD (zA (zB 2 Z (zF (zC [2,3,4,31] [_,_,_,_] Z (qB (b:=decide ((szB b (szB a 1048576))<(0:Int))) Z (fun h31=>?_) (fun h31=>?_)))))))))))))))))
 ·
  replace h31:=zI h31;refine zD (zA (zB 1 Z (zF (zC [6] [_] Z (zZ (qA Z Z fun w' hw=>?_))))))
  exact ⟨ret_b (by first | rfl | (simp_all;done) | (simp_all;omega)),hw.below⟩
 replace h31:=zH h31
 obtain ⟨hsb,hz0b,hz1b⟩:=szB_small (by omega) h31;refine zV (zC [2,3,4] [_,_,_] Z (zD (Wk.regionO [(0,true),(2,true),(4,true),(1,false),(3,false),(5,false),(6,true),(7,true),(8,true),(9,true),(10,true),(11,true),(12,true)] yB (fun _ h=>h.drawn) (by kernel_rfl) (qM Z Z Z Z Z (zK (cs:=#[i6_ a.n,str a.set,str a.rel]) 1 Z yL Z Z yH) (fun _ h=>h) (qM Z Z Z Z Z (zK (cs:=#[i6_ b.n,str b.set,str b.rel]) 0 Z yL Z Z yH) (fun _ h=>h) (yN 1 Z (fun _ h=>h) (yA Z (qL (v:=vS a) Z (zT Z yW Z zL (fun w1 hw1=>toSt_ok a w1 )) (zS (qO (fun _ h=>h) ?_))))))))));refine yA Z (qL (v:=vS b) Z (zT Z yW Z zL (fun w1 hw1=>toSt_ok b w1 )) (zS (qO (fun _ h=>h) ?_)));refine yA Z (Ll.callRowsZ (xs:=[.tmp 34,.tmp 36,.tmp 37]) (m1:=0) (vs1:=ints ([])) (el1:=3) (m2:=0) (vs2:=ints ([])) (el2:=3) (z:=str ([110,111])) Z Z Z Z Tryd.call14 Z (fun w1 hw1=>sPlay_none a b s w1 hsa hsb hsx loa hia lob hib hvm) fun p38a cap38a cur38a p38b cap38b cur38b hp38a hcp38a hlp38a htp38a hp38b hcp38b hlp38b htp38b=>(zS (qO (fun _ h=>h.tail.tail) ?_)));refine yN 1 Z (fun _ h=>h.tail.tail) (qM (v:=sl_ p38a 0 cap38a) Z Z Z Z Z (qJ Z Z Z) (fun _ h=>h.tail.tail) (qM (v:=sl_ p38b 0 cap38b) Z Z Z Z Z (qJ Z Z Z) (fun _ h=>h.tail.tail) (qM (v:=str ([110,111])) Z Z Z Z Z (qJ Z Z Z) (fun _ h=>h.tail.tail) (yN 3 Z (fun _ h=>h.tail.tail) (Ld.nil (zC [2,3,4,8,9,10] [_,_,_,_,_,_] Z (zD (Wk.regionO [(0,true),(2,true),(4,true),(1,false),(3,false),(5,false),(6,true),(7,true),(8,true),(9,true),(10,true),(11,true),(12,true)] yB (fun _ h=>h.drawn) (by kernel_rfl) (qM Z Z Z Z Z (zK (cs:=#[i6_ a.n,str a.set,str a.rel]) 3 Z yL Z Z yH) (fun _ h=>h) (qM Z Z Z Z Z (zK (cs:=#[i6_ b.n,str b.set,str b.rel]) 2 Z yL Z Z yH) (fun _ h=>h) (yN 1 Z (fun _ h=>h) (yA Z (qL (v:=vS a) Z (zT Z yW Z zL (fun w1 hw1=>toSt_ok a w1 )) (zS (qO (fun _ h=>h) ?_)))))))))))))));refine yA Z (qL (v:=vS b) Z (zT Z yW Z zL (fun w1 hw1=>toSt_ok b w1 )) (zS (qO (fun _ h=>h) ?_)));refine yA Z (qL (v:=.tuple #[.slice none 0 0,.slice none 0 0,str ([110,111])]) Z (zT Z Tryd.call16 Z zL (fun w1 hw1=>iPlay_no a b s w1 hsa hsb hsx (gw_own hG hw1) hvm)) (zS (qO (fun _ h=>h) ?_)));refine yN 1 Z (fun _ h=>h) (qM (v:=.slice none 0 0) Z Z Z Z Z (qJ Z Z Z) (fun _ h=>h) (qM (v:=.slice none 0 0) Z Z Z Z Z (qJ Z Z Z) (fun _ h=>h) (qM (v:=str ([110,111])) Z Z Z Z Z (qJ Z Z Z) (fun _ h=>h) (yN 3 Z (fun _ h=>h) (Ld.nil (zC [2,3,4,8,9,10,11,12,13] [_,_,_,_,_,_,_,_,_] Z (zD (zD (zA (zB 2 Z (zE (v:=bo_ true) Z (zT Z xL Z zL (fun w1 hw1=>known_b (beq_self_eq_true _) (eqInt_ok (.slice none 0 0) (sl_ p38a 0 cap38a) ([]) ([]) w1 Ints.nil (qN hw1 (i:=0) Z (by simpa using htp38a) (by simp) hlp38a) (by first | (simp;done) | (simp;omega) | omega)))) (zB 4 Z (zE (v:=bo_ true) Z (zT Z xL Z zL (fun w1 hw1=>known_b (beq_self_eq_true _) (eqInt_ok (.slice none 0 0) (sl_ p38b 0 cap38b) ([]) ([]) w1 Ints.nil (qN hw1 (i:=1) Z (by simpa using htp38b) (by simp) hlp38b) (by first | (simp;done) | (simp;omega) | omega)))) (zB 5 Z (zE Z (OpQ.sneq Z Z Z) (zB 1 Z (zF (zC [2,3,4,8,9,10,11,12,66] [_,_,_,_,_,_,_,_,_] Z (qB (b:=!(([110,111])==([110,111]))) Z (fun h66=>?_) (fun h66=>?_))))))))))))))))))))
 ·
  replace h66:=not_true h66
  exact absurd h66 (by simp)
 replace h66:=not_false h66;refine zV (zC [2,3,4,8,9,10,11,12] [_,_,_,_,_,_,_,_] Z (zD (zA (zB 1 Z (zF (zC [2,3,4,8,9,10,11,12,14] [_,_,_,_,_,_,_,_,_] Z (zD (zW (qD 2 Z (qL (v:=i6_ 1) Z (zT Z Tryd.call18 Z zL (fun w1 _=>markInt0_ok 1 w1)) (qD 1 Z (zS (zC [2,3,4,8,9,10,11,12,14] [_,_,_,_,_,_,_,_,_] Z (zD (zW (qD 2 Z (qL (v:=i6_ 1) Z (zT Z Tryd.call18 Z zL (fun w1 _=>markInt0_ok 1 w1)) (qD 1 Z (zS (zC [2,3,4,8,9,10,11,12,14] [_,_,_,_,_,_,_,_,_] Z (zD (zA (zB 1 Z (zF (zC [2,3,4,8,9,10,11,12,14,15] [_,_,_,_,_,_,_,_,_,_] Z (zD (zA (zB 2 Z (zE (v:=i6_ 1) Z (qC Z (zT Z xM Z zL (fun w1 hw1=>heldInt_ok (.slice none 0 0) ([]) 1 w1 Ints.nil (by first | (simp;done) | (simp;omega) | omega) (by omega) (by omega)))) (zB 1 Z (zF (zC [2,3,4,8,9,10,11,12,14,15] [_,_,_,_,_,_,_,_,_,_] Z (zD (zD (zA (zB 2 Z (zF (zC [2,3,4,8,9,10,11,12,14,15,77] [_,_,_,_,_,_,_,_,_,_,_] Z (qB (b:=decide ((1:Int)<(0:Int))) Z (fun h77=>?_) (fun h77=>?_))))))))))))))))))))))))))))))))))))))))
 ·
  replace h77:=zI h77
  omega
 replace h77:=zH h77;refine zV (zC [2,3,4,8,9,10,11,12,14,15] [_,_,_,_,_,_,_,_,_,_] Z (zD (zA (zB 2 Z (zE (v:=i6_ 1) Z (qC Z (zT Z xM Z zL (fun w1 hw1=>heldInt_ok (.slice none 0 0) ([]) 1 w1 Ints.nil (by first | (simp;done) | (simp;omega) | omega) (by omega) (by omega)))) (zB 1 Z (zF (zC [2,3,4,8,9,10,11,12,14,15] [_,_,_,_,_,_,_,_,_,_] Z (zD (zD (zA (zB 2 Z (zF (zC [2,3,4,8,9,10,11,12,14,15,82] [_,_,_,_,_,_,_,_,_,_,_] Z (qB (b:=decide ((1:Int)<(0:Int))) Z (fun h82=>?_) (fun h82=>?_))))))))))))))))
 ·
  replace h82:=zI h82
  omega
 replace h82:=zH h82;refine zV (zC [2,3,4,8,9,10,11,12,14,15] [_,_,_,_,_,_,_,_,_,_] Z (zD (zD (zA (zB 3 Z (zF (zC [2,3,4,8,9,10,11,12,14,85] [_,_,_,_,_,_,_,_,_,_] Z (qB (b:=!(decide ((1:Int)=(1:Int)))) Z (fun h85=>?_) (fun h85=>?_)))))))))
 ·
  replace h85:=not_true h85
  replace h85:=zH h85
  omega
 replace h85:=not_false h85
 replace h85:=zI h85;refine zV (zC [2,3,4,8,9,10,11,12,14] [_,_,_,_,_,_,_,_,_] Z (zD (Wk.regionO [(0,true),(2,true),(4,true),(1,false),(3,false),(5,false),(6,true),(7,true),(8,true),(9,true),(10,true),(11,true),(12,true)] yB (fun _ h=>h.drawn) (by kernel_rfl) (qM Z Z Z Z Z (zK (cs:=#[i6_ a.n,str a.set,str a.rel]) 3 Z yL Z Z yH) (fun _ h=>h) (qM Z Z Z Z Z (zK (cs:=#[i6_ b.n,str b.set,str b.rel]) 2 Z yL Z Z yH) (fun _ h=>h) (yN 1 Z (fun _ h=>h) (yA Z (qL (v:=vS a) Z (zT Z yW Z zL (fun w1 hw1=>toSt_ok a w1 )) (zS (qO (fun _ h=>h) ?_))))))))));refine yA Z (qL (v:=vS b) Z (zT Z yW Z zL (fun w1 hw1=>toSt_ok b w1 )) (zS (qO (fun _ h=>h) ?_)));refine yA Z (qL (v:=.tuple #[.slice none 0 0,.slice none 0 0,str ([110,111])]) Z (zT Z Tryd.call16 Z zL (fun w1 hw1=>iPlay_no a b s w1 hsa hsb hsx (gw_own hG hw1) hvm)) (zS (qO (fun _ h=>h) ?_)));refine yN 1 Z (fun _ h=>h) (qM (v:=.slice none 0 0) Z Z Z Z Z (qJ Z Z Z) (fun _ h=>h) (qM (v:=.slice none 0 0) Z Z Z Z Z (qJ Z Z Z) (fun _ h=>h) (qM (v:=str ([110,111])) Z Z Z Z Z (qJ Z Z Z) (fun _ h=>h) (yN 3 Z (fun _ h=>h) (Ld.nil (zC [8,9,10,11,12,14,16,17,18] [_,_,_,_,_,_,_,_,_] Z (zD (zD (zA (zB 2 Z (zE (v:=bo_ true) Z (zT Z xL Z zL (fun w1 hw1=>known_b (beq_self_eq_true _) (eqInt_ok (.slice none 0 0) (sl_ p38a 0 cap38a) ([]) ([]) w1 Ints.nil (qN hw1 (i:=0) Z (by simpa using htp38a) (by simp) hlp38a) (by first | (simp;done) | (simp;omega) | omega)))) (zB 4 Z (zE (v:=bo_ true) Z (zT Z xL Z zL (fun w1 hw1=>known_b (beq_self_eq_true _) (eqInt_ok (.slice none 0 0) (sl_ p38b 0 cap38b) ([]) ([]) w1 Ints.nil (qN hw1 (i:=1) Z (by simpa using htp38b) (by simp) hlp38b) (by first | (simp;done) | (simp;omega) | omega)))) (zB 5 Z (zE Z (OpQ.sneq Z Z Z) (zB 1 Z (zF (zC [11,12,14,110] [_,_,_,_] Z (qB (b:=!(([110,111])==([110,111]))) Z (fun h110=>?_) (fun h110=>?_))))))))))))))))))))
 ·
  replace h110:=not_true h110
  exact absurd h110 (by simp)
 replace h110:=not_false h110;refine zV (zC [11,12,14] [_,_,_] Z (zD (zA (zB 1 Z (zF (zC [11,12,14,15] [_,_,_,_] Z (zD (zA (zB 2 Z (zE (v:=i6_ 1) Z (qC Z (zT Z xM Z zL (fun w1 hw1=>heldInt_ok (.slice none 0 0) ([]) 1 w1 Ints.nil (by first | (simp;done) | (simp;omega) | omega) (by omega) (by omega)))) (zB 1 Z (zF (zC [12,14,15] [_,_,_] Z (zD (zD (zA (zB 2 Z (zF (zC [12,14,15,115] [_,_,_,_] Z (qB (b:=decide ((1:Int)<(0:Int))) Z (fun h115=>?_) (fun h115=>?_)))))))))))))))))))))
 ·
  replace h115:=zI h115
  omega
 replace h115:=zH h115;refine zV (zC [12,14,15] [_,_,_] Z (zD (zA (zB 2 Z (zE (v:=i6_ 1) Z (qC Z (zT Z xM Z zL (fun w1 hw1=>heldInt_ok (.slice none 0 0) ([]) 1 w1 Ints.nil (by first | (simp;done) | (simp;omega) | omega) (by omega) (by omega)))) (zB 1 Z (zF (zC [14,15] [_,_] Z (zD (zD (zA (zB 2 Z (zF (zC [14,15,120] [_,_,_] Z (qB (b:=decide ((1:Int)<(0:Int))) Z (fun h120=>?_) (fun h120=>?_))))))))))))))))
 ·
  replace h120:=zI h120
  omega
 replace h120:=zH h120;refine zV (zC [14,15] [_,_] Z (zD (zD (zA (zB 3 Z (zF (zC [123] [_] Z (qB (b:=!(decide ((1:Int)=(1:Int)))) Z (fun h123=>?_) (fun h123=>?_)))))))))
 ·
  replace h123:=not_true h123
  replace h123:=zH h123
  omega
 replace h123:=not_false h123
 replace h123:=zI h123;refine zV (zC [] [] Z (zD (zA (zB 1 Z (zF (zC [6] [_] Z (zZ (qA Z Z fun w' hw=>?_))))))))
 exact ⟨ret_b (by first | rfl | (simp_all;done) | (simp_all;omega)),hw.below⟩
end Go.Proofs.YteccfipfimbdgaaDoor
namespace Go.Proofs.YteccfipfimbdgaaDoor
open Go.ChangeShapes Go.WideShapes Go.ChangeAt Go.RowKit Go.Wk
namespace FnExactPlayGame
def W0:Array Value:=#[vS ⟨0,[],[]⟩,vS ⟨0,[],[]⟩,str []]
set_option maxRecDepth 100000 in
theorem contract (H:Type) (enc:TypeId×Value→H) (W:World) (base:Nat) (args:Array Value) (ds gs:List (DataW H)) (before:List MemPlace)
  (hL:laidMetH Tryd.prog Rows.fnExactPlayGameRow.laid W) (hsh:W.ShapedOpen Tryd.prog)
  (hval:∀ (j:Nat) t v,Tryd.f4.params[j]?=some t→args[j]?=some v→Value.okWide Tryd.prog W .any base t v)
  (hW:DataW.Whole enc Tryd.prog Tryd.f4.params.toList Rows.fnExactPlayGameSpec.vars false W args.toList ds gs before) :
  Calls Tryd.prog 4 args W fun e W'=>∃ v,e=.returned v∧Rows.fnExactPlayGameSpec.post enc Tryd.prog Tryd.f4 false true false false W args v W':=by
 have hW':=hW
 obtain ⟨p,q,hA0,hV,rfl,hfz,hnd⟩:=hW
 have hA:DataW.TrodAll enc Tryd.prog W 0 (fun _=>true) true Tryd.f4.params.toList args.toList ds p:=hA0
 rw [Tryd.params4] at hA hval
 obtain ⟨v0,vs0,d0,ds0,p0,q0,hargs0,rfl,rfl,h0,r0⟩:=trodAll_cons hA
 obtain ⟨v1,vs1,d1,ds1,p1,q1,hargs1,rfl,rfl,h1,r1⟩:=trodAll_cons r0
 obtain ⟨v2,vs2,d2,ds2,p2,q2,hargs2,rfl,rfl,h2,r2⟩:=trodAll_cons r1
 obtain ⟨rfl,rfl,rfl⟩:=trodAll_nil r2
 obtain rfl:args=#[v0,v1,v2]:=by cases args;simp_all
 obtain ⟨a0,rfl,s0,t0,lo0,hi0⟩:=open_St Tryd.underlying36 (by kernel_rfl) (by kernel_rfl) rfl rfl rfl Tryd.underlying3 Tryd.underlying9 (hval 0 36 v0 rfl rfl) h0
 obtain ⟨a1,rfl,s1,t1,lo1,hi1⟩:=open_St Tryd.underlying36 (by kernel_rfl) (by kernel_rfl) rfl rfl rfl Tryd.underlying3 Tryd.underlying9 (hval 1 36 v1 rfl rfl) h1
 obtain ⟨a2,rfl⟩:=open_T Tryd.underlying9 (hval 2 9 v2 rfl rfl) h2
 have walk:Calls Tryd.prog 4 #[vS a0,vS a1,str a2] W fun e w'=>e=.returned (.bool true)∧Below W.heap.size W w':=by
  have hG:=gw_start hL hsh
  cases hvm:validB a0&&validB a1&&movesB a0.n a1.n a2 with
  | true=>exact lawPlay_yes a0 a1 a2 W s0 t0 s1 t1 lo0 hi0 lo1 hi1 hG hvm
  | false=>exact lawPlay_no a0 a1 a2 W s0 t0 s1 t1 lo0 hi0 lo1 hi1 hG hvm
 refine walk.mono fun e W' ⟨he,hb⟩=>⟨_,he,?_⟩
 exact post_true laidOut (by rw [Tryd.params4];intro t ht;simp only [List.mem_cons,List.not_mem_nil,or_false] at ht;rcases ht with rfl | rfl | rfl <;> exact ⟨by kernel_rfl,of_decide_eq_true (by kernel_rfl)⟩) rfl hW' rfl (by kernel_rfl) Tryd.underlying4 hb
theorem reads (os:Os) {H:Type} (enc:TypeId×Value→H):∃ places,DataW.whole enc Tryd.prog ((laidWorldP os).forCall (fun _ _=>0) ⟨#[],W0,[]⟩).memory Tryd.f4.params.toList Rows.fnExactPlayGameSpec.vars false W0.toList 8=some ([.agg [.lit (.int .i64 0),.lit (.string []),.lit (.string [])],.agg [.lit (.int .i64 0),.lit (.string []),.lit (.string [])],.lit (.string [])],[],places) :=
 ⟨[],by kernel_rfl⟩
set_option maxRecDepth 100000 in
theorem lifted (os:Os) (started:os.Started) (H:Type) (enc:TypeId×Value→H) (F:Stop.Interp) :
    ReturnsInHanded {} Tryd.checked os 4 .any ((OpenSpec.ofChange Rows.fnExactPlayGameSpec).preRow enc Tryd.prog Tryd.f4 Rows.fnExactPlayGameRow.domain false Rows.fnExactPlayGameRow.laid) (((OpenSpec.ofChange Rows.fnExactPlayGameSpec).at F).post enc Tryd.prog Tryd.f4 false true false false):=by
  obtain ⟨places,hx⟩:=reads os enc
  refine returnsInHanded_of_row (C:=Tryd.checked) (s:=OpenSpec.ofChange Rows.fnExactPlayGameSpec) own started (by kernel_rfl) Tryd.func4
    (witness_row_atRef (enc:=enc) (C:=Tryd.checked) false (laidWorldP os) W0 rfl (by kernel_rfl) (by kernel_rfl) (by kernel_rfl)
      (OpenSpec.preRow_of_cond 8 hx (by kernel_rfl) (fun k hk=>by cases hk) (by kernel_rfl) (laid_metP os W0))) ?_
  intro W base args ds gs before hval hW _ _ _ hL hsh _
  exact contract H enc W base args ds gs before hL hsh hval hW
theorem k0:(Rows.fnExactPlayGameRow.wf (OpenSpec.ofChange (OpenSpec.ofChange Rows.fnExactPlayGameSpec).bare))=true:=by kernel_rfl
theorem k3:(Tryd.f4.params.all (Tryd.pinned.checked.prog.readableRec ·))=true:=by kernel_rfl
theorem k4:(namedTie Tryd.pinned.checked.prog Rows.fnExactPlayGameRow.named (OpenSpec.ofChange Rows.fnExactPlayGameSpec).bare.vars)=true:=by kernel_rfl
theorem k9:((Rows.fnExactPlayGameRow.inPlace==Tryd.pinned.checked.prog.inPlace 4))=true:=by kernel_rfl
theorem k10:((Rows.fnExactPlayGameRow.unfollowed==Tryd.pinned.checked.prog.unfollowed 4))=true:=by kernel_rfl
theorem k11:((Rows.fnExactPlayGameRow.recurses==Tryd.pinned.checked.prog.recurses 4))=true:=by kernel_rfl
theorem k12:((Rows.fnExactPlayGameRow.named==Tryd.pinned.checked.prog.varsNamed 4))=true:=by kernel_rfl
theorem k13:((Rows.fnExactPlayGameRow.maps==(Tryd.f4.params.toList++(OpenSpec.ofChange Rows.fnExactPlayGameSpec).bare.plain.varTypes Tryd.pinned.checked.prog).any (Tryd.pinned.checked.prog.mapsRec ·)))=true:=by kernel_rfl
theorem k14:((Rows.fnExactPlayGameRow.ifaces==(Tryd.f4.params.toList++(OpenSpec.ofChange Rows.fnExactPlayGameSpec).bare.plain.varTypes Tryd.pinned.checked.prog).any (Tryd.pinned.checked.prog.ifacesRec ·)))=true:=by kernel_rfl
theorem k15:((Rows.fnExactPlayGameRow.mapsOut==Tryd.pinned.checked.prog.mapsAmong Tryd.f4.resultTypes.toList))=true:=by kernel_rfl
theorem k16:((Rows.fnExactPlayGameRow.loops==(Tryd.f4.params.toList++(OpenSpec.ofChange Rows.fnExactPlayGameSpec).bare.plain.varTypes Tryd.pinned.checked.prog).any (Tryd.pinned.checked.prog.loopsFrom ·)))=true:=by kernel_rfl
theorem k17:((Rows.fnExactPlayGameRow.wideKeys==(Tryd.f4.params.toList++(OpenSpec.ofChange Rows.fnExactPlayGameSpec).bare.plain.varTypes Tryd.pinned.checked.prog++Tryd.f4.resultTypes.toList).any (Tryd.pinned.checked.prog.wideKeysFrom ·)))=true:=by kernel_rfl
theorem k19:(Tryd.f4.resultTypes.all (fun t=>Tryd.pinned.checked.prog.readableRec t&&decide (t<Tryd.pinned.checked.prog.types.size)))=true:=by kernel_rfl
theorem k20:((Rows.fnExactPlayGameRow.ifacesOut==Tryd.f4.resultTypes.toList.any (Tryd.pinned.checked.prog.ifacesRec ·)))=true:=by kernel_rfl
theorem k21:((Rows.fnExactPlayGameRow.loopsOut==Tryd.f4.resultTypes.toList.any (Tryd.pinned.checked.prog.loopsFrom ·)))=true:=by kernel_rfl
theorem k30:((Rows.fnExactPlayGameRow.veiled==(Tryd.f4.params.toList++(OpenSpec.ofChange Rows.fnExactPlayGameSpec).bare.plain.varTypes Tryd.pinned.checked.prog++Tryd.f4.resultTypes.toList).any (Tryd.pinned.checked.prog.veiledRec ·)))=true:=by kernel_rfl
theorem k31:(Rows.fnExactPlayGameRow.veiledFits Tryd.pinned.checked.prog Tryd.f4.params.toList (Tryd.f4.params.toList++(OpenSpec.ofChange Rows.fnExactPlayGameSpec).bare.plain.varTypes Tryd.pinned.checked.prog++Tryd.f4.resultTypes.toList))=true:=by kernel_rfl
theorem closed:joinedFacts Tryd.pinned.checked.prog 4 Tryd.f4 (OpenSpec.ofChange Rows.fnExactPlayGameSpec).bare Rows.fnExactPlayGameRow=true :=
 facts_of k0 Laid1 Laid2 k3 k4 (by kernel_rfl) Laid6 (by kernel_rfl) Laid8 k9 k10 k11 k12 k13 k14 k15 k16 k17 (by kernel_rfl) k19 k20 k21 Laid22 (by kernel_rfl) Laid24 Laid25 Laid26 Laid27 (by kernel_rfl) (by kernel_rfl) k30 k31
theorem said:Rows.FnExactPlayGameSaid :=
  OpenClaim.holds_of_cond 4 Tryd.f4 rfl rfl rfl rfl rfl rfl rfl ⟨rfl,rfl,rfl,rfl,rfl⟩ rfl rfl rfl rfl rfl (by kernel_rfl) Tryd.func4 closed
    (of_decide_eq_true (by kernel_rfl)) (by unfold Func.isWrapper;first | (rw [if_pos (by decide +kernel)];kernel_rfl) | (rw [if_neg (by decide +kernel)];exact ⟨rfl,rfl⟩))
    (fun os started H enc _ F=>by rw [OpenClaim.pre_eq_preRow];exact lifted os started H enc F)
theorem plain (f:FuncId) (fn:Func) (hf:Tryd.pinned.checked.prog.funcNamed Rows.fnExactPlayGameRow.func=some f) (hfn:Tryd.pinned.checked.prog.funcs[f]?=some fn) :
  false=Tryd.pinned.checked.prog.looks []∧∀ (j:Nat) t,fn.params[j]?=some t→Tryd.pinned.checked.prog.wantsStandIn t=false:=by
 obtain rfl:f=4:=Option.some.inj ((show Tryd.pinned.checked.prog.funcNamed Rows.fnExactPlayGameRow.func=some 4 by kernel_rfl).symm.trans hf) |>.symm
 obtain rfl:fn=Tryd.f4:=(Option.some.inj (Tryd.func4.symm.trans hfn)).symm
 refine ⟨by kernel_rfl,fun j t ht=>?_⟩
 rw [Tryd.params4] at ht
 have hm:t∈[36,36,9]:=by simpa using Array.mem_of_getElem? ht
 simp only [List.mem_cons,List.not_mem_nil,or_false] at hm
 rcases hm with rfl | rfl | rfl <;> (show Tryd.prog.wantsStandIn _=false) <;> kernel_rfl
theorem hw:Rows.fnExactPlayGameRow.wfByText (OpenSpec.ofChange Rows.fnExactPlayGameSpec)=true:=by kernel_rfl
theorem hm:Tryd.pinned.checked.prog.mainIs=some (Rows.fnExactPlayGameCard.stood.harness.1,Rows.fnExactPlayGameCard.stood.harness.2.toList):=by kernel_rfl
theorem hg:false=Rows.fnExactPlayGameRow.goesBy Tryd.pinned.checked.prog:=by kernel_rfl
end FnExactPlayGame
theorem cardFnExactPlayGame:Rows.FnExactPlayGameCardSaid :=
 Claim7.holds_tied_plain_at .later [] _ _ _ _ FnExactPlayGame.said (fun _ h=>by cases h) FnExactPlayGame.hw (fun _ h=>by cases h) fnExactPlayGame_row_tie rfl ⟨rfl,rfl⟩ FnExactPlayGame.hm rfl FnExactPlayGame.plain FnExactPlayGame.hg
end Go.Proofs.YteccfipfimbdgaaDoor
