/-
  FnWonRounds: all that its proof names (part 4)
-/
import Derived.Test.YtagbocafnliabaaDoorKFnWonRoundsc
import Derived.Test.YtagbocafnliabaaDoorKFnWonRoundsa
import Derived.Test.YtagbocafnliabaaDoorKFnWonRoundsb
namespace Go.Proofs.YtagbocafnliabaaDoor
open Go.RowKit Go.Wk
set_option linter.unusedSimpArgs false
set_option maxHeartbeats 400000 in
theorem iWon_ok (a b:St) (xs ys:List Int) (va vb:Value) (w:World) (hsa:a.Small) (hsb:b.Small) (hva:Ints w va xs) (hvb:Ints w vb ys) (hs1:xs.length≤140737488355328) (hs2:ys.length≤140737488355328) :
    Calls Tryd.prog 16 [vS a,va,vS b,vb].toArray w fun en w'=>en=.returned (.int .i64 (wonI a xs b ys))∧Below w.heap.size w w':=by
 refine fnStart (n:=29) (e:=[(0,vS a),(1,va),(2,vS b),(3,vb)]) Tryd.func16 Z Z Z Z Ends.both (zF (zZ (yP (v:=vS a) Z Z Z Z Z fun p4 hp4=>?_)))
 show Ll _ _ (Own _ _ [_]) _ _ ((4,pt_ p4)::_) _ _ _;refine yP (v:=vS b) Z Z Z Z Z fun p6 hp6=>?_
 show Ll _ _ (Own _ _ [_,_]) _ _ ((6,pt_ p6)::_) _ _ _;refine qL 1 Z (zM (zD [1,3,4,6] [_,_,_,_] Z (zF (zF (zC (zE Z (zR (cs:=#[i6_ a.n,str a.set,str a.rel]) 1 Z zN Z Z zI) (zB 1 Z (zE Z (zR (cs:=#[i6_ b.n,str b.set,str b.rel]) 0 Z zN Z Z zI) (zB 1 Z (zE (v:=bo_ (listsB a xs b ys)) Z (qK Z Tryd.call50 Z zY (fun w1 hw1=>areLists_ok a b xs ys va vb w1 hsa hsb (Row.own hva hw1) (Row.own hvb hw1) (by first | (simp;done) | (simp;omega) | omega) (by first | (simp;done) | (simp;omega) | omega))) (zB 1 Z (zL (zD [1,3,4,6,16] [_,_,_,_,_] Z (yH (b:=!(listsB a xs b ys)) Z (fun h16=>?_) (fun h16=>?_)))))))))))))))
 ·
  replace h16:=not_true h16;refine zF (zC (zB 1 Z (zL (zD [8] [_] Z (qM (qO Z Z fun w' hw=>?_))))))
  exact ⟨ret_i (by unfold wonI;simp [*]),hw.below⟩
 replace h16:=not_false h16
 replace h16:listsB a xs b ys=true:=by simpa using h16
 obtain ⟨LA,LB,hlen⟩:=listsB_true h16
 have ha:=LA.fine
 have hb:=LB.fine
 have hA:=LA.els
 have hB:=LB.els
 have hl4:=LA.len;refine qR (zD [1,3,4,6] [_,_,_,_] Z (zF (zC (zB 1 Z (zL (zD [1,3,4,6,9] [_,_,_,_,_] Z (zF (zF (zC (zB 1 Z (zL (zD [1,3,4,6,9,17] [_,_,_,_,_,_] Z (qQ (yZ (σ:=Nat) (fun k=>k≤4) (fun k=>[(1,va),(3,vb),(4,pt_ p4),(6,pt_ p6),(9,i6_ (lastW (fun n=>winB n a xs b ys) k)),(17,i6_ (k:Int))]) (fun k=>Own w.heap.size w [bk_ p6 #[i6_ b.n,str b.set,str b.rel] 24,bk_ p4 #[i6_ a.n,str a.set,str a.rel] 24]) (fun k=>4 - k) (0) (by omega) (Sub.cons Z (Sub.cons Z (Sub.cons Z (Sub.cons Z (Sub.cons Z (Sub.sel [17] Z)))))) (fun _ h=>h) ?_))))))))))))))
 rintro k hk;refine zF (zC (zB 1 Z (zL (zD [1,3,4,6,9,17,18] [_,_,_,_,_,_,_] Z (zF (xA Z (fun h18=>?_) (fun h18=>?_)))))))
 ·
  refine qR (zD [1,3,4,6,9,17] [_,_,_,_,_,_] Z (zF (qQ (zF (zC (zB 2 Z (zL (zD [1,3,4,6,9,10,17] [_,_,_,_,_,_,_] Z (zF (zC (zE Z (zR (cs:=#[i6_ a.n,str a.set,str a.rel]) 1 Z zN Z Z zI) (zB 1 Z (zE Z (zR (cs:=#[i6_ b.n,str b.set,str b.rel]) 0 Z zN Z Z zI) (zB 2 Z (zE (v:=bo_ (winB k a xs b ys)) Z (qK Z Tryd.call37 Z zY (fun w1 hw1=>wins_ok a b xs ys va vb w1 ha hb (Row.own hva hw1) (Row.own hvb hw1) hA hB (by first | (simp;done) | (simp;omega) | omega) (by first | (simp;done) | (simp;omega) | omega) (k:Int) (by omega) (by omega))) (zL (zD [1,3,4,6,9,10,17,25] [_,_,_,_,_,_,_,_] Z (yH (b:=winB k a xs b ys) Z (fun h25=>?_) (fun h25=>?_)))))))))))))))))))
  ·
   refine zC (zB 2 Z (zL (zD [1,3,4,6,9,17] [_,_,_,_,_,_] Z (zC (zE Z (qX Z Z Z (by omega) (by omega)) (zB 1 Z (zL (yA (k+1) (by omega) (by omega) (Sub.cons Z (Sub.cons Z (Sub.cons Z (Sub.cons Z (Sub.cons (by rw [lastW_yes (f:=fun n=>winB n a xs b ys) h25];rfl) (Sub.sel [17] Z)))))) (fun _ h=>h)))))))))
  refine qR (zD [1,3,4,6,9,17] [_,_,_,_,_,_] Z (zC (zE Z (qX Z Z Z (by omega) (by omega)) (zB 1 Z (zL (yA (k+1) (by omega) (by omega) (Sub.cons Z (Sub.cons Z (Sub.cons Z (Sub.cons Z (Sub.cons (by rw [lastW_no (f:=fun n=>winB n a xs b ys) h25];rfl) (Sub.sel [17] Z)))))) (fun _ h=>h)))))))
 refine yV Z (zD [9] [_] Z (zF (zC (zB 2 Z (zL (zD [8] [_] Z (qM (qO Z Z fun w' hw=>?_))))))))
 exact ⟨ret_i (by unfold wonI;rw [h16,if_pos rfl,show k=4 from by omega]),hw.below⟩
set_option maxHeartbeats 400000 in
theorem sWon_ok (a b:St) (xs ys:List Int) (va vb:Value) (w:World) (hsa:a.Small) (hsb:b.Small) (hva:Ints w va xs) (hvb:Ints w vb ys) (hs1:xs.length≤140737488355328) (hs2:ys.length≤140737488355328) (loa : -9223372036854775808≤a.n) (hia:a.n≤9223372036854775807) (lob : -9223372036854775808≤b.n) (hib:b.n≤9223372036854775807) :
    Calls Tryd.prog 17 [vS a,va,vS b,vb].toArray w fun en w'=>en=.returned (.int .i64 (wonI a xs b ys))∧Below w.heap.size w w':=by
 refine fnStart (n:=30) (e:=[(0,vS a),(1,va),(2,vS b),(3,vb)]) Tryd.func17 Z Z Z Z Ends.both (zF (zZ (yP (v:=vS a) Z Z Z Z Z fun p4 hp4=>?_)))
 show Ll _ _ (Own _ _ [_]) _ _ ((4,pt_ p4)::_) _ _ _;refine yP (v:=vS b) Z Z Z Z Z fun p6 hp6=>?_
 show Ll _ _ (Own _ _ [_,_]) _ _ ((6,pt_ p6)::_) _ _ _;refine qL 1 Z (zM (zD [1,3,4,6] [_,_,_,_] Z (zF (zC (zB 1 Z (zL (zD [1,3,4,6,9] [_,_,_,_,_] Z (zF (zF (zC (zE Z (zR (cs:=#[i6_ a.n,str a.set,str a.rel]) 1 Z zN Z Z zI) (zB 1 Z (zE Z (zR (cs:=#[i6_ b.n,str b.set,str b.rel]) 0 Z zN Z Z zI) (zB 1 Z (zE (v:=bo_ (listsB a xs b ys)) Z (qK Z Tryd.call51 Z zY (fun w1 hw1=>l4Lists_ok a b xs ys va vb w1 hsa hsb (Row.own hva hw1) (Row.own hvb hw1) (by first | (simp;done) | (simp;omega) | omega) (by first | (simp;done) | (simp;omega) | omega) loa hia lob hib)) (zB 1 Z (zL (zD [1,3,4,6,9,15] [_,_,_,_,_,_] Z (yH (b:=!(listsB a xs b ys)) Z (fun h15=>?_) (fun h15=>?_))))))))))))))))))))
 ·
  replace h15:=not_true h15;refine zF (zC (zB 1 Z (zL (zD [8] [_] Z (qM (qO Z Z fun w' hw=>?_))))))
  exact ⟨ret_i (by unfold wonI;simp_all),hw.below⟩
 replace h15:=not_false h15
 replace h15:listsB a xs b ys=true:=by simpa using h15
 obtain ⟨LA,LB,hlen⟩:=listsB_true h15
 have ha:=LA.fine
 have hb:=LB.fine
 have hA:=LA.els
 have hB:=LB.els
 have hl4:=LA.len;refine qR (zD [1,3,4,6,9] [_,_,_,_,_] Z (zF (qQ (yZ (σ:=Nat) (fun k=>k≤4∧∀ i:Nat,i<k→winB i a xs b ys=true) (fun k=>[(1,va),(3,vb),(4,pt_ p4),(6,pt_ p6),(9,i6_ ((k:Int) - 1))]) (fun k=>Own w.heap.size w [bk_ p6 #[i6_ b.n,str b.set,str b.rel] 24,bk_ p4 #[i6_ a.n,str a.set,str a.rel] 24]) (fun k=>5 - k) (0) ⟨by omega,fun i hi=>absurd hi (by omega)⟩ (Sub.cons Z (Sub.cons Z (Sub.cons Z (Sub.cons Z (Sub.cons Z Sub.nil))))) (fun _ h=>h) ?_))))
 rintro k ⟨hk,hall⟩;refine zF (zF (zC (zB 3 Z (yU fun b18 hg18=>?_))))
 cases b18
 ·
  replace hg18:=zX hg18;refine zG Z (zG Z (zG Z (zG Z (zG Z (zG Z (zG Z (zB 1 Z (zL (zD [1,3,4,6,9,26] [_,_,_,_,_,_] Z (Wk.condF Z (yV Z (zD [9] [_] Z (zF (zC (zB 2 Z (zL (zD [8] [_] Z (qM (qO Z Z fun w' hw=>?_)))))))))))))))))))
  exact ⟨ret_i (by unfold wonI;rw [h15,if_pos rfl,lastW_of (f:=fun n=>winB n a xs b ys) (fun n h=>win_less hlen h) hk hall (fun hk4=>by first | assumption | omega)]),hw.below⟩
 replace hg18:=qB hg18;refine zE Z (zR (cs:=#[i6_ a.n,str a.set,str a.rel]) 1 Z zN Z Z zI) (zB 1 Z (zE Z (zR (cs:=#[i6_ b.n,str b.set,str b.rel]) 0 Z zN Z Z zI) (zB 2 Z (zE (v:=i6_ (k:Int)) Z (xE (by congr 1;omega) (qX Z Z Z (by omega) (by omega))) (zE (v:=bo_ (winB k a xs b ys)) Z (qK Z Tryd.call52 Z zY (fun w1 hw1=>l5Wins_ok a b xs ys va vb w1 ha hb (Row.own hva hw1) (Row.own hvb hw1) hA hB (by first | (simp;done) | (simp;omega) | omega) (by first | (simp;done) | (simp;omega) | omega) (k:Int) (by omega) (by omega))) (zB 1 Z (zL (zD [1,3,4,6,9,26] [_,_,_,_,_,_] Z (yH (b:=winB k a xs b ys) Z (fun h26=>?_) (fun h26=>?_))))))))))
 ·
  refine qR (zD [1,3,4,6,9] [_,_,_,_,_] Z (qQ (zC (zB 1 Z (zE Z (qX Z Z Z (by omega) (by omega)) (zB 1 Z (zL (yA (k+1) ⟨by omega,fun i hi=>(Nat.lt_succ_iff_lt_or_eq.1 hi).elim (hall i) (fun e=>by subst e;assumption)⟩ (by omega) (Sub.cons Z (Sub.cons Z (Sub.cons Z (Sub.cons Z (Sub.cons (by first | (simp [List.lookup];done) | (simp [List.lookup];omega)) Sub.nil))))) (fun _ h=>h)))))))))
 refine yV Z (zD [9] [_] Z (zF (zC (zB 2 Z (zL (zD [8] [_] Z (qM (qO Z Z fun w' hw=>?_))))))))
 exact ⟨ret_i (by unfold wonI;rw [h15,if_pos rfl,lastW_of (f:=fun n=>winB n a xs b ys) (fun n h=>win_less hlen h) hk hall (fun hk4=>by first | assumption | omega)]),hw.below⟩
set_option maxHeartbeats 400000 in
theorem drawWon_ok (B:Nat) (w0:World) (hs:List (Nat×Obj)) (bv:Value) (L:List Int) (w:World) (hb:∀ w,Own B w0 hs w→Row w bv (u8s L)) (hL8:Bytes8 L) (hLs:L.length≤1048576) (hw:Own B w0 hs w) :
    Calls Tryd.prog 15 [bv].toArray w fun en w'=>∃ a:St,∃ b:St,∃ v:Value,∃ xs:List Int,∃ u:Value,∃ ys:List Int,∃ new:List (Nat×Obj),en=.returned (.tuple #[vS a,v,vS b,u])∧(((a.Tame∧b.Tame)∧(xs.length≤40∧ys.length≤40)∧∀ w1,Own B w0 new w1→Ints w1 v xs∧Ints w1 u ys)∧True)∧Own B w0 (new++hs) w':=by
 refine fnStartC (Own B w0 hs) (n:=24) (e:=[(0,bv)]) Tryd.func15 Z Z Z Z Ends.both hw (zF (zZ (xB Z Z Z Z qY fun p2 hp2=>?_)))
 show Ll _ _ (Own _ _ (bk_ p2 #[i6_ 0,str ([]),str ([])] 24::hs)) _ _ ((2,pt_ p2)::_) _ _ _;refine qL 1 Z (xB Z Z Z Z qY fun p4 hp4=>?_)
 show Ll _ _ (Own _ _ (bk_ p4 #[i6_ 0,str ([]),str ([])] 24::_::hs)) _ _ ((4,pt_ p4)::_) _ _ _;refine qL 1 Z (zM (zD [0,2,4] [_,_,_] Z (zF (zZ (qL 1 Z (Ll.callBack (ok:=fun ((rp,v,M):Nat×Value×List Int)=>M.length≤2000∧Bytes8 M∧∀ w1,Own B w0 hs w1→Row w1 v (u8s M)) (v:=fun ((rp,v,M):Nat×Value×List Int)=>.pointer (some ⟨rp,0,none⟩)) (new:=fun ((rp,v,M):Nat×Value×List Int)=>[(rp,.cells #[v,.int .i64 ((0:Nat):Int)] 104 (0,0))]) (hs:=hs) (xs:=[.tmp 12]) (vs:=[bv]) ([bk_ p4 #[i6_ 0,str ([]),str ([])] 24,bk_ p2 #[i6_ 0,str ([]),str ([])] 24]:List (Nat×Obj)) Z Z Z Z Tryd.call31 Z (fun w1 hw1=>(open_ok B w0 ([bk_ p4 #[i6_ 0,str ([]),str ([])] 24,bk_ p2 #[i6_ 0,str ([]),str ([])] 24]:List (Nat×Obj)) hs _ _ w1 hb hL8 hLs hw1).mono fun en w' ⟨rp,v,M,h1,h2,h3⟩=>⟨(rp,v,M),h1,h2,h3⟩) fun ⟨rp,dv,M⟩ hO=>?_))))))
 dsimp only at hO
 obtain ⟨hM2,hM8,hMb⟩:=hO
 show Ll _ _ (Own _ _ (_::_::_::hs)) _ _ ((13,pt_ rp)::_) _ _ _;refine Ll.callRdL (rp:=rp) (RT:=104) (p:=0) (bv:=dv) (hs:=hs) (ok:=fun ((a,b,v,xs,u,ys,new,r):St×St×Value×List Int×Value×List Int×List (Nat×Obj)×Int) p'=>((a.Tame∧b.Tame)∧(xs.length≤40∧ys.length≤40)∧∀ w1,Own B w0 new w1→Ints w1 v xs∧Ints w1 u ys)∧(-1≤r∧r≤4)∧p'≤0+2010) (v:=fun ((a,b,v,xs,u,ys,new,r):St×St×Value×List Int×Value×List Int×List (Nat×Obj)×Int)=>.tuple #[vS a,v,vS b,u,.int .i64 r]) (new:=fun ((a,b,v,xs,u,ys,new,r):St×St×Value×List Int×Value×List Int×List (Nat×Obj)×Int)=>new) (xs:=[.tmp 13]) (vs:=[pt_ rp]) ([bk_ p4 #[i6_ 0,str ([]),str ([])] 24,bk_ p2 #[i6_ 0,str ([]),str ([])] 24]:List (Nat×Obj)) Z Z Z Z Tryd.call49 Z (fun w1 hw1=>(l5Draw_ok B w0 (([bk_ p4 #[i6_ 0,str ([]),str ([])] 24,bk_ p2 #[i6_ 0,str ([]),str ([])] 24]:List (Nat×Obj))++hs) rp 0 dv M w1 (fun w2 hw2=>hMb w2 (qF (f:=([bk_ p4 #[i6_ 0,str ([]),str ([])] 24,bk_ p2 #[i6_ 0,str ([]),str ([])] 24]:List (Nat×Obj))) hw2)) hM8 hM2 (by omega) hw1).mono fun en w' ⟨a,b,v,xs,u,ys,new,r,p',h1,h2,h3⟩=>⟨(a,b,v,xs,u,ys,new,r),p',h1,h2,h3⟩) fun ⟨a14,b14,v14,xs14,u14,ys14,new14,r14⟩ p_14 hK=>?_
 dsimp only at hK
 obtain ⟨⟨⟨hta14,htb14⟩,⟨hlxs14,hlys14⟩,hrw⟩,⟨hlor14,hhir14⟩,hep_14⟩:=hK
 have hIv14:∀ w1,Own B w0 new14 w1→Ints w1 v14 xs14:=fun w1 h=>(hrw w1 h).1
 have hIu14:∀ w1,Own B w0 new14 w1→Ints w1 u14 ys14:=fun w1 h=>(hrw w1 h).2
 show Ll _ _ (Own _ _ (_::_::_::(new14++hs))) _ _ ((14,.tuple #[vS a14,v14,vS b14,u14,i6_ r14])::_) _ _ _;refine qL 1 Z (qA (v:=vS a14) Z (yO Z Z Z) (qA (v:=v14) Z (yO Z Z Z) (qA (v:=vS b14) Z (yO Z Z Z) (qA (v:=u14) Z (yO Z Z Z) (qA (v:=i6_ r14) Z (yO Z Z Z) (xB Z Z Z Z qY fun p6 hp6=>?_))))))
 show Ll _ _ (Own _ _ (bk_ p6 #[i6_ 0,str ([]),str ([])] 24::_::_::_::(new14++hs))) _ _ ((6,pt_ p6)::_) _ _ _;refine xB Z Z Z Z qY fun p8 hp8=>?_
 show Ll _ _ (Own _ _ (bk_ p8 #[i6_ 0,str ([]),str ([])] 24::_::_::_::_::(new14++hs))) _ _ ((8,pt_ p8)::_) _ _ _;refine qT (cs':=#[i6_ a14.n,str a14.set,str a14.rel]) (hs':=(_::bk_ p6 #[i6_ a14.n,str a14.set,str a14.rel] 24::_::_::_::(new14++hs))) 1 Z Z Z Z Z (by kernel_rfl:_=some Tryd.t24) Z Z Z Z Z (qL 1 Z (qT (cs':=#[i6_ b14.n,str b14.set,str b14.rel]) (hs':=(bk_ p8 #[i6_ b14.n,str b14.set,str b14.rel] 24::_::_::_::_::(new14++hs))) 0 Z Z Z Z Z (by kernel_rfl:_=some Tryd.t24) Z Z Z Z Z (qL 2 Z (zM (zD [2,4,6,7,8,9] [_,_,_,_,_,_] Z (zF (xL (S:=Own B w0 [bk_ p8 #[i6_ b14.n,str b14.set,str b14.rel] 24,bk_ p6 #[i6_ a14.n,str a14.set,str a14.rel] 24,bk_ rp #[dv,i6_ (p_14:Int)] 104]) [(0,true),(1,true),(2,true),(3,true),(4,false),(5,true),(6,false),(7,true)] qZ (fun _ h=>h.drawn) (by kernel_rfl) (yS Z Z Z Z Z (zR (cs:=#[i6_ a14.n,str a14.set,str a14.rel]) 1 Z zN Z Z zI) (pk [0,1,4] Z Z) (yX 1 Z (pk [0,1,4] Z Z) (yS Z Z Z Z Z (zR (cs:=#[i6_ b14.n,str b14.set,str b14.rel]) 0 Z zN Z Z zI) (pk [0,1,4] Z Z) (yX 1 Z (pk [0,1,4] Z Z) (yJ Z (qT (cs':=#[i6_ a14.n,str a14.set,str a14.rel]) (hs':=(_::_::_::bk_ p2 #[i6_ a14.n,str a14.set,str a14.rel] 24::_::(new14++hs))) 3 Z Z Z Z Z (by kernel_rfl:_=some Tryd.t24) Z Z Z Z Z (zM (yD (pk [0,1,4] Z Z) ?_)))))))))))))));refine yX 1 Z (pk [0,1,4] Z Z) (yJ Z (qT (cs':=#[i6_ b14.n,str b14.set,str b14.rel]) (hs':=(_::_::bk_ p4 #[i6_ b14.n,str b14.set,str b14.rel] 24::_::_::(new14++hs))) 2 Z Z Z Z Z (by kernel_rfl:_=some Tryd.t24) Z Z Z Z Z (zM (yD (pk [0,1,4] Z Z) ?_))));refine yX 1 Z (pk [0,1,4] Z Z) (jN (zD [2,3,4,5] [_,_,_,_] Z (qM (xZ Z (.cell (cs:=#[i6_ a14.n,str a14.set,str a14.rel]) Z (fun w1 hw1=>hw1.loadBox 3 Z zN zI) (.tmp (v:=v14) Z (.cell (cs:=#[i6_ b14.n,str b14.set,str b14.rel]) Z (fun w1 hw1=>hw1.loadBox 2 Z zN zI) (.tmp (v:=u14) Z ResAt.nil)))) (by simp) fun w' hw=>?_))))
 exact ⟨a14,b14,v14,xs14,u14,ys14,([bk_ p8 #[i6_ b14.n,str b14.set,str b14.rel] 24,bk_ p6 #[i6_ a14.n,str a14.set,str a14.rel] 24,bk_ p4 #[i6_ b14.n,str b14.set,str b14.rel] 24,bk_ p2 #[i6_ a14.n,str a14.set,str a14.rel] 24,bk_ rp #[dv,i6_ (p_14:Int)] 104]:List (Nat×Obj))++new14,rfl,⟨⟨⟨hta14,htb14⟩,⟨(by first | omega | (simp only [zJ,qD,qE,zO,List.length_set];omega)),(by first | omega | (simp only [zJ,qD,qE,zO,List.length_set];omega))⟩,fun w1 h1=>⟨(hIv14 _ (qF (f:=[_,_,_,_,_]) h1)),(hIu14 _ (qF (f:=[_,_,_,_,_]) h1))⟩⟩,trivial⟩,hw⟩
set_option maxHeartbeats 400000 in
theorem lawFnWon (bv:Value) (L:List Int) (w:World) (hbv:Row w bv (u8s L)) (hL8:Bytes8 L) (hLm:L.length≤9223372036854775807) :
    Calls Tryd.prog 4 [bv].toArray w fun en w'=>en=.returned (.bool true)∧Below w.heap.size w w':=by
 refine fnStart (n:=75) (e:=[(0,bv)]) Tryd.func4 Z Z Z Z Ends.both (zF (zC (zB 1 Z (zL (zD [0] [_] Z (zF (zF (zC (zB 1 Z (zE (v:=i6_ (L.length:Int)) Z (yI Z yL Z (u8s_length _) (fun w1 hw1=>Row.own hbv hw1)) (zB 1 Z (zL (zD [0,13] [_,_] Z (xA Z (fun h13=>?_) (fun h13=>?_)))))))))))))))
 ·
  refine zF (zC (zB 1 Z (zL (zD [2] [_] Z (qM (qO Z Z fun w' hw=>?_))))))
  exact ⟨ret_b (by first | rfl | (simp_all;done)),hw.below⟩
 refine qR (zD [0] [_] Z (zF (zZ (qL 1 Z (Ll.callBack (ok:=fun ((a,b,v,xs,u,ys,new):St×St×Value×List Int×Value×List Int×List (Nat×Obj))=>((a.Tame∧b.Tame)∧(xs.length≤40∧ys.length≤40)∧∀ w1,Own w.heap.size w new w1→Ints w1 v xs∧Ints w1 u ys)∧True) (v:=fun ((a,b,v,xs,u,ys,new):St×St×Value×List Int×Value×List Int×List (Nat×Obj))=>.tuple #[vS a,v,vS b,u]) (new:=fun ((a,b,v,xs,u,ys,new):St×St×Value×List Int×Value×List Int×List (Nat×Obj))=>new) (hs:=[]) (xs:=[.tmp 15]) (vs:=[bv]) ([]:List (Nat×Obj)) Z Z Z Z Tryd.call15 Z (fun w1 hw1=>(drawWon_ok w.heap.size w (([]:List (Nat×Obj))++([])) bv L w1 (fun w2 hw2=>Row.own hbv hw2) hL8 (by omega) hw1).mono fun en w' ⟨a,b,v,xs,u,ys,new,h1,h2,h3⟩=>⟨(a,b,v,xs,u,ys,new),h1,h2,h3⟩) fun ⟨a16,b16,v16,xs16,u16,ys16,new16⟩ hK=>?_)))))
 dsimp only at hK
 obtain ⟨⟨⟨hta16,htb16⟩,⟨hlxs16,hlys16⟩,hrw⟩,-⟩:=hK
 have hIv16:∀ w1,Own w.heap.size w new16 w1→Ints w1 v16 xs16:=fun w1 h=>(hrw w1 h).1
 have hIu16:∀ w1,Own w.heap.size w new16 w1→Ints w1 u16 ys16:=fun w1 h=>(hrw w1 h).2
 have hsa16:=hta16.small
 have loa16:=hta16.lo
 have hia16:=hta16.hi
 have hsb16:=htb16.small
 have lob16:=htb16.lo
 have hib16:=htb16.hi
 show Ll _ _ (Own _ _ (new16++([]))) _ _ ((16,.tuple #[vS a16,v16,vS b16,u16])::_) _ _ _;refine qL 1 Z (qA (v:=vS a16) Z (yO Z Z Z) (qA (v:=v16) Z (yO Z Z Z) (qA (v:=vS b16) Z (yO Z Z Z) (qA (v:=u16) Z (yO Z Z Z) (xB Z Z Z Z qY fun p3 hp3=>?_)))))
 show Ll _ _ (Own _ _ (bk_ p3 #[i6_ 0,str ([]),str ([])] 24::(new16++([])))) _ _ ((3,pt_ p3)::_) _ _ _;refine xB Z Z Z Z qY fun p5 hp5=>?_
 show Ll _ _ (Own _ _ (bk_ p5 #[i6_ 0,str ([]),str ([])] 24::_::(new16++([])))) _ _ ((5,pt_ p5)::_) _ _ _;refine qT (cs':=#[i6_ a16.n,str a16.set,str a16.rel]) (hs':=(_::bk_ p3 #[i6_ a16.n,str a16.set,str a16.rel] 24::(new16++([])))) 1 Z Z Z Z Z (by kernel_rfl:_=some Tryd.t24) Z Z Z Z Z (qL 1 Z (qT (cs':=#[i6_ b16.n,str b16.set,str b16.rel]) (hs':=(bk_ p5 #[i6_ b16.n,str b16.set,str b16.rel] 24::_::(new16++([])))) 0 Z Z Z Z Z (by kernel_rfl:_=some Tryd.t24) Z Z Z Z Z (qL 1 Z (zM (zD [3,4,5,6] [_,_,_,_] Z (zF (zC (zE Z (zR (cs:=#[i6_ a16.n,str a16.set,str a16.rel]) 1 Z zN Z Z zI) (zB 1 Z (zE Z (zR (cs:=#[i6_ b16.n,str b16.set,str b16.rel]) 0 Z zN Z Z zI) (zB 1 Z (zE (v:=i6_ (wonI a16 xs16 b16 ys16)) Z (qK Z Tryd.call16 Z zY (fun w1 hw1=>iWon_ok a16 b16 xs16 ys16 v16 u16 w1 hsa16 hsb16 (hIv16 _ (xJ (qF (f:=[_,_]) hw1))) (hIu16 _ (xJ (qF (f:=[_,_]) hw1))) (by first | (simp;done) | (simp;omega) | omega) (by first | (simp;done) | (simp;omega) | omega))) (zB 1 Z (zL (zD [3,4,5,6,7] [_,_,_,_,_] Z (zF (zF (zC (zB 1 Z (zE Z (zR (cs:=#[i6_ a16.n,str a16.set,str a16.rel]) 1 Z zN Z Z zI) (zB 1 Z (zE Z (zR (cs:=#[i6_ b16.n,str b16.set,str b16.rel]) 0 Z zN Z Z zI) (zB 1 Z (zE (v:=i6_ (wonI a16 xs16 b16 ys16)) Z (qK Z Tryd.call17 Z zY (fun w1 hw1=>sWon_ok a16 b16 xs16 ys16 v16 u16 w1 hsa16 hsb16 (hIv16 _ (xJ (qF (f:=[_,_]) hw1))) (hIu16 _ (xJ (qF (f:=[_,_]) hw1))) (by first | (simp;done) | (simp;omega) | omega) (by first | (simp;done) | (simp;omega) | omega) loa16 hia16 lob16 hib16)) (zB 2 Z (yU fun b33 hg33=>?_))))))))))))))))))))))))))
 cases b33
 ·
  replace hg33:=not_false hg33
  replace hg33:=qB hg33;refine zB 3 Z (zL (zD [3,4,5,6,7,36] [_,_,_,_,_,_] Z (yH (b:=decide ((wonI a16 xs16 b16 ys16)<(-1:Int))) Z (fun h36=>?_) (fun h36=>?_))))
  ·
   replace h36:=qB h36;refine zF (zC (zB 1 Z (zE Z (zR (cs:=#[i6_ a16.n,str a16.set,str a16.rel]) 1 Z zN Z Z zI) (zB 1 Z (zE Z (zR (cs:=#[i6_ b16.n,str b16.set,str b16.rel]) 0 Z zN Z Z zI) (zB 1 Z (zE (v:=i6_ (wonI a16 xs16 b16 ys16)) Z (qK Z Tryd.call17 Z zY (fun w1 hw1=>sWon_ok a16 b16 xs16 ys16 v16 u16 w1 hsa16 hsb16 (hIv16 _ (xJ (qF (f:=[_,_]) hw1))) (hIu16 _ (xJ (qF (f:=[_,_]) hw1))) (by first | (simp;done) | (simp;omega) | omega) (by first | (simp;done) | (simp;omega) | omega) loa16 hia16 lob16 hib16)) (zB 2 Z (zL (zD [2] [_] Z (qM (qO Z Z fun w' hw=>?_))))))))))))
   exact ⟨ret_b (by first | rfl | (simp_all;done)),hw.below⟩
  replace h36:=zX h36
  have hLL:=won_listed h36
  obtain ⟨LA,LB,hlen⟩:=listsB_true hLL
  have ha:=LA.fine
  have hb:=LB.fine
  have hA:=LA.els
  have hB:=LB.els
  have hl4:=LA.len
  have hlo1:=ha.lo
  have hlo2:=hb.lo
  have hhi1:=ha.hi
  have hhi2:=hb.hi;refine qR (zD [3,4,5,6,7] [_,_,_,_,_] Z (zF (zF (zC (zB 1 Z (zL (zD [3,4,5,6,7,8] [_,_,_,_,_,_] Z (qQ (yZ (σ:=Nat) (fun k=>k≤4) (fun k=>[(3,pt_ p3),(4,v16),(5,pt_ p5),(6,u16),(7,i6_ (wonI a16 xs16 b16 ys16)),(8,i6_ (k:Int))]) (fun k=>Own w.heap.size w (bk_ p5 #[i6_ b16.n,str b16.set,str b16.rel] 24::bk_ p3 #[i6_ a16.n,str a16.set,str a16.rel] 24::(new16++([])))) (fun k=>4 - k) (0) (by omega) (Sub.sel [3,4,5,6,7,8] Z) (fun _ h=>h) ?_)))))))))
  rintro k hk;refine zF (zF (zC (zB 2 Z (zL (zD [3,4,5,6,7,8,45] [_,_,_,_,_,_,_] Z (xA Z (fun h45=>?_) (fun h45=>?_)))))))
  ·
   refine qR (zD [3,4,5,6,7,8] [_,_,_,_,_,_] Z (zF (qQ (zF (zC (zE Z (zR (cs:=#[i6_ a16.n,str a16.set,str a16.rel]) 1 Z zN Z Z zI) (zB 1 Z (zE Z (zR (cs:=#[i6_ b16.n,str b16.set,str b16.rel]) 0 Z zN Z Z zI) (zB 2 Z (zE (v:=bo_ (secB a16 xs16 b16 ys16 (k:Int))) Z (qK Z Tryd.call12 Z zY (fun w1 hw1=>iWins_ok a16 b16 xs16 ys16 v16 u16 w1 hsa16 hsb16 (hIv16 _ (xJ (qF (f:=[_,_]) hw1))) (hIu16 _ (xJ (qF (f:=[_,_]) hw1))) (by first | (simp;done) | (simp;omega) | omega) (by first | (simp;done) | (simp;omega) | omega) (k:Int))) (zB 3 Z (zE Z (jO Z yR Z Z) (zL (zD [3,4,5,6,7,8,57] [_,_,_,_,_,_,_] Z (yH (b:=(secB a16 xs16 b16 ys16 (k:Int)) != (decide ((k:Int)≤(wonI a16 xs16 b16 ys16)))) Z (fun h57=>?_) (fun h57=>?_))))))))))))))))
   ·
    exact absurd h57 (by rw [won_le hLL (by omega)];simp)
   refine qR (zD [3,4,5,6,7,8] [_,_,_,_,_,_] Z (zC (zB 1 Z (zE Z (qX Z Z Z (by omega) (by omega)) (zB 1 Z (zL (yA (k+1) (by omega) (by omega) (Sub.sel [3,4,5,6,7,8] Z) (fun _ h=>h))))))))
  refine yV Z (zD [3,4,5,7] [_,_,_,_] Z (zF (zZ (qA Z (zR (cs:=#[i6_ a16.n,str a16.set,str a16.rel]) 1 Z zN Z Z zI) (qA Z (zR (cs:=#[i6_ b16.n,str b16.set,str b16.rel]) 0 Z zN Z Z zI) (xG (ok:=fun ((v,y):Value×Bool)=>y=true→Shaped a16 b16) (v:=fun ((v,y):Value×Bool)=>.tuple #[v,bo_ y]) (xs:=[.tmp 59,.tmp 60]) (vs:=[vS a16,vS b16]) Z Z Z Z Tryd.call18 Z (fun w1 hw1=>(iShape_ok a16 b16 w1 hsa16 hsb16).mono fun en w' ⟨v,y,h1,h2,h3⟩=>⟨(v,y),h1,h2,h3⟩) fun ⟨v61,y61⟩ hS61=>?_))))))
  show Ll _ _ (Own _ _ (_::_::(new16++([])))) _ _ ((61,.tuple #[v61,bo_ y61])::_) _ _ _
  have hshy61:=hS61;refine qL 1 Z (qA (v:=v61) Z (yO Z Z Z) (qA (v:=bo_ y61) Z (yO Z Z Z) (qL 2 Z (zM (zD [4,7,10] [_,_,_] Z (zF (zC (zB 1 Z (zE (v:=i6_ (xs16.length:Int)) Z (yI Z zK Z (ints_length _) (fun w1 hw1=>hIv16 _ (xJ (qF (f:=[_,_]) hw1)))) (zB 2 Z (yU fun b67 hg67=>?_)))))))))))
  cases b67
  ·
   replace hg67:=zX hg67;refine zB 4 Z (yU fun b71 hg71=>?_)
   cases b71
   ·
    replace hg71:=not_false hg71;refine zB 4 Z (zL (zD [2] [_] Z (qM (qO Z Z fun w' hw=>?_))))
    exact ⟨ret_b (decide_eq_true (won_shape (hshy61 (by assumption)) hLL (by assumption))),hw.below⟩
   replace hg71:=not_true hg71;refine zG Z (zG Z (zB 2 Z (zL (zD [2] [_] Z (qM (qO Z Z fun w' hw=>?_))))))
   exact ⟨ret_b (by first | rfl | (simp_all;done)),hw.below⟩
  replace hg67:=qB hg67;refine zG Z (zG Z (zB 2 Z (zG Z (zG Z (zB 2 Z (zL (zD [2] [_] Z (qM (qO Z Z fun w' hw=>?_)))))))))
  exact ⟨ret_b (by first | rfl | (simp_all;done)),hw.below⟩
 replace hg33:=not_true hg33
 replace hg33:=zX hg33
 exact absurd rfl hg33
end Go.Proofs.YtagbocafnliabaaDoor
namespace Go.Proofs.YtagbocafnliabaaDoor
open Go.ChangeShapes Go.WideShapes Go.ChangeAt Go.RowKit Go.Wk
namespace FnWonRounds
def W0:Array Value:=#[.slice none 0 0]
set_option maxRecDepth 100000 in
theorem contract (H:Type) (enc:TypeId×Value→H) (W:World) (base:Nat) (args:Array Value) (ds gs:List (DataW H)) (before:List MemPlace)
  (hval:∀ (j:Nat) t v,Tryd.f4.params[j]?=some t→args[j]?=some v→Value.okWide Tryd.prog W .any base t v)
  (hW:DataW.Whole enc Tryd.prog Tryd.f4.params.toList Rows.fnWonRoundsSpec.vars false W args.toList ds gs before) :
  Calls Tryd.prog 4 args W fun e W'=>∃ v,e=.returned v∧Rows.fnWonRoundsSpec.post enc Tryd.prog Tryd.f4 false true false false W args v W':=by
 have hW':=hW
 obtain ⟨p,q,hA0,hV,rfl,hfz,hnd⟩:=hW
 have hA:DataW.TrodAll enc Tryd.prog W 0 (fun _=>true) true Tryd.f4.params.toList args.toList ds p:=hA0
 rw [Tryd.params4] at hA hval
 obtain ⟨v0,vs0,d0,ds0,p0,q0,hargs0,rfl,rfl,h0,r0⟩:=trodAll_cons hA
 obtain ⟨rfl,rfl,rfl⟩:=trodAll_nil r0
 obtain rfl:args=#[v0]:=by cases args;simp_all
 obtain ⟨l0,row0,eight0,len0⟩:=open_B Tryd.underlying22 Tryd.underlying5 (by kernel_rfl) (hval 0 22 v0 rfl rfl) h0
 have walk:Calls Tryd.prog 4 #[v0] W fun e w'=>e=.returned (.bool true)∧Below W.heap.size W w':=by
  exact lawFnWon v0 l0 W row0 eight0 len0
 refine walk.mono fun e W' ⟨he,hb⟩=>⟨_,he,?_⟩
 exact post_true laidOut (by rw [Tryd.params4];intro t ht;simp only [List.mem_cons,List.not_mem_nil,or_false] at ht;rcases ht with rfl <;> exact ⟨by kernel_rfl,of_decide_eq_true (by kernel_rfl)⟩) rfl hW' rfl (by kernel_rfl) Tryd.underlying4 hb
theorem reads (os:Os) {H:Type} (enc:TypeId×Value→H):∃ places,DataW.whole enc Tryd.prog ((laidWorld os).forCall (fun _ _=>0) ⟨#[],W0,[]⟩).memory Tryd.f4.params.toList Rows.fnWonRoundsSpec.vars false W0.toList 8=some ([.nil],[],places) :=
 ⟨[],by kernel_rfl⟩
set_option maxRecDepth 100000 in
theorem lifted (os:Os) (started:os.Started) (H:Type) (enc:TypeId×Value→H) (F:Stop.Interp) :
    ReturnsInHanded {} Tryd.checked os 4 .any ((OpenSpec.ofChange Rows.fnWonRoundsSpec).preRow enc Tryd.prog Tryd.f4 Rows.fnWonRoundsRow.domain false Rows.fnWonRoundsRow.laid) (((OpenSpec.ofChange Rows.fnWonRoundsSpec).at F).post enc Tryd.prog Tryd.f4 false true false false):=by
  obtain ⟨places,hx⟩:=reads os enc
  refine returnsInHanded_of_row (C:=Tryd.checked) (s:=OpenSpec.ofChange Rows.fnWonRoundsSpec) own started (by kernel_rfl) Tryd.func4
    (witness_row_at (enc:=enc) (C:=Tryd.checked) false (laidWorld os) W0 rfl (by kernel_rfl) (by kernel_rfl) (by kernel_rfl)
      (OpenSpec.preRow_of_cond 8 hx (by kernel_rfl) (fun k hk=>by cases hk) (by kernel_rfl) (laid_met os W0))) ?_
  intro W base args ds gs before hval hW _ _ _ hL _ _
  exact contract H enc W base args ds gs before hval hW
theorem k0:(Rows.fnWonRoundsRow.wf (OpenSpec.ofChange (OpenSpec.ofChange Rows.fnWonRoundsSpec).bare))=true:=by kernel_rfl
theorem k3:(Tryd.f4.params.all (Tryd.pinned.checked.prog.readableRec ·))=true:=by kernel_rfl
theorem k4:(namedTie Tryd.pinned.checked.prog Rows.fnWonRoundsRow.named (OpenSpec.ofChange Rows.fnWonRoundsSpec).bare.vars)=true:=by kernel_rfl
theorem k9:((Rows.fnWonRoundsRow.inPlace==Tryd.pinned.checked.prog.inPlace 4))=true:=by kernel_rfl
theorem k10:((Rows.fnWonRoundsRow.unfollowed==Tryd.pinned.checked.prog.unfollowed 4))=true:=by kernel_rfl
theorem k11:((Rows.fnWonRoundsRow.recurses==Tryd.pinned.checked.prog.recurses 4))=true:=by kernel_rfl
theorem k12:((Rows.fnWonRoundsRow.named==Tryd.pinned.checked.prog.varsNamed 4))=true:=by kernel_rfl
theorem k13:((Rows.fnWonRoundsRow.maps==(Tryd.f4.params.toList++(OpenSpec.ofChange Rows.fnWonRoundsSpec).bare.plain.varTypes Tryd.pinned.checked.prog).any (Tryd.pinned.checked.prog.mapsRec ·)))=true:=by kernel_rfl
theorem k14:((Rows.fnWonRoundsRow.ifaces==(Tryd.f4.params.toList++(OpenSpec.ofChange Rows.fnWonRoundsSpec).bare.plain.varTypes Tryd.pinned.checked.prog).any (Tryd.pinned.checked.prog.ifacesRec ·)))=true:=by kernel_rfl
theorem k15:((Rows.fnWonRoundsRow.mapsOut==Tryd.pinned.checked.prog.mapsAmong Tryd.f4.resultTypes.toList))=true:=by kernel_rfl
theorem k16:((Rows.fnWonRoundsRow.loops==(Tryd.f4.params.toList++(OpenSpec.ofChange Rows.fnWonRoundsSpec).bare.plain.varTypes Tryd.pinned.checked.prog).any (Tryd.pinned.checked.prog.loopsFrom ·)))=true:=by kernel_rfl
theorem k17:((Rows.fnWonRoundsRow.wideKeys==(Tryd.f4.params.toList++(OpenSpec.ofChange Rows.fnWonRoundsSpec).bare.plain.varTypes Tryd.pinned.checked.prog++Tryd.f4.resultTypes.toList).any (Tryd.pinned.checked.prog.wideKeysFrom ·)))=true:=by kernel_rfl
theorem k19:(Tryd.f4.resultTypes.all (fun t=>Tryd.pinned.checked.prog.readableRec t&&decide (t<Tryd.pinned.checked.prog.types.size)))=true:=by kernel_rfl
theorem k20:((Rows.fnWonRoundsRow.ifacesOut==Tryd.f4.resultTypes.toList.any (Tryd.pinned.checked.prog.ifacesRec ·)))=true:=by kernel_rfl
theorem k21:((Rows.fnWonRoundsRow.loopsOut==Tryd.f4.resultTypes.toList.any (Tryd.pinned.checked.prog.loopsFrom ·)))=true:=by kernel_rfl
theorem k30:((Rows.fnWonRoundsRow.veiled==(Tryd.f4.params.toList++(OpenSpec.ofChange Rows.fnWonRoundsSpec).bare.plain.varTypes Tryd.pinned.checked.prog++Tryd.f4.resultTypes.toList).any (Tryd.pinned.checked.prog.veiledRec ·)))=true:=by kernel_rfl
theorem k31:(Rows.fnWonRoundsRow.veiledFits Tryd.pinned.checked.prog Tryd.f4.params.toList (Tryd.f4.params.toList++(OpenSpec.ofChange Rows.fnWonRoundsSpec).bare.plain.varTypes Tryd.pinned.checked.prog++Tryd.f4.resultTypes.toList))=true:=by kernel_rfl
theorem closed:joinedFacts Tryd.pinned.checked.prog 4 Tryd.f4 (OpenSpec.ofChange Rows.fnWonRoundsSpec).bare Rows.fnWonRoundsRow=true :=
 facts_of k0 Laid1 Laid2 k3 k4 (by kernel_rfl) Laid6 (by kernel_rfl) Laid8 k9 k10 k11 k12 k13 k14 k15 k16 k17 (by kernel_rfl) k19 k20 k21 Laid22 (by kernel_rfl) Laid24 Laid25 Laid26 Laid27 (by kernel_rfl) (by kernel_rfl) k30 k31
theorem said:Rows.FnWonRoundsSaid :=
  OpenClaim.holds_of_cond 4 Tryd.f4 rfl rfl rfl rfl rfl rfl rfl ⟨rfl,rfl,rfl,rfl,rfl⟩ rfl rfl rfl rfl rfl (by kernel_rfl) Tryd.func4 closed
    (of_decide_eq_true (by kernel_rfl)) (by unfold Func.isWrapper;first | (rw [if_pos (by decide +kernel)];kernel_rfl) | (rw [if_neg (by decide +kernel)];exact ⟨rfl,rfl⟩))
    (fun os started H enc _ F=>by rw [OpenClaim.pre_eq_preRow];exact lifted os started H enc F)
theorem plain (f:FuncId) (fn:Func) (hf:Tryd.pinned.checked.prog.funcNamed Rows.fnWonRoundsRow.func=some f) (hfn:Tryd.pinned.checked.prog.funcs[f]?=some fn) :
  false=Tryd.pinned.checked.prog.looks []∧∀ (j:Nat) t,fn.params[j]?=some t→Tryd.pinned.checked.prog.wantsStandIn t=false:=by
 obtain rfl:f=4:=Option.some.inj ((show Tryd.pinned.checked.prog.funcNamed Rows.fnWonRoundsRow.func=some 4 by kernel_rfl).symm.trans hf) |>.symm
 obtain rfl:fn=Tryd.f4:=(Option.some.inj (Tryd.func4.symm.trans hfn)).symm
 refine ⟨by kernel_rfl,fun j t ht=>?_⟩
 rw [Tryd.params4] at ht
 have hm:t∈[22]:=by simpa using Array.mem_of_getElem? ht
 simp only [List.mem_cons,List.not_mem_nil,or_false] at hm
 rcases hm with rfl <;> (show Tryd.prog.wantsStandIn _=false) <;> kernel_rfl
theorem hw:Rows.fnWonRoundsRow.wfByText (OpenSpec.ofChange Rows.fnWonRoundsSpec)=true:=by kernel_rfl
theorem hm:Tryd.pinned.checked.prog.mainIs=some (Rows.fnWonRoundsCard.stood.harness.1,Rows.fnWonRoundsCard.stood.harness.2.toList):=by kernel_rfl
theorem hg:false=Rows.fnWonRoundsRow.goesBy Tryd.pinned.checked.prog:=by kernel_rfl
end FnWonRounds
theorem cardFnWonRounds:Rows.FnWonRoundsCardSaid :=
 Claim7.holds_tied_plain_at .later [] _ _ _ _ FnWonRounds.said (fun _ h=>by cases h) FnWonRounds.hw (fun _ h=>by cases h) fnWonRounds_row_tie rfl ⟨rfl,rfl⟩ FnWonRounds.hm rfl FnWonRounds.plain FnWonRounds.hg
end Go.Proofs.YtagbocafnliabaaDoor
