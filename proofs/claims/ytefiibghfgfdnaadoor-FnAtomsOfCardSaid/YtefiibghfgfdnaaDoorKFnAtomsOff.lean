/-
  FnAtomsOf: all that its proof names (part 6)
-/
import Derived.Test.YtefiibghfgfdnaaDoorKFnAtomsOfe
import Derived.Test.YtefiibghfgfdnaaDoorKFnAtomsOfb
import Derived.Test.YtefiibghfgfdnaaDoorKFnAtomsOfd
import Derived.Test.YtefiibghfgfdnaaDoorKFnAtomsOfa
namespace Go.Proofs.YtefiibghfgfdnaaDoor
open Go.RowKit Go.Wk
set_option linter.unusedSimpArgs false
set_option maxHeartbeats 400000 in
/-- impl.hasElement -/
theorem hasEl_ok (a:St) (x:Int) (w:World) (hsa:a.Small) :
    Calls Tryd.prog 81 [vS a,i6_ x].toArray w fun en w'=>en=.returned (.bool (validB a&&elB a x))∧Below w.heap.size w w':=by
 refine fnStart (n:=17) (e:=[(0,vS a),(1,i6_ x)]) Tryd.func81 rfl rfl rfl rfl Ends.both ?_;refine zG (zY (yU (v:=vS a) rfl rfl rfl rfl rfl fun p2 hp2=>?_))
 show Ll _ _ (Own _ _ [_]) _ _ ((2,pt_ p2)::_) _ _ _;refine qB 1 rfl (zH (zD [1,2] [_,_] rfl ?_));refine zG (zB (zK rfl rfl rfl (qC (cs:=#[i6_ a.n,str a.set,str a.rel]) 0 rfl Tryd.isAgg24 rfl rfl Tryd.sizeOf24) ?_));refine zK (v:=bo_ (validB a)) rfl rfl rfl (qE rfl Tryd.call52 rfl zV (fun w1 hw1=>isStructure_ok a w1 hsa)) ?_;refine zC 1 rfl (yH fun b7 hg7=>?_)
 cases b7
 ·
  refine zS rfl rfl rfl (zS rfl rfl rfl ?_);refine zC 2 rfl (zS rfl rfl rfl (zS rfl rfl rfl (zS rfl rfl rfl (zS rfl rfl rfl (zC 2 rfl (zI (zD [4] [_] rfl ?_)))))));refine qF (qI rfl rfl fun w' hw=>?_)
  exact ⟨ret_b (by unfold elB;first | (simp_all;done) | (simp_all;omega)),hw.below⟩
 refine zC 4 rfl (yH fun b11 hg11=>?_)
 cases b11
 ·
  replace hg11:=zJ hg11;refine zS rfl rfl rfl (zS rfl rfl rfl (zS rfl rfl rfl (zS rfl rfl rfl (zC 2 rfl (zI (zD [4] [_] rfl ?_))))));refine qF (qI rfl rfl fun w' hw=>?_)
  exact ⟨ret_b (by unfold elB;first | (simp_all;done) | (simp_all;omega)),hw.below⟩
 replace hg11:=zM hg11;refine zC 1 rfl (zK rfl rfl rfl (zE rfl Tryd.runUnderlying24 rfl Tryd.sizeOf3 rfl rfl) ?_);refine zK rfl rfl rfl (zO 0 rfl Tryd.isAgg3 rfl rfl rfl) ?_;refine zC 3 rfl (zI (zD [4] [_] rfl ?_));refine qF (qI rfl rfl fun w' hw=>?_)
 exact ⟨ret_b (by unfold elB;first | (simp_all;done) | (simp_all;omega)),hw.below⟩
set_option maxHeartbeats 400000 in
/-- impl.InSet -/
theorem iInSet_ok (a:St) (x:Int) (w:World) (hsa:a.Small) (hv:validB a=true) (hx:elB a x=true) :
    Calls Tryd.prog 28 [vS a,i6_ x].toArray w fun en w'=>en=.returned (.bool (a.inSet x))∧Below w.heap.size w w':=by
 refine fnStart (n:=13) (e:=[(0,vS a),(1,i6_ x)]) Tryd.func28 rfl rfl rfl rfl Ends.both ?_
 have ha:=validB_fine hv
 have hel:=elB_true.1 hx;refine zG (zY (yU (v:=vS a) rfl rfl rfl rfl rfl fun p2 hp2=>?_))
 show Ll _ _ (Own _ _ [_]) _ _ ((2,pt_ p2)::_) _ _ _;refine qB 1 rfl (zH (zD [1,2] [_,_] rfl ?_));refine zG (zB (zK rfl rfl rfl (qC (cs:=#[i6_ a.n,str a.set,str a.rel]) 0 rfl Tryd.isAgg24 rfl rfl Tryd.sizeOf24) ?_));refine zC 1 rfl (zK (v:=bo_ (validB a&&elB a x)) rfl rfl rfl (qE rfl Tryd.call81 rfl zV (fun w1 hw1=>hasEl_ok a x w1 hsa)) ?_);refine zC 1 rfl (yH fun b8 hg8=>?_)
 cases b8
 ·
  exact absurd hg8 (by rw [hv,hx];decide)
 refine zK rfl rfl rfl (qC (cs:=#[i6_ a.n,str a.set,str a.rel]) 0 rfl Tryd.isAgg24 rfl rfl Tryd.sizeOf24) ?_;refine zC 1 rfl (zK (v:=bo_ (a.inSet x)) rfl rfl rfl (qE rfl Tryd.call82 rfl zV (fun w1 hw1=>inSet_ok a x w1 ha (by first | assumption | exact St.Els.at (by assumption) (by omega) (by omega)))) ?_);refine zC 2 rfl (zI (zD [4] [_] rfl ?_));refine qF (qI rfl rfl fun w' hw=>?_)
 exact ⟨rfl,hw.below⟩
set_option maxHeartbeats 400000 in
/-- impl.InRel -/
theorem iInRel_ok (a:St) (x y:Int) (w:World) (hsa:a.Small) (hv:validB a=true) (hx:elB a x=true) (hy:elB a y=true) :
    Calls Tryd.prog 29 [vS a,i6_ x,i6_ y].toArray w fun en w'=>en=.returned (.bool (a.inRel x y))∧Below w.heap.size w w':=by
 refine fnStart (n:=21) (e:=[(0,vS a),(1,i6_ x),(2,i6_ y)]) Tryd.func29 rfl rfl rfl rfl Ends.both ?_
 have ha:=validB_fine hv
 have helx:=elB_true.1 hx
 have hely:=elB_true.1 hy;refine zG (zY (yU (v:=vS a) rfl rfl rfl rfl rfl fun p3 hp3=>?_))
 show Ll _ _ (Own _ _ [_]) _ _ ((3,pt_ p3)::_) _ _ _;refine qB 1 rfl (zH (zD [1,2,3] [_,_,_] rfl ?_));refine zG (zB (zK rfl rfl rfl (qC (cs:=#[i6_ a.n,str a.set,str a.rel]) 0 rfl Tryd.isAgg24 rfl rfl Tryd.sizeOf24) ?_));refine zC 1 rfl (zK (v:=bo_ (validB a&&elB a x)) rfl rfl rfl (qE rfl Tryd.call81 rfl zV (fun w1 hw1=>hasEl_ok a x w1 hsa)) ?_);refine zC 1 rfl (yH fun b10 hg10=>?_)
 cases b10
 ·
  exact absurd hg10 (by first | (rw [hv,hx];decide) | (rw [hv,hy];decide))
 refine zK rfl rfl rfl (qC (cs:=#[i6_ a.n,str a.set,str a.rel]) 0 rfl Tryd.isAgg24 rfl rfl Tryd.sizeOf24) ?_;refine zC 1 rfl (zK (v:=bo_ (validB a&&elB a y)) rfl rfl rfl (qE rfl Tryd.call81 rfl zV (fun w1 hw1=>hasEl_ok a y w1 hsa)) ?_);refine zC 2 rfl (yH fun b15 hg15=>?_)
 cases b15
 ·
  exact absurd hg15 (by first | (rw [hv,hx];decide) | (rw [hv,hy];decide))
 refine zK rfl rfl rfl (qC (cs:=#[i6_ a.n,str a.set,str a.rel]) 0 rfl Tryd.isAgg24 rfl rfl Tryd.sizeOf24) ?_;refine zC 2 rfl (zK (v:=bo_ (a.inRel x y)) rfl rfl rfl (qE rfl Tryd.call83 rfl zV (fun w1 hw1=>inRel_ok a x y w1 ha (by first | assumption | exact St.Els.at (by assumption) (by omega) (by omega)) (by first | assumption | exact St.Els.at (by assumption) (by omega) (by omega)))) ?_);refine zC 2 rfl (zI (zD [6] [_] rfl ?_));refine qF (qI rfl rfl fun w' hw=>?_)
 exact ⟨rfl,hw.below⟩
set_option maxHeartbeats 400000 in
/-- spec.DrawAtomsOf -/
theorem drawAtoms_ok (B:Nat) (w0:World) (hs:List (Nat×Obj)) (bv:Value) (L:List Int) (w:World) (hb:∀ w,Own B w0 hs w→Row w bv (u8s L)) (hL8:Bytes8 L) (hLs:L.length≤1048576) (hw:Own B w0 hs w) :
    Calls Tryd.prog 23 [bv].toArray w fun en w'=>∃ a:St,∃ v:Value,∃ xs:List Int,∃ new:List (Nat×Obj),en=.returned (.tuple #[vS a,v])∧((a.Tame∧xs.length≤40∧∀ w1,Own B w0 new w1→Ints w1 v xs)∧True)∧Own B w0 (new++hs) w':=by
 refine fnStartC (Own B w0 hs) (n:=18) (e:=[(0,bv)]) Tryd.func23 rfl rfl rfl rfl Ends.both hw ?_;refine zG (zY (yX rfl rfl rfl rfl Tryd.zeroValue24 fun p2 hp2=>?_))
 show Ll _ _ (Own _ _ (bk_ p2 #[i6_ 0,str ([]),str ([])] 24::hs)) _ _ ((2,pt_ p2)::_) _ _ _;refine qB 1 rfl (zH (zD [0,2] [_,_] rfl ?_));refine zG (zY (qB 1 rfl (xG (ok:=fun ((rp,v,M):Nat×Value×List Int)=>M.length≤2000∧Bytes8 M∧∀ w1,Own B w0 hs w1→Row w1 v (u8s M)) (v:=fun ((rp,v,M):Nat×Value×List Int)=>.pointer (some ⟨rp,0,none⟩)) (new:=fun ((rp,v,M):Nat×Value×List Int)=>[(rp,.cells #[v,.int .i64 ((0:Nat):Int)] 130 (0,0))]) (hs:=hs) (xs:=[.tmp 9]) (vs:=[bv]) ([bk_ p2 #[i6_ 0,str ([]),str ([])] 24]:List (Nat×Obj)) rfl rfl rfl rfl Tryd.call49 rfl (fun w1 hw1=>(open_ok B w0 ([bk_ p2 #[i6_ 0,str ([]),str ([])] 24]:List (Nat×Obj)) hs _ _ w1 hb hL8 hLs hw1).mono fun en w' ⟨rp,v,M,h1,h2,h3⟩=>⟨(rp,v,M),h1,h2,h3⟩) fun ⟨rp,dv,M⟩ hO=>?_)))
 dsimp only at hO
 obtain ⟨hM2,hM8,hMb⟩:=hO
 show Ll _ _ (Own _ _ (_::_::hs)) _ _ ((10,pt_ rp)::_) _ _ _;refine Ll.callRdL (rp:=rp) (RT:=130) (p:=0) (bv:=dv) (hs:=hs) (ok:=fun ((a,b,v,xs,u,ys,new):St×St×Value×List Int×Value×List Int×List (Nat×Obj)) p'=>((a.Tame∧b.Tame)∧(xs.length≤40∧ys.length≤40)∧∀ w1,Own B w0 new w1→Ints w1 v xs∧Ints w1 u ys)∧p'≤0+2000) (v:=fun ((a,b,v,xs,u,ys,new):St×St×Value×List Int×Value×List Int×List (Nat×Obj))=>.tuple #[vS a,v,vS b,u]) (new:=fun ((a,b,v,xs,u,ys,new):St×St×Value×List Int×Value×List Int×List (Nat×Obj))=>new) (xs:=[.tmp 10]) (vs:=[pt_ rp]) ([bk_ p2 #[i6_ 0,str ([]),str ([])] 24]:List (Nat×Obj)) rfl rfl rfl rfl Tryd.call73 rfl (fun w1 hw1=>(l4Pair_ok B w0 (([bk_ p2 #[i6_ 0,str ([]),str ([])] 24]:List (Nat×Obj))++hs) rp 0 dv M w1 (fun w2 hw2=>hMb w2 (zT (f:=([bk_ p2 #[i6_ 0,str ([]),str ([])] 24]:List (Nat×Obj))) hw2)) hM8 hM2 (by omega) hw1).mono fun en w' ⟨a,b,v,xs,u,ys,new,p',h1,h2,h3⟩=>⟨(a,b,v,xs,u,ys,new),p',h1,h2,h3⟩) fun ⟨a11,b11,v11,xs11,u11,ys11,new11⟩ p_11 hK=>?_
 dsimp only at hK
 obtain ⟨⟨⟨hta11,htb11⟩,⟨hlxs11,hlys11⟩,hrw⟩,hep_11⟩:=hK
 have hIv11:∀ w1,Own B w0 new11 w1→Ints w1 v11 xs11:=fun w1 h=>(hrw w1 h).1
 have hIu11:∀ w1,Own B w0 new11 w1→Ints w1 u11 ys11:=fun w1 h=>(hrw w1 h).2
 show Ll _ _ (Own _ _ (_::_::(new11++hs))) _ _ ((11,.tuple #[vS a11,v11,vS b11,u11])::_) _ _ _;refine qB 1 rfl (zP (v:=vS a11) rfl rfl rfl (qM rfl rfl rfl) ?_);refine zP (v:=v11) rfl rfl rfl (qM rfl rfl rfl) ?_;refine zP (v:=vS b11) rfl rfl rfl (qM rfl rfl rfl) ?_;refine zP (v:=u11) rfl rfl rfl (qM rfl rfl rfl) ?_;refine yX rfl rfl rfl rfl Tryd.zeroValue24 fun p4 hp4=>?_
 show Ll _ _ (Own _ _ (bk_ p4 #[i6_ 0,str ([]),str ([])] 24::_::_::(new11++hs))) _ _ ((4,pt_ p4)::_) _ _ _;refine yX rfl rfl rfl rfl Tryd.zeroValue24 fun p6 hp6=>?_
 show Ll _ _ (Own _ _ (bk_ p6 #[i6_ 0,str ([]),str ([])] 24::_::_::_::(new11++hs))) _ _ ((6,pt_ p6)::_) _ _ _;refine yE (cs':=#[i6_ a11.n,str a11.set,str a11.rel]) (hs':=(_::bk_ p4 #[i6_ a11.n,str a11.set,str a11.rel] 24::_::_::(new11++hs))) 1 rfl rfl rfl rfl rfl (by kernel_rfl:_=some Tryd.t24) rfl rfl rfl rfl rfl ?_;refine qB 1 rfl (yE (cs':=#[i6_ b11.n,str b11.set,str b11.rel]) (hs':=(bk_ p6 #[i6_ b11.n,str b11.set,str b11.rel] 24::_::_::_::(new11++hs))) 0 rfl rfl rfl rfl rfl (by kernel_rfl:_=some Tryd.t24) rfl rfl rfl rfl rfl ?_);refine qB 1 rfl (zH (zD [2,4,5] [_,_,_] rfl ?_));refine zG (zY (zP rfl rfl rfl (qC (cs:=#[i6_ a11.n,str a11.set,str a11.rel]) 1 rfl Tryd.isAgg24 rfl rfl Tryd.sizeOf24) ?_));refine qB 1 rfl (yE (cs':=#[i6_ a11.n,str a11.set,str a11.rel]) (hs':=(_::_::bk_ p2 #[i6_ a11.n,str a11.set,str a11.rel] 24::_::(new11++hs))) 2 rfl rfl rfl rfl rfl (by kernel_rfl:_=some Tryd.t24) rfl rfl rfl rfl rfl ?_);refine qB 1 rfl (zH (zD [2,3] [_,_] rfl ?_));refine qF (Kt.endMany rfl (.cell (cs:=#[i6_ a11.n,str a11.set,str a11.rel]) rfl (fun w1 hw1=>hw1.loadBox 2 rfl Tryd.isAgg24 Tryd.sizeOf24) (.tmp (v:=v11) rfl ResAt.nil)) (by simp) fun w' hw=>?_)
 exact ⟨a11,v11,xs11,([bk_ p6 #[i6_ b11.n,str b11.set,str b11.rel] 24,bk_ p4 #[i6_ a11.n,str a11.set,str a11.rel] 24,bk_ p2 #[i6_ a11.n,str a11.set,str a11.rel] 24,bk_ rp #[dv,i6_ ((p_11:Int))] 130]:List (Nat×Obj))++new11,rfl,⟨⟨hta11,(by first | omega | (simp only [List.length_append,List.length_cons,List.length_nil,List.length_take,List.length_set];omega)),fun w1 h1=>(hIv11 _ (zT (f:=[_,_,_,_]) h1))⟩,trivial⟩,hw⟩
set_option maxHeartbeats 1600000 in
/-- laws.FnAtomsOf -/
theorem lawFnAtomsOf (bv:Value) (L:List Int) (w:World) (hbv:Row w bv (u8s L)) (hL8:Bytes8 L) (hLm:L.length≤9223372036854775807) :
    Calls Tryd.prog 5 [bv].toArray w fun en w'=>en=.returned (.bool true)∧Below w.heap.size w w':=by
 refine fnStart (n:=207) (e:=[(0,bv)]) Tryd.func5 rfl rfl rfl rfl Ends.both ?_;refine zG (zB (zC 1 rfl (zI (zD [0] [_] rfl ?_))));refine zG (zG (zB (zC 1 rfl (zK (v:=i6_ ((L.length:Int))) rfl rfl rfl (qX rfl Tryd.runUnderlying22 rfl (u8s_length _) (fun w1 hw1=>Row.own hbv hw1)) ?_))));refine zC 1 rfl (zI (zD [0,18] [_,_] rfl ?_));refine qD (b:=decide ((1048576:Int)<((L.length:Int)))) rfl (fun h18=>?_) (fun h18=>?_)
 ·
  replace h18:=zM h18;refine zG (zB (zC 1 rfl (zI (zD [2] [_] rfl ?_))));refine qF (qI rfl rfl fun w' hw=>?_)
  exact ⟨rfl,hw.below⟩
 replace h18:=zJ h18;refine qH (zD [0] [_] rfl ?_);refine zG (zY (qB 1 rfl (xG (ok:=fun ((a,v,xs,new):St×Value×List Int×List (Nat×Obj))=>(a.Tame∧xs.length≤40∧∀ w1,Own w.heap.size w new w1→Ints w1 v xs)∧True) (v:=fun ((a,v,xs,new):St×Value×List Int×List (Nat×Obj))=>.tuple #[vS a,v]) (new:=fun ((a,v,xs,new):St×Value×List Int×List (Nat×Obj))=>new) (hs:=[]) (xs:=[.tmp 20]) (vs:=[bv]) ([]:List (Nat×Obj)) rfl rfl rfl rfl Tryd.call23 rfl (fun w1 hw1=>(drawAtoms_ok w.heap.size w (([]:List (Nat×Obj))++([])) bv L w1 (fun w2 hw2=>Row.own hbv hw2) hL8 (by omega) hw1).mono fun en w' ⟨a,v,xs,new,h1,h2,h3⟩=>⟨(a,v,xs,new),h1,h2,h3⟩) fun ⟨a21,v21,xs21,new21⟩ hK=>?_)))
 dsimp only at hK
 obtain ⟨⟨hta21,hlxs21,hIv21⟩,-⟩:=hK
 have hsa21:=hta21.small
 have loa21:=hta21.lo
 have hia21:=hta21.hi
 show Ll _ _ (Own _ _ ((new21++([])))) _ _ ((21,.tuple #[vS a21,v21])::_) _ _ _;refine qB 1 rfl (zP (v:=vS a21) rfl rfl rfl (qM rfl rfl rfl) ?_);refine zP (v:=v21) rfl rfl rfl (qM rfl rfl rfl) ?_;refine yX rfl rfl rfl rfl Tryd.zeroValue24 fun p3 hp3=>?_
 show Ll _ _ (Own _ _ (bk_ p3 #[i6_ 0,str ([]),str ([])] 24::(new21++([])))) _ _ ((3,pt_ p3)::_) _ _ _;refine yE (cs':=#[i6_ a21.n,str a21.set,str a21.rel]) (hs':=(bk_ p3 #[i6_ a21.n,str a21.set,str a21.rel] 24::(new21++([])))) 0 rfl rfl rfl rfl rfl (by kernel_rfl:_=some Tryd.t24) rfl rfl rfl rfl rfl ?_;refine qB 1 rfl (zH (zD [3,4] [_,_] rfl ?_));refine zG (zB (zK rfl rfl rfl (qC (cs:=#[i6_ a21.n,str a21.set,str a21.rel]) 0 rfl Tryd.isAgg24 rfl rfl Tryd.sizeOf24) ?_));refine zC 1 rfl (zK (v:=.tuple #[str (atomsOut a21 xs21),bo_ (listB a21 xs21)]) rfl rfl rfl (qE rfl Tryd.call24 rfl zV (fun w1 hw1=>iAtoms_ok a21 v21 xs21 w1 hsa21 (hIv21 _ (qJ (zT (f:=[_]) hw1))) (by first | (simp;done) | (simp;omega) | omega))) ?_);refine zC 1 rfl (zK (v:=str (atomsOut a21 xs21)) rfl rfl rfl (qM rfl rfl rfl) ?_);refine zK (v:=bo_ (listB a21 xs21)) rfl rfl rfl (qM rfl rfl rfl) ?_;refine zC 2 rfl (zI (zD [3,4,5,6] [_,_,_,_] rfl ?_));refine zG (zB (zK rfl rfl rfl (qC (cs:=#[i6_ a21.n,str a21.set,str a21.rel]) 0 rfl Tryd.isAgg24 rfl rfl Tryd.sizeOf24) ?_));refine zC 1 rfl (zK (v:=.tuple #[str (atomsOut a21 xs21),bo_ (listB a21 xs21)]) rfl rfl rfl (qE rfl Tryd.call25 rfl zV (fun w1 hw1=>sAtoms_ok a21 v21 xs21 w1 hsa21 (hIv21 _ (qJ (zT (f:=[_]) hw1))) (by first | (simp;done) | (simp;omega) | omega) loa21 hia21)) ?_);refine zC 1 rfl (zK (v:=str (atomsOut a21 xs21)) rfl rfl rfl (qM rfl rfl rfl) ?_);refine zK (v:=bo_ (listB a21 xs21)) rfl rfl rfl (qM rfl rfl rfl) ?_;refine zC 2 rfl (zI (zD [3,4,5,6,7,8] [_,_,_,_,_,_] rfl ?_));refine zG (zB (zK rfl rfl rfl (qC (cs:=#[i6_ a21.n,str a21.set,str a21.rel]) 0 rfl Tryd.isAgg24 rfl rfl Tryd.sizeOf24) ?_));refine zC 1 rfl (zK (v:=.tuple #[str (formOut a21 xs21),bo_ (listB a21 xs21)]) rfl rfl rfl (qE rfl Tryd.call26 rfl zV (fun w1 hw1=>iForm_ok a21 v21 xs21 w1 hsa21 (hIv21 _ (qJ (zT (f:=[_]) hw1))) (by first | (simp;done) | (simp;omega) | omega))) ?_);refine zC 1 rfl (zK (v:=str (formOut a21 xs21)) rfl rfl rfl (qM rfl rfl rfl) ?_);refine zK (v:=bo_ (listB a21 xs21)) rfl rfl rfl (qM rfl rfl rfl) ?_;refine zC 2 rfl (zI (zD [3,4,5,6,7,8,9,10] [_,_,_,_,_,_,_,_] rfl ?_));refine zG (zB (zK rfl rfl rfl (qC (cs:=#[i6_ a21.n,str a21.set,str a21.rel]) 0 rfl Tryd.isAgg24 rfl rfl Tryd.sizeOf24) ?_));refine zC 1 rfl (zK (v:=.tuple #[str (formOut a21 xs21),bo_ (listB a21 xs21)]) rfl rfl rfl (qE rfl Tryd.call27 rfl zV (fun w1 hw1=>sForm_ok a21 v21 xs21 w1 hsa21 (hIv21 _ (qJ (zT (f:=[_]) hw1))) (by first | (simp;done) | (simp;omega) | omega) loa21 hia21)) ?_)
 refine zC 1 rfl (zK (v:=str (formOut a21 xs21)) rfl rfl rfl (qM rfl rfl rfl) ?_);refine zK (v:=bo_ (listB a21 xs21)) rfl rfl rfl (qM rfl rfl rfl) ?_;refine zC 2 rfl (zI (zD [3,4,5,6,7,8,9,10,11,12] [_,_,_,_,_,_,_,_,_,_] rfl ?_));refine zG (zG (zB (zC 2 rfl (zK rfl rfl rfl (OpQ.sneq rfl rfl rfl) ?_))));refine zC 1 rfl (yH fun b51 hg51=>?_)
 cases b51
 ·
  replace hg51:=not_false hg51;refine zC 2 rfl (zK rfl rfl rfl (OpQ.bne rfl Tryd.runUnderlying4 rfl rfl) ?_);refine zC 2 rfl (yH fun b56 hg56=>?_)
  cases b56
  ·
   refine zC 2 rfl (zK rfl rfl rfl (OpQ.sneq rfl rfl rfl) ?_);refine zC 2 rfl (yH fun b61 hg61=>?_)
   cases b61
   ·
    replace hg61:=not_false hg61;refine zC 2 rfl (zK rfl rfl rfl (OpQ.bne rfl Tryd.runUnderlying4 rfl rfl) ?_);refine zC 2 rfl (yH fun b66 hg66=>?_)
    cases b66
    ·
     refine zC 2 rfl (zK rfl rfl rfl (OpQ.bne rfl Tryd.runUnderlying4 rfl rfl) ?_);refine zC 2 rfl (yH fun b71 hg71=>?_)
     cases b71
     ·
      refine zC 3 rfl (zI (zD [3,4,5,6,7,8,9,10,11,12,74] [_,_,_,_,_,_,_,_,_,_,_] rfl ?_));refine qD (b:=!(listB a21 xs21)) rfl (fun h74=>?_) (fun h74=>?_)
      ·
       replace h74:=not_true h74;refine zG (zB (zC 2 rfl (zK rfl rfl rfl (OpQ.seql rfl rfl rfl) ?_)));refine zC 1 rfl (yH fun b78 hg78=>?_)
       cases b78
       ·
        exact absurd hg78 (by simp)
       refine zC 2 rfl (zK rfl rfl rfl (OpQ.beq rfl Tryd.runUnderlying4 rfl rfl) ?_);refine zC 2 rfl (yH fun b83 hg83=>?_)
       cases b83
       ·
        exact absurd hg83 (by simp)
       refine zC 2 rfl (zK rfl rfl rfl (OpQ.seql rfl rfl rfl) ?_);refine zC 2 rfl (yH fun b88 hg88=>?_)
       cases b88
       ·
        exact absurd hg88 (by simp)
       refine zC 2 rfl (zK rfl rfl rfl (OpQ.beq rfl Tryd.runUnderlying4 rfl rfl) ?_);refine zC 2 rfl (yH fun b93 hg93=>?_)
       cases b93
       ·
        exact absurd hg93 (by simp)
       refine zC 2 rfl (zK rfl rfl rfl (OpQ.beq rfl Tryd.runUnderlying4 rfl rfl) ?_);refine zC 2 rfl (zI (zD [2] [_] rfl ?_));refine qF (qI rfl rfl fun w' hw=>?_)
       exact ⟨ret_b (by simp),hw.below⟩
      replace h74:=not_false h74
      have hL:listB a21 xs21=true:=by assumption
      have hLd:=listB_true hL
      have hva:=hLd.valid
      have hLx:xs21.all (elB a21)=true:=List.all_eq_true.2 fun x hx=>elB_true.2 (hLd.els x hx)
      have hl4:=hLd.len;refine qH (zD [3,4,5,9] [_,_,_,_] rfl ?_);refine zG (zB (zC 1 rfl (zI (zD [3,4,5,9,13] [_,_,_,_,_] rfl ?_))));refine zG (zG (zB (zC 1 rfl (zI (zD [3,4,5,9,13,14] [_,_,_,_,_,_] rfl ?_)))));refine qG (yS (σ:=Nat) (fun i=>i≤xs21.length) (fun i=>[(3,pt_ p3),(4,v21),(5,str (atomsOut a21 xs21)),(9,str (formOut a21 xs21)),(13,i6_ ((offF i:Int))),(14,i6_ ((i:Int)))]) (fun i=>Own w.heap.size w (bk_ p3 #[i6_ a21.n,str a21.set,str a21.rel] 24::(new21++([])))) (fun i=>xs21.length - i) (0) (by omega) (Sub.cons rfl (Sub.cons rfl (Sub.cons rfl (Sub.cons rfl (Sub.cons (by rfl) (Sub.sel [14] rfl)))))) (fun _ h=>h) ?_)
      rintro i hi8;refine zG (zG (zB (zC 2 rfl (zK (v:=i6_ ((xs21.length:Int))) rfl rfl rfl (qX rfl Tryd.runUnderlying30 rfl (ints_length _) (fun w1 hw1=>hIv21 _ (qJ (zT (f:=[_]) hw1)))) ?_))));refine zC 1 rfl (zI (zD [3,4,5,9,13,14,101] [_,_,_,_,_,_,_] rfl ?_));refine qD (b:=decide (((i:Int))<((xs21.length:Int)))) rfl (fun h101=>?_) (fun h101=>?_)
      ·
       replace h101:=zM h101
       have hi9:i<xs21.length:=by omega
       have hb0:=atom_bit hL hi9 (fact_heads i).1
       have hb1:=atom_bit hL hi9 (fact_heads i).2
       have hal:=atoms_le hL
       have hb0l:=hb0.1
       have hb1l:=hb1.1;refine qH (zD [3,4,5,9,13,14] [_,_,_,_,_,_] rfl ?_);refine zG (qG (zG (zG (xK qT (fun _ h=>h.drawn) (by kernel_rfl) ?_))));refine zC 2 rfl (zK (v:=.int .u8 ((((atomsOut a21 xs21).getD (offF i+0) 0).toNat:Int))) rfl rfl rfl (qQ (v':=.int .u8 ((((atomsOut a21 xs21).getD (offF i+0) 0).toNat:Int))) (by congr 4 <;> omega) (yF rfl Tryd.runUnderlying9 rfl rfl (by omega) (by have:=hb0.1;omega))) ?_);refine zK (v:=bo_ (a21.inSet (xs21.getD i 0))) rfl rfl rfl (qQ (congrArg Value.bool hb0.2) (OpQ.eql rfl rfl rfl)) ?_;refine zK rfl rfl rfl (qC (cs:=#[i6_ a21.n,str a21.set,str a21.rel]) 0 rfl Tryd.isAgg24 rfl rfl Tryd.sizeOf24) ?_;refine zC 2 rfl (zK (v:=.pointer (some (sAt v21 ((i:Int))))) rfl rfl rfl (qS rfl Tryd.runUnderlying30 Tryd.sizeOf3 rfl rfl (by omega) (by rw [ints_length];omega) (fun w1 hw1=>hIv21 _ (qJ (zT (f:=[_]) hw1)))) ?_);refine zK (v:=i6_ (xs21.getD (((i:Int)).toNat) 0)) rfl rfl rfl (zZ rfl Tryd.isAgg3 rfl (fun w1 hw1=>Ints.cell (hIv21 _ (qJ (zT (f:=[_]) hw1))) (by omega) (by omega))) ?_;refine zK (v:=bo_ (a21.inSet (xs21.getD (((i:Int)).toNat) 0))) rfl rfl rfl (qE rfl Tryd.call28 rfl zV (fun w1 hw1=>iInSet_ok a21 (xs21.getD (((i:Int)).toNat) 0) w1 hsa21 hva (List.all_eq_true.1 hLx _ (by rw [getD_at (by omega)];exact List.getElem_mem _)))) ?_;refine zK rfl rfl rfl (OpQ.bne rfl Tryd.runUnderlying4 rfl rfl) ?_;refine zC 1 rfl (yH fun b115 hg115=>?_)
       cases b115
       ·
        refine zC 2 rfl (zK rfl rfl rfl (qR rfl rfl rfl (by omega) (by omega)) ?_);refine zK (v:=.int .u8 ((((atomsOut a21 xs21).getD (offF i+1) 0).toNat:Int))) rfl rfl rfl (qQ (v':=.int .u8 ((((atomsOut a21 xs21).getD (offF i+1) 0).toNat:Int))) (by congr 4 <;> omega) (yF rfl Tryd.runUnderlying9 rfl rfl (by omega) (by have:=hb1.1;omega))) ?_;refine zK (v:=bo_ (a21.inRel (xs21.getD i 0) (xs21.getD i 0))) rfl rfl rfl (qQ (congrArg Value.bool hb1.2) (OpQ.eql rfl rfl rfl)) ?_;refine zK rfl rfl rfl (qC (cs:=#[i6_ a21.n,str a21.set,str a21.rel]) 0 rfl Tryd.isAgg24 rfl rfl Tryd.sizeOf24) ?_;refine zC 2 rfl (zK (v:=.pointer (some (sAt v21 ((i:Int))))) rfl rfl rfl (qS rfl Tryd.runUnderlying30 Tryd.sizeOf3 rfl rfl (by omega) (by rw [ints_length];omega) (fun w1 hw1=>hIv21 _ (qJ (zT (f:=[_]) hw1)))) ?_);refine zK (v:=i6_ (xs21.getD (((i:Int)).toNat) 0)) rfl rfl rfl (zZ rfl Tryd.isAgg3 rfl (fun w1 hw1=>Ints.cell (hIv21 _ (qJ (zT (f:=[_]) hw1))) (by omega) (by omega))) ?_;refine zC 2 rfl (zK (v:=.pointer (some (sAt v21 ((i:Int))))) rfl rfl rfl (qS rfl Tryd.runUnderlying30 Tryd.sizeOf3 rfl rfl (by omega) (by rw [ints_length];omega) (fun w1 hw1=>hIv21 _ (qJ (zT (f:=[_]) hw1)))) ?_);refine zK (v:=i6_ (xs21.getD (((i:Int)).toNat) 0)) rfl rfl rfl (zZ rfl Tryd.isAgg3 rfl (fun w1 hw1=>Ints.cell (hIv21 _ (qJ (zT (f:=[_]) hw1))) (by omega) (by omega))) ?_;refine zK (v:=bo_ (a21.inRel (xs21.getD (((i:Int)).toNat) 0) (xs21.getD (((i:Int)).toNat) 0))) rfl rfl rfl (qE rfl Tryd.call29 rfl zV (fun w1 hw1=>iInRel_ok a21 (xs21.getD (((i:Int)).toNat) 0) (xs21.getD (((i:Int)).toNat) 0) w1 hsa21 hva (List.all_eq_true.1 hLx _ (by rw [getD_at (by omega)];exact List.getElem_mem _)) (List.all_eq_true.1 hLx _ (by rw [getD_at (by omega)];exact List.getElem_mem _)))) ?_;refine zK rfl rfl rfl (OpQ.bne rfl Tryd.runUnderlying4 rfl rfl) ?_;refine zC 1 rfl (zI (zD [3,4,5,9,13,14,132] [_,_,_,_,_,_,_] rfl ?_));refine qD (b:=(a21.inRel (xs21.getD i 0) (xs21.getD i 0)) != (a21.inRel (xs21.getD (((i:Int)).toNat) 0) (xs21.getD (((i:Int)).toNat) 0))) rfl (fun h132=>?_) (fun h132=>?_)
        ·
         exact absurd h132 (by simp)
        refine qH (zD [3,4,5,9,13,14] [_,_,_,_,_,_] rfl ?_);refine zG (zB (zC 1 rfl (zK rfl rfl rfl (qR rfl rfl rfl (by omega) (by omega)) ?_)));refine zC 1 rfl (zI (zD [3,4,5,9,13,14] [_,_,_,_,_,_] rfl ?_));refine zG (zB (zC 1 rfl (zI (zD [3,4,5,9,13,14,15] [_,_,_,_,_,_,_] rfl ?_))));refine qG (yS (σ:=Nat) (fun j=>j≤i) (fun j=>[(3,pt_ p3),(4,v21),(5,str (atomsOut a21 xs21)),(9,str (formOut a21 xs21)),(13,i6_ (((offF i+2+3*j:Nat):Int))),(14,i6_ ((i:Int))),(15,i6_ ((j:Int)))]) (fun j=>Own w.heap.size w (bk_ p3 #[i6_ a21.n,str a21.set,str a21.rel] 24::(new21++([])))) (fun j=>i - j) (0) (by omega) (Sub.cons rfl (Sub.cons rfl (Sub.cons rfl (Sub.cons rfl (Sub.cons (by rfl) (Sub.sel [14,15] rfl)))))) (fun _ h=>h) ?_)
        rintro j hj8;refine zG (zG (zB (zC 3 rfl (zI (zD [3,4,5,9,13,14,15,137] [_,_,_,_,_,_,_,_] rfl ?_)))));refine qD (b:=decide (((j:Int))<((i:Int)))) rfl (fun h137=>?_) (fun h137=>?_)
        ·
         replace h137:=zM h137
         have hj9:j<i:=by omega
         obtain ⟨g0,g1,g2⟩:=moreA_at i hj9
         have hc0:=atom_bit hL hi9 (fact_more (m:=0) g0)
         have hc1:=atom_bit hL hi9 (fact_more (m:=1) g1)
         have hc2:=atom_bit hL hi9 (fact_more (m:=2) g2)
         have hc0l:=hc0.1
         have hc1l:=hc1.1
         have hc2l:=hc2.1;refine qH (zD [3,4,5,9,13,14,15] [_,_,_,_,_,_,_] rfl ?_);refine zG (qG (zG (zG (xK qT (fun _ h=>h.drawn) (by kernel_rfl) ?_))));refine zC 2 rfl (zK (v:=.int .u8 ((((atomsOut a21 xs21).getD (offF i+(2+3*j+0)) 0).toNat:Int))) rfl rfl rfl (qQ (v':=.int .u8 ((((atomsOut a21 xs21).getD (offF i+(2+3*j+0)) 0).toNat:Int))) (by congr 4 <;> omega) (yF rfl Tryd.runUnderlying9 rfl rfl (by omega) (by have:=hc0.1;omega))) ?_);refine zK (v:=bo_ (decide (xs21.getD j 0=xs21.getD i 0))) rfl rfl rfl (qQ (congrArg Value.bool hc0.2) (OpQ.eql rfl rfl rfl)) ?_;refine zC 2 rfl (zK (v:=.pointer (some (sAt v21 ((i:Int))))) rfl rfl rfl (qS rfl Tryd.runUnderlying30 Tryd.sizeOf3 rfl rfl (by omega) (by rw [ints_length];omega) (fun w1 hw1=>hIv21 _ (qJ (zT (f:=[_]) hw1)))) ?_);refine zK (v:=i6_ (xs21.getD (((i:Int)).toNat) 0)) rfl rfl rfl (zZ rfl Tryd.isAgg3 rfl (fun w1 hw1=>Ints.cell (hIv21 _ (qJ (zT (f:=[_]) hw1))) (by omega) (by omega))) ?_;refine zC 2 rfl (zK (v:=.pointer (some (sAt v21 ((j:Int))))) rfl rfl rfl (qS rfl Tryd.runUnderlying30 Tryd.sizeOf3 rfl rfl (by omega) (by rw [ints_length];omega) (fun w1 hw1=>hIv21 _ (qJ (zT (f:=[_]) hw1)))) ?_);refine zK (v:=i6_ (xs21.getD (((j:Int)).toNat) 0)) rfl rfl rfl (zZ rfl Tryd.isAgg3 rfl (fun w1 hw1=>Ints.cell (hIv21 _ (qJ (zT (f:=[_]) hw1))) (by omega) (by omega))) ?_;refine zC 1 rfl (zK rfl rfl rfl (OpQ.bne rfl Tryd.runUnderlying4 rfl rfl) ?_);refine zC 1 rfl (yH fun b154 hg154=>?_)
         cases b154
         ·
          refine zC 2 rfl (zK rfl rfl rfl (qR rfl rfl rfl (by omega) (by omega)) ?_);refine zK (v:=.int .u8 ((((atomsOut a21 xs21).getD (offF i+(2+3*j+1)) 0).toNat:Int))) rfl rfl rfl (qQ (v':=.int .u8 ((((atomsOut a21 xs21).getD (offF i+(2+3*j+1)) 0).toNat:Int))) (by congr 4 <;> omega) (yF rfl Tryd.runUnderlying9 rfl rfl (by omega) (by have:=hc1.1;omega))) ?_;refine zK (v:=bo_ (a21.inRel (xs21.getD j 0) (xs21.getD i 0))) rfl rfl rfl (qQ (congrArg Value.bool hc1.2) (OpQ.eql rfl rfl rfl)) ?_;refine zK rfl rfl rfl (qC (cs:=#[i6_ a21.n,str a21.set,str a21.rel]) 0 rfl Tryd.isAgg24 rfl rfl Tryd.sizeOf24) ?_;refine zC 2 rfl (zK (v:=.pointer (some (sAt v21 ((j:Int))))) rfl rfl rfl (qS rfl Tryd.runUnderlying30 Tryd.sizeOf3 rfl rfl (by omega) (by rw [ints_length];omega) (fun w1 hw1=>hIv21 _ (qJ (zT (f:=[_]) hw1)))) ?_);refine zK (v:=i6_ (xs21.getD (((j:Int)).toNat) 0)) rfl rfl rfl (zZ rfl Tryd.isAgg3 rfl (fun w1 hw1=>Ints.cell (hIv21 _ (qJ (zT (f:=[_]) hw1))) (by omega) (by omega))) ?_;refine zC 2 rfl (zK (v:=.pointer (some (sAt v21 ((i:Int))))) rfl rfl rfl (qS rfl Tryd.runUnderlying30 Tryd.sizeOf3 rfl rfl (by omega) (by rw [ints_length];omega) (fun w1 hw1=>hIv21 _ (qJ (zT (f:=[_]) hw1)))) ?_);refine zK (v:=i6_ (xs21.getD (((i:Int)).toNat) 0)) rfl rfl rfl (zZ rfl Tryd.isAgg3 rfl (fun w1 hw1=>Ints.cell (hIv21 _ (qJ (zT (f:=[_]) hw1))) (by omega) (by omega))) ?_;refine zK (v:=bo_ (a21.inRel (xs21.getD (((j:Int)).toNat) 0) (xs21.getD (((i:Int)).toNat) 0))) rfl rfl rfl (qE rfl Tryd.call29 rfl zV (fun w1 hw1=>iInRel_ok a21 (xs21.getD (((j:Int)).toNat) 0) (xs21.getD (((i:Int)).toNat) 0) w1 hsa21 hva (List.all_eq_true.1 hLx _ (by rw [getD_at (by omega)];exact List.getElem_mem _)) (List.all_eq_true.1 hLx _ (by rw [getD_at (by omega)];exact List.getElem_mem _)))) ?_;refine zK rfl rfl rfl (OpQ.bne rfl Tryd.runUnderlying4 rfl rfl) ?_;refine zC 2 rfl (yH fun b172 hg172=>?_)
          cases b172
          ·
           refine zC 2 rfl (zK rfl rfl rfl (qR rfl rfl rfl (by omega) (by omega)) ?_);refine zK (v:=.int .u8 ((((atomsOut a21 xs21).getD (offF i+(2+3*j+2)) 0).toNat:Int))) rfl rfl rfl (qQ (v':=.int .u8 ((((atomsOut a21 xs21).getD (offF i+(2+3*j+2)) 0).toNat:Int))) (by congr 4 <;> omega) (yF rfl Tryd.runUnderlying9 rfl rfl (by omega) (by have:=hc2.1;omega))) ?_;refine zK (v:=bo_ (a21.inRel (xs21.getD i 0) (xs21.getD j 0))) rfl rfl rfl (qQ (congrArg Value.bool hc2.2) (OpQ.eql rfl rfl rfl)) ?_;refine zK rfl rfl rfl (qC (cs:=#[i6_ a21.n,str a21.set,str a21.rel]) 0 rfl Tryd.isAgg24 rfl rfl Tryd.sizeOf24) ?_;refine zC 2 rfl (zK (v:=.pointer (some (sAt v21 ((i:Int))))) rfl rfl rfl (qS rfl Tryd.runUnderlying30 Tryd.sizeOf3 rfl rfl (by omega) (by rw [ints_length];omega) (fun w1 hw1=>hIv21 _ (qJ (zT (f:=[_]) hw1)))) ?_);refine zK (v:=i6_ (xs21.getD (((i:Int)).toNat) 0)) rfl rfl rfl (zZ rfl Tryd.isAgg3 rfl (fun w1 hw1=>Ints.cell (hIv21 _ (qJ (zT (f:=[_]) hw1))) (by omega) (by omega))) ?_;refine zC 2 rfl (zK (v:=.pointer (some (sAt v21 ((j:Int))))) rfl rfl rfl (qS rfl Tryd.runUnderlying30 Tryd.sizeOf3 rfl rfl (by omega) (by rw [ints_length];omega) (fun w1 hw1=>hIv21 _ (qJ (zT (f:=[_]) hw1)))) ?_);refine zK (v:=i6_ (xs21.getD (((j:Int)).toNat) 0)) rfl rfl rfl (zZ rfl Tryd.isAgg3 rfl (fun w1 hw1=>Ints.cell (hIv21 _ (qJ (zT (f:=[_]) hw1))) (by omega) (by omega))) ?_;refine zK (v:=bo_ (a21.inRel (xs21.getD (((i:Int)).toNat) 0) (xs21.getD (((j:Int)).toNat) 0))) rfl rfl rfl (qE rfl Tryd.call29 rfl zV (fun w1 hw1=>iInRel_ok a21 (xs21.getD (((i:Int)).toNat) 0) (xs21.getD (((j:Int)).toNat) 0) w1 hsa21 hva (List.all_eq_true.1 hLx _ (by rw [getD_at (by omega)];exact List.getElem_mem _)) (List.all_eq_true.1 hLx _ (by rw [getD_at (by omega)];exact List.getElem_mem _)))) ?_;refine zK rfl rfl rfl (OpQ.bne rfl Tryd.runUnderlying4 rfl rfl) ?_;refine zC 1 rfl (zI (zD [3,4,5,9,13,14,15,189] [_,_,_,_,_,_,_,_] rfl ?_));refine qD (b:=(a21.inRel (xs21.getD i 0) (xs21.getD j 0)) != (a21.inRel (xs21.getD (((i:Int)).toNat) 0) (xs21.getD (((j:Int)).toNat) 0))) rfl (fun h189=>?_) (fun h189=>?_)
           ·
            exact absurd h189 (by simp)
           refine qH (zD [3,4,5,9,13,14,15] [_,_,_,_,_,_,_] rfl ?_);refine zB (zC 1 rfl (zK rfl rfl rfl (qR rfl rfl rfl (by omega) (by omega)) ?_));refine zC 1 rfl (zI (zD [3,4,5,9,13,14,15] [_,_,_,_,_,_,_] rfl ?_));refine zB (zC 1 rfl (zK rfl rfl rfl (qR rfl rfl rfl (by omega) (by omega)) ?_));refine zC 1 rfl (zI (qZ (j+1) (by omega) (by omega) (Sub.cons rfl (Sub.cons rfl (Sub.cons rfl (Sub.cons rfl (Sub.cons (by rw [show offF i+2+3*(j+1)=offF i+2+3*j+3 from by omega];rfl) (Sub.sel [14,15] rfl)))))) (fun _ h=>h)))
          refine zS rfl rfl rfl (zS rfl rfl rfl (zS rfl rfl rfl ?_));refine zS rfl rfl rfl (zS rfl rfl rfl (zS rfl rfl rfl (zS rfl rfl rfl (zS rfl rfl rfl (zS rfl rfl rfl (zS rfl rfl rfl (zS rfl rfl rfl ?_)))))));refine zS rfl rfl rfl (zS rfl rfl rfl (zS rfl rfl rfl (zS rfl rfl rfl (zS rfl rfl rfl (zC 1 rfl (zI (zD [3,4,5,9,13,14,15,189] [_,_,_,_,_,_,_,_] rfl ?_)))))));refine yI rfl ?_;refine zG (zB (zC 1 rfl (zI (zD [2] [_] rfl ?_))));refine qF (qI rfl rfl fun w' hw=>?_)
          exact ⟨ret_b (by first | exact bne_no (by assumption) | exact dec_no (by assumption) | exact bool_no (form_holds hL) (by assumption) | exact absurd (show (offF i:Int)=((atomsOut a21 xs21).length:Int) from by rw [show i=xs21.length from by omega];exact atoms_end hL) (by assumption)),hw.below⟩
         refine zS rfl rfl rfl (zS rfl rfl rfl (zS rfl rfl rfl (zS rfl rfl rfl ?_)));refine zS rfl rfl rfl (zS rfl rfl rfl (zS rfl rfl rfl (zS rfl rfl rfl (zS rfl rfl rfl (zS rfl rfl rfl (zS rfl rfl rfl (zS rfl rfl rfl ?_)))))));refine zS rfl rfl rfl (zS rfl rfl rfl (zS rfl rfl rfl (zS rfl rfl rfl (zC 2 rfl (zS rfl rfl rfl (zS rfl rfl rfl (zS rfl rfl rfl ?_)))))));refine zS rfl rfl rfl (zS rfl rfl rfl (zS rfl rfl rfl (zS rfl rfl rfl (zS rfl rfl rfl (zS rfl rfl rfl (zS rfl rfl rfl (zS rfl rfl rfl ?_)))))));refine zS rfl rfl rfl (zS rfl rfl rfl (zS rfl rfl rfl (zS rfl rfl rfl (zS rfl rfl rfl (zC 1 rfl (zI (zD [3,4,5,9,13,14,15,189] [_,_,_,_,_,_,_,_] rfl ?_)))))));refine yI rfl ?_;refine zG (zB (zC 1 rfl (zI (zD [2] [_] rfl ?_))));refine qF (qI rfl rfl fun w' hw=>?_)
         exact ⟨ret_b (by first | exact bne_no (by assumption) | exact dec_no (by assumption) | exact bool_no (form_holds hL) (by assumption) | exact absurd (show (offF i:Int)=((atomsOut a21 xs21).length:Int) from by rw [show i=xs21.length from by omega];exact atoms_end hL) (by assumption)),hw.below⟩
        replace h137:=zJ h137;refine yG rfl ?_;refine zD [3,4,5,9,13,14] [_,_,_,_,_,_] rfl ?_;refine zB (zC 1 rfl (zK rfl rfl rfl (qR rfl rfl rfl (by omega) (by omega)) ?_));refine zC 1 rfl (zI (qZ (i+1) (by omega) (by omega) (Sub.cons rfl (Sub.cons rfl (Sub.cons rfl (Sub.cons rfl (Sub.cons (by rw [offF_step];have hji:j=i:=(by omega);subst hji;rfl) (Sub.sel [14] rfl)))))) (fun _ h=>h)))
       refine zS rfl rfl rfl (zS rfl rfl rfl (zS rfl rfl rfl ?_));refine zS rfl rfl rfl (zS rfl rfl rfl (zS rfl rfl rfl (zS rfl rfl rfl (zS rfl rfl rfl (zS rfl rfl rfl (zS rfl rfl rfl (zS rfl rfl rfl ?_)))))));refine zS rfl rfl rfl (zS rfl rfl rfl (zS rfl rfl rfl (zS rfl rfl rfl (zS rfl rfl rfl (zC 1 rfl (zI (zD [3,4,5,9,13,14,132] [_,_,_,_,_,_,_] rfl ?_)))))));refine yI rfl ?_;refine zG (zB (zC 1 rfl (zI (zD [2] [_] rfl ?_))));refine qF (qI rfl rfl fun w' hw=>?_)
       exact ⟨ret_b (by first | exact bne_no (by assumption) | exact dec_no (by assumption) | exact bool_no (form_holds hL) (by assumption) | exact absurd (show (offF i:Int)=((atomsOut a21 xs21).length:Int) from by rw [show i=xs21.length from by omega];exact atoms_end hL) (by assumption)),hw.below⟩
      replace h101:=zJ h101;refine yG rfl ?_;refine zD [3,4,5,9,13] [_,_,_,_,_] rfl ?_;refine zG (zB (zC 2 rfl (zK (v:=i6_ (((atomsOut a21 xs21).length:Int))) rfl rfl rfl (yY rfl Tryd.runUnderlying9 rfl) ?_)));refine zC 2 rfl (yH fun b196 hg196=>?_)
      cases b196
      ·
       replace hg196:=zJ hg196;refine zS rfl rfl rfl (zS rfl rfl rfl (zS rfl rfl rfl ?_));refine zS rfl rfl rfl (zC 2 rfl (zS rfl rfl rfl (zS rfl rfl rfl (zS rfl rfl rfl (zC 2 rfl (zI (zD [2] [_] rfl ?_)))))));refine qF (qI rfl rfl fun w' hw=>?_)
       exact ⟨ret_b (by first | exact bne_no (by assumption) | exact dec_no (by assumption) | exact bool_no (form_holds hL) (by assumption) | exact absurd (show (offF i:Int)=((atomsOut a21 xs21).length:Int) from by rw [show i=xs21.length from by omega];exact atoms_end hL) (by assumption)),hw.below⟩
      replace hg196:=zM hg196;refine zK rfl rfl rfl (qC (cs:=#[i6_ a21.n,str a21.set,str a21.rel]) 0 rfl Tryd.isAgg24 rfl rfl Tryd.sizeOf24) ?_;refine zC 2 rfl (zK (v:=bo_ (holdV a21 (formOut a21 xs21) xs21)) rfl rfl rfl (qE rfl Tryd.call20 rfl zV (fun w1 hw1=>gsHolds_ok a21 (formOut a21 xs21) v21 xs21 w1 hsa21 (hIv21 _ (qJ (zT (f:=[_]) hw1))) (by first | (simp;done) | omega))) ?_);refine zC 2 rfl (yH fun b202 hg202=>?_)
      cases b202
      ·
       refine zS rfl rfl rfl (zS rfl rfl rfl (zS rfl rfl rfl (zC 2 rfl (zI (zD [2] [_] rfl ?_)))));refine qF (qI rfl rfl fun w' hw=>?_)
       exact ⟨ret_b (by first | exact bne_no (by assumption) | exact dec_no (by assumption) | exact bool_no (form_holds hL) (by assumption) | exact absurd (show (offF i:Int)=((atomsOut a21 xs21).length:Int) from by rw [show i=xs21.length from by omega];exact atoms_end hL) (by assumption)),hw.below⟩
      refine zC 1 rfl (zK (v:=i6_ (rankI (formOut a21 xs21))) rfl rfl rfl (qE rfl Tryd.call30 rfl zV (fun w1 hw1=>iRank_ok (formOut a21 xs21) w1)) ?_);refine zC 3 rfl (zI (zD [2] [_] rfl ?_));refine qF (qI rfl rfl fun w' hw=>?_)
      exact ⟨ret_b (decide_eq_true (form_rank hL)),hw.below⟩
     exact absurd hg71 (by simp)
    exact absurd hg66 (by simp)
   replace hg61:=not_true hg61
   exact absurd hg61 (by simp)
  exact absurd hg56 (by simp)
 replace hg51:=not_true hg51
 exact absurd hg51 (by simp)
end Go.Proofs.YtefiibghfgfdnaaDoor
namespace Go.Proofs.YtefiibghfgfdnaaDoor
open Go.ChangeShapes Go.WideShapes Go.ChangeAt Go.RowKit Go.Wk
namespace FnAtomsOf
def W0 : Array Value := #[.slice none 0 0]
set_option maxRecDepth 100000 in
/-- The contract of the row, at every world and every argument. -/
theorem contract (H : Type) (enc : TypeId × Value → H) (W : World) (base : Nat) (args : Array Value) (ds gs : List (DataW H)) (before : List MemPlace)
    (hval : ∀ (j : Nat) t v, Tryd.f5.params[j]? = some t → args[j]? = some v → Value.okWide Tryd.prog W .any base t v)
    (hW : DataW.Whole enc Tryd.prog Tryd.f5.params.toList Rows.fnAtomsOfSpec.vars false W args.toList ds gs before) :
    Calls Tryd.prog 5 args W fun e W' => ∃ v, e = .returned v ∧ Rows.fnAtomsOfSpec.post enc Tryd.prog Tryd.f5 false true false false W args v W' := by
  have hW' := hW
  obtain ⟨p, q, hA0, hV, rfl, hfz, hnd⟩ := hW
  have hA : DataW.TrodAll enc Tryd.prog W 0 (fun _ => true) true Tryd.f5.params.toList args.toList ds p := hA0
  rw [Tryd.params5] at hA hval
  obtain ⟨v0, vs0, d0, ds0, p0, q0, hargs0, rfl, rfl, h0, r0⟩ := trodAll_cons hA
  obtain ⟨rfl, rfl, rfl⟩ := trodAll_nil r0
  obtain rfl : args = #[v0] := by cases args; simp_all
  obtain ⟨l0, row0, eight0, len0⟩ := open_B Tryd.underlying22 Tryd.underlying5 (by kernel_rfl) (hval 0 22 v0 rfl rfl) h0
  have walk : Calls Tryd.prog 5 #[v0] W fun e w' => e = .returned (.bool true) ∧ Below W.heap.size W w' := by
    exact lawFnAtomsOf v0 l0 W row0 eight0 len0
  refine walk.mono fun e W' ⟨he, hb⟩ => ⟨_, he, ?_⟩
  exact post_true laidOut (by rw [Tryd.params5]; intro t ht; simp only [List.mem_cons, List.not_mem_nil, or_false] at ht; rcases ht with rfl <;> exact ⟨by kernel_rfl, of_decide_eq_true (by kernel_rfl)⟩) rfl hW' rfl (by kernel_rfl) Tryd.underlying4 hb
theorem reads (os : Os) {H : Type} (enc : TypeId × Value → H) : ∃ places, DataW.whole enc Tryd.prog ((laidWorld os).forCall (fun _ _ => 0) ⟨#[], W0, []⟩).memory Tryd.f5.params.toList Rows.fnAtomsOfSpec.vars false W0.toList 8 = some ([.nil], [], places) :=
  ⟨[], by kernel_rfl⟩
set_option maxRecDepth 100000 in
theorem lifted (os : Os) (started : os.Started) (H : Type) (enc : TypeId × Value → H) (F : Stop.Interp) :
    ReturnsInHanded {} Tryd.checked os 5 .any ((OpenSpec.ofChange Rows.fnAtomsOfSpec).preRow enc Tryd.prog Tryd.f5 Rows.fnAtomsOfRow.domain false Rows.fnAtomsOfRow.laid) (((OpenSpec.ofChange Rows.fnAtomsOfSpec).at F).post enc Tryd.prog Tryd.f5 false true false false) := by
  obtain ⟨places, hx⟩ := reads os enc
  refine returnsInHanded_of_row (C := Tryd.checked) (s := OpenSpec.ofChange Rows.fnAtomsOfSpec) own started (by kernel_rfl) Tryd.func5
    (witness_row_at (enc := enc) (C := Tryd.checked) false (laidWorld os) W0 rfl (by kernel_rfl) (by kernel_rfl) (by kernel_rfl)
      (OpenSpec.preRow_of_cond 8 hx (by kernel_rfl) (fun k hk => by cases hk) (by kernel_rfl) (laid_met os W0))) ?_
  intro W base args ds gs before hval hW _ _ _ hL _ _
  exact contract H enc W base args ds gs before hval hW
theorem k0 : (Rows.fnAtomsOfRow.wf (OpenSpec.ofChange (OpenSpec.ofChange Rows.fnAtomsOfSpec).bare)) = true := by kernel_rfl
theorem k3 : (Tryd.f5.params.all (Tryd.pinned.checked.prog.readableRec ·)) = true := by kernel_rfl
theorem k4 : (namedTie Tryd.pinned.checked.prog Rows.fnAtomsOfRow.named (OpenSpec.ofChange Rows.fnAtomsOfSpec).bare.vars) = true := by kernel_rfl
theorem k9 : ((Rows.fnAtomsOfRow.inPlace == Tryd.pinned.checked.prog.inPlace 5)) = true := by kernel_rfl
theorem k10 : ((Rows.fnAtomsOfRow.unfollowed == Tryd.pinned.checked.prog.unfollowed 5)) = true := by kernel_rfl
theorem k11 : ((Rows.fnAtomsOfRow.recurses == Tryd.pinned.checked.prog.recurses 5)) = true := by kernel_rfl
theorem k12 : ((Rows.fnAtomsOfRow.named == Tryd.pinned.checked.prog.varsNamed 5)) = true := by kernel_rfl
theorem k13 : ((Rows.fnAtomsOfRow.maps == (Tryd.f5.params.toList ++ (OpenSpec.ofChange Rows.fnAtomsOfSpec).bare.plain.varTypes Tryd.pinned.checked.prog).any (Tryd.pinned.checked.prog.mapsRec ·))) = true := by kernel_rfl
theorem k14 : ((Rows.fnAtomsOfRow.ifaces == (Tryd.f5.params.toList ++ (OpenSpec.ofChange Rows.fnAtomsOfSpec).bare.plain.varTypes Tryd.pinned.checked.prog).any (Tryd.pinned.checked.prog.ifacesRec ·))) = true := by kernel_rfl
theorem k15 : ((Rows.fnAtomsOfRow.mapsOut == Tryd.pinned.checked.prog.mapsAmong Tryd.f5.resultTypes.toList)) = true := by kernel_rfl
theorem k16 : ((Rows.fnAtomsOfRow.loops == (Tryd.f5.params.toList ++ (OpenSpec.ofChange Rows.fnAtomsOfSpec).bare.plain.varTypes Tryd.pinned.checked.prog).any (Tryd.pinned.checked.prog.loopsFrom ·))) = true := by kernel_rfl
theorem k17 : ((Rows.fnAtomsOfRow.wideKeys == (Tryd.f5.params.toList ++ (OpenSpec.ofChange Rows.fnAtomsOfSpec).bare.plain.varTypes Tryd.pinned.checked.prog ++ Tryd.f5.resultTypes.toList).any (Tryd.pinned.checked.prog.wideKeysFrom ·))) = true := by kernel_rfl
theorem k19 : (Tryd.f5.resultTypes.all (fun t => Tryd.pinned.checked.prog.readableRec t && decide (t < Tryd.pinned.checked.prog.types.size))) = true := by kernel_rfl
theorem k20 : ((Rows.fnAtomsOfRow.ifacesOut == Tryd.f5.resultTypes.toList.any (Tryd.pinned.checked.prog.ifacesRec ·))) = true := by kernel_rfl
theorem k21 : ((Rows.fnAtomsOfRow.loopsOut == Tryd.f5.resultTypes.toList.any (Tryd.pinned.checked.prog.loopsFrom ·))) = true := by kernel_rfl
theorem k30 : ((Rows.fnAtomsOfRow.veiled == (Tryd.f5.params.toList ++ (OpenSpec.ofChange Rows.fnAtomsOfSpec).bare.plain.varTypes Tryd.pinned.checked.prog ++ Tryd.f5.resultTypes.toList).any (Tryd.pinned.checked.prog.veiledRec ·))) = true := by kernel_rfl
theorem k31 : (Rows.fnAtomsOfRow.veiledFits Tryd.pinned.checked.prog Tryd.f5.params.toList (Tryd.f5.params.toList ++ (OpenSpec.ofChange Rows.fnAtomsOfSpec).bare.plain.varTypes Tryd.pinned.checked.prog ++ Tryd.f5.resultTypes.toList)) = true := by kernel_rfl
theorem closed : joinedFacts Tryd.pinned.checked.prog 5 Tryd.f5 (OpenSpec.ofChange Rows.fnAtomsOfSpec).bare Rows.fnAtomsOfRow = true :=
  facts_of k0 Laid1 Laid2 k3 k4 (by kernel_rfl) Laid6 (by kernel_rfl) Laid8 k9 k10 k11 k12 k13 k14 k15 k16 k17 (by kernel_rfl) k19 k20 k21 Laid22 (by kernel_rfl) Laid24 Laid25 Laid26 Laid27 (by kernel_rfl) (by kernel_rfl) k30 k31
theorem said : Rows.FnAtomsOfSaid :=
  OpenClaim.holds_of_cond 5 Tryd.f5 rfl rfl rfl rfl rfl rfl rfl ⟨rfl, rfl, rfl, rfl, rfl⟩ rfl rfl rfl rfl rfl (by kernel_rfl) Tryd.func5 closed
    (of_decide_eq_true (by kernel_rfl)) (by unfold Func.isWrapper; first | (rw [if_pos (by decide +kernel)]; kernel_rfl) | (rw [if_neg (by decide +kernel)]; exact ⟨rfl, rfl⟩))
    (fun os started H enc _ F => by rw [OpenClaim.pre_eq_preRow]; exact lifted os started H enc F)
theorem plain (f : FuncId) (fn : Func) (hf : Tryd.pinned.checked.prog.funcNamed Rows.fnAtomsOfRow.func = some f) (hfn : Tryd.pinned.checked.prog.funcs[f]? = some fn) :
    false = Tryd.pinned.checked.prog.looks [] ∧ ∀ (j : Nat) t, fn.params[j]? = some t → Tryd.pinned.checked.prog.wantsStandIn t = false := by
  obtain rfl : f = 5 := Option.some.inj ((show Tryd.pinned.checked.prog.funcNamed Rows.fnAtomsOfRow.func = some 5 by kernel_rfl).symm.trans hf) |>.symm
  obtain rfl : fn = Tryd.f5 := (Option.some.inj (Tryd.func5.symm.trans hfn)).symm
  refine ⟨by kernel_rfl, fun j t ht => ?_⟩
  rw [Tryd.params5] at ht
  have hm : t ∈ [22] := by simpa using Array.mem_of_getElem? ht
  simp only [List.mem_cons, List.not_mem_nil, or_false] at hm
  rcases hm with rfl <;> (show Tryd.prog.wantsStandIn _ = false) <;> kernel_rfl
theorem hw : Rows.fnAtomsOfRow.wfByText (OpenSpec.ofChange Rows.fnAtomsOfSpec) = true := by kernel_rfl
theorem hm : Tryd.pinned.checked.prog.mainIs = some (Rows.fnAtomsOfCard.stood.harness.1, Rows.fnAtomsOfCard.stood.harness.2.toList) := by kernel_rfl
theorem hg : false = Rows.fnAtomsOfRow.goesBy Tryd.pinned.checked.prog := by kernel_rfl
end FnAtomsOf
/-- The tied card. -/
theorem cardFnAtomsOf : Rows.FnAtomsOfCardSaid :=
  Claim7.holds_tied_plain_at .later [] _ _ _ _ FnAtomsOf.said (fun _ h => by cases h) FnAtomsOf.hw (fun _ h => by cases h) fnAtomsOf_row_tie rfl ⟨rfl, rfl⟩ FnAtomsOf.hm rfl FnAtomsOf.plain FnAtomsOf.hg
end Go.Proofs.YtefiibghfgfdnaaDoor
