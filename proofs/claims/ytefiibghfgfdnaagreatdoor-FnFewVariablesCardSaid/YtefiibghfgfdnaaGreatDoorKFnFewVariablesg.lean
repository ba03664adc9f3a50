/-
  FnFewVariables: all that its proof names (part 7)
-/
import Derived.Test.YtefiibghfgfdnaaGreatDoorKFnFewVariablesf
import Derived.Test.YtefiibghfgfdnaaGreatDoorKFnFewVariablesb
import Derived.Test.YtefiibghfgfdnaaGreatDoorKFnFewVariablesc
import Derived.Test.YtefiibghfgfdnaaGreatDoorKFnFewVariablesd
import Derived.Test.YtefiibghfgfdnaaGreatDoorKFnFewVariablese
import Derived.Test.YtefiibghfgfdnaaGreatDoorKFnFewVariablesa
namespace Go.Proofs.YtefiibghfgfdnaaGreatDoor
open Go.RowKit Go.Wk
set_option linter.unusedSimpArgs false
set_option maxHeartbeats 400000 in
theorem iSep_ok (f:List UInt8) (a b:St) (xs ys:List Int) (va vb:Value) (w:World) (hsa:a.Small) (hsb:b.Small) (hva:Ints w va xs) (hvb:Ints w vb ys) (_hf:f.length≤1048576) (hlx:xs.length≤1048576) (hly:ys.length≤1048576) :
    Calls Tryz.prog 13 [str f,vS a,va,vS b,vb].toArray w fun en w'=>en=.returned (.bool (sepB f a xs b ys))∧Below w.heap.size w w':=by
 refine fnStart (n:=47) (e:=[(0,str f),(1,vS a),(2,va),(3,vS b),(4,vb)]) Tryz.func13 Z Z Z Z Ends.both (zF (qI (xK (v:=vS a) Z Z Z Z Z fun p6 hp6=>?_)))
 show Ll _ _ (Own _ _ [_]) _ _ ((6,pt_ p6)::_) _ _ _;refine xK (v:=vS b) Z Z Z Z Z fun p8 hp8=>?_
 show Ll _ _ (Own _ _ [_,_]) _ _ ((8,pt_ p8)::_) _ _ _;refine qL 1 Z (zI (zD [0,2,4,6,8] [_,_,_,_,_] Z (zF (zB (zE Z (qF (cs:=#[i6_ a.n,str a.set,str a.rel]) 1 Z zZ Z Z zQ) (zC 2 Z (zE (v:=.tuple #[bo_ (holdV a f xs),bo_ (holdK a f xs)]) Z (qK Z Tryz.call44 Z qC (fun w1 hw1=>iHolds_ok a f va xs w1 hsa (Row.own hva hw1) (by first | (simp;done) | omega))) (zC 1 Z (zE (v:=bo_ (holdV a f xs)) Z (yD Z Z Z) (zE (v:=bo_ (holdK a f xs)) Z (yD Z Z Z) (zC 2 Z (zH (zD [0,2,4,8,11,12] [_,_,_,_,_,_] Z (zF (zB (zE Z (qF (cs:=#[i6_ b.n,str b.set,str b.rel]) 0 Z zZ Z Z zQ) (zC 2 Z (zE (v:=.tuple #[bo_ (holdV b f ys),bo_ (holdK b f ys)]) Z (qK Z Tryz.call44 Z qC (fun w1 hw1=>iHolds_ok b f vb ys w1 hsb (Row.own hvb hw1) (by first | (simp;done) | omega))) (zC 1 Z (zE (v:=bo_ (holdV b f ys)) Z (yD Z Z Z) (zE (v:=bo_ (holdK b f ys)) Z (yD Z Z Z) (zC 2 Z (zH (zD [2,4,11,12,13,14] [_,_,_,_,_,_] Z (zF (zB (zC 1 Z (zE (v:=i6_ (xs.length:Int)) Z (yP Z zX Z (ints_length _) (fun w1 hw1=>Row.own hva hw1)) (zC 1 Z (zE (v:=i6_ (ys.length:Int)) Z (yP Z zX Z (ints_length _) (fun w1 hw1=>Row.own hvb hw1)) (zC 2 Z (xD fun b34 hg34=>?_))))))))))))))))))))))))))))))))
 cases b34
 ·
  replace hg34:=zT hg34;refine zM Z (zC 2 Z (zM Z (zC 2 Z (zM Z (zC 2 Z (zM Z (zM Z (zC 2 Z (zH (zD [10] [_] Z (qM (qQ Z Z fun w' hw=>?_))))))))))))
  exact ⟨ret_b (by first | rfl | (simp_all [sepB];done) | (simp_all [sepB];omega)),hw.below⟩
 replace hg34:=zV hg34;refine zC 3 Z (xD fun b37 hg37=>?_)
 cases b37
 ·
  refine zM Z (zC 2 Z (zM Z (zC 2 Z (zM Z (zM Z (zC 2 Z (zH (zD [10] [_] Z (qM (qQ Z Z fun w' hw=>?_))))))))))
  exact ⟨ret_b (by first | rfl | (simp_all [sepB];done) | (simp_all [sepB];omega)),hw.below⟩
 refine zC 3 Z (xD fun b40 hg40=>?_)
 cases b40
 ·
  refine zM Z (zC 2 Z (zM Z (zM Z (zC 2 Z (zH (zD [10] [_] Z (qM (qQ Z Z fun w' hw=>?_))))))))
  exact ⟨ret_b (by first | rfl | (simp_all [sepB];done) | (simp_all [sepB];omega)),hw.below⟩
 refine zC 3 Z (xD fun b43 hg43=>?_)
 cases b43
 ·
  refine zM Z (zM Z (zC 2 Z (zH (zD [10] [_] Z (qM (qQ Z Z fun w' hw=>?_))))))
  exact ⟨ret_b (by first | rfl | (simp_all [sepB];done) | (simp_all [sepB];omega)),hw.below⟩
 refine zC 4 Z (zH (zD [10] [_] Z (qM (qQ Z Z fun w' hw=>?_))))
 exact ⟨ret_b (by first | rfl | (simp_all [sepB];done) | (simp_all [sepB];omega)),hw.below⟩
end Go.Proofs.YtefiibghfgfdnaaGreatDoor
namespace Go.Proofs.YtefiibghfgfdnaaGreatDoor
open Go.RowKit Go.Wk
set_option linter.unusedSimpArgs false
set_option maxHeartbeats 400000 in
theorem sSep_ok (f:List UInt8) (a b:St) (xs ys:List Int) (va vb:Value) (w:World) (hsa:a.Small) (hsb:b.Small) (hva:Ints w va xs) (hvb:Ints w vb ys) (hf:f.length≤1048576) (_hlx:xs.length≤1048576) (_hly:ys.length≤1048576) :
    Calls Tryz.prog 24 [str f,vS a,va,vS b,vb].toArray w fun en w'=>en=.returned (.bool (sepB f a xs b ys))∧Below w.heap.size w w':=by
 refine fnStart (n:=47) (e:=[(0,str f),(1,vS a),(2,va),(3,vS b),(4,vb)]) Tryz.func24 Z Z Z Z Ends.both (zF (qI (xK (v:=vS a) Z Z Z Z Z fun p6 hp6=>?_)))
 show Ll _ _ (Own _ _ [_]) _ _ ((6,pt_ p6)::_) _ _ _;refine xK (v:=vS b) Z Z Z Z Z fun p8 hp8=>?_
 show Ll _ _ (Own _ _ [_,_]) _ _ ((8,pt_ p8)::_) _ _ _;refine qL 1 Z (zI (zD [0,2,4,6,8] [_,_,_,_,_] Z (zF (zB (zE Z (qF (cs:=#[i6_ a.n,str a.set,str a.rel]) 1 Z zZ Z Z zQ) (zC 2 Z (zE (v:=.tuple #[bo_ (holdV a f xs),bo_ (holdK a f xs)]) Z (qK Z Tryz.call57 Z qC (fun w1 hw1=>sHolds_ok a f va xs w1 hsa hf (Row.own hva hw1))) (zC 1 Z (zE (v:=bo_ (holdV a f xs)) Z (yD Z Z Z) (zE (v:=bo_ (holdK a f xs)) Z (yD Z Z Z) (zC 2 Z (zH (zD [0,2,4,8,11,12] [_,_,_,_,_,_] Z (zF (zB (zE Z (qF (cs:=#[i6_ b.n,str b.set,str b.rel]) 0 Z zZ Z Z zQ) (zC 2 Z (zE (v:=.tuple #[bo_ (holdV b f ys),bo_ (holdK b f ys)]) Z (qK Z Tryz.call57 Z qC (fun w1 hw1=>sHolds_ok b f vb ys w1 hsb hf (Row.own hvb hw1))) (zC 1 Z (zE (v:=bo_ (holdV b f ys)) Z (yD Z Z Z) (zE (v:=bo_ (holdK b f ys)) Z (yD Z Z Z) (zC 2 Z (zH (zD [2,4,11,12,13,14] [_,_,_,_,_,_] Z (zF (zB (zC 2 Z (xD fun b30 hg30=>?_))))))))))))))))))))))))))))
 cases b30
 ·
  refine zM Z (zC 2 Z (zM Z (zM Z (zM Z (zM Z (zM Z (zC 2 Z (zM Z (zC 2 Z (zM Z (zM Z (zC 2 Z (zH (zD [10] [_] Z (qM (qQ Z Z fun w' hw=>?_))))))))))))))))
  exact ⟨ret_b (by first | rfl | (simp_all [sepB];done) | (simp_all [sepB];omega)),hw.below⟩
 refine zC 3 Z (xD fun b33 hg33=>?_)
 cases b33
 ·
  refine zM Z (zM Z (zM Z (zM Z (zM Z (zC 2 Z (zM Z (zC 2 Z (zM Z (zM Z (zC 2 Z (zH (zD [10] [_] Z (qM (qQ Z Z fun w' hw=>?_))))))))))))))
  exact ⟨ret_b (by first | rfl | (simp_all [sepB];done) | (simp_all [sepB];omega)),hw.below⟩
 refine zC 1 Z (zE (v:=i6_ (xs.length:Int)) Z (yP Z zX Z (ints_length _) (fun w1 hw1=>Row.own hva hw1)) (zC 1 Z (zE (v:=i6_ (ys.length:Int)) Z (yP Z zX Z (ints_length _) (fun w1 hw1=>Row.own hvb hw1)) (zC 3 Z (xD fun b40 hg40=>?_)))))
 cases b40
 ·
  replace hg40:=zT hg40;refine zM Z (zC 2 Z (zM Z (zM Z (zC 2 Z (zH (zD [10] [_] Z (qM (qQ Z Z fun w' hw=>?_))))))))
  exact ⟨ret_b (by first | rfl | (simp_all [sepB];done) | (simp_all [sepB];omega)),hw.below⟩
 replace hg40:=zV hg40;refine zC 3 Z (xD fun b43 hg43=>?_)
 cases b43
 ·
  refine zM Z (zM Z (zC 2 Z (zH (zD [10] [_] Z (qM (qQ Z Z fun w' hw=>?_))))))
  exact ⟨ret_b (by first | rfl | (simp_all [sepB];done) | (simp_all [sepB];omega)),hw.below⟩
 refine zC 4 Z (zH (zD [10] [_] Z (qM (qQ Z Z fun w' hw=>?_))))
 exact ⟨ret_b (by first | rfl | (simp_all [sepB];done) | (simp_all [sepB];omega)),hw.below⟩
end Go.Proofs.YtefiibghfgfdnaaGreatDoor
namespace Go.Proofs.YtefiibghfgfdnaaGreatDoor
open Go.RowKit Go.Wk
set_option linter.unusedSimpArgs false
set_option maxHeartbeats 400000 in
theorem indexP_ok (va:Value) (l:List Nat) (w:World) (hva:Row w va (l.map ptrV)) (hs:l.length≤1000) (F:FuncId) (caps:Array Value) (q:Nat→Bool) (hF:∀ args w,(callFunc F args).run Tryz.prog w=.ok (.enter F args) w) (hq:∀ w1,Below w.heap.size w w1→∀ i:Nat,i<l.length→Calls Tryz.prog F (#[ptrV (l.getD i 0)]++caps) w1 fun en w'=>en=.returned (.bool (q i))∧Below w1.heap.size w1 w') :
    Calls Tryz.prog 142 [va,.func (.func F) #[] caps].toArray w fun en w'=>en=.returned (.int .i64 (firstN q l.length))∧Below w.heap.size w w':=by
 refine fnStart (n:=19) (e:=[(0,va),(1,.func (.func F) #[] caps)]) Tryz.func142 Z Z Z Z Ends.both (zF (zB (zC 1 Z (zH (zD [0,1] [_,_] Z (zF (zF (zB (zC 1 Z (zE (v:=i6_ (l.length:Int)) Z (yP Z jD Z (List.length_map _) (fun w1 hw1=>Row.own hva hw1)) (zC 1 Z (zH (zD [0,1,7,8] [_,_,_,_] Z (qW (xM (σ:=Nat) (fun k=>k≤l.length∧∀ i:Nat,i<k→q i=false) (fun k=>[(0,va),(1,.func (.func F) #[] caps),(7,i6_ (l.length:Int)),(8,i6_ (k:Int))]) (fun k=>Own w.heap.size w []) (fun k=>l.length - k) (0) ⟨by omega,fun i hi=>absurd hi (by omega)⟩ (Sub.sel [0,1,7,8] Z) (fun _ h=>h) ?_)))))))))))))))
 rintro k ⟨hk,hall⟩;refine zF (zB (zC 1 Z (zH (zD [0,1,7,8,9] [_,_,_,_,_] Z (zF (yQ Z (fun h9=>?_) (fun h9=>?_)))))))
 ·
  refine qR (zD [0,1,7,8] [_,_,_,_] Z (zF (qW (zF (zB (zC 2 Z (zH (zD [0,1,5,7,8] [_,_,_,_,_] Z (zF (zB (zC 3 Z (zE (v:=.pointer (some (sAt va (k:Int)))) Z (yO Z jD uC Z Z (by omega) (by rw [List.length_map];omega) (fun w1 hw1=>Row.own hva hw1)) (zE (v:=ptrV (l.getD ((k:Int).toNat) 0)) Z (qN Z jB Z (fun w1 hw1=>ptrs_cell (Row.own hva hw1) (by omega) (by omega))) (zE (v:=bo_ (q k)) Z (OpQ.callFn Z Z hF Z qC (fun w1 hw1=>hq w1 hw1.below k (by omega))) (zH (zD [0,1,5,7,8,16] [_,_,_,_,_,_] Z (yF (b:=q k) Z (fun h16=>?_) (fun h16=>?_))))))))))))))))))
  ·
   refine zF (zB (zC 2 Z (zH (zD [4] [_] Z (qM (qQ Z Z fun w' hw=>?_))))))
   exact ⟨ret_i (firstN_at (by omega) hall (by simpa using h16)).symm,hw.below⟩
  refine qR (zD [0,1,7,8] [_,_,_,_] Z (zB (zE Z (qT Z Z Z (by omega) (by omega)) (zC 1 Z (zH (yL (k+1) ⟨by omega,fun i hi=>(Nat.lt_succ_iff_lt_or_eq.1 hi).elim (hall i) (fun e=>by subst e;simpa using h16)⟩ (by omega) (Sub.sel [0,1,7,8] Z) (fun _ h=>h)))))))
 refine yY Z (zD [] [] Z (zF (zB (zC 1 Z (zH (zD [4] [_] Z (qM (qQ Z Z fun w' hw=>?_))))))))
 exact ⟨ret_i (firstN_no (fun i hi=>hall i (by omega))).symm,hw.below⟩
set_option maxHeartbeats 400000 in
theorem containsP_ok (va:Value) (l:List Nat) (w:World) (hva:Row w va (l.map ptrV)) (hs:l.length≤1000) (F:FuncId) (caps:Array Value) (q:Nat→Bool) (hF:∀ args w,(callFunc F args).run Tryz.prog w=.ok (.enter F args) w) (hq:∀ w1,Below w.heap.size w w1→∀ i:Nat,i<l.length→Calls Tryz.prog F (#[ptrV (l.getD i 0)]++caps) w1 fun en w'=>en=.returned (.bool (q i))∧Below w1.heap.size w1 w') :
    Calls Tryz.prog 98 [va,.func (.func F) #[] caps].toArray w fun en w'=>en=.returned (.bool (anyN q l.length))∧Below w.heap.size w w':=by
 refine fnStart (n:=9) (e:=[(0,va),(1,.func (.func F) #[] caps)]) Tryz.func98 Z Z Z Z Ends.both (zF (zB (zC 1 Z (zH (zD [0,1] [_,_] Z (zF (zB (zC 2 Z (zE (v:=i6_ (firstN q l.length)) Z (qK Z Tryz.call142 Z qC (fun w1 hw1=>indexP_ok va l w1 (Row.own hva hw1) hs F caps q hF (fun w2 hb i hi=>hq w2 (hw1.below.trans (hb.mono hw1.base)) i hi))) (zC 2 Z (zH (zD [4] [_] Z (qM (qQ Z Z fun w' hw=>?_))))))))))))))
 exact ⟨ret_b (firstN_any q _),hw.below⟩
set_option maxHeartbeats 400000 in
theorem countsP_step (fm:Fm) (p:Nat) (w:World) (hT:Tree 67 w fm p) (hwf:wfF fm) (ih:∀ (fm2:Fm) (p2:Nat) (w2:World),szF fm2<szF fm→Tree 67 w2 fm2 p2→wfF fm2→Calls Tryz.prog 48 #[ptrV p2] w2 fun en w'=>en=.returned (.bool (!plainB fm2))∧Below w2.heap.size w2 w') :
    Calls Tryz.prog 48 [ptrV p].toArray w fun en w'=>en=.returned (.bool (!plainB fm))∧Below w.heap.size w w':=by
 refine fnStart (n:=12) (e:=[(0,ptrV p)]) Tryz.func48 Z Z Z Z Ends.both (zF (zB (zC 1 Z (zH (zD [0] [_] Z (zF ?_))))))
 rcases fm with ⟨c,vs⟩ | ⟨c,vs,q⟩ | ⟨c,q,r⟩
 ·
  obtain ⟨vv,pv,h1,h2,h3⟩:=hT
  have hlt:=leaf_letter hwf;refine zB (zC 1 Z (zE (v:=bo_ (decide (((c).toNat:Int)=50∨((c).toNat:Int)=51∨((c).toNat:Int)=52))) Z (qK Z Tryz.call96 Z qC (fun w1 hw1=>isCount_ok _ _ c _ _ _ _ w1 (heap_own h1 hw1))) (zC 1 Z (xD fun b5 hg5=>?_))))
  cases b5
  ·
   replace hg5:=zT hg5;refine zC 1 Z (zE (v:=.pointer (some ⟨p,0,none⟩)) Z (zP Z Z) (zE Z (zG Z zK Z xZ Z Z) (zE (v:=pv) Z (qN Z vF Z (fun w1 hw1=>at_box h1 hw1 2 Z)) (zE (v:=bo_ (anyN (anyF []) 0)) Z (qK Z Tryz.call98 Z qC (fun w1 hw1=>containsP_ok pv [] w1 (h3.own hw1) (by simp) 48 #[] (anyF []) Tryz.call48 (fun w2 hb i hi=>absurd hi (Nat.not_lt_zero _)))) (zC 2 Z (zH (zD [2] [_] Z (qM (qQ Z Z fun w' hw=>?_)))))))))
   exact ⟨ret_b (cnF_leaf),hw.below⟩
  replace hg5:=zV hg5;refine zM Z (zM Z (zM Z (zM Z (zM Z (zC 2 Z (zH (zD [2] [_] Z (qM (qQ Z Z fun w' hw=>?_)))))))))
  exact ⟨ret_b (absurd (by assumption) hlt.2),hw.below⟩
 ·
  obtain ⟨q1,⟨vv,pv,h1,h2,h3⟩,hT1⟩:=hT
  have hr1:=rank_sub1 (c:=c) (vs:=vs) (q:=q)
  have hc8:=c.toNat_lt;refine zB (zC 1 Z (zE (v:=bo_ (decide (((c).toNat:Int)=50∨((c).toNat:Int)=51∨((c).toNat:Int)=52))) Z (qK Z Tryz.call96 Z qC (fun w1 hw1=>isCount_ok _ _ c _ _ _ _ w1 (heap_own h1 hw1))) (zC 1 Z (xD fun b5 hg5_1=>?_))))
  cases b5
  ·
   replace hg5_1:=zT hg5_1;refine zC 1 Z (zE (v:=.pointer (some ⟨p,0,none⟩)) Z (zP Z Z) (zE Z (zG Z zK Z xZ Z Z) (zE (v:=pv) Z (qN Z vF Z (fun w1 hw1=>at_box h1 hw1 2 Z)) ?_)))
   refine zE (v:=bo_ (anyN (anyF [q]) 1)) Z (qK Z Tryz.call98 Z qC (fun w1 hw1=>containsP_ok pv [q1] w1 (h3.own hw1) (by simp) 48 #[] (anyF [q]) Tryz.call48 (fun w2 hb i hi=>by
     obtain rfl:i=0:=Nat.lt_one_iff.1 hi
     exact ih q q1 w2 (by first | exact Nat.lt_succ_self _ | exact Nat.lt_succ_of_le (Nat.le_add_right _ _) | exact Nat.lt_succ_of_le (Nat.le_add_left _ _)) (tree_later (hw1.below.trans (hb.mono hw1.base)) hT1) hwf.2.2.2.2))) ?_
   refine zC 2 Z (zH (zD [2] [_] Z (qM (qQ Z Z fun w' hw=>?_))))
   exact ⟨ret_b (cnF_one (by unfold cntI;assumption)),hw.below⟩
  replace hg5_1:=zV hg5_1;refine zM Z (zM Z (zM Z (zM Z (zM Z (zC 2 Z (zH (zD [2] [_] Z (qM (qQ Z Z fun w' hw=>?_)))))))))
  exact ⟨ret_b (cnF_yes (by unfold cntI;assumption)),hw.below⟩
 obtain ⟨q1,q2,⟨vv,pv,h1,h2,h3⟩,hT1,hT2⟩:=hT
 have hlt:=two_letter hwf
 have hr1:=rank_sub2 (c:=c) (q:=q) (r:=r);refine zB (zC 1 Z (zE (v:=bo_ (decide (((c).toNat:Int)=50∨((c).toNat:Int)=51∨((c).toNat:Int)=52))) Z (qK Z Tryz.call96 Z qC (fun w1 hw1=>isCount_ok _ _ c _ _ _ _ w1 (heap_own h1 hw1))) (zC 1 Z (xD fun b5 hg5_2=>?_))))
 cases b5
 ·
  replace hg5_2:=zT hg5_2;refine zC 1 Z (zE (v:=.pointer (some ⟨p,0,none⟩)) Z (zP Z Z) (zE Z (zG Z zK Z xZ Z Z) (zE (v:=pv) Z (qN Z vF Z (fun w1 hw1=>at_box h1 hw1 2 Z)) ?_)))
  refine zE (v:=bo_ (anyN (anyF [q,r]) 2)) Z (qK Z Tryz.call98 Z qC (fun w1 hw1=>containsP_ok pv [q1,q2] w1 (h3.own hw1) (by simp) 48 #[] (anyF [q,r]) Tryz.call48 (fun w2 hb i hi=>by
    rcases (by have h2:i<2:=hi;omega:i=0∨i=1) with rfl | rfl
    · exact ih q q1 w2 (by first | exact Nat.lt_succ_self _ | exact Nat.lt_succ_of_le (Nat.le_add_right _ _) | exact Nat.lt_succ_of_le (Nat.le_add_left _ _)) (tree_later (hw1.below.trans (hb.mono hw1.base)) hT1) hwf.2.2.2.1
    · exact ih r q2 w2 (by first | exact Nat.lt_succ_self _ | exact Nat.lt_succ_of_le (Nat.le_add_right _ _) | exact Nat.lt_succ_of_le (Nat.le_add_left _ _)) (tree_later (hw1.below.trans (hb.mono hw1.base)) hT2) hwf.2.2.2.2))) ?_
  refine zC 2 Z (zH (zD [2] [_] Z (qM (qQ Z Z fun w' hw=>?_))))
  exact ⟨ret_b (cnF_two),hw.below⟩
 replace hg5_2:=zV hg5_2;refine zM Z (zM Z (zM Z (zM Z (zM Z (zC 2 Z (zH (zD [2] [_] Z (qM (qQ Z Z fun w' hw=>?_)))))))))
 exact ⟨ret_b (absurd (by assumption) hlt.2),hw.below⟩
theorem countsP_ok (fm:Fm) (p:Nat) (w:World) (hT:Tree 67 w fm p) (hwf:wfF fm):Calls Tryz.prog 48 #[ptrV p] w fun en w'=>en=.returned (.bool (!plainB fm))∧Below w.heap.size w w':=by
  have key:∀ (m:Nat) (fm:Fm) (p:Nat) (w:World),szF fm≤m→Tree 67 w fm p→wfF fm→Calls Tryz.prog 48 #[ptrV p] w fun en w'=>en=.returned (.bool (!plainB fm))∧Below w.heap.size w w':=fun m=>by
    induction m with
    | zero=>exact fun fm p w h1 h2 h3=>countsP_step fm p w h2 h3 fun fm2 p2 w2 h=>absurd h (by omega)
    | succ m ih=>exact fun fm p w h1 h2 h3=>countsP_step fm p w h2 h3 fun fm2 p2 w2 h k1 k2=>ih fm2 p2 w2 (by omega) k1 k2
  exact key _ fm p w (Nat.le_refl _) hT hwf
set_option maxHeartbeats 400000 in
theorem iCounts_ok (f:List UInt8) (w:World) :
    Calls Tryz.prog 16 [str f].toArray w fun en w'=>en=.returned (.bool (countsV f))∧Below w.heap.size w w':=by
 refine fnStart (n:=12) (e:=[(0,str f)]) Tryz.func16 Z Z Z Z Ends.both (zF (zB (zC 1 Z (zH (zD [0] [_] Z (zF ?_))))))
 rcases hff1:formO f with _ | fm1
 ·
  refine qI (qL 1 Z (vZ (σ:=Unit) (ok:=fun _=>True) (v:=fun _=>.pointer none) (hs':=fun _=>[]) (xs:=[.tmp 4]) (vs:=[str f]) Z Z Z Z Tryz.call45 Z (fun w1 hw1=>(pform_ok f _ _ (([]:List (Nat×Obj))++([])) w1 hw1).mono fun en w' hR=>by rw [hff1] at hR;exact ⟨(),hR.1,trivial,hR.2⟩) fun _ _=>?_))
  show Ll _ _ (Own _ _ []) _ _ ((5,.pointer none)::_) _ _ _;refine qL 1 Z (zI (zD [3] [_] Z (zF (zB (zC 1 Z (zE (v:=bo_ false) Z (OpQ.neNilP (p:=none) Z xA Z Z) (zC 1 Z (zM Z (zM Z (zC 2 Z (zH (zD [2] [_] Z (qM (qQ Z Z fun w' hw=>?_))))))))))))))
  exact ⟨ret_b (by unfold countsV;rw [hff1]),hw.below⟩
 have hwf_fm1:=formO_wf hff1
 have hfr_fm1:=frB_lt hwf_fm1
 have hal_fm1:=allB_lt hwf_fm1;refine qI (qL 1 Z (uD (ok:=fun ((q,new):Nat×List (Nat×Obj))=>TreeB 67 new fm1 q) (v:=fun ((q,new):Nat×List (Nat×Obj))=>ptrV q) (new:=fun ((q,new):Nat×List (Nat×Obj))=>new) (hs:=[]) (xs:=[.tmp 4]) (vs:=[str f]) ([]:List (Nat×Obj)) Z Z Z Z Tryz.call45 Z (fun w1 hw1=>(pform_ok f _ _ (([]:List (Nat×Obj))++([])) w1 hw1).mono fun en w' hR=>by rw [hff1] at hR;obtain ⟨q,new,h1,h2,h3⟩:=hR;exact ⟨(q,new),h1,h2,h3⟩) fun ⟨q5,new5⟩ hTq5=>?_))
 dsimp only at hTq5
 show Ll _ _ (Own _ _ (new5++([]))) _ _ ((5,ptrV q5)::_) _ _ _;refine qL 1 Z (zI (zD [3] [_] Z (zF (zB (zC 1 Z (zE (v:=bo_ true) Z (OpQ.neNilP (p:=some ⟨q5,0,none⟩) Z xA Z Z) (zC 2 Z (zE (v:=bo_ (!plainB fm1)) Z (qK Z Tryz.call48 Z qC (fun w1 hw1=>countsP_ok fm1 q5 w1 (TreeB.tree (yM (qG (f:=[]) hw1)) hTq5) hwf_fm1)) (zC 2 Z (zH (zD [2] [_] Z (qM (qQ Z Z fun w' hw=>?_)))))))))))))
 exact ⟨ret_b (by unfold countsV;rw [hff1]),hw.below⟩
end Go.Proofs.YtefiibghfgfdnaaGreatDoor
namespace Go.Proofs.YtefiibghfgfdnaaGreatDoor
open Go.RowKit Go.Wk
set_option linter.unusedSimpArgs false
set_option maxHeartbeats 400000 in
theorem noPeb_ok (a:St) (g T:Nat) (x:Int) (w:World) (hg:w.heap[g]?=some (.cells #[.int .i64 a.n,str a.set,str a.rel] T (0,0))) :
    Calls Tryz.prog 171 [i6_ x,.pointer (some ⟨g,0,none⟩)].toArray w fun en w'=>en=.returned (.bool (!inB x (-1) (a.n - 1)))∧Below w.heap.size w w':=by
 refine fnStart (n:=12) (e:=[(0,i6_ x),(1,.pointer (some ⟨g,0,none⟩))]) Tryz.func171 Z Z Z Z Ends.both (zF (zB (zC 1 Z (zH (zD [0,1] [_,_] Z (zF (zB (zC 3 Z (xD fun b6 hg6=>?_)))))))))
 cases b6
 ·
  replace hg6:=zT hg6;refine zC 1 Z (zE Z (zG Z zY Z zJ Z Z) (zE (v:=i6_ a.n) Z (qN Z zU Z (fun w1 hw1=>at_box hg hw1 0 Z)) (zC 3 Z (zH (zD [3] [_] Z (qM (qQ Z Z fun w' hw=>?_)))))))
  exact ⟨ret_b (by first | exact pel_neg (by assumption) | exact pel_geq (by assumption)),hw.below⟩
 replace hg6:=zV hg6;refine zM Z (zM Z (zM Z (zM Z (zC 2 Z (zH (zD [3] [_] Z (qM (qQ Z Z fun w' hw=>?_))))))))
 exact ⟨ret_b (by first | exact pel_neg (by assumption) | exact pel_geq (by assumption)),hw.below⟩
set_option maxHeartbeats 400000 in
theorem arePebbles_ok (a:St) (va:Value) (xs:List Int) (w:World) (hva:Ints w va xs) (hs:xs.length≤140737488355328) :
    Calls Tryz.prog 149 [vS a,va].toArray w fun en w'=>en=.returned (.bool (pebL a xs))∧Below w.heap.size w w':=by
 refine fnStart (n:=19) (e:=[(0,vS a),(1,va)]) Tryz.func149 Z Z Z Z Ends.both (zF (qI (xK (v:=vS a) Z Z Z Z Z fun p2 hp2=>?_)))
 show Ll _ _ (Own _ _ [_]) _ _ ((2,pt_ p2)::_) _ _ _;refine qL 1 Z (zI (zD [1,2] [_,_] Z (zF (zB (zC 1 Z (zE (v:=i6_ (xs.length:Int)) Z (yP Z zX Z (ints_length _) (fun w1 hw1=>Row.own hva hw1)) (zC 2 Z (xD fun b8 hg8=>?_))))))))
 cases b8
 ·
  replace hg8:=zT hg8;refine zM Z (zM Z (zM Z (zC 2 Z (zM Z (zM Z (zM Z (zM Z (zC 2 Z (zH (zD [4] [_] Z (qM (qQ Z Z fun w' hw=>?_))))))))))))
  exact ⟨ret_b (by unfold pebL;first | (rw [not_any_pel];simp [*];done) | (rw [← not_any_pel];simp [*];done) | (simp [*];omega)),hw.below⟩
 replace hg8:=zV hg8;refine zC 1 Z (zE (v:=i6_ (xs.length:Int)) Z (yP Z zX Z (ints_length _) (fun w1 hw1=>Row.own hva hw1)) (zC 3 Z (xD fun b13 hg13=>?_)))
 cases b13
 ·
  replace hg13:=zT hg13;refine zM Z (zM Z (zM Z (zM Z (zC 2 Z (zH (zD [4] [_] Z (qM (qQ Z Z fun w' hw=>?_))))))))
  exact ⟨ret_b (by unfold pebL;first | (rw [not_any_pel];simp [*];done) | (rw [← not_any_pel];simp [*];done) | (simp [*];omega)),hw.below⟩
 replace hg13:=zV hg13;refine zC 1 Z (zE (v:=.func (.func 171) #[] #[pt_ p2]) Z (OpQ.func' (cap:=[.tmp 2]) Z Z) (zE (v:=bo_ (xs.any fun x=>!inB x (-1) (a.n - 1))) Z (qK Z Tryz.call137 Z qC (fun w1 hw1=>containsFunc_ok va xs w1 (Row.own hva hw1) hs 171 #[.pointer (some ⟨p2,0,none⟩)] (fun x=>!inB x (-1) (a.n - 1)) Tryz.call171 (fun w2 hb x=>noPeb_ok a _ _ x w2 ((hw1.stable _ _ hb).has 0 _ _ Z).2))) (zC 3 Z (zH (zD [4] [_] Z (qM (qQ Z Z fun w' hw=>?_)))))))
 exact ⟨ret_b (by unfold pebL;first | (rw [not_any_pel];simp [*];done) | (rw [← not_any_pel];simp [*];done) | (simp [*];omega)),hw.below⟩
set_option maxHeartbeats 400000 in
theorem areReady_ok (a b:St) (xs ys:List Int) (va vb:Value) (w:World) (hsa:a.Small) (hsb:b.Small) (hva:Ints w va xs) (hvb:Ints w vb ys) (hs1:xs.length≤140737488355328) (hs2:ys.length≤140737488355328) :
    Calls Tryz.prog 108 [vS a,va,vS b,vb].toArray w fun en w'=>en=.returned (.bool (readyB a xs b ys))∧Below w.heap.size w w':=by
 refine fnStart (n:=54) (e:=[(0,vS a),(1,va),(2,vS b),(3,vb)]) Tryz.func108 Z Z Z Z Ends.both (zF (qI (xK (v:=vS a) Z Z Z Z Z fun p4 hp4=>?_)))
 show Ll _ _ (Own _ _ [_]) _ _ ((4,pt_ p4)::_) _ _ _;refine xK (v:=vS b) Z Z Z Z Z fun p6 hp6=>?_
 show Ll _ _ (Own _ _ [_,_]) _ _ ((6,pt_ p6)::_) _ _ _;refine qL 1 Z (zI (zD [1,3,4,6] [_,_,_,_] Z (zF (zF (zB (zE Z (qF (cs:=#[i6_ a.n,str a.set,str a.rel]) 1 Z zZ Z Z zQ) (zE (v:=bo_ (validB a)) Z (qK Z Tryz.call50 Z qC (fun w1 hw1=>isStructure_ok a w1 hsa)) (zC 2 Z (xD fun b14 hg14=>?_)))))))))
 cases b14
 ·
  replace hg14:=not_false hg14;refine zE Z (qF (cs:=#[i6_ b.n,str b.set,str b.rel]) 0 Z zZ Z Z zQ) (zE (v:=bo_ (validB b)) Z (qK Z Tryz.call50 Z qC (fun w1 hw1=>isStructure_ok b w1 hsb)) (zC 3 Z (xD fun b19 hg19=>?_)))
  cases b19
  ·
   replace hg19:=not_false hg19;refine zE Z (qF (cs:=#[i6_ a.n,str a.set,str a.rel]) 1 Z zZ Z Z zQ) (zC 1 Z (zE (v:=bo_ (pebL a xs)) Z (qK Z Tryz.call149 Z qC (fun w1 hw1=>arePebbles_ok a va xs w1 (Row.own hva hw1) (by first | (simp;done) | (simp;omega) | omega))) (zC 3 Z (xD fun b25 hg25=>?_))))
   cases b25
   ·
    replace hg25:=not_false hg25;refine zE Z (qF (cs:=#[i6_ b.n,str b.set,str b.rel]) 0 Z zZ Z Z zQ) (zC 1 Z (zE (v:=bo_ (pebL b ys)) Z (qK Z Tryz.call149 Z qC (fun w1 hw1=>arePebbles_ok b vb ys w1 (Row.own hvb hw1) (by first | (simp;done) | (simp;omega) | omega))) (zC 3 Z (xD fun b31 hg31=>?_))))
    cases b31
    ·
     replace hg31:=not_false hg31;refine zC 1 Z (zE (v:=i6_ (xs.length:Int)) Z (yP Z zX Z (ints_length _) (fun w1 hw1=>Row.own hva hw1)) (zC 1 Z (zE (v:=i6_ (ys.length:Int)) Z (yP Z zX Z (ints_length _) (fun w1 hw1=>Row.own hvb hw1)) (zC 2 Z (zH (zD [1,3,37] [_,_,_] Z (yF (b:=!(decide ((xs.length:Int)=(ys.length:Int)))) Z (fun h37=>?_) (fun h37=>?_))))))))
     ·
      replace h37:=not_true h37
      replace h37:=zT h37;refine zF (zB (zC 1 Z (zH (zD [8] [_] Z (qM (qQ Z Z fun w' hw=>?_))))))
      exact ⟨ret_b (by unfold readyB;rw [pebB_eq,pebB_eq];first | (simp [*];done) | (rw [signs_no (k:=k) (by omega) (beq_of_bneT (by assumption))];simp;done) | (rw [signs_yes (k:=k) (by omega) hall];simp [*];done) | (simp [*];omega)),hw.below⟩
     replace h37:=not_false h37
     replace h37:=zV h37;refine qR (zD [1,3] [_,_] Z (zF (zF (zB (zC 1 Z (zE (v:=i6_ (xs.length:Int)) Z (yP Z zX Z (ints_length _) (fun w1 hw1=>Row.own hva hw1)) (zC 1 Z (zH (zD [3,38,39,40] [_,_,_,_] Z (qW (xM (σ:=Nat) (fun k=>k≤xs.length∧∀ i:Nat,i<k→(decide (xs.getD i 0<0)==decide (ys.getD i 0<0))=true) (fun k=>[(3,vb),(38,va),(39,i6_ (xs.length:Int)),(40,i6_ (k:Int))]) (fun k=>Own w.heap.size w [bk_ p6 #[i6_ b.n,str b.set,str b.rel] 24,bk_ p4 #[i6_ a.n,str a.set,str a.rel] 24]) (fun k=>xs.length - k) (0) ⟨by omega,fun i hi=>absurd hi (by omega)⟩ (Sub.sel [3,38,39,40] Z) (fun _ h=>h) ?_)))))))))))
     rintro k ⟨hk,hall⟩;refine zF (zB (zC 1 Z (zH (zD [3,38,39,40,41] [_,_,_,_,_] Z (zF (yQ Z (fun h41=>?_) (fun h41=>?_)))))))
     ·
      refine qR (zD [3,38,39,40] [_,_,_,_] Z (zF (qW (zF (zB (zC 1 Z (zE (v:=.pointer (some (sAt va (k:Int)))) Z (yO Z zX zJ Z Z (by omega) (by rw [ints_length];omega) (fun w1 hw1=>Row.own hva hw1)) (zE (v:=i6_ (xs.getD ((k:Int).toNat) 0)) Z (qN Z zU Z (fun w1 hw1=>Ints.cell (Row.own hva hw1) (by omega) (by omega))) (zC 2 Z (zH (zD [3,9,10,38,39,40] [_,_,_,_,_,_] Z (zF (zB (zC 4 Z (zE (v:=.pointer (some (sAt vb (k:Int)))) Z (yO Z zX zJ Z Z (by omega) (by rw [ints_length];omega) (fun w1 hw1=>Row.own hvb hw1)) (zE (v:=i6_ (ys.getD ((k:Int).toNat) 0)) Z (qN Z zU Z (fun w1 hw1=>Ints.cell (Row.own hvb hw1) (by omega) (by omega))) (zC 1 Z (zE Z (OpQ.bne Z xJ Z Z) (zH (zD [3,38,39,40,52] [_,_,_,_,_] Z (yF (b:=(decide ((xs.getD ((k:Int).toNat) 0)<(0:Int))) != (decide ((ys.getD ((k:Int).toNat) 0)<(0:Int)))) Z (fun h52=>?_) (fun h52=>?_))))))))))))))))))))))
      ·
       refine zF (zB (zC 1 Z (zH (zD [8] [_] Z (qM (qQ Z Z fun w' hw=>?_))))))
       exact ⟨ret_b (by unfold readyB;rw [pebB_eq,pebB_eq];first | (simp [*];done) | (rw [signs_no (k:=k) (by omega) (beq_of_bneT (by assumption))];simp;done) | (rw [signs_yes (k:=k) (by omega) hall];simp [*];done) | (simp [*];omega)),hw.below⟩
      refine qR (zD [3,38,39,40] [_,_,_,_] Z (zB (zE Z (qT Z Z Z (by omega) (by omega)) (zC 1 Z (zH (yL (k+1) ⟨by omega,fun i hi=>(Nat.lt_succ_iff_lt_or_eq.1 hi).elim (hall i) (fun e=>by subst e;exact beq_of_bne h52)⟩ (by omega) (Sub.sel [3,38,39,40] Z) (fun _ h=>h)))))))
     refine yY Z (zD [] [] Z (zF (zB (zC 1 Z (zH (zD [8] [_] Z (qM (qQ Z Z fun w' hw=>?_))))))))
     exact ⟨ret_b (by unfold readyB;rw [pebB_eq,pebB_eq];first | (simp [*];done) | (rw [signs_no (k:=k) (by omega) (beq_of_bneT (by assumption))];simp;done) | (rw [signs_yes (k:=k) (by omega) hall];simp [*];done) | (simp [*];omega)),hw.below⟩
    replace hg31:=not_true hg31;refine zM Z (zM Z (zM Z (zM Z (zM Z (zC 1 Z (zH (zD [1,3,37] [_,_,_] Z (yW Z (zF (zB (zC 1 Z (zH (zD [8] [_] Z (qM (qQ Z Z fun w' hw=>?_)))))))))))))))
    exact ⟨ret_b (by unfold readyB;rw [pebB_eq,pebB_eq];first | (simp [*];done) | (rw [signs_no (k:=k) (by omega) (beq_of_bneT (by assumption))];simp;done) | (rw [signs_yes (k:=k) (by omega) hall];simp [*];done) | (simp [*];omega)),hw.below⟩
   replace hg25:=not_true hg25;refine zM Z (zM Z (zM Z (zM Z (zC 2 Z (zM Z (zM Z (zM Z (zM Z (zM Z (zC 1 Z (zH (zD [1,3,37] [_,_,_] Z (yW Z (zF (zB (zC 1 Z (zH (zD [8] [_] Z (qM (qQ Z Z fun w' hw=>?_))))))))))))))))))))
   exact ⟨ret_b (by unfold readyB;rw [pebB_eq,pebB_eq];first | (simp [*];done) | (rw [signs_no (k:=k) (by omega) (beq_of_bneT (by assumption))];simp;done) | (rw [signs_yes (k:=k) (by omega) hall];simp [*];done) | (simp [*];omega)),hw.below⟩
  replace hg19:=not_true hg19;refine zM Z (zM Z (zM Z (zM Z (zC 2 Z (zM Z (zM Z (zM Z (zM Z (zC 2 Z (zM Z (zM Z (zM Z (zM Z (zM Z (zC 1 Z (zH (zD [1,3,37] [_,_,_] Z (yW Z (zF (zB (zC 1 Z (zH (zD [8] [_] Z (qM (qQ Z Z fun w' hw=>?_)))))))))))))))))))))))))
  exact ⟨ret_b (by unfold readyB;rw [pebB_eq,pebB_eq];first | (simp [*];done) | (rw [signs_no (k:=k) (by omega) (beq_of_bneT (by assumption))];simp;done) | (rw [signs_yes (k:=k) (by omega) hall];simp [*];done) | (simp [*];omega)),hw.below⟩
 replace hg14:=not_true hg14;refine zM Z (zM Z (zM Z (zC 2 Z (zM Z (zM Z (zM Z (zM Z (zC 2 Z (zM Z (zM Z (zM Z (zM Z (zC 2 Z (zM Z (zM Z (zM Z (zM Z (zM Z (zC 1 Z (zH (zD [1,3,37] [_,_,_] Z (yW Z (zF (zB (zC 1 Z (zH (zD [8] [_] Z (qM (qQ Z Z fun w' hw=>?_)))))))))))))))))))))))))))))
 exact ⟨ret_b (by unfold readyB;rw [pebB_eq,pebB_eq];first | (simp [*];done) | (rw [signs_no (k:=k) (by omega) (beq_of_bneT (by assumption))];simp;done) | (rw [signs_yes (k:=k) (by omega) hall];simp [*];done) | (simp [*];omega)),hw.below⟩
end Go.Proofs.YtefiibghfgfdnaaGreatDoor
namespace Go.Proofs.YtefiibghfgfdnaaGreatDoor
open Go.RowKit Go.Wk
set_option linter.unusedSimpArgs false
set_option maxHeartbeats 400000 in
theorem indexB_ok (vb:Value) (bs:List Bool) (y:Bool) (w:World) (hvb:Bools w vb bs) (hs1:bs.length≤1000000) :
    Calls Tryz.prog 174 [vb,bo_ y].toArray w fun en w'=>en=.returned (.int .i64 (idxB bs y))∧Below w.heap.size w w':=by
 refine fnStart (n:=19) (e:=[(0,vb),(1,bo_ y)]) Tryz.func174 Z Z Z Z Ends.both (zF (zB (zC 1 Z (zH (zD [0,1] [_,_] Z (zF (zF (zB (zC 1 Z (zE (v:=i6_ (bs.length:Int)) Z (yP Z xR Z (bools_length _) (fun w1 hw1=>Row.own hvb hw1)) (zC 1 Z (zH (zD [0,1,7,8] [_,_,_,_] Z (qW (xM (σ:=Nat) (fun k=>k≤bs.length∧∀ i:Nat,i<k→(y==bs.getD i false)=false) (fun k=>[(0,vb),(1,bo_ y),(7,i6_ (bs.length:Int)),(8,i6_ (k:Int))]) (fun k=>Own w.heap.size w []) (fun k=>bs.length - k) (0) ⟨by omega,fun i hi=>absurd hi (by omega)⟩ (Sub.sel [0,1,7,8] Z) (fun _ h=>h) ?_)))))))))))))))
 rintro k ⟨hk,hall⟩;refine zF (zB (zC 1 Z (zH (zD [0,1,7,8,9] [_,_,_,_,_] Z (zF (yQ Z (fun h9=>?_) (fun h9=>?_)))))))
 ·
  refine qR (zD [0,1,7,8] [_,_,_,_] Z (zF (qW (zF (zB (zC 2 Z (zH (zD [0,1,5,7,8] [_,_,_,_,_] Z (zF (zB (zC 3 Z (zE (v:=.pointer (some (sAt vb (k:Int)))) Z (yO Z xR vQ Z Z (by omega) (by rw [bools_length];omega) (fun w1 hw1=>Row.own hvb hw1)) (zE (v:=bo_ (bs.getD ((k:Int).toNat) false)) Z (qN Z Tryz.isAgg4 Z (fun w1 hw1=>Bools.cell (Row.own hvb hw1) (by omega) (by omega))) (zE Z (OpQ.beq Z xJ Z Z) (zH (zD [0,1,5,7,8,16] [_,_,_,_,_,_] Z (yF (b:=y==(bs.getD ((k:Int).toNat) false)) Z (fun h16=>?_) (fun h16=>?_))))))))))))))))))
  ·
   refine zF (zB (zC 2 Z (zH (zD [4] [_] Z (qM (qQ Z Z fun w' hw=>?_))))))
   exact ⟨ret_i (idxB_at (by omega) hall (by simpa using h16)).symm,hw.below⟩
  refine qR (zD [0,1,7,8] [_,_,_,_] Z (zB (zE Z (qT Z Z Z (by omega) (by omega)) (zC 1 Z (zH (yL (k+1) ⟨by omega,fun i hi=>(Nat.lt_succ_iff_lt_or_eq.1 hi).elim (hall i) (fun e=>by subst e;simpa using h16)⟩ (by omega) (Sub.sel [0,1,7,8] Z) (fun _ h=>h)))))))
 refine yY Z (zD [] [] Z (zF (zB (zC 1 Z (zH (zD [4] [_] Z (qM (qQ Z Z fun w' hw=>?_))))))))
 exact ⟨ret_i (idxB_none (fun i hi=>hall i (by omega))).symm,hw.below⟩
set_option maxHeartbeats 400000 in
theorem containsB_ok (vb:Value) (bs:List Bool) (y:Bool) (w:World) (hvb:Bools w vb bs) (hs1:bs.length≤1000000) :
    Calls Tryz.prog 151 [vb,bo_ y].toArray w fun en w'=>en=.returned (.bool (decide (y∈bs)))∧Below w.heap.size w w':=by
 refine fnStart (n:=9) (e:=[(0,vb),(1,bo_ y)]) Tryz.func151 Z Z Z Z Ends.both (zF (zB (zC 1 Z (zH (zD [0,1] [_,_] Z (zF (zB (zC 2 Z (zE (v:=i6_ (idxB bs y)) Z (qK Z Tryz.call174 Z qC (fun w1 hw1=>indexB_ok vb bs y w1 (Row.own hvb hw1) (by omega))) (zC 2 Z (zH (zD [4] [_] Z (qM (qQ Z Z fun w' hw=>?_))))))))))))))
 exact ⟨ret_b (idxB_has bs y),hw.below⟩
set_option maxHeartbeats 400000 in
theorem equalB_ok (va vb:Value) (xs ys:List Bool) (w:World) (hva:Bools w va xs) (hvb:Bools w vb ys) (hs1:xs.length≤1000000) :
    Calls Tryz.prog 111 [va,vb].toArray w fun en w'=>en=.returned (.bool (xs==ys))∧Below w.heap.size w w':=by
 refine fnStart (n:=26) (e:=[(0,va),(1,vb)]) Tryz.func111 Z Z Z Z Ends.both (zF (zB (zC 1 Z (zH (zD [0,1] [_,_] Z (zF (zF (zB (zC 1 Z (zE (v:=i6_ (xs.length:Int)) Z (yP Z xR Z (bools_length _) (fun w1 hw1=>Row.own hva hw1)) (zC 1 Z (zE (v:=i6_ (ys.length:Int)) Z (yP Z xR Z (bools_length _) (fun w1 hw1=>Row.own hvb hw1)) (zC 1 Z (zH (zD [0,1,10] [_,_,_] Z (yF (b:=!(decide ((xs.length:Int)=(ys.length:Int)))) Z (fun h10=>?_) (fun h10=>?_)))))))))))))))))
 ·
  replace h10:=not_true h10
  replace h10:=zT h10;refine zF (zB (zC 1 Z (zH (zD [4] [_] Z (qM (qQ Z Z fun w' hw=>?_))))))
  exact ⟨ret_b (beq_no (fun e=>by simp_all)).symm,hw.below⟩
 replace h10:=not_false h10
 replace h10:=zV h10
 have hle:xs.length=ys.length:=by omega
 refine qR (zD [0,1] [_,_] Z (zF (zF (zB (zC 1 Z (zE (v:=i6_ (xs.length:Int)) Z (yP Z xR Z (bools_length _) (fun w1 hw1=>Row.own hva hw1)) (zC 1 Z (zH (zD [0,1,12,13] [_,_,_,_] Z (qW (xM (σ:=Nat) (fun k=>k≤xs.length∧∀ i:Nat,i<k→xs.getD i false=ys.getD i false) (fun k=>[(0,va),(1,vb),(12,i6_ (xs.length:Int)),(13,i6_ (k:Int))]) (fun k=>Own w.heap.size w []) (fun k=>xs.length - k) (0) ⟨by omega,fun i hi=>absurd hi (by omega)⟩ (Sub.sel [0,1,12,13] Z) (fun _ h=>h) ?_)))))))))))
 rintro k ⟨hk,hall⟩;refine zF (zB (zC 1 Z (zH (zD [0,1,12,13,14] [_,_,_,_,_] Z (zF (yQ Z (fun h14=>?_) (fun h14=>?_)))))))
 ·
  refine qR (zD [0,1,12,13] [_,_,_,_] Z (zF (qW (zF (zB (zC 2 Z (zH (zD [0,1,5,12,13] [_,_,_,_,_] Z (zF (xY yC (fun _ h=>h.drawn) (by kernel_rfl) (zC 2 Z (zE (v:=.pointer (some (sAt va (k:Int)))) Z (yO Z xR vQ Z Z (by omega) (by rw [bools_length];omega) (fun w1 hw1=>Row.own hva hw1)) (zE (v:=bo_ (xs.getD ((k:Int).toNat) false)) Z (qN Z Tryz.isAgg4 Z (fun w1 hw1=>Bools.cell (Row.own hva hw1) (by omega) (by omega))) (zC 2 Z (zE (v:=.pointer (some (sAt vb (k:Int)))) Z (yO Z xR vQ Z Z (by omega) (by rw [bools_length];omega) (fun w1 hw1=>Row.own hvb hw1)) (zE (v:=bo_ (ys.getD ((k:Int).toNat) false)) Z (qN Z Tryz.isAgg4 Z (fun w1 hw1=>Bools.cell (Row.own hvb hw1) (by omega) (by omega))) (zE Z (OpQ.bne Z xJ Z Z) (zH (zD [0,1,12,13,24] [_,_,_,_,_] Z (yF (b:=(xs.getD ((k:Int).toNat) false) != (ys.getD ((k:Int).toNat) false)) Z (fun h24=>?_) (fun h24=>?_)))))))))))))))))))))
  ·
   refine zF (zB (zC 1 Z (zH (zD [4] [_] Z (qM (qQ Z Z fun w' hw=>?_))))))
   exact ⟨ret_b (beq_no (fun e=>by simp_all)).symm,hw.below⟩
  refine qR (zD [0,1,12,13] [_,_,_,_] Z (zB (zE Z (qT Z Z Z (by omega) (by omega)) (zC 1 Z (zH (yL (k+1) ⟨by omega,fun i hi=>(Nat.lt_succ_iff_lt_or_eq.1 hi).elim (hall i) (fun e=>by subst e;simpa using h24)⟩ (by omega) (Sub.sel [0,1,12,13] Z) (fun _ h=>h)))))))
 refine yY Z (zD [] [] Z (zF (zB (zC 1 Z (zH (zD [4] [_] Z (qM (qQ Z Z fun w' hw=>?_))))))))
 exact ⟨ret_b (by rw [bools_same hle (fun i hi=>hall i (by omega))];simp),hw.below⟩
set_option maxHeartbeats 400000 in
theorem stateOf_ok (a b:St) (k p Tp:Nat) (fv wv:Value) (va vb:Value) (xs ys:List Int) (w:World) (hp:w.heap[p]?=some (.cells #[.int .i64 a.n,str a.set,str a.rel,.int .i64 b.n,str b.set,str b.rel,.int .i64 (k:Int),.int .i64 ((prN a b:Nat):Int),fv,wv,.bool false] Tp (0,0))) (hva:Ints w va xs) (hvb:Ints w vb ys) (hVa:validB a=true) (hVb:validB b=true) (hk3:k≤3) (hx:Peb a.n.toNat k xs) (hy:Peb b.n.toNat k ys) (hsg:∀ i:Nat,i<k→(xs.getD i 0<0↔ys.getD i 0<0)) :
    Calls Tryz.prog 61 [.pointer (some ⟨p,0,none⟩),va,vb].toArray w fun en w'=>en=.returned (.int .i64 ((stU b.n.toNat (prN a b) xs ys k (k):Nat):Int))∧Below w.heap.size w w':=by
 refine fnStart (n:=48) (e:=[(0,.pointer (some ⟨p,0,none⟩)),(1,va),(2,vb)]) Tryz.func61 Z Z Z Z Ends.both ?_
 have ha:=validB_fine hVa
 have hb:=validB_fine hVb
 have hm8:=ha.hi
 have hm1:=ha.lo
 have hb8:=hb.hi
 have hb1:=hb.lo
 have hpr:=prN_le (a:=a) (b:=b) (by omega) (by omega)
 have hpp:=prN_pos a b
 have hxl:=hx.1
 have hyl:=hy.1
 have hcl:=code_lt hx hy hsg;refine zF (zB (zC 1 Z (zH (zD [0,1,2] [_,_,_] Z (zF (zB (zC 1 Z (zH (zD [0,1,2,7] [_,_,_,_] Z (zF (zF (zB (zC 1 Z (zE (v:=.pointer (some ⟨p,0,none⟩)) Z (zP Z Z) (zE Z (zG Z yG Z zJ Z Z) (zE (v:=i6_ (k:Int)) Z (qN Z zU Z (fun w1 hw1=>at_box hp hw1 6 Z)) (zE Z (jV Z Z Z (by omega) (by omega)) (zC 1 Z (zH (zD [0,1,2,7,8] [_,_,_,_,_] Z (qW (xM (σ:=Nat) (fun j=>j≤k) (fun j=>[(0,.pointer (some ⟨p,0,none⟩)),(1,va),(2,vb),(7,i6_ (((stU b.n.toNat (prN a b) xs ys k (j):Nat):Int))),(8,i6_ ((k:Int) - 1 - (j:Int)))]) (fun j=>Own w.heap.size w []) (fun j=>k - j) (0) (by omega) (Sub.cons Z (Sub.cons Z (Sub.cons Z (Sub.cons (by rfl) (Sub.cons (by simp [List.lookup]) Sub.nil))))) (fun _ h=>h) ?_))))))))))))))))))))))
 rintro j hj
 have hsl:=stU_lt hcl j hj
 have hpj:=pow65 hpr (show j≤3 by omega)
 have hml:=mul65 (x:=stU b.n.toNat (prN a b) xs ys k j) (by omega) hpr;refine zF (zF (zB (zC 2 Z (zH (zD [0,1,2,7,8,15] [_,_,_,_,_,_] Z (yF (b:=decide ((0:Int)≤((k:Int) - 1 - (j:Int)))) Z (fun h15=>?_) (fun h15=>?_)))))))
 ·
  replace h15:=zV h15
  have hjk:j<k:=by omega
  obtain ⟨hx0,hx1⟩:=peb_at hx (i:=k - 1 - j) (by omega)
  obtain ⟨hy0,hy1⟩:=peb_at hy (i:=k - 1 - j) (by omega)
  have hs1:=hsg (k - 1 - j) (by omega);refine qR (zD [0,1,2,7,8] [_,_,_,_,_] Z (zF (qW (zF (zB (zC 2 Z (zE (v:=.pointer (some ⟨p,0,none⟩)) Z (zP Z Z) (zE Z (zG Z yG Z zJ Z Z) (zE (v:=i6_ ((prN a b:Nat):Int)) Z (qN Z zU Z (fun w1 hw1=>at_box hp hw1 7 Z)) (zE Z (uI Z Z Z (by omega) (by omega)) (zC 1 Z (zH (zD [0,1,2,7,8] [_,_,_,_,_] Z (zF (zB (zC 2 Z (zE (v:=.pointer (some (sAt va ((k:Int) - 1 - (j:Int))))) Z (yO Z zX zJ Z Z (by omega) (by rw [ints_length];omega) (fun w1 hw1=>Row.own hva hw1)) (zE (v:=i6_ (xs.getD (k - 1 - j) 0)) Z (yA (by congr 2;omega) (qN Z zU Z (fun w1 hw1=>Ints.cell (Row.own hva hw1) (by omega) (by omega)))) (zC 1 Z (zH (zD [0,1,2,7,8,28] [_,_,_,_,_,_] Z (yF (b:=decide ((0:Int)≤(xs.getD (k - 1 - j) 0))) Z (fun h28=>?_) (fun h28=>?_)))))))))))))))))))))))
  ·
   replace h28:=zV h28
   have hxb:=mul8 (x:=xs.getD (k - 1 - j) 0) (y:=b.n) (by omega) (by omega) (by omega) (by omega);refine xY yC (fun _ h=>h.drawn) (by kernel_rfl) (zC 3 Z (zE (v:=.pointer (some (sAt va ((k:Int) - 1 - (j:Int))))) Z (yO Z zX zJ Z Z (by omega) (by rw [ints_length];omega) (fun w1 hw1=>Row.own hva hw1)) (zE (v:=i6_ (xs.getD (k - 1 - j) 0)) Z (yA (by congr 2;omega) (qN Z zU Z (fun w1 hw1=>Ints.cell (Row.own hva hw1) (by omega) (by omega)))) (zC 1 Z (zE (v:=.pointer (some ⟨p,0,none⟩)) Z (zP Z Z) (zE Z (zG Z yG Z zQ Z Z) (zE Z (zG Z zY Z zJ Z Z) (zE (v:=i6_ b.n) Z (qN Z zU Z (fun w1 hw1=>at_box hp hw1 3 Z)) (zE Z (uI Z Z Z (by omega) (by omega)) (zE Z (qT Z Z Z (by omega) (by omega)) (zC 2 Z (zE (v:=.pointer (some (sAt vb ((k:Int) - 1 - (j:Int))))) Z (yO Z zX zJ Z Z (by omega) (by rw [ints_length];omega) (fun w1 hw1=>Row.own hvb hw1)) (zE (v:=i6_ (ys.getD (k - 1 - j) 0)) Z (yA (by congr 2;omega) (qN Z zU Z (fun w1 hw1=>Ints.cell (Row.own hvb hw1) (by omega) (by omega)))) (zE Z (qT Z Z Z (by omega) (by omega)) (zE Z (qT Z Z Z (by omega) (by omega)) (zC 1 Z (zH (zD [0,1,2,7,8] [_,_,_,_,_] Z (zB (zC 1 Z (zE Z (jV Z Z Z (by omega) (by omega)) (zC 1 Z (zH (yL (j+1) (by omega) (by omega) (Sub.cons Z (Sub.cons Z (Sub.cons Z (Sub.cons (by first | (rw [stU_pos (by omega) (by omega) (by omega)];rfl) | (rw [stU_neg (by omega)];rfl)) (Sub.cons (by simp [List.lookup];omega) Sub.nil))))) (fun _ h=>h)))))))))))))))))))))))))
  replace h28:=zT h28;refine qR (zD [0,1,2,7,8] [_,_,_,_,_] Z (zB (zC 1 Z (zE Z (jV Z Z Z (by omega) (by omega)) (zC 1 Z (zH (yL (j+1) (by omega) (by omega) (Sub.cons Z (Sub.cons Z (Sub.cons Z (Sub.cons (by first | (rw [stU_pos (by omega) (by omega) (by omega)];rfl) | (rw [stU_neg (by omega)];rfl)) (Sub.cons (by simp [List.lookup];omega) Sub.nil))))) (fun _ h=>h))))))))
 replace h15:=zT h15;refine yY Z (zD [7] [_] Z (zF (zB (zC 2 Z (zH (zD [6] [_] Z (qM (qQ Z Z fun w' hw=>?_))))))))
 exact ⟨ret_i (by rw [show j=k from by omega]),hw.below⟩
def answered_ok_o3x:OV:=(.one 1 (.take 2 (.take 3 (.one 4 (.one 5 (.take 12 (.take 13 .done)))))))
theorem answered_ok_o3x_c:ovB (opsOf 3 Tryz.f110.body) answered_ok_o3x 7 true #[true,false,false,false,false,false,true,true,true,true,true,true,false,false]=true:=(ovB_one (by kernel_rfl) (ovB_take (by kernel_rfl) (ovB_take (by kernel_rfl) (ovB_one (by kernel_rfl) (ovB_one (by kernel_rfl) (ovB_take (by kernel_rfl) (ovB_take (by kernel_rfl) (ovB_done (by kernel_rfl)))))))))
def answered_ok_o3_1x:OV:=(.one 4 (.one 5 (.take 12 (.take 13 .done))))
theorem answered_ok_o3_1x_c:ovB (opsOf 3 Tryz.f110.body) answered_ok_o3_1x 4 true #[true,true,true,true,false,false,true,true,true,true,true,true,false,false]=true:=(ovB_one (by kernel_rfl) (ovB_one (by kernel_rfl) (ovB_take (by kernel_rfl) (ovB_take (by kernel_rfl) (ovB_done (by kernel_rfl))))))
def answered_ok_o3_2x:OV:=(.one 5 (.take 12 (.take 13 .done)))
theorem answered_ok_o3_2x_c:ovB (opsOf 3 Tryz.f110.body) answered_ok_o3_2x 3 true #[true,true,true,true,true,false,true,true,true,true,true,true,false,false]=true:=(ovB_one (by kernel_rfl) (ovB_take (by kernel_rfl) (ovB_take (by kernel_rfl) (ovB_done (by kernel_rfl)))))
def answered_ok_o3_3x:OV:=(.take 12 (.one 11 (.take 13 .done)))
theorem answered_ok_o3_3x_c:ovB (opsOf 3 Tryz.f110.body) answered_ok_o3_3x 3 true #[true,true,true,true,true,true,true,true,true,true,true,false,false,false]=true:=(ovB_take (by kernel_rfl) (ovB_one (by kernel_rfl) (ovB_take (by kernel_rfl) (ovB_done (by kernel_rfl)))))
def answered_ok_o3_4x:OV:=(.alt 5 answered_ok_o3_3x (.one 11 answered_ok_o3_2x))
theorem answered_ok_o3_4x_c:ovB (opsOf 3 Tryz.f110.body) answered_ok_o3_4x 4 true #[true,true,true,true,true,false,true,true,true,true,true,false,false,false]=true:=(ovB_alt (by kernel_rfl) (ovB_at (by kernel_rfl) answered_ok_o3_3x_c) (ovB_last (ovB_at (by kernel_rfl) answered_ok_o3_2x_c)))
def answered_ok_o3_5x:OV:=(.take 2 (.take 3 (.alt 4 answered_ok_o3_4x (.one 11 answered_ok_o3_1x))))
theorem answered_ok_o3_5x_c:ovB (opsOf 3 Tryz.f110.body) answered_ok_o3_5x 7 true #[true,true,false,false,false,false,true,true,true,true,true,false,false,false]=true:=(ovB_take (by kernel_rfl) (ovB_take (by kernel_rfl) (ovB_alt (by kernel_rfl) (ovB_at (by kernel_rfl) answered_ok_o3_4x_c) (ovB_last (ovB_at (by kernel_rfl) answered_ok_o3_1x_c)))))
def answered_ok_o3_6x:OV:=(.alt 1 answered_ok_o3_5x (.one 11 answered_ok_o3x))
theorem answered_ok_o3_6x_c:ovB (opsOf 3 Tryz.f110.body) answered_ok_o3_6x 8 true #[true,false,false,false,false,false,true,true,true,true,true,false,false,false]=true:=(ovB_alt (by kernel_rfl) (ovB_at (by kernel_rfl) answered_ok_o3_5x_c) (ovB_last (ovB_at (by kernel_rfl) answered_ok_o3x_c)))
def answered_ok_o3_7x:OV:=(.alt 4 answered_ok_o3_4x (.one 11 answered_ok_o3_1x))
theorem answered_ok_o3_7x_c:ovB (opsOf 3 Tryz.f110.body) answered_ok_o3_7x 5 true #[true,true,true,true,false,false,true,true,true,true,true,false,false,false]=true:=(ovB_alt (by kernel_rfl) (ovB_at (by kernel_rfl) answered_ok_o3_4x_c) (ovB_last (ovB_at (by kernel_rfl) answered_ok_o3_1x_c)))
def answered_ok_o3_8x:OV:=(.take 12 (.one 10 (.one 11 (.take 13 .done))))
theorem answered_ok_o3_8x_c:ovB (opsOf 3 Tryz.f110.body) answered_ok_o3_8x 4 true #[true,true,true,true,true,true,true,true,true,true,false,false,false,false]=true:=(ovB_take (by kernel_rfl) (ovB_one (by kernel_rfl) (ovB_one (by kernel_rfl) (ovB_take (by kernel_rfl) (ovB_done (by kernel_rfl))))))
def answered_ok_o3_9x:OV:=(.alt 5 answered_ok_o3_8x (.one 10 answered_ok_o3_4x))
theorem answered_ok_o3_9x_c:ovB (opsOf 3 Tryz.f110.body) answered_ok_o3_9x 5 true #[true,true,true,true,true,false,true,true,true,true,false,false,false,false]=true:=(ovB_alt (by kernel_rfl) (ovB_at (by kernel_rfl) answered_ok_o3_8x_c) (ovB_last (ovB_at (by kernel_rfl) answered_ok_o3_4x_c)))
def answered_ok_o3_10x:OV:=(.take 2 (.take 3 (.alt 4 answered_ok_o3_9x (.one 10 answered_ok_o3_7x))))
theorem answered_ok_o3_10x_c:ovB (opsOf 3 Tryz.f110.body) answered_ok_o3_10x 8 true #[true,true,false,false,false,false,true,true,true,true,false,false,false,false]=true:=(ovB_take (by kernel_rfl) (ovB_take (by kernel_rfl) (ovB_alt (by kernel_rfl) (ovB_at (by kernel_rfl) answered_ok_o3_9x_c) (ovB_last (ovB_at (by kernel_rfl) answered_ok_o3_7x_c)))))
def answered_ok_o3_11x:OV:=(.take 8 (.take 9 (.alt 1 answered_ok_o3_10x (.one 10 answered_ok_o3_6x))))
theorem answered_ok_o3_11x_c:ovB (opsOf 3 Tryz.f110.body) answered_ok_o3_11x 11 true #[true,false,false,false,false,false,true,true,false,false,false,false,false,false]=true:=(ovB_take (by kernel_rfl) (ovB_take (by kernel_rfl) (ovB_alt (by kernel_rfl) (ovB_at (by kernel_rfl) answered_ok_o3_10x_c) (ovB_last (ovB_at (by kernel_rfl) answered_ok_o3_6x_c)))))
def answered_ok_o3_12x:OV:=(.take 8 (.take 9 (.alt 4 answered_ok_o3_9x (.one 10 answered_ok_o3_7x))))
theorem answered_ok_o3_12x_c:ovB (opsOf 3 Tryz.f110.body) answered_ok_o3_12x 8 true #[true,true,true,true,false,false,true,true,false,false,false,false,false,false]=true:=(ovB_take (by kernel_rfl) (ovB_take (by kernel_rfl) (ovB_alt (by kernel_rfl) (ovB_at (by kernel_rfl) answered_ok_o3_9x_c) (ovB_last (ovB_at (by kernel_rfl) answered_ok_o3_7x_c)))))
def answered_ok_o3_13x:OV:=(.take 8 (.take 9 (.alt 5 answered_ok_o3_8x (.one 10 answered_ok_o3_4x))))
theorem answered_ok_o3_13x_c:ovB (opsOf 3 Tryz.f110.body) answered_ok_o3_13x 7 true #[true,true,true,true,true,false,true,true,false,false,false,false,false,false]=true:=(ovB_take (by kernel_rfl) (ovB_take (by kernel_rfl) (ovB_alt (by kernel_rfl) (ovB_at (by kernel_rfl) answered_ok_o3_8x_c) (ovB_last (ovB_at (by kernel_rfl) answered_ok_o3_4x_c)))))
def answered_ok_o3_14x:OV:=(.take 12 (.one 7 (.take 8 (.take 9 (.one 10 (.one 11 (.take 13 .done)))))))
theorem answered_ok_o3_14x_c:ovB (opsOf 3 Tryz.f110.body) answered_ok_o3_14x 7 true #[true,true,true,true,true,true,true,false,false,false,false,false,false,false]=true:=(ovB_take (by kernel_rfl) (ovB_one (by kernel_rfl) (ovB_take (by kernel_rfl) (ovB_take (by kernel_rfl) (ovB_one (by kernel_rfl) (ovB_one (by kernel_rfl) (ovB_take (by kernel_rfl) (ovB_done (by kernel_rfl)))))))))
def answered_ok_o3_15x:OV:=(.alt 5 answered_ok_o3_14x (.one 7 answered_ok_o3_13x))
theorem answered_ok_o3_15x_c:ovB (opsOf 3 Tryz.f110.body) answered_ok_o3_15x 8 true #[true,true,true,true,true,false,true,false,false,false,false,false,false,false]=true:=(ovB_alt (by kernel_rfl) (ovB_at (by kernel_rfl) answered_ok_o3_14x_c) (ovB_last (ovB_at (by kernel_rfl) answered_ok_o3_13x_c)))
def answered_ok_o3_16x:OV:=(.take 2 (.take 3 (.alt 4 answered_ok_o3_15x (.one 7 answered_ok_o3_12x))))
theorem answered_ok_o3_16x_c:ovB (opsOf 3 Tryz.f110.body) answered_ok_o3_16x 11 true #[true,true,false,false,false,false,true,false,false,false,false,false,false,false]=true:=(ovB_take (by kernel_rfl) (ovB_take (by kernel_rfl) (ovB_alt (by kernel_rfl) (ovB_at (by kernel_rfl) answered_ok_o3_15x_c) (ovB_last (ovB_at (by kernel_rfl) answered_ok_o3_12x_c)))))
def answered_ok_o3_17x:OV:=(.take 0 (.take 6 (.alt 1 answered_ok_o3_16x (.one 7 answered_ok_o3_11x))))
theorem answered_ok_o3_17x_c:ovB (opsOf 3 Tryz.f110.body) answered_ok_o3_17x 14 true #[false,false,false,false,false,false,false,false,false,false,false,false,false,false]=true:=(ovB_take (by kernel_rfl) (ovB_take (by kernel_rfl) (ovB_alt (by kernel_rfl) (ovB_at (by kernel_rfl) answered_ok_o3_16x_c) (ovB_last (ovB_at (by kernel_rfl) answered_ok_o3_11x_c)))))
def answered_ok_o3_18x:OV:=.done
set_option maxHeartbeats 400000 in
theorem answered_ok (a b:St) (k p Tp:Nat) (fv wv:Value) (W:List Bool) (rest step:Nat) (w:World) (hp:w.heap[p]?=some (.cells #[.int .i64 a.n,str a.set,str a.rel,.int .i64 b.n,str b.set,str b.rel,.int .i64 (k:Int),.int .i64 ((prN a b:Nat):Int),fv,wv,.bool false] Tp (0,0))) (hwv:Bools w wv W) (hVa:validB a=true) (hVb:validB b=true) (hWl:W.length≤300000) (hq:∀ q:Nat,q<prN a b→rest+step*q<W.length) :
    Calls Tryz.prog 110 [.pointer (some ⟨p,0,none⟩),i6_ (rest:Int),i6_ (step:Int)].toArray w fun en w'=>en=.returned (.bool (ansB (fun s=>W.getD s false) a.n.toNat b.n.toNat rest step))∧Below w.heap.size w w':=by
 refine fnStart (n:=77) (e:=[(0,.pointer (some ⟨p,0,none⟩)),(1,i6_ (rest:Int)),(2,i6_ (step:Int))]) Tryz.func110 Z Z Z Z Ends.both ?_
 have ha:=validB_fine hVa
 have hb:=validB_fine hVb
 have hm8:=ha.hi
 have hm1:=ha.lo
 have hb8:=hb.hi
 have hb1:=hb.lo
 have hpr:=prN_le (a:=a) (b:=b) (by omega) (by omega)
 have hpp:=prN_pos a b;refine zF (zB (zC 1 Z (zH (zD [0,1,2] [_,_,_] Z (zF (zF (zB (zC 1 Z (zE (v:=.pointer (some ⟨p,0,none⟩)) Z (zP Z Z) (zE Z (zG Z yG Z vQ Z Z) (zE (v:=bo_ false) Z (qN Z Tryz.isAgg4 Z (fun w1 hw1=>at_box hp hw1 10 Z)) (zH (zD [0,1,2,14] [_,_,_,_] Z (jN Z (qR (zD [0,1,2] [_,_,_] Z (zF (Wk.regionV (S:=Own w.heap.size w []) answered_ok_o3_17x yC (fun _ h=>h.drawn) (ovOk_at (by kernel_rfl) (by kernel_rfl) (by kernel_rfl) (by kernel_rfl) answered_ok_o3_17x_c) (Lv.share (σ:=Nat×Nat) answered_ok_o3_18x (fun ⟨p24,p30⟩=>True) (fun ⟨p24,p30⟩=>[(0,.pointer (some ⟨p,0,none⟩)),(1,i6_ (rest:Int)),(2,i6_ (step:Int)),(7,sl_ p24 a.n.toNat a.n.toNat),(8,sl_ p30 b.n.toNat b.n.toNat)]) (fun ⟨p24,p30⟩=>Own w.heap.size w [bk_ p24 ((List.replicate a.n.toNat (bo_ false)).toArray) 4,bk_ p30 ((List.replicate b.n.toNat (bo_ false)).toArray) 4]) ?_ fun H3_=>?_)))))))))))))))))))
 ·
  rintro ⟨p24,p30⟩ -
  dsimp only;refine Lv.nil (zD [0,1,2,7,8] [_,_,_,_,_] Z (zF (zF (zB (zC 1 Z (zE Z (kD Z xR Z) (zC 1 Z (zH (zD [0,1,2,7,8,32,33] [_,_,_,_,_,_,_] Z (qW (xM (σ:=Nat×List Bool×List Bool) (fun ⟨x,R,C⟩=>x≤a.n.toNat∧Marks (fun x y=>W.getD (rest+step*(1+x*b.n.toNat+y)) false) a.n.toNat b.n.toNat x 0 R C) (fun ⟨x,R,C⟩=>[(0,.pointer (some ⟨p,0,none⟩)),(1,i6_ (rest:Int)),(2,i6_ (step:Int)),(7,sl_ p24 a.n.toNat a.n.toNat),(8,sl_ p30 b.n.toNat b.n.toNat),(32,i6_ (a.n.toNat:Int)),(33,i6_ (x:Int))]) (fun ⟨x,R,C⟩=>Own w.heap.size w [bk_ p24 ((R.map Value.bool).toArray) 4,bk_ p30 ((C.map Value.bool).toArray) 4]) (fun ⟨x,R,C⟩=>a.n.toNat - x) (0,List.replicate a.n.toNat false,List.replicate b.n.toNat false) ⟨by omega,marks_zero _ _ _⟩ (Sub.sel [0,1,2,7,8,32,33] Z) (fun _ h=>by simpa using h) ?_)))))))))))
  rintro ⟨x,R,C⟩ ⟨hx,hMk⟩
  dsimp only
  have hRl:=hMk.rl
  have hCl:=hMk.cl;refine zF (zB (zC 1 Z (zH (zD [0,1,2,7,8,32,33,34] [_,_,_,_,_,_,_,_] Z (zF (yF (b:=decide ((x:Int)<(a.n.toNat:Int))) Z (fun h34=>?_) (fun h34=>?_)))))))
  ·
   replace h34:=zV h34
   have hxn:x<a.n.toNat:=by omega
   refine qR (zD [0,1,2,7,8,32,33] [_,_,_,_,_,_,_] Z (zF (qW (zF (zB (zC 2 Z (zH (zD [0,1,2,7,8,9,32,33] [_,_,_,_,_,_,_,_] Z (zF (zB (zC 1 Z (zE Z (kD Z xR Z) (zC 1 Z (zH (zD [0,1,2,7,8,9,32,33,37,38] [_,_,_,_,_,_,_,_,_,_] Z (qW (xM (σ:=Nat×List Bool×List Bool) (fun ⟨y,R,C⟩=>y≤b.n.toNat∧Marks (fun x y=>W.getD (rest+step*(1+x*b.n.toNat+y)) false) a.n.toNat b.n.toNat x y R C) (fun ⟨y,R,C⟩=>[(0,.pointer (some ⟨p,0,none⟩)),(1,i6_ (rest:Int)),(2,i6_ (step:Int)),(7,sl_ p24 a.n.toNat a.n.toNat),(8,sl_ p30 b.n.toNat b.n.toNat),(9,i6_ (x:Int)),(32,i6_ (a.n.toNat:Int)),(33,i6_ (x:Int)),(37,i6_ (b.n.toNat:Int)),(38,i6_ (y:Int))]) (fun ⟨y,R,C⟩=>Own w.heap.size w [bk_ p24 ((R.map Value.bool).toArray) 4,bk_ p30 ((C.map Value.bool).toArray) 4]) (fun ⟨y,R,C⟩=>b.n.toNat - y) (0,R,C) ⟨by omega,hMk⟩ (Sub.sel [0,1,2,7,8,9,32,33,37,38] Z) (fun _ h=>h) ?_)))))))))))))))))
   rintro ⟨y,R,C⟩ ⟨hy,hMk⟩
   dsimp only
   have hRl:=hMk.rl
   have hCl:=hMk.cl;refine zF (zB (zC 1 Z (zH (zD [0,1,2,7,8,9,32,33,37,38,39] [_,_,_,_,_,_,_,_,_,_,_] Z (zF (yF (b:=decide ((y:Int)<(b.n.toNat:Int))) Z (fun h39=>?_) (fun h39=>?_)))))))
   ·
    replace h39:=zV h39
    have hyn:y<b.n.toNat:=by omega
    have hqq:=hq (1+x*b.n.toNat+y) (pair_lt hxn hyn)
    have hqm:(step:Int)*(((1+x*b.n.toNat+y):Nat):Int)=((step*(1+x*b.n.toNat+y):Nat):Int):=by rw [Int.natCast_mul]
    have hxb:=mul8 (x:=(x:Int)) (y:=b.n) (by omega) (by omega) (by omega) (by omega)
    have hxc:((x*b.n.toNat:Nat):Int)=(x:Int)*b.n:=by rw [Int.natCast_mul,Int.toNat_of_nonneg (by omega)]
    refine qR (zD [0,1,2,7,8,9,32,33,37,38] [_,_,_,_,_,_,_,_,_,_] Z (zF (qW (zF (zB (zC 2 Z (zH (zD [0,1,2,7,8,9,10,32,33,37,38] [_,_,_,_,_,_,_,_,_,_,_] Z (zF (xY yC (fun _ h=>h.drawn) (by kernel_rfl) (zC 1 Z (zE (v:=.pointer (some ⟨p,0,none⟩)) Z (zP Z Z) (zE Z (zG Z yG Z xU Z Z) (zE (v:=wv) Z (qN Z vU Z (fun w1 hw1=>at_box hp hw1 9 Z)) (zC 4 Z (zE (v:=.pointer (some ⟨p,0,none⟩)) Z (zP Z Z) (zE Z (zG Z yG Z zQ Z Z) (zE Z (zG Z zY Z zJ Z Z) (zE (v:=i6_ b.n) Z (qN Z zU Z (fun w1 hw1=>at_box hp hw1 3 Z)) (zE (v:=i6_ ((x*b.n.toNat:Nat):Int)) Z (yA (by rw [Int.natCast_mul,show ((b.n.toNat:Nat):Int)=b.n from by omega]) (uI Z Z Z (by omega) (by omega))) (zE Z (qT Z Z Z (by omega) (by omega)) (zC 1 Z (zE (v:=i6_ ((((1+x*b.n.toNat+y):Nat):Int))) Z (yA (by congr 1) (qT Z Z Z (by omega) (by omega))) (zE (v:=i6_ (((step*(1+x*b.n.toNat+y):Nat):Int))) Z (yA (by rw [← hqm]) (uI Z Z Z (by omega) (by omega))) (zE (v:=i6_ (((rest+step*(1+x*b.n.toNat+y):Nat):Int))) Z (yA (by congr 1) (qT Z Z Z (by omega) (by omega))) (zE (v:=.pointer (some (sAt wv (((rest+step*(1+x*b.n.toNat+y):Nat):Int))))) Z (yO Z xR vQ Z Z (by omega) (by rw [bools_length];omega) (fun w1 hw1=>Row.own hwv hw1)) (zE (v:=bo_ (W.getD (rest+step*(1+x*b.n.toNat+y)) false)) Z (yA Z (qN Z Tryz.isAgg4 Z (fun w1 hw1=>Bools.cell (Row.own hwv hw1) (by omega) (by omega)))) (zH (zD [0,1,2,7,8,9,10,32,33,37,38,60] [_,_,_,_,_,_,_,_,_,_,_,_] Z (yF (b:=W.getD (rest+step*(1+x*b.n.toNat+y)) false) Z (fun h60=>?_) (fun h60=>?_)))))))))))))))))))))))))))))))
    ·
     refine zF (qI (qL 2 Z (zO (v:=pf_ p24 ((x:Int).toNat)) Z (yA (by rw [Nat.zero_add]) (yZ (i:=(x:Int)) Z xR vQ Z Z (by omega) (by omega))) (qU (v:=bo_ true) (hs':=[bk_ p24 (((R.map Value.bool).set ((x:Int).toNat) (bo_ true)).toArray) 4,_]) 0 Z Z Z Z Z Z vQ Z (by first | (simp;done) | (simp;omega) | omega) (by first | (rw [list_set];rfl) | (simp only [Nat.zero_add];rw [list_set];rfl)) (zI (zD [0,1,2,7,8,9,10,32,33,37,38] [_,_,_,_,_,_,_,_,_,_,_] Z (qI (qL 2 Z (zO (v:=pf_ p30 ((y:Int).toNat)) Z (yA (by rw [Nat.zero_add]) (yZ (i:=(y:Int)) Z xR vQ Z Z (by omega) (by omega))) (qU (v:=bo_ true) (hs':=[_,bk_ p30 (((C.map Value.bool).set ((y:Int).toNat) (bo_ true)).toArray) 4]) 1 Z Z Z Z Z Z vQ Z (by first | (simp;done) | (simp;omega) | omega) (by first | (rw [list_set];rfl) | (simp only [Nat.zero_add];rw [list_set];rfl)) (zI (zD [0,1,2,7,8,9,32,33,37,38] [_,_,_,_,_,_,_,_,_,_] Z (zB (zE Z (qT Z Z Z (by omega) (by omega)) (zC 1 Z (zH (yL (y+1,R.set x true,C.set y true) ⟨by omega,marks_yes hMk (by omega) (by omega) (by simpa using h60)⟩ (by omega) (Sub.sel [0,1,2,7,8,9,32,33,37,38] Z) (fun _ h=>by rw [List.map_set,List.map_set];exact h))))))))))))))))))
    refine qR (zD [0,1,2,7,8,9,32,33,37,38] [_,_,_,_,_,_,_,_,_,_] Z (zB (zE Z (qT Z Z Z (by omega) (by omega)) (zC 1 Z (zH (yL (y+1,R,C) ⟨by omega,marks_no hMk (by simpa using h60)⟩ (by omega) (Sub.sel [0,1,2,7,8,9,32,33,37,38] Z) (fun _ h=>h)))))))
   replace h39:=zT h39
   have hye:y=b.n.toNat:=by omega
   refine yY Z (zD [0,1,2,7,8,32,33] [_,_,_,_,_,_,_] Z (zB (zE Z (qT Z Z Z (by omega) (by omega)) (zC 1 Z (zH (yL (x+1,R,C) ⟨by omega,marks_next (hye ▸ hMk)⟩ (by omega) (Sub.sel [0,1,2,7,8,32,33] Z) (fun _ h=>h)))))))
  replace h34:=zT h34
  obtain rfl:x=a.n.toNat:=by omega
  refine yY Z (zD [7,8] [_,_] Z (zF (zB (zC 1 Z (zE (v:=bo_ (decide (false∈R))) Z (qK Z Tryz.call151 Z qC (fun w1 hw1=>containsB_ok (sl_ p24 a.n.toNat a.n.toNat) R false w1 (yX hw1 (i:=0) Z (by rw [← hRl];exact bools_all R) (by simpa using hRl) (by omega)) (by omega))) (zC 2 Z (xD fun b72 hg72=>?_)))))))
  cases b72
  ·
   replace hg72:=not_false hg72;refine zM Z (zM Z (zM Z (zC 2 Z (zH (zD [6] [_] Z (qM (qQ Z Z fun w' hw=>?_)))))))
   exact ⟨ret_b (by rw [← marks_end hMk];simp [*]),hw.below⟩
  replace hg72:=not_true hg72;refine zC 1 Z (zE (v:=bo_ (decide (false∈C))) Z (qK Z Tryz.call151 Z qC (fun w1 hw1=>containsB_ok (sl_ p30 b.n.toNat b.n.toNat) C false w1 (yX hw1 (i:=1) Z (by rw [← hCl];exact bools_all C) (by simpa using hCl) (by omega)) (by omega))) (zC 3 Z (zH (zD [6] [_] Z (qM (qQ Z Z fun w' hw=>?_))))))
  exact ⟨ret_b (by rw [← marks_end hMk];simp [*]),hw.below⟩
 refine Lv.share (σ:=Nat) answered_ok_o3_8x (fun p24=>True) (fun p24=>[(0,.pointer (some ⟨p,0,none⟩)),(1,i6_ (rest:Int)),(2,i6_ (step:Int)),(24,sl_ p24 a.n.toNat a.n.toNat),(28,.pointer (some (⟨p,3,none⟩)))]) (fun p24=>Own w.heap.size w [bk_ p24 ((List.replicate a.n.toNat (bo_ false)).toArray) 4]) ?_ fun H3__1=>?_
 ·
  rintro p24 -;refine Lv.run 1 Z (fun _ h=>h.tail) (vV Z (zO (v:=i6_ (b.n.toNat:Int)) Z (yA (by rw [show ((b.n.toNat:Nat):Int)=b.n from by omega] <;> rfl) (qN Z zU Z (fun w1 hw1=>at_box hp hw1 3 Z))) (zI (jM (fun _ h=>h.tail) ?_))));refine vV Z (uY (k:=b.n.toNat) xW jP Z Z Z Z Z (by omega) fun p30 hp30=>?_)
  rw [show madeCells (Value.cells (bo_ false)) (b.n.toNat*1)=(List.replicate b.n.toNat (bo_ false)).toArray from made_list _ _ rfl];refine zI (jM (fun _ h=>h.tail.tail) ?_);refine Lv.run 1 Z (fun _ h=>h.tail.tail) ?_
  exact Lv.to (H3_ ⟨p24,p30⟩ trivial) (Sub.sel [0,1,2,7,8] rfl) (fun _ h=>kE (hs:=[_,_]) (hs':=[_,_]) h [1,0] rfl (by decide))
 refine Lv.share (σ:=Unit) answered_ok_o3_4x (fun _u=>True) (fun _u=>[(0,.pointer (some ⟨p,0,none⟩)),(1,i6_ (rest:Int)),(2,i6_ (step:Int)),(23,i6_ (a.n.toNat:Int)),(29,i6_ (b.n.toNat:Int))]) (fun _u=>Own w.heap.size w []) ?_ fun H3__2=>?_
 ·
  rintro _u -;refine Lv.alt Z ?_ (vV Z ?_)
  ·
   refine uY (k:=a.n.toNat) xW jP Z Z Z Z Z (by omega) fun p24 hp24=>?_
   rw [show madeCells (Value.cells (bo_ false)) (a.n.toNat*1)=(List.replicate a.n.toNat (bo_ false)).toArray from made_list _ _ rfl];refine zI (jM (fun _ h=>h.tail) ?_);refine Lv.run 1 Z (fun _ h=>h.tail) (vV Z (uY (k:=b.n.toNat) xW jP Z Z Z Z Z (by omega) fun p30_1 hp30_1=>?_))
   rw [show madeCells (Value.cells (bo_ false)) (b.n.toNat*1)=(List.replicate b.n.toNat (bo_ false)).toArray from made_list _ _ rfl];refine zI (jM (fun _ h=>h.tail.tail) ?_);refine Lv.run 1 Z (fun _ h=>h.tail.tail) ?_
   exact Lv.to (H3_ ⟨p24,p30_1⟩ trivial) (Sub.sel [0,1,2,7,8] rfl) (fun _ h=>kE (hs:=[_,_]) (hs':=[_,_]) h [1,0] rfl (by decide))
  refine uY (k:=b.n.toNat) xW jP Z Z Z Z Z (by omega) fun p30_2 hp30_2=>?_
  rw [show madeCells (Value.cells (bo_ false)) (b.n.toNat*1)=(List.replicate b.n.toNat (bo_ false)).toArray from made_list _ _ rfl];refine zI (jM (fun _ h=>h.tail) ?_);refine vV Z (uY (k:=a.n.toNat) xW jP Z Z Z Z Z (by omega) fun p24_1 hp24_1=>?_)
  rw [show madeCells (Value.cells (bo_ false)) (a.n.toNat*1)=(List.replicate a.n.toNat (bo_ false)).toArray from made_list _ _ rfl];refine zI (jM (fun _ h=>h.tail.tail) ?_);refine Lv.run 2 Z (fun _ h=>h.tail.tail) ?_
  exact Lv.to (H3_ ⟨p24_1,p30_2⟩ trivial) (Sub.sel [0,1,2,7,8] rfl) (fun _ h=>h)
 refine Lv.share (σ:=Nat) answered_ok_o3_1x (fun p30=>True) (fun p30=>[(0,.pointer (some ⟨p,0,none⟩)),(1,i6_ (rest:Int)),(2,i6_ (step:Int)),(22,.pointer (some (⟨p,0,none⟩))),(30,sl_ p30 b.n.toNat b.n.toNat)]) (fun p30=>Own w.heap.size w [bk_ p30 ((List.replicate b.n.toNat (bo_ false)).toArray) 4]) ?_ fun H3__3=>?_
 ·
  rintro p30 -;refine vV Z (zO (v:=i6_ (a.n.toNat:Int)) Z (yA (by rw [show ((a.n.toNat:Nat):Int)=a.n from by omega] <;> rfl) (qN Z zU Z (fun w1 hw1=>at_box hp hw1 0 Z))) (zI (jM (fun _ h=>h.tail) ?_)));refine vV Z (uY (k:=a.n.toNat) xW jP Z Z Z Z Z (by omega) fun p24_2 hp24_2=>?_)
  rw [show madeCells (Value.cells (bo_ false)) (a.n.toNat*1)=(List.replicate a.n.toNat (bo_ false)).toArray from made_list _ _ rfl];refine zI (jM (fun _ h=>h.tail.tail) ?_);refine Lv.run 2 Z (fun _ h=>h.tail.tail) ?_
  exact Lv.to (H3_ ⟨p24_2,p30⟩ trivial) (Sub.sel [0,1,2,7,8] rfl) (fun _ h=>h)
 refine Lv.share (σ:=Unit) answered_ok_o3_9x (fun _u=>True) (fun _u=>[(0,.pointer (some ⟨p,0,none⟩)),(1,i6_ (rest:Int)),(2,i6_ (step:Int)),(23,i6_ (a.n.toNat:Int)),(28,.pointer (some (⟨p,3,none⟩)))]) (fun _u=>Own w.heap.size w []) ?_ fun H3__4=>?_
 ·
  rintro _u -;refine Lv.alt Z ?_ (vV Z ?_)
  ·
   refine uY (k:=a.n.toNat) xW jP Z Z Z Z Z (by omega) fun p24_3 hp24_3=>?_
   rw [show madeCells (Value.cells (bo_ false)) (a.n.toNat*1)=(List.replicate a.n.toNat (bo_ false)).toArray from made_list _ _ rfl];refine zI (jM (fun _ h=>h.tail) ?_)
   exact Lv.to (H3__1 p24_3 trivial) (Sub.sel [0,1,2,24,28] rfl) (fun _ h=>h)
  refine zO (v:=i6_ (b.n.toNat:Int)) Z (yA (by rw [show ((b.n.toNat:Nat):Int)=b.n from by omega] <;> rfl) (qN Z zU Z (fun w1 hw1=>at_box hp hw1 3 Z))) (zI (jM (fun _ h=>h) ?_))
  exact Lv.to (H3__2 () trivial) (Sub.sel [0,1,2,23,29] rfl) (fun _ h=>h)
 refine Lv.share (σ:=Unit) answered_ok_o3_7x (fun _u=>True) (fun _u=>[(0,.pointer (some ⟨p,0,none⟩)),(1,i6_ (rest:Int)),(2,i6_ (step:Int)),(22,.pointer (some (⟨p,0,none⟩))),(29,i6_ (b.n.toNat:Int))]) (fun _u=>Own w.heap.size w []) ?_ fun H3__5=>?_
 ·
  rintro _u -;refine Lv.alt Z ?_ (vV Z ?_)
  ·
   refine zO (v:=i6_ (a.n.toNat:Int)) Z (yA (by rw [show ((a.n.toNat:Nat):Int)=a.n from by omega] <;> rfl) (qN Z zU Z (fun w1 hw1=>at_box hp hw1 0 Z))) (zI (jM (fun _ h=>h) ?_))
   exact Lv.to (H3__2 () trivial) (Sub.sel [0,1,2,23,29] rfl) (fun _ h=>h)
  refine uY (k:=b.n.toNat) xW jP Z Z Z Z Z (by omega) fun p30_3 hp30_3=>?_
  rw [show madeCells (Value.cells (bo_ false)) (b.n.toNat*1)=(List.replicate b.n.toNat (bo_ false)).toArray from made_list _ _ rfl];refine zI (jM (fun _ h=>h.tail) ?_)
  exact Lv.to (H3__3 p30_3 trivial) (Sub.sel [0,1,2,22,30] rfl) (fun _ h=>h)
 refine Lv.run 2 Z (fun _ h=>h) (Lv.alt Z ?_ (vV Z ?_))
 ·
  refine zO (v:=.pointer (some ⟨p,0,none⟩)) Z (zP Z Z) (zI (jM (fun _ h=>h) ?_));refine kC Z Z Z Z Z (zG Z yG Z zQ Z Z) (fun _ h=>h) (kC Z Z Z Z Z (zG Z zY Z zJ Z Z) (fun _ h=>h) (Lv.alt Z ?_ (vV Z ?_)))
  ·
   refine zO (v:=i6_ (a.n.toNat:Int)) Z (yA (by rw [show ((a.n.toNat:Nat):Int)=a.n from by omega] <;> rfl) (qN Z zU Z (fun w1 hw1=>at_box hp hw1 0 Z))) (zI (jM (fun _ h=>h) ?_));refine Lv.alt Z ?_ (vV Z ?_)
   ·
    refine uY (k:=a.n.toNat) xW jP Z Z Z Z Z (by omega) fun p24_4 hp24_4=>?_
    rw [show madeCells (Value.cells (bo_ false)) (a.n.toNat*1)=(List.replicate a.n.toNat (bo_ false)).toArray from made_list _ _ rfl];refine zI (jM (fun _ h=>h.tail) ?_);refine Lv.run 1 Z (fun _ h=>h.tail) (vV Z (zO (v:=.pointer (some ⟨p,0,none⟩)) Z (zP Z Z) (zI (jM (fun _ h=>h.tail) ?_))));refine kC Z Z Z Z Z (zG Z yG Z zQ Z Z) (fun _ h=>h.tail) (kC Z Z Z Z Z (zG Z zY Z zJ Z Z) (fun _ h=>h.tail) (vV Z (zO (v:=i6_ (b.n.toNat:Int)) Z (yA (by rw [show ((b.n.toNat:Nat):Int)=b.n from by omega] <;> rfl) (qN Z zU Z (fun w1 hw1=>at_box hp hw1 3 Z))) (zI (jM (fun _ h=>h.tail) ?_)))));refine vV Z (uY (k:=b.n.toNat) xW jP Z Z Z Z Z (by omega) fun p30_4 hp30_4=>?_)
    rw [show madeCells (Value.cells (bo_ false)) (b.n.toNat*1)=(List.replicate b.n.toNat (bo_ false)).toArray from made_list _ _ rfl];refine zI (jM (fun _ h=>h.tail.tail) ?_);refine Lv.run 1 Z (fun _ h=>h.tail.tail) ?_
    exact Lv.to (H3_ ⟨p24_4,p30_4⟩ trivial) (Sub.sel [0,1,2,7,8] rfl) (fun _ h=>kE (hs:=[_,_]) (hs':=[_,_]) h [1,0] rfl (by decide))
   refine zO (v:=.pointer (some ⟨p,0,none⟩)) Z (zP Z Z) (zI (jM (fun _ h=>h) ?_));refine kC Z Z Z Z Z (zG Z yG Z zQ Z Z) (fun _ h=>h) (kC Z Z Z Z Z (zG Z zY Z zJ Z Z) (fun _ h=>h) (Lv.alt Z ?_ (vV Z ?_)))
   ·
    refine uY (k:=a.n.toNat) xW jP Z Z Z Z Z (by omega) fun p24_5 hp24_5=>?_
    rw [show madeCells (Value.cells (bo_ false)) (a.n.toNat*1)=(List.replicate a.n.toNat (bo_ false)).toArray from made_list _ _ rfl];refine zI (jM (fun _ h=>h.tail) ?_)
    exact Lv.to (H3__1 p24_5 trivial) (Sub.sel [0,1,2,24,28] rfl) (fun _ h=>h)
   refine zO (v:=i6_ (b.n.toNat:Int)) Z (yA (by rw [show ((b.n.toNat:Nat):Int)=b.n from by omega] <;> rfl) (qN Z zU Z (fun w1 hw1=>at_box hp hw1 3 Z))) (zI (jM (fun _ h=>h) ?_))
   exact Lv.to (H3__2 () trivial) (Sub.sel [0,1,2,23,29] rfl) (fun _ h=>h)
  refine zO (v:=.pointer (some ⟨p,0,none⟩)) Z (zP Z Z) (zI (jM (fun _ h=>h) ?_));refine kC Z Z Z Z Z (zG Z yG Z zQ Z Z) (fun _ h=>h) (kC Z Z Z Z Z (zG Z zY Z zJ Z Z) (fun _ h=>h) (Lv.alt Z ?_ (vV Z ?_)))
  ·
   refine zO (v:=i6_ (a.n.toNat:Int)) Z (yA (by rw [show ((a.n.toNat:Nat):Int)=a.n from by omega] <;> rfl) (qN Z zU Z (fun w1 hw1=>at_box hp hw1 0 Z))) (zI (jM (fun _ h=>h) ?_))
   exact Lv.to (H3__4 () trivial) (Sub.sel [0,1,2,23,28] rfl) (fun _ h=>h)
  refine zO (v:=i6_ (b.n.toNat:Int)) Z (yA (by rw [show ((b.n.toNat:Nat):Int)=b.n from by omega] <;> rfl) (qN Z zU Z (fun w1 hw1=>at_box hp hw1 3 Z))) (zI (jM (fun _ h=>h) ?_))
  exact Lv.to (H3__5 () trivial) (Sub.sel [0,1,2,22,29] rfl) (fun _ h=>h)
 refine zO (v:=.pointer (some ⟨p,0,none⟩)) Z (zP Z Z) (zI (jM (fun _ h=>h) ?_));refine kC Z Z Z Z Z (zG Z yG Z zQ Z Z) (fun _ h=>h) (kC Z Z Z Z Z (zG Z zY Z zJ Z Z) (fun _ h=>h) (Lv.alt Z ?_ (vV Z ?_)))
 ·
  refine zO (v:=.pointer (some ⟨p,0,none⟩)) Z (zP Z Z) (zI (jM (fun _ h=>h) ?_));refine kC Z Z Z Z Z (zG Z yG Z zQ Z Z) (fun _ h=>h) (kC Z Z Z Z Z (zG Z zY Z zJ Z Z) (fun _ h=>h) (Lv.alt Z ?_ (vV Z ?_)))
  ·
   refine zO (v:=i6_ (a.n.toNat:Int)) Z (yA (by rw [show ((a.n.toNat:Nat):Int)=a.n from by omega] <;> rfl) (qN Z zU Z (fun w1 hw1=>at_box hp hw1 0 Z))) (zI (jM (fun _ h=>h) ?_))
   exact Lv.to (H3__4 () trivial) (Sub.sel [0,1,2,23,28] rfl) (fun _ h=>h)
  refine zO (v:=i6_ (b.n.toNat:Int)) Z (yA (by rw [show ((b.n.toNat:Nat):Int)=b.n from by omega] <;> rfl) (qN Z zU Z (fun w1 hw1=>at_box hp hw1 3 Z))) (zI (jM (fun _ h=>h) ?_))
  exact Lv.to (H3__5 () trivial) (Sub.sel [0,1,2,22,29] rfl) (fun _ h=>h)
 refine zO (v:=i6_ (b.n.toNat:Int)) Z (yA (by rw [show ((b.n.toNat:Nat):Int)=b.n from by omega] <;> rfl) (qN Z zU Z (fun w1 hw1=>at_box hp hw1 3 Z))) (zI (jM (fun _ h=>h) ?_));refine Lv.alt Z ?_ (vV Z ?_)
 ·
  refine zO (v:=.pointer (some ⟨p,0,none⟩)) Z (zP Z Z) (zI (jM (fun _ h=>h) ?_));refine kC Z Z Z Z Z (zG Z yG Z zQ Z Z) (fun _ h=>h) (kC Z Z Z Z Z (zG Z zY Z zJ Z Z) (fun _ h=>h) (Lv.alt Z ?_ (vV Z ?_)))
  ·
   refine zO (v:=i6_ (a.n.toNat:Int)) Z (yA (by rw [show ((a.n.toNat:Nat):Int)=a.n from by omega] <;> rfl) (qN Z zU Z (fun w1 hw1=>at_box hp hw1 0 Z))) (zI (jM (fun _ h=>h) ?_))
   exact Lv.to (H3__2 () trivial) (Sub.sel [0,1,2,23,29] rfl) (fun _ h=>h)
  refine uY (k:=b.n.toNat) xW jP Z Z Z Z Z (by omega) fun p30_5 hp30_5=>?_
  rw [show madeCells (Value.cells (bo_ false)) (b.n.toNat*1)=(List.replicate b.n.toNat (bo_ false)).toArray from made_list _ _ rfl];refine zI (jM (fun _ h=>h.tail) ?_)
  exact Lv.to (H3__3 p30_5 trivial) (Sub.sel [0,1,2,22,30] rfl) (fun _ h=>h)
 refine uY (k:=b.n.toNat) xW jP Z Z Z Z Z (by omega) fun p30_6 hp30_6=>?_
 rw [show madeCells (Value.cells (bo_ false)) (b.n.toNat*1)=(List.replicate b.n.toNat (bo_ false)).toArray from made_list _ _ rfl];refine zI (jM (fun _ h=>h.tail) ?_);refine vV Z (zO (v:=.pointer (some ⟨p,0,none⟩)) Z (zP Z Z) (zI (jM (fun _ h=>h.tail) ?_)));refine kC Z Z Z Z Z (zG Z yG Z zQ Z Z) (fun _ h=>h.tail) (kC Z Z Z Z Z (zG Z zY Z zJ Z Z) (fun _ h=>h.tail) (vV Z (zO (v:=i6_ (a.n.toNat:Int)) Z (yA (by rw [show ((a.n.toNat:Nat):Int)=a.n from by omega] <;> rfl) (qN Z zU Z (fun w1 hw1=>at_box hp hw1 0 Z))) (zI (jM (fun _ h=>h.tail) ?_)))));refine vV Z (uY (k:=a.n.toNat) xW jP Z Z Z Z Z (by omega) fun p24_6 hp24_6=>?_)
 rw [show madeCells (Value.cells (bo_ false)) (a.n.toNat*1)=(List.replicate a.n.toNat (bo_ false)).toArray from made_list _ _ rfl];refine zI (jM (fun _ h=>h.tail.tail) ?_);refine Lv.run 2 Z (fun _ h=>h.tail.tail) ?_
 exact Lv.to (H3_ ⟨p24_6,p30_6⟩ trivial) (Sub.sel [0,1,2,7,8] rfl) (fun _ h=>h)
set_option maxHeartbeats 400000 in
theorem listsAt_ok (a b:St) (k p Tp:Nat) (fv wv:Value) (s:Nat) (w:World) (hp:w.heap[p]?=some (.cells #[.int .i64 a.n,str a.set,str a.rel,.int .i64 b.n,str b.set,str b.rel,.int .i64 (k:Int),.int .i64 ((prN a b:Nat):Int),fv,wv,.bool false] Tp (0,0))) (hVa:validB a=true) (hVb:validB b=true) (hk3:k≤3) (hs:s≤300000) :
    Calls Tryz.prog 109 [.pointer (some ⟨p,0,none⟩),i6_ (s:Int)].toArray w fun en w'=>∃ v,en=.returned v∧Below w.heap.size w w'∧NewRows w.heap.size 3 3 w' v (placed (stX a b k s) k).length (ints (placed (stX a b k s) k)) (placed (stY a b k s) k).length (ints (placed (stY a b k s) k)):=by
 refine fnStart (n:=56) (e:=[(0,.pointer (some ⟨p,0,none⟩)),(1,i6_ (s:Int))]) Tryz.func109 Z Z Z Z Ends.both ?_
 have ha:=validB_fine hVa
 have hb:=validB_fine hVb
 have hm8:=ha.hi
 have hm1:=ha.lo
 have hb8:=hb.hi
 have hb1:=hb.lo
 have hpr:=prN_le (a:=a) (b:=b) (by omega) (by omega)
 have hpp:=prN_pos a b;refine zF (zB (zC 2 Z (zH (zD [0,1] [_,_] Z (zF (qI (yN (xs:=[]) (vs:=[]) yI Z Z Z Z Z Z (by decide) Z fun p9 hp9=>(yN (xs:=[]) (vs:=[]) yI Z Z Z Z Z Z (by decide) Z fun p10 hp10=>(qL 2 Z (zI (zD [0,1,6,7] [_,_,_,_] Z (zF (zF (zB (zC 1 Z (zE (v:=.pointer (some ⟨p,0,none⟩)) Z (zP Z Z) (zE Z (zG Z yG Z zJ Z Z) (zE (v:=i6_ (k:Int)) Z (qN Z zU Z (fun w1 hw1=>at_box hp hw1 6 Z)) (zC 1 Z (zH (zD [0,1,6,7,14,15] [_,_,_,_,_,_] Z (qW (xM (σ:=Nat×Nat×Nat×Nat×Array Value×Nat×Nat×Array Value) (fun ⟨i,N,g1,c1,u1,g2,c2,u2⟩=>i≤k∧(N=s / prN a b ^ i∧N≤300000)∧(u1.size=c1*1∧(placed (stX a b k s) i).length≤c1∧u1.toList.take (placed (stX a b k s) i).length=ints (placed (stX a b k s) i))∧(u2.size=c2*1∧(placed (stY a b k s) i).length≤c2∧u2.toList.take (placed (stY a b k s) i).length=ints (placed (stY a b k s) i))) (fun ⟨i,N,g1,c1,u1,g2,c2,u2⟩=>[(0,.pointer (some ⟨p,0,none⟩)),(1,i6_ (N:Int)),(6,sl_ g1 ((placed (stX a b k s) i).length) c1),(7,sl_ g2 ((placed (stY a b k s) i).length) c2),(14,i6_ (k:Int)),(15,i6_ (i:Int))]) (fun ⟨i,N,g1,c1,u1,g2,c2,u2⟩=>Own w.heap.size w [bk_ g1 u1 3,bk_ g2 u2 3]) (fun ⟨i,N,g1,c1,u1,g2,c2,u2⟩=>k - i) (0,s,p9,0,#[],p10,0,#[]) ⟨by omega,⟨by simp,hs⟩,⟨rfl,Nat.le_refl _,rfl⟩,⟨rfl,Nat.le_refl _,rfl⟩⟩ (Sub.cons Z (Sub.cons Z (Sub.cons Z (Sub.cons Z (Sub.sel [14,15] Z))))) (fun _ h=>h.pick [1,0] Z (by decide)) ?_)))))))))))))))))))))))
 rintro ⟨i,N,g1,c1,u1,g2,c2,u2⟩ ⟨hi,⟨hN,hN3⟩,⟨hc1,hl1,ht1⟩,⟨hc2,hl2,ht2⟩⟩
 dsimp only
 have hp1:=placed_le (stX a b k s) i
 have hp2:=placed_le (stY a b k s) i
 have hNd:=Nat.div_le_self N (prN a b);refine zF (zB (zC 1 Z (zH (zD [0,1,6,7,14,15,16] [_,_,_,_,_,_,_] Z (zF (yF (b:=decide ((i:Int)<(k:Int))) Z (fun h16=>?_) (fun h16=>?_)))))))
 ·
  replace h16:=zV h16
  have hik:i<k:=by omega
  obtain ⟨hdx0,hdx1,hdx2⟩:=dig_x (a:=a) (b:=b) (s:=s) hik
  obtain ⟨hdy0,hdy1,hdy2⟩:=dig_y (a:=a) (b:=b) (s:=s) (by omega) hik
  have hdl:=dig_lt (s:=s) (i:=i) hpp;refine qR (zD [0,1,6,7,14,15] [_,_,_,_,_,_] Z (zF (qW (zF (zF (zB (zC 2 Z (zE (v:=.pointer (some ⟨p,0,none⟩)) Z (zP Z Z) (zE Z (zG Z yG Z zJ Z Z) (zE (v:=i6_ ((prN a b:Nat):Int)) Z (qN Z zU Z (fun w1 hw1=>at_box hp hw1 7 Z)) (zE (v:=i6_ (((dig (prN a b) s i):Int))) Z (yA (by rw [show (dig (prN a b) s i)=N % prN a b from by rw [hN];rfl];rfl) (OpQ.rem Z Z Z (by omega) (by omega))) (zC 1 Z (zH (zD [0,1,6,7,8,14,15] [_,_,_,_,_,_,_] Z (zF (zB (zC 2 Z (zH (zD [0,1,6,7,8,14,15,24] [_,_,_,_,_,_,_,_] Z (yF (b:=decide ((0:Int)<(((dig (prN a b) s i):Int)))) Z (fun h24=>?_) (fun h24=>?_)))))))))))))))))))))
  ·
   replace h24:=zV h24
   have hpx:=placed_pos (xs:=stX a b k s) (k:=i) (by omega)
   have hpy:=placed_pos (xs:=stY a b k s) (k:=i) (by omega);refine zF (qI (qL 2 Z (zO Z (jV Z Z Z (by omega) (by omega)) (qL 1 Z (zO (v:=.pointer (some ⟨p,0,none⟩)) Z (zP Z Z) (zO Z (zG Z yG Z zQ Z Z) (zO Z (zG Z zY Z zJ Z Z) (zO (v:=i6_ b.n) Z (qN Z zU Z (fun w1 hw1=>at_box hp hw1 3 Z)) (zO (v:=i6_ ((stX a b k s).getD i 0)) Z (yA (dig_xv (a:=a) (b:=b) (k:=k) (s:=s) hik (by omega) Z (by omega)) (OpQ.quo Z Z Z (by omega) (by omega) (by omega))) (yN (xs:=[.tmp 33]) (vs:=[i6_ ((stX a b k s).getD i 0)]) yI Z Z Z Z Z Z (by decide) Z fun p34 hp34=>(xH (xs:=(placed (stX a b k s) i)) (ys:=[(stX a b k s).getD i 0]) yI 1 Z Z Z Z Z Z Z hc1 hl1 ht1 (fun w1 hw1=>(yX hw1 (i:=0) Z (n:=1) (cap:=1) (vs:=ints [(stX a b k s).getD i 0]) Z Z (by decide))) (((placed (stX a b k s) i)++([(stX a b k s).getD i 0])).length) (by first | (simp;done) | (simp;omega)) (by first | (simp;done) | (simp;omega) | omega) fun p35 cap35 cur35 hp35 hcp35 hlp35 htp35=>?_)))))))))))
   show Ll _ _ (Own _ _ [_,_,_]) _ _ ((35,sl_ p35 ((((placed (stX a b k s) i)++([(stX a b k s).getD i 0])).length)) cap35)::_) _ _ _;refine qL 1 Z (zI (zD [0,1,6,7,8,14,15] [_,_,_,_,_,_,_] Z (qI (qL 2 Z (zO Z (jV Z Z Z (by omega) (by omega)) (qL 1 Z (zO (v:=.pointer (some ⟨p,0,none⟩)) Z (zP Z Z) (zO Z (zG Z yG Z zQ Z Z) (zO Z (zG Z zY Z zJ Z Z) (zO (v:=i6_ b.n) Z (qN Z zU Z (fun w1 hw1=>at_box hp hw1 3 Z)) (zO (v:=i6_ ((stY a b k s).getD i 0)) Z (yA (dig_yv (a:=a) (b:=b) (k:=k) (s:=s) hik (by omega) Z (by omega)) (OpQ.rem Z Z Z (by omega) (by omega))) (yN (xs:=[.tmp 44]) (vs:=[i6_ ((stY a b k s).getD i 0)]) yI Z Z Z Z Z Z (by decide) Z fun p45 hp45=>(xH (xs:=(placed (stY a b k s) i)) (ys:=[(stY a b k s).getD i 0]) yI 3 Z Z Z Z Z Z Z hc2 hl2 ht2 (fun w1 hw1=>(yX hw1 (i:=0) Z (n:=1) (cap:=1) (vs:=ints [(stY a b k s).getD i 0]) Z Z (by decide))) (((placed (stY a b k s) i)++([(stY a b k s).getD i 0])).length) (by first | (simp;done) | (simp;omega)) (by first | (simp;done) | (simp;omega) | omega) fun p46 cap46 cur46 hp46 hcp46 hlp46 htp46=>?_)))))))))))))
   show Ll _ _ (Own _ _ [_,_,_,_]) _ _ ((46,sl_ p46 ((((placed (stY a b k s) i)++([(stY a b k s).getD i 0])).length)) cap46)::_) _ _ _;refine qL 1 Z (zI (zD [0,1,6,7,14,15] [_,_,_,_,_,_] Z (zB (zC 2 Z (zE (v:=.pointer (some ⟨p,0,none⟩)) Z (zP Z Z) (zE Z (zG Z yG Z zJ Z Z) (zE (v:=i6_ ((prN a b:Nat):Int)) Z (qN Z zU Z (fun w1 hw1=>at_box hp hw1 7 Z)) (zE (v:=i6_ ((N / prN a b:Nat):Int)) Z (yA (by rfl) (OpQ.quo Z Z Z (by omega) (by omega) (by omega))) (zC 1 Z (zH (zD [0,1,6,7,14,15] [_,_,_,_,_,_] Z (zB (zE Z (qT Z Z Z (by omega) (by omega)) (zC 1 Z (zH (yL (i+1,N / prN a b,p35,cap35,cur35,p46,cap46,cur46) ⟨by omega,⟨by rw [hN,dig_down],by dsimp only;omega⟩,⟨hcp35,by rw [hpx];simpa using hlp35,by rw [hpx];simpa using htp35⟩,⟨hcp46,by rw [hpy];simpa using hlp46,by rw [hpy];simpa using htp46⟩⟩ (by omega) (Sub.cons Z (Sub.cons Z (Sub.cons (by rw [hpx];simp [List.lookup]) (Sub.cons (by rw [hpy];simp [List.lookup]) (Sub.sel [14,15] Z))))) (fun _ h=>h.pick [2,3] Z (by decide))))))))))))))))))
  replace h24:=zT h24
  have hpx:=placed_neg (xs:=stX a b k s) (k:=i) (by omega)
  have hpy:=placed_neg (xs:=stY a b k s) (k:=i) (by omega);refine qR (zD [0,1,6,7,14,15] [_,_,_,_,_,_] Z (zB (zC 2 Z (zE (v:=.pointer (some ⟨p,0,none⟩)) Z (zP Z Z) (zE Z (zG Z yG Z zJ Z Z) (zE (v:=i6_ ((prN a b:Nat):Int)) Z (qN Z zU Z (fun w1 hw1=>at_box hp hw1 7 Z)) (zE (v:=i6_ ((N / prN a b:Nat):Int)) Z (yA (by rfl) (OpQ.quo Z Z Z (by omega) (by omega) (by omega))) (zC 1 Z (zH (zD [0,1,6,7,14,15] [_,_,_,_,_,_] Z (zB (zE Z (qT Z Z Z (by omega) (by omega)) (zC 1 Z (zH (yL (i+1,N / prN a b,g1,c1,u1,g2,c2,u2) ⟨by omega,⟨by rw [hN,dig_down],by dsimp only;omega⟩,⟨hc1,by rw [hpx];exact hl1,by rw [hpx];exact ht1⟩,⟨hc2,by rw [hpy];exact hl2,by rw [hpy];exact ht2⟩⟩ (by omega) (Sub.cons Z (Sub.cons Z (Sub.cons (by rw [hpx];rfl) (Sub.cons (by rw [hpy];rfl) (Sub.sel [14,15] Z))))) (fun _ h=>h))))))))))))))))
 replace h16:=zT h16;refine yY Z (zD [6,7] [_,_] Z (zF (zB (zC 4 Z (zH (zD [4,5] [_,_] Z (qM (xL Z Z Z fun w' hw=>?_))))))))
 obtain rfl:k=i:=by omega
 exact ⟨_,rfl,hw.below,hw.newRows (i:=0) (j:=1) rfl rfl (by decide) hc1 hl1 (by simpa using ht1) hc2 hl2 (by simpa using ht2)⟩
set_option maxHeartbeats 400000 in
theorem turn_ok (B:Nat) (w0:World) (hs:List (Nat×Obj)) (a b:St) (k n p gf cf:Nat) (uf:Array Value) (gw cw:Nat) (uw:Array Value) (w:World) (hVa:validB a=true) (hVb:validB b=true) (hk3:k≤3) (hlf:(WL 0 a b k).length≤cf) (htf:uf.toList.take (WL 0 a b k).length=bools (WL 0 a b k)) (hlw:(WL n a b k).length≤cw) (htw:uw.toList.take (WL n a b k).length=bools (WL n a b k)) (hw:Own B w0 (bk_ p #[i6_ a.n,str a.set,str a.rel,i6_ b.n,str b.set,str b.rel,i6_ (k:Int),i6_ ((prN a b:Nat):Int),sl_ gf ((WL 0 a b k).length) cf,sl_ gw ((WL n a b k).length) cw,bo_ false] 81::bk_ gf uf 4::bk_ gw uw 4::hs) w) :
    Calls Tryz.prog 62 [pt_ p].toArray w fun en w'=>∃ (g c:Nat) (u:Array Value),en=.returned (.bool (!(WL (n+1) a b k==WL n a b k)))∧(u.size=c*1∧(WL (n+1) a b k).length≤c∧u.toList.take (WL (n+1) a b k).length=bools (WL (n+1) a b k))∧Own B w0 (bk_ p #[i6_ a.n,str a.set,str a.rel,i6_ b.n,str b.set,str b.rel,i6_ (k:Int),i6_ ((prN a b:Nat):Int),sl_ gf ((WL 0 a b k).length) cf,sl_ g ((WL (n+1) a b k).length) c,bo_ false] 81::bk_ gf uf 4::bk_ g u 4::hs) w':=by
 refine fnStartC (Own B w0 (bk_ p #[i6_ a.n,str a.set,str a.rel,i6_ b.n,str b.set,str b.rel,i6_ (k:Int),i6_ ((prN a b:Nat):Int),sl_ gf ((WL 0 a b k).length) cf,sl_ gw ((WL n a b k).length) cw,bo_ false] 81::bk_ gf uf 4::bk_ gw uw 4::hs)) (n:=75) (e:=[(0,pt_ p)]) Tryz.func62 Z Z Z Z Ends.both hw ?_
 have ha:=validB_fine hVa
 have hb:=validB_fine hVb
 have hm8:=ha.hi
 have hm1:=ha.lo
 have hb8:=hb.hi
 have hb1:=hb.lo
 have hpr:=prN_le (a:=a) (b:=b) (by omega) (by omega)
 have hpp:=prN_pos a b
 have hNl:=pow65 hpr hk3
 have hWl:(WL 0 a b k).length=prN a b ^ k:=WL_len _ _ _ _
 have hWn:(WL n a b k).length=prN a b ^ k:=WL_len _ _ _ _
 have hWm:(WL (n+1) a b k).length=prN a b ^ k:=WL_len _ _ _ _;refine zF (zB (zC 1 Z (zH (zD [0] [_] Z (zF (qI (yN (xs:=[]) (vs:=[]) xW Z Z Z Z Z Z (by decide) Z fun p8 hp8=>(qL 1 Z (zO (v:=pt_ p) Z (zP Z Z) (zO Z (zG Z yG Z xU Z Z) (zO Z (zS 1 Z vU Z Z Z) (Ll.appendBools (xs:=([]:List Bool)) (ys:=(WL 0 a b k)) xW 0 Z Z Z Z Z Z Z Z (by decide) Z (fun w1 hw1=>(yX hw1 (i:=2) Z htf (by simp) hlf)) ((WL 0 a b k).length) (by first | (simp;done) | (simp;omega)) (by first | (simp;done) | (simp;omega) | omega) fun p13 cap13 cur13 hp13 hcp13 hlp13 htp13=>?_))))))))))))
 show Ll _ _ (Own _ _ (_::_::_::_::hs)) _ _ ((13,sl_ p13 ((WL 0 a b k).length) cap13)::_) _ _ _;refine qL 1 Z (zI (zD [0,3] [_,_] Z (zF (zB (zC 1 Z (zH (zD [0,3,4] [_,_,_] Z (zF (zF (zB (zC 1 Z (zE (v:=pt_ p) Z (zP Z Z) (zE Z (zG Z yG Z zJ Z Z) (zE Z (zS 1 Z zU Z Z Z) (zC 1 Z (zH (zD [0,3,4,17,18] [_,_,_,_,_] Z (qW (xM (σ:=Nat×Array Value×List Bool) (fun ⟨i,u,X⟩=>i≤k∧(u.size=cap13*1∧u.toList.take (WL 0 a b k).length=bools X)∧TurnAt (fun s=>(WL 0 a b k).getD s false) (fun s=>(WL n a b k).getD s false) a b k i 0 X) (fun ⟨i,u,X⟩=>[(0,pt_ p),(3,sl_ p13 ((WL 0 a b k).length) cap13),(4,i6_ ((prN a b ^ i:Nat):Int)),(17,i6_ (k:Int)),(18,i6_ (i:Int))]) (fun ⟨i,u,X⟩=>Own B w0 (bk_ p13 u 4::bk_ p #[i6_ a.n,str a.set,str a.rel,i6_ b.n,str b.set,str b.rel,i6_ (k:Int),i6_ ((prN a b:Nat):Int),sl_ gf ((WL 0 a b k).length) cf,sl_ gw ((WL n a b k).length) cw,bo_ false] 81::bk_ gf uf 4::bk_ gw uw 4::hs)) (fun ⟨i,u,X⟩=>k - i) (0,cur13,(WL 0 a b k)) ⟨by omega,⟨hcp13,by simpa using htp13⟩,turn_zero (by simp)⟩ (Sub.cons Z (Sub.cons Z (Sub.cons Z (Sub.sel [17,18] Z)))) (fun _ h=>h) ?_)))))))))))))))))))
 rintro ⟨i,u,X⟩ ⟨hi,⟨hcu,htu⟩,hX⟩
 dsimp only;refine zF (zB (zC 1 Z (zH (zD [0,3,4,17,18,19] [_,_,_,_,_,_] Z (zF (yF (b:=decide ((i:Int)<(k:Int))) Z (fun h19=>?_) (fun h19=>?_)))))))
 ·
  replace h19:=zV h19
  have hik:i<k:=by omega
  have hpi:0<prN a b ^ i:=Nat.pow_pos hpp
  have hpi3:=pow65 hpr (show i+1≤3 by omega)
  have hpm:((prN a b ^ i:Nat):Int)*((prN a b:Nat):Int)=((prN a b ^ (i+1):Nat):Int):=by rw [Nat.pow_succ,Int.natCast_mul]
  refine qR (zD [0,3,4,17,18] [_,_,_,_,_] Z (zF (qW (zF (zF (zB (zC 1 Z (zE Z (kD Z xR Z) (zC 1 Z (zH (zD [0,3,4,17,18,21,22] [_,_,_,_,_,_,_] Z (qW (xM (σ:=Nat×Array Value×List Bool) (fun ⟨S,u,X⟩=>S≤(prN a b ^ k)∧(u.size=cap13*1∧u.toList.take (WL 0 a b k).length=bools X)∧TurnAt (fun s=>(WL 0 a b k).getD s false) (fun s=>(WL n a b k).getD s false) a b k i S X) (fun ⟨S,u,X⟩=>[(0,pt_ p),(3,sl_ p13 ((WL 0 a b k).length) cap13),(4,i6_ ((prN a b ^ i:Nat):Int)),(17,i6_ (k:Int)),(18,i6_ (i:Int)),(21,i6_ ((((WL 0 a b k).length):Int))),(22,i6_ (S:Int))]) (fun ⟨S,u,X⟩=>Own B w0 (bk_ p13 u 4::bk_ p #[i6_ a.n,str a.set,str a.rel,i6_ b.n,str b.set,str b.rel,i6_ (k:Int),i6_ ((prN a b:Nat):Int),sl_ gf ((WL 0 a b k).length) cf,sl_ gw ((WL n a b k).length) cw,bo_ false] 81::bk_ gf uf 4::bk_ gw uw 4::hs)) (fun ⟨S,u,X⟩=>(prN a b ^ k) - S) (0,u,X) ⟨by omega,⟨hcu,htu⟩,hX⟩ (Sub.sel [0,3,4,17,18,21,22] Z) (fun _ h=>h) ?_)))))))))))))
  rintro ⟨S,u,X⟩ ⟨hS,⟨hcu,htu⟩,hX⟩
  dsimp only;refine zF (zB (zC 1 Z (zH (zD [0,3,4,17,18,21,22,23] [_,_,_,_,_,_,_,_] Z (zF (yF (b:=decide ((S:Int)<((((WL 0 a b k).length):Int)))) Z (fun h23=>?_) (fun h23=>?_)))))))
  ·
   replace h23:=zV h23
   have hSN:S<prN a b ^ k:=by omega
   have hS0:(0:Int)≤((S / prN a b ^ i:Nat):Int):=Int.natCast_nonneg _;refine qR (zD [0,3,4,17,18,21,22] [_,_,_,_,_,_,_] Z (zF (qW (zF (zB (zC 2 Z (zH (zD [0,3,4,5,17,18,21,22] [_,_,_,_,_,_,_,_] Z (zF (zF (xY yC (fun _ h=>h.drawn) (by kernel_rfl) (zC 2 Z (zE (v:=i6_ ((S / prN a b ^ i:Nat):Int)) Z (yA (by rfl) (OpQ.quo Z Z Z (by omega) (by omega) (by omega))) (zC 1 Z (zE (v:=pt_ p) Z (zP Z Z) (zE Z (zG Z yG Z zJ Z Z) (zE Z (zS 1 Z zU Z Z Z) (zE (v:=i6_ (dig (prN a b) S i:Int)) Z (yA (by rfl) (OpQ.rem Z Z Z (by omega) (by omega))) (zC 2 Z (xD fun b34 hg34=>?_))))))))))))))))))))
   cases b34
   ·
    replace hg34:=not_false hg34
    replace hg34:=zV hg34
    have hd0:dig (prN a b) S i=0:=by omega
    have hqs:∀ q:Nat,q<prN a b→S+prN a b ^ i*q<(WL n a b k).length:=fun q hq=>by rw [WL_len];exact put_lt hpp hd0 hq hik hSN
    refine zC 3 Z (zE (v:=bo_ (ansB (fun s=>(WL n a b k).getD s false) a.n.toNat b.n.toNat S (prN a b ^ i))) Z (qK Z Tryz.call110 Z qC (fun w1 hw1=>answered_ok a b k p 81 (sl_ gf ((WL 0 a b k).length) cf) (sl_ gw ((WL n a b k).length) cw) (WL n a b k) S (prN a b ^ i) w1 (hw1.has 1 _ _ Z).2 (yX hw1 (i:=3) Z htw (by simp) hlw) hVa hVb (by rw [WL_len];omega) hqs)) (zC 1 Z (zH (zD [0,3,4,5,17,18,21,22,39] [_,_,_,_,_,_,_,_,_] Z (yF (b:=ansB (fun s=>(WL n a b k).getD s false) a.n.toNat b.n.toNat S (prN a b ^ i)) Z (fun h39=>?_) (fun h39=>?_))))))
    ·
     refine yY Z (zD [0,3,4,17,18,21,22] [_,_,_,_,_,_,_] Z (zB (zE Z (qT Z Z Z (by omega) (by omega)) (zC 1 Z (zH (yL (S+1,u,X) ⟨by omega,⟨hcu,htu⟩,by first | exact turn_skip hX (by omega) | exact turn_yes hX (ansB_true.1 (by assumption)) | exact turn_no hX (by omega) (fun e=>by have:=ansB_true.2 e;simp_all) (hQe ▸ hC)⟩ (by omega) (Sub.sel [0,3,4,17,18,21,22] Z) (fun _ h=>h)))))))
    refine qR (zD [0,3,4,5,17,18,21,22] [_,_,_,_,_,_,_,_] Z (zF (zB (zC 1 Z (zE (v:=pt_ p) Z (zP Z Z) (zE Z (zG Z yG Z zJ Z Z) (zE Z (zS 1 Z zU Z Z Z) (zC 1 Z (zH (zD [0,3,4,5,17,18,21,22,43,44] [_,_,_,_,_,_,_,_,_,_] Z (qW (xM (σ:=Nat×Array Value×List Bool) (fun ⟨Q,u,Y⟩=>Q≤prN a b∧(u.size=cap13*1∧u.toList.take (WL 0 a b k).length=bools Y)∧Cleared X Y S (prN a b ^ i) Q) (fun ⟨Q,u,Y⟩=>[(0,pt_ p),(3,sl_ p13 ((WL 0 a b k).length) cap13),(4,i6_ ((prN a b ^ i:Nat):Int)),(5,i6_ (S:Int)),(17,i6_ (k:Int)),(18,i6_ (i:Int)),(21,i6_ ((((WL 0 a b k).length):Int))),(22,i6_ (S:Int)),(43,i6_ ((prN a b:Nat):Int)),(44,i6_ (Q:Int))]) (fun ⟨Q,u,Y⟩=>Own B w0 (bk_ p13 u 4::bk_ p #[i6_ a.n,str a.set,str a.rel,i6_ b.n,str b.set,str b.rel,i6_ (k:Int),i6_ ((prN a b:Nat):Int),sl_ gf ((WL 0 a b k).length) cf,sl_ gw ((WL n a b k).length) cw,bo_ false] 81::bk_ gf uf 4::bk_ gw uw 4::hs)) (fun ⟨Q,u,Y⟩=>prN a b - Q) (0,u,X) ⟨by omega,⟨hcu,htu⟩,clear_zero _ _ _⟩ (Sub.sel [0,3,4,5,17,18,21,22,43,44] Z) (fun _ h=>h) ?_))))))))))))
    rintro ⟨Q,u,Y⟩ ⟨hQ,⟨hcu,htu⟩,hC⟩
    dsimp only;refine zF (zB (zC 1 Z (zH (zD [0,3,4,5,17,18,21,22,43,44,45] [_,_,_,_,_,_,_,_,_,_,_] Z (zF (yF (b:=decide ((Q:Int)<((prN a b:Nat):Int))) Z (fun h45=>?_) (fun h45=>?_)))))))
    ·
     replace h45:=zV h45
     have hQp:Q<prN a b:=by omega
     have hQQ:=hqs Q hQp
     have hQm:((prN a b ^ i:Nat):Int)*(Q:Int)=((prN a b ^ i*Q:Nat):Int):=by rw [Int.natCast_mul]
     refine qR (zD [0,3,4,5,17,18,21,22,43,44] [_,_,_,_,_,_,_,_,_,_] Z (zF (qW (zF (zB (zC 2 Z (zH (zD [0,3,4,5,6,17,18,21,22,43,44] [_,_,_,_,_,_,_,_,_,_,_] Z (qI (qL 4 Z (zO (v:=i6_ ((prN a b ^ i*Q:Nat):Int)) Z (yA (by rw [hQm]) (uI Z Z Z (by omega) (by omega))) (zO (v:=i6_ ((S+prN a b ^ i*Q:Nat):Int)) Z (yA (by rfl) (qT Z Z Z (by omega) (by omega))) (zO (v:=pf_ p13 (((S+prN a b ^ i*Q:Nat):Int).toNat)) Z (yA (by rw [Nat.zero_add]) (yZ (i:=((S+prN a b ^ i*Q:Nat):Int)) Z xR vQ Z Z (by omega) (by omega))) (qU (v:=.bool false) (hs':=(bk_ p13 (u.setIfInBounds (S+prN a b ^ i*Q) (.bool false)) 4::_::_::_::hs)) 0 Z Z Z Z Z Z vQ Z (by rw [hcu];have:=hqs Q (by omega);omega) (by rfl) (zI (zD [0,3,4,5,17,18,21,22,43,44] [_,_,_,_,_,_,_,_,_,_] Z (zB (zE Z (qT Z Z Z (by omega) (by omega)) (zC 1 Z (zH (yL (Q+1,u.setIfInBounds (S+prN a b ^ i*Q) (.bool false),Y.set (S+prN a b ^ i*Q) false) ⟨by omega,⟨by simpa using hcu,row_put htu⟩,clear_next hC (by have:=hqs Q (by omega);rw [hX.len];omega)⟩ (by omega) (Sub.sel [0,3,4,5,17,18,21,22,43,44] Z) (fun _ h=>h))))))))))))))))))))))
    replace h45:=zT h45
    have hQe:Q=prN a b:=by omega
    refine yY Z (zD [0,3,4,17,18,21,22] [_,_,_,_,_,_,_] Z (zB (zE Z (qT Z Z Z (by omega) (by omega)) (zC 1 Z (zH (yL (S+1,u,Y) ⟨by omega,⟨hcu,htu⟩,by first | exact turn_skip hX (by omega) | exact turn_yes hX (ansB_true.1 (by assumption)) | exact turn_no hX (by omega) (fun e=>by have:=ansB_true.2 e;simp_all) (hQe ▸ hC)⟩ (by omega) (Sub.sel [0,3,4,17,18,21,22] Z) (fun _ h=>h)))))))
   replace hg34:=not_true hg34
   replace hg34:=zT hg34;refine zM Z (zM Z (zM Z (zM Z (zC 1 Z (zH (zD [0,3,4,5,17,18,21,22,39] [_,_,_,_,_,_,_,_,_] Z (yW Z (yY Z (zD [0,3,4,17,18,21,22] [_,_,_,_,_,_,_] Z (zB (zE Z (qT Z Z Z (by omega) (by omega)) (zC 1 Z (zH (yL (S+1,u,X) ⟨by omega,⟨hcu,htu⟩,by first | exact turn_skip hX (by omega) | exact turn_yes hX (ansB_true.1 (by assumption)) | exact turn_no hX (by omega) (fun e=>by have:=ansB_true.2 e;simp_all) (hQe ▸ hC)⟩ (by omega) (Sub.sel [0,3,4,17,18,21,22] Z) (fun _ h=>h)))))))))))))))
  replace h23:=zT h23
  have hSe:S=prN a b ^ k:=by omega
  refine yY Z (zD [0,3,4,17,18] [_,_,_,_,_] Z (zB (zC 2 Z (zE (v:=pt_ p) Z (zP Z Z) (zE Z (zG Z yG Z zJ Z Z) (zE Z (zS 1 Z zU Z Z Z) (zE (v:=i6_ (((prN a b ^ (i+1):Nat):Int))) Z (yA (by rw [hpm]) (uI Z Z Z (by omega) (by omega))) (zC 1 Z (zH (zD [0,3,4,17,18] [_,_,_,_,_] Z (zB (zE Z (qT Z Z Z (by omega) (by omega)) (zC 1 Z (zH (yL (i+1,u,X) ⟨by omega,⟨hcu,htu⟩,turn_round (hSe ▸ hX)⟩ (by omega) (Sub.cons Z (Sub.cons Z (Sub.cons (by rfl) (Sub.sel [17,18] Z)))) (fun _ h=>h))))))))))))))))
 replace h19:=zT h19
 have hie:i=k:=by omega
 have hXl:=hX.len;refine yY Z (zD [0,3] [_,_] Z (zF (zB (zC 2 Z (zE (v:=pt_ p) Z (zP Z Z) (zE Z (zG Z yG Z xU Z Z) (zE Z (zS 1 Z vU Z Z Z) (zE (v:=bo_ (X==(WL n a b k))) Z (qK Z Tryz.call111 Z qC (fun w1 hw1=>equalB_ok (sl_ p13 ((WL 0 a b k).length) cap13) (sl_ gw ((WL n a b k).length) cw) X (WL n a b k) w1 (yX hw1 (i:=0) Z htu (by simpa using hX.len) (by omega)) (yX hw1 (i:=3) Z htw (by simp) hlw) (by omega))) (zC 2 Z (zH (zD [0,3,7] [_,_,_] Z (zF (qI (qL 2 Z (zO (v:=pt_ p) Z (zP Z Z) (zO Z (zG Z yG Z xU Z Z) (qU (v:=sl_ p13 ((WL 0 a b k).length) cap13) (hs':=(_::bk_ p #[i6_ a.n,str a.set,str a.rel,i6_ b.n,str b.set,str b.rel,i6_ (k:Int),i6_ ((prN a b:Nat):Int),sl_ gf ((WL 0 a b k).length) cf,sl_ p13 ((WL 0 a b k).length) cap13,bo_ false] 81::_::_::hs)) 1 Z Z Z Z Z Z xU Z (by simp) Z (zI (zD [7] [_] Z (zF (zB (zC 2 Z (zH (zD [2] [_] Z (qM (qQ Z Z fun w' hw=>?_))))))))))))))))))))))))))
 have hE:=turn_end (hie ▸ hX)
 subst hE
 exact ⟨p13,cap13,u,by simp,⟨hcu,by omega,by simpa using htu⟩,by rw [hWm,← hWl];exact kE (hs:=[_,_,_,_]) (hs':=[_,_,_]) hw [1,2,0] rfl (by decide)⟩
set_option maxHeartbeats 400000 in
theorem play_ok (B:Nat) (w0:World) (hs:List (Nat×Obj)) (a b:St) (k t p gf cf:Nat) (uf:Array Value) (gw cw:Nat) (uw:Array Value) (w:World) (hVa:validB a=true) (hVb:validB b=true) (hk3:k≤3) (ht:t≤2000) (hlf:(WL 0 a b k).length≤cf) (htf:uf.toList.take (WL 0 a b k).length=bools (WL 0 a b k)) (hlw:(WL 0 a b k).length≤cw) (htw:uw.toList.take (WL 0 a b k).length=bools (WL 0 a b k)) (hw:Own B w0 (bk_ p #[i6_ a.n,str a.set,str a.rel,i6_ b.n,str b.set,str b.rel,i6_ (k:Int),i6_ ((prN a b:Nat):Int),sl_ gf ((WL 0 a b k).length) cf,sl_ gw ((WL 0 a b k).length) cw,bo_ false] 81::bk_ gf uf 4::bk_ gw uw 4::hs) w) :
    Calls Tryz.prog 60 [pt_ p,i6_ (t:Int)].toArray w fun en w'=>∃ (g c:Nat) (u:Array Value),en=.returned (.tuple #[])∧((WL t a b k).length≤c∧u.toList.take (WL t a b k).length=bools (WL t a b k))∧Own B w0 (bk_ p #[i6_ a.n,str a.set,str a.rel,i6_ b.n,str b.set,str b.rel,i6_ (k:Int),i6_ ((prN a b:Nat):Int),sl_ gf ((WL 0 a b k).length) cf,sl_ g ((WL t a b k).length) c,bo_ false] 81::bk_ gf uf 4::bk_ g u 4::hs) w':=by
 refine fnStartC (Own B w0 (bk_ p #[i6_ a.n,str a.set,str a.rel,i6_ b.n,str b.set,str b.rel,i6_ (k:Int),i6_ ((prN a b:Nat):Int),sl_ gf ((WL 0 a b k).length) cf,sl_ gw ((WL 0 a b k).length) cw,bo_ false] 81::bk_ gf uf 4::bk_ gw uw 4::hs)) (n:=10) (e:=[(0,pt_ p),(1,i6_ (t:Int))]) Tryz.func60 Z Z Z Z Ends.both hw (zF (zB (zC 2 Z (zH (zD [0,4,5] [_,_,_] Z (qW (xM (σ:=Nat×Nat×Nat×Array Value) (fun ⟨m,g,c,u⟩=>m≤t∧(WL m a b k).length≤c∧u.toList.take (WL m a b k).length=bools (WL m a b k)) (fun ⟨m,g,c,u⟩=>[(0,pt_ p),(4,i6_ (t:Int)),(5,i6_ (m:Int))]) (fun ⟨m,g,c,u⟩=>Own B w0 (bk_ p #[i6_ a.n,str a.set,str a.rel,i6_ b.n,str b.set,str b.rel,i6_ (k:Int),i6_ ((prN a b:Nat):Int),sl_ gf ((WL 0 a b k).length) cf,sl_ g ((WL m a b k).length) c,bo_ false] 81::bk_ gf uf 4::bk_ g u 4::hs)) (fun ⟨m,g,c,u⟩=>t - m) (0,gw,cw,uw) ⟨by omega,hlw,htw⟩ (Sub.sel [0,4,5] Z) (fun _ h=>h) ?_)))))))
 rintro ⟨m,g,c,u⟩ ⟨hm,hlu,htu⟩
 dsimp only;refine zF (zB (zC 1 Z (zH (zD [0,4,5,6] [_,_,_,_] Z (zF (yQ Z (fun h6=>?_) (fun h6=>?_)))))))
 ·
  refine qR (zD [0,4,5] [_,_,_] Z (zF (qW (qI (qL 1 Z (vZ (σ:=Nat×Nat×Array Value) (ok:=fun (g,c',u)=>u.size=c'*1∧(WL (m+1) a b k).length≤c'∧u.toList.take (WL (m+1) a b k).length=bools (WL (m+1) a b k)) (v:=fun _=>.bool (!((WL (m+1) a b k)==(WL m a b k)))) (xs:=[.tmp 7]) (vs:=[pt_ p]) (hs':=fun (g,c',u)=>(bk_ p #[i6_ a.n,str a.set,str a.rel,i6_ b.n,str b.set,str b.rel,i6_ (k:Int),i6_ ((prN a b:Nat):Int),sl_ gf ((WL 0 a b k).length) cf,sl_ g ((WL (m+1) a b k).length) c',bo_ false] 81::bk_ gf uf 4::bk_ g u 4::hs)) Z Z Z Z Tryz.call62 Z (fun w1 hw1=>(turn_ok _ _ _ a b k m p gf cf uf g c u w1 hVa hVb hk3 hlf htf hlu htu hw1).mono fun en w' ⟨g,c',u,h1,h2,h3⟩=>⟨(g,c',u),h1,h2,h3⟩) fun ⟨gt,ct,ut⟩ ⟨hcgt,hlgt,htgt⟩=>?_))))))
  show Ll _ _ (Own _ _ (_::_::_::hs)) _ _ ((8,bo_ (!((WL (m+1) a b k)==(WL m a b k))))::_) _ _ _;refine zI (zD [0,4,5] [_,_,_] Z (zB (zE Z (qT Z Z Z (by omega) (by omega)) (zC 1 Z (zH (yL (m+1,gt,ct,ut) ⟨by omega,hlgt,htgt⟩ (by omega) (Sub.sel [0,4,5] Z) (fun _ h=>h)))))))
 refine yY Z (Kt.end0 Z fun w' hw=>?_)
 obtain rfl:t=m:=by omega
 exact ⟨g,c,u,rfl,⟨hlu,htu⟩,hw⟩
end Go.Proofs.YtefiibghfgfdnaaGreatDoor
namespace Go.Proofs.YtefiibghfgfdnaaGreatDoor
open Go.RowKit Go.Wk
set_option linter.unusedSimpArgs false
set_option maxHeartbeats 400000 in
theorem newPeb_yes (a b:St) (xs ys:List Int) (va vb:Value) (w:World) (hsa:a.Small) (hsb:b.Small) (hva:Ints w va xs) (hvb:Ints w vb ys) (hs1:xs.length≤140737488355328) (hs2:ys.length≤140737488355328) (k:Nat) (hk:xs.length=k) (hr:readyB a xs b ys=true) :
    Calls Tryz.prog 59 [vS a,va,vS b,vb].toArray w fun en w'=>∃ (p gf cf:Nat) (uf:Array Value) (gw cw:Nat) (uw:Array Value),en=.returned (.pointer (some ⟨p,0,none⟩))∧(uf.size=cf*1∧(WL 0 a b k).length≤cf∧uf.toList.take (WL 0 a b k).length=bools (WL 0 a b k))∧(uw.size=cw*1∧(WL 0 a b k).length≤cw∧uw.toList.take (WL 0 a b k).length=bools (WL 0 a b k))∧Own w.heap.size w [bk_ p #[i6_ a.n,str a.set,str a.rel,i6_ b.n,str b.set,str b.rel,i6_ (k:Int),i6_ ((prN a b:Nat):Int),sl_ gf ((WL 0 a b k).length) cf,sl_ gw ((WL 0 a b k).length) cw,bo_ false] 81,bk_ gf uf 4,bk_ gw uw 4] w':=by
 refine fnStart (n:=78) (e:=[(0,vS a),(1,va),(2,vS b),(3,vb)]) Tryz.func59 Z Z Z Z Ends.both ?_
 obtain ⟨hVa,hVb,h1,h3,hlen,hx,hy⟩:=ready_peb hr
 rw [hk] at h1 h3
 have hk3:k≤3:=h3
 have ha:=validB_fine hVa
 have hb:=validB_fine hVb
 have hm8:=ha.hi
 have hm1:=ha.lo
 have hb8:=hb.hi
 have hb1:=hb.lo
 have hpr:=prN_le (a:=a) (b:=b) (by omega) (by omega)
 have hpp:=prN_pos a b
 have hprI:((prN a b:Nat):Int)=a.n*b.n+1:=by
  unfold prN;rw [Int.natCast_add,Int.natCast_mul,Int.toNat_of_nonneg (by omega),Int.toNat_of_nonneg (by omega)];rfl
 have hab:0≤a.n*b.n∧a.n*b.n≤64:=by omega
 refine zF (qI (xK (v:=vS a) Z Z Z Z Z fun p4 hp4=>?_))
 show Ll _ _ (Own _ _ [_]) _ _ ((4,pt_ p4)::_) _ _ _;refine xK (v:=vS b) Z Z Z Z Z fun p6 hp6=>?_
 show Ll _ _ (Own _ _ [_,_]) _ _ ((6,pt_ p6)::_) _ _ _;refine qL 1 Z (zI (zD [1,3,4,6] [_,_,_,_] Z (zF (zF (zB (zE Z (qF (cs:=#[i6_ a.n,str a.set,str a.rel]) 1 Z zZ Z Z zQ) (zC 1 Z (zE Z (qF (cs:=#[i6_ b.n,str b.set,str b.rel]) 0 Z zZ Z Z zQ) (zC 1 Z (zE (v:=bo_ true) Z (qK Z Tryz.call108 Z qC (fun w1 hw1=>known_b hr (areReady_ok a b xs ys va vb w1 hsa hsb (Row.own hva hw1) (Row.own hvb hw1) (by first | (simp;done) | (simp;omega) | omega) (by first | (simp;done) | (simp;omega) | omega)))) (zC 1 Z (zH (zD [1,4,6,19] [_,_,_,_] Z (jN Z (qR (zD [1,4,6] [_,_,_] Z (zF (qI (zO Z (qF (cs:=#[i6_ a.n,str a.set,str a.rel]) 1 Z zZ Z Z zQ) (zO Z (qF (cs:=#[i6_ b.n,str b.set,str b.rel]) 0 Z zZ Z Z zQ) (qL 1 Z (zO (v:=i6_ (k:Int)) Z (yA (by rw [hk]) (yP Z zX Z (ints_length _) (fun w1 hw1=>Row.own hva hw1))) (zO Z (zG Z zY Z zJ Z Z) (zO Z (zS 1 Z zU Z Z Z) (zO Z (zG Z zY Z zJ Z Z) (zO Z (zS 0 Z zU Z Z Z) (zO Z (uI Z Z Z (by omega) (by omega)) (zO (v:=i6_ ((prN a b:Nat):Int)) Z (yA (by rw [hprI]) (qT Z Z Z (by omega) (by omega))) (zO (v:=.agg #[i6_ a.n,str a.set,str a.rel,i6_ b.n,str b.set,str b.rel,i6_ (k:Int),i6_ ((prN a b:Nat):Int),.slice none 0 0,.slice none 0 0,bo_ false]) Z (uL (xs:=[.tmp 20,.tmp 21,.tmp 23,.tmp 29]) (vs:=[vS a,vS b,i6_ (k:Int),i6_ ((prN a b:Nat):Int)]) Z Z (by kernel_rfl)) (xK (v:=.agg #[i6_ a.n,str a.set,str a.rel,i6_ b.n,str b.set,str b.rel,i6_ (k:Int),i6_ ((prN a b:Nat):Int),.slice none 0 0,.slice none 0 0,bo_ false]) Z Z Z Z Z fun p31 hp31=>?_))))))))))))))))))))))))))))))
 show Ll _ _ (Own _ _ [_,_,_]) _ _ ((31,pt_ p31)::_) _ _ _;refine qL 1 Z (zI (zD [1,4,6,9] [_,_,_,_] Z (zF (zB (zC 1 Z (zH (zD [1,4,6,9,10] [_,_,_,_,_] Z (zF (zF (zB (zC 1 Z (zE (v:=i6_ (k:Int)) Z (yA (by rw [hk]) (yP Z zX Z (ints_length _) (fun w1 hw1=>Row.own hva hw1))) (zC 1 Z (zH (zD [4,6,9,10,33,34] [_,_,_,_,_,_] Z (qW (xM (σ:=Nat) (fun j=>j≤k) (fun j=>[(4,pt_ p4),(6,pt_ p6),(9,pt_ p31),(10,i6_ ((prN a b ^ j:Nat):Int)),(33,i6_ (k:Int)),(34,i6_ (j:Int))]) (fun j=>Own w.heap.size w [bk_ p31 #[i6_ a.n,str a.set,str a.rel,i6_ b.n,str b.set,str b.rel,i6_ (k:Int),i6_ ((prN a b:Nat):Int),.slice none 0 0,.slice none 0 0,bo_ false] 81,bk_ p6 #[i6_ b.n,str b.set,str b.rel] 24,bk_ p4 #[i6_ a.n,str a.set,str a.rel] 24]) (fun j=>k - j) (0) (by omega) (Sub.cons Z (Sub.cons Z (Sub.cons Z (Sub.cons (by rfl) (Sub.sel [33,34] Z))))) (fun _ h=>h) ?_)))))))))))))))))
 rintro j hj;refine zF (zB (zC 1 Z (zH (zD [4,6,9,10,33,34,35] [_,_,_,_,_,_,_] Z (zF (yF (b:=decide ((j:Int)<(k:Int))) Z (fun h35=>?_) (fun h35=>?_)))))))
 ·
  replace h35:=zV h35
  have hjk:j<k:=by omega
  have hpi3:=pow65 hpr (show j+1≤3 by omega)
  have hpm:((prN a b ^ j:Nat):Int)*((prN a b:Nat):Int)=((prN a b ^ (j+1):Nat):Int):=by rw [Nat.pow_succ,Int.natCast_mul]
  refine qR (zD [4,6,9,10,33,34] [_,_,_,_,_,_] Z (zF (qW (zB (zC 2 Z (zE (v:=pt_ p31) Z (zP Z Z) (zE Z (zG Z yG Z zJ Z Z) (zE Z (zS 0 Z zU Z Z Z) (zE (v:=i6_ (((prN a b ^ (j+1):Nat):Int))) Z (yA (by rw [hpm]) (uI Z Z Z (by omega) (by omega))) (zC 1 Z (zH (zD [4,6,9,10,33,34] [_,_,_,_,_,_] Z (zB (zE Z (qT Z Z Z (by omega) (by omega)) (zC 1 Z (zH (yL (j+1) (by omega) (by omega) (Sub.cons Z (Sub.cons Z (Sub.cons Z (Sub.cons (by rfl) (Sub.sel [33,34] Z))))) (fun _ h=>h))))))))))))))))))
 replace h35:=zT h35
 obtain rfl:k=j:=by omega
 have hN0:=pow65 hpr hk3;refine yY Z (zD [4,6,9,10] [_,_,_,_] Z (zF (zF (zB (zC 2 Z (zH (zD [4,6,9,43,44] [_,_,_,_,_] Z (qW (xM (σ:=Nat×OptR) (fun ⟨s,q⟩=>s≤prN a b ^ k∧OptOk ((WL 0 a b k).take s) q) (fun ⟨s,q⟩=>[(4,pt_ p4),(6,pt_ p6),(9,pt_ p31),(43,i6_ ((prN a b ^ k:Nat):Int)),(44,i6_ (s:Int))]) (fun ⟨s,q⟩=>Own w.heap.size w (bk_ p31 #[i6_ a.n,str a.set,str a.rel,i6_ b.n,str b.set,str b.rel,i6_ (k:Int),i6_ ((prN a b:Nat):Int),optV q s,.slice none 0 0,bo_ false] 81::bk_ p6 #[i6_ b.n,str b.set,str b.rel] 24::bk_ p4 #[i6_ a.n,str a.set,str a.rel] 24::(optB 4 q++[]))) (fun ⟨s,q⟩=>prN a b ^ k - s) (0,none) ⟨by omega,by simp [OptOk]⟩ (Sub.sel [4,6,9,43,44] Z) (fun _ h=>h) ?_)))))))))
 rintro ⟨s,q⟩ ⟨hs,hq⟩
 dsimp only
 have hts:((WL 0 a b k).take s).length=s:=by rw [zR,WL_len];omega
 refine zF (zB (zC 1 Z (zH (zD [4,6,9,43,44,45] [_,_,_,_,_,_] Z (zF (yF (b:=decide ((s:Int)<((prN a b ^ k:Nat):Int))) Z (fun h45=>?_) (fun h45=>?_)))))))
 ·
  replace h45:=zV h45
  have hsN:s<prN a b ^ k:=by omega
  have hEa:a.Els (placed (stX a b k s) k):=placed_els (by simp) fun x hx=>by have:=(stX_peb (a:=a) (b:=b) (k:=k) (s:=s)).2 x hx;omega
  have hEb:b.Els (placed (stY a b k s) k):=placed_els (by simp) fun x hx=>by have:=(stY_peb (a:=a) (k:=k) (s:=s) (show 1≤b.n.toNat by omega)).2 x hx;omega
  have hpl:(placed (stX a b k s) k).length=(placed (stY a b k s) k).length:=placed_len _ (st_signs (by omega))
  have hp4:=placed_le (stX a b k s) k;refine qR (zD [4,6,9,43,44] [_,_,_,_,_] Z (zF (qW (zF (zB (zC 2 Z (zH (zD [4,6,9,11,43,44] [_,_,_,_,_,_] Z (zF (qI (qL 2 Z (Ll.callRows (xs:=[.tmp 48,.tmp 49]) (m1:=(placed (stX a b k s) k).length) (vs1:=ints (placed (stX a b k s) k)) (el1:=3) (m2:=(placed (stY a b k s) k).length) (vs2:=ints (placed (stY a b k s) k)) (el2:=3) Z Z Z Z Tryz.call109 Z (fun w1 hw1=>listsAt_ok a b k p31 81 (optV q s) (.slice none 0 0) s w1 (hw1.has 0 _ _ Z).2 hVa hVb hk3 (by omega)) fun p50a cap50a cur50a p50b cap50b cur50b hp50a hcp50a hlp50a htp50a hp50b hcp50b hlp50b htp50b=>(qL 1 Z (zO (v:=sl_ p50a ((placed (stX a b k s) k).length) cap50a) Z (yD Z Z Z) (zO (v:=sl_ p50b ((placed (stY a b k s) k).length) cap50b) Z (yD Z Z Z) (qL 2 Z (zI (zD [4,6,9,12,13,43,44] [_,_,_,_,_,_,_] Z (Wk.regionT (S:=Own w.heap.size w [bk_ p50a cur50a 3,bk_ p50b cur50b 3,bk_ p6 #[i6_ b.n,str b.set,str b.rel] 24,bk_ p4 #[i6_ a.n,str a.set,str a.rel] 24]) (.take 0 (.take 1 (.take 5 (.take 6 (.take 7 (.take 8 (.two 2 (.take 3 (.two 4 (.one 9 (.one 10 (.one 11 (.one 12 (.take 13 (.one 14 .done)))))) 9 (.two 4 (.one 10 (.one 11 (.one 12 (.take 13 (.one 14 .done))))) 10 (.one 4 (.one 11 (.one 12 (.take 13 (.one 14 .done)))))))) 9 (.two 2 (.take 3 (.two 4 (.one 10 (.one 11 (.one 12 (.take 13 (.one 14 .done))))) 10 (.one 4 (.one 11 (.one 12 (.take 13 (.one 14 .done))))))) 10 (.one 2 (.take 3 (.one 4 (.one 11 (.one 12 (.take 13 (.one 14 .done))))))))))))))) yC (fun _ h=>h.drawn) (by kernel_rfl) (Lt.run 2 Z (pk [0,1,3,4] Z Z) (vL Z Z Z Z Z (qF (cs:=#[i6_ a.n,str a.set,str a.rel]) 3 Z zZ Z Z zQ) (pk [0,1,3,4] Z Z) (Lt.run 1 Z (pk [0,1,3,4] Z Z) (vL Z Z Z Z Z (qF (cs:=#[i6_ b.n,str b.set,str b.rel]) 2 Z zZ Z Z zQ) (pk [0,1,3,4] Z Z) (Lt.run 1 Z (pk [0,1,3,4] Z Z) (Lt.two Z Z ?_ ?_)))))))))))))))))))))))))
  ·
   refine zO (v:=pt_ p31) Z (zP Z Z) (zI (xC (pk [0,1,3,4] Z Z) ?_));refine vL Z Z Z Z Z (zG Z yG Z xU Z Z) (pk [0,1,3,4] Z Z) (Lt.two Z Z ?_ ?_)
   ·
    refine zO Z (zS 2 Z vU Z Z Z) (zI (xC (pk [0,1,3,4] Z Z) ?_));refine jG Z (zO (v:=bo_ (sameB a (placed (stX a b k s) k) b (placed (stY a b k s) k))) Z (qK Z Tryz.call71 Z qC (fun w1 hw1=>sameWay_ok a b (placed (stX a b k s) k) (placed (stY a b k s) k) (sl_ p50a ((placed (stX a b k s) k).length) cap50a) (sl_ p50b ((placed (stY a b k s) k).length) cap50b) w1 ha hb (yX hw1 (i:=0) Z (by simpa using htp50a) (by simp) hlp50a) (yX hw1 (i:=1) Z (by simpa using htp50b) (by simp) hlp50b) hEa hEb hpl (by omega))) (zI (xC (pk [0,1,3,4] Z Z) ?_)));refine jG Z (yN (xs:=[.tmp 62]) (vs:=[bo_ (sameB a (placed (stX a b k s) k) b (placed (stY a b k s) k))]) xW Z Z Z Z Z Z (by decide) Z fun p63 hp63=>(zI (xC (pk [1,2,4,5] Z Z) ?_)));refine jG Z (Ll.appendOpt (m:=s) (bs:=(WL 0 a b k).take s) hts xW [bk_ p63 #[bo_ (sameB a (placed (stX a b k s) k) b (placed (stY a b k s) k))] 4,bk_ p50a cur50a 3,bk_ p50b cur50b 3,bk_ p31 #[i6_ a.n,str a.set,str a.rel,i6_ b.n,str b.set,str b.rel,i6_ (k:Int),i6_ ((prN a b:Nat):Int),optV q s,.slice none 0 0,bo_ false] 81,bk_ p6 #[i6_ b.n,str b.set,str b.rel] 24,bk_ p4 #[i6_ a.n,str a.set,str a.rel] 24] [] 0 hq Z Z Z Z Z Z Z (by omega) fun gq cq uq _ hQgq=>?_)
    show Ll _ _ (Own _ _ (_::_::_::_::_::_::((optB 4 (some (gq,cq,uq))++[])))) _ _ ((64,sl_ gq (s+1) cq)::_) _ _ _;refine zI (xC (pk [1,2,4,5] Z Z) ?_);refine jG Z (zO (v:=pt_ p31) Z (zP Z Z) (zI (xC (pk [1,2,4,5] Z Z) ?_)));refine vL Z Z Z Z Z (zG Z yG Z xU Z Z) (pk [1,2,4,5] Z Z) (jG Z (qU (v:=sl_ gq (s+1) cq) (hs':=(_::_::_::bk_ p31 #[i6_ a.n,str a.set,str a.rel,i6_ b.n,str b.set,str b.rel,i6_ (k:Int),i6_ ((prN a b:Nat):Int),sl_ gq (s+1) cq,.slice none 0 0,bo_ false] 81::_::_::((optB 4 (some (gq,cq,uq))++[])))) 3 Z Z Z Z Z Z xU Z (by simp) Z (zI (xC (pk [1,2,4,5] Z Z) ?_))));refine Lt.nil (zD [4,6,9,43,44] [_,_,_,_,_] Z (zB (zE Z (qT Z Z Z (by omega) (by omega)) (zC 1 Z (zH (yL (s+1,some (gq,cq,uq)) ⟨by omega,by rw [fit_next (by omega) hsN];exact hQgq⟩ (by omega) (Sub.sel [4,6,9,43,44] Z) (fun _ h=>kE (hs:=[_,_,_,_,_,_]) (hs':=[_,_,_]) (tl:=optB 4 (some (gq,cq,uq))++[]) h [3,4,5] Z (by decide))))))))
   refine zO (v:=bo_ (sameB a (placed (stX a b k s) k) b (placed (stY a b k s) k))) Z (qK Z Tryz.call71 Z qC (fun w1 hw1=>sameWay_ok a b (placed (stX a b k s) k) (placed (stY a b k s) k) (sl_ p50a ((placed (stX a b k s) k).length) cap50a) (sl_ p50b ((placed (stY a b k s) k).length) cap50b) w1 ha hb (yX hw1 (i:=0) Z (by simpa using htp50a) (by simp) hlp50a) (yX hw1 (i:=1) Z (by simpa using htp50b) (by simp) hlp50b) hEa hEb hpl (by omega))) (zI (xC (pk [0,1,3,4] Z Z) ?_));refine Lt.two Z Z ?_ ?_
   ·
    refine zO Z (zS 2 Z vU Z Z Z) (zI (xC (pk [0,1,3,4] Z Z) ?_));refine jG Z (yN (xs:=[.tmp 62]) (vs:=[bo_ (sameB a (placed (stX a b k s) k) b (placed (stY a b k s) k))]) xW Z Z Z Z Z Z (by decide) Z fun p63_1 hp63_1=>(zI (xC (pk [1,2,4,5] Z Z) ?_)));refine jG Z (Ll.appendOpt (m:=s) (bs:=(WL 0 a b k).take s) hts xW [bk_ p63_1 #[bo_ (sameB a (placed (stX a b k s) k) b (placed (stY a b k s) k))] 4,bk_ p50a cur50a 3,bk_ p50b cur50b 3,bk_ p31 #[i6_ a.n,str a.set,str a.rel,i6_ b.n,str b.set,str b.rel,i6_ (k:Int),i6_ ((prN a b:Nat):Int),optV q s,.slice none 0 0,bo_ false] 81,bk_ p6 #[i6_ b.n,str b.set,str b.rel] 24,bk_ p4 #[i6_ a.n,str a.set,str a.rel] 24] [] 0 hq Z Z Z Z Z Z Z (by omega) fun gq_1 cq_1 uq_1 _ hQgq_1=>?_)
    show Ll _ _ (Own _ _ (_::_::_::_::_::_::((optB 4 (some (gq_1,cq_1,uq_1))++[])))) _ _ ((64,sl_ gq_1 (s+1) cq_1)::_) _ _ _;refine zI (xC (pk [1,2,4,5] Z Z) ?_);refine jG Z (zO (v:=pt_ p31) Z (zP Z Z) (zI (xC (pk [1,2,4,5] Z Z) ?_)));refine vL Z Z Z Z Z (zG Z yG Z xU Z Z) (pk [1,2,4,5] Z Z) (jG Z (qU (v:=sl_ gq_1 (s+1) cq_1) (hs':=(_::_::_::bk_ p31 #[i6_ a.n,str a.set,str a.rel,i6_ b.n,str b.set,str b.rel,i6_ (k:Int),i6_ ((prN a b:Nat):Int),sl_ gq_1 (s+1) cq_1,.slice none 0 0,bo_ false] 81::_::_::((optB 4 (some (gq_1,cq_1,uq_1))++[])))) 3 Z Z Z Z Z Z xU Z (by simp) Z (zI (xC (pk [1,2,4,5] Z Z) ?_))));refine Lt.nil (zD [4,6,9,43,44] [_,_,_,_,_] Z (zB (zE Z (qT Z Z Z (by omega) (by omega)) (zC 1 Z (zH (yL (s+1,some (gq_1,cq_1,uq_1)) ⟨by omega,by rw [fit_next (by omega) hsN];exact hQgq_1⟩ (by omega) (Sub.sel [4,6,9,43,44] Z) (fun _ h=>kE (hs:=[_,_,_,_,_,_]) (hs':=[_,_,_]) (tl:=optB 4 (some (gq_1,cq_1,uq_1))++[]) h [3,4,5] Z (by decide))))))))
   refine yN (xs:=[.tmp 62]) (vs:=[bo_ (sameB a (placed (stX a b k s) k) b (placed (stY a b k s) k))]) xW Z Z Z Z Z Z (by decide) Z fun p63_2 hp63_2=>(zI (xC (pk [1,2,4,5] Z Z) ?_));refine jG Z (zO Z (zS 3 Z vU Z Z Z) (zI (xC (pk [1,2,4,5] Z Z) ?_)));refine jG Z (Ll.appendOpt (m:=s) (bs:=(WL 0 a b k).take s) hts xW [bk_ p63_2 #[bo_ (sameB a (placed (stX a b k s) k) b (placed (stY a b k s) k))] 4,bk_ p50a cur50a 3,bk_ p50b cur50b 3,bk_ p31 #[i6_ a.n,str a.set,str a.rel,i6_ b.n,str b.set,str b.rel,i6_ (k:Int),i6_ ((prN a b:Nat):Int),optV q s,.slice none 0 0,bo_ false] 81,bk_ p6 #[i6_ b.n,str b.set,str b.rel] 24,bk_ p4 #[i6_ a.n,str a.set,str a.rel] 24] [] 0 hq Z Z Z Z Z Z Z (by omega) fun gq_2 cq_2 uq_2 _ hQgq_2=>?_)
   show Ll _ _ (Own _ _ (_::_::_::_::_::_::((optB 4 (some (gq_2,cq_2,uq_2))++[])))) _ _ ((64,sl_ gq_2 (s+1) cq_2)::_) _ _ _;refine zI (xC (pk [1,2,4,5] Z Z) ?_);refine jG Z (zO (v:=pt_ p31) Z (zP Z Z) (zI (xC (pk [1,2,4,5] Z Z) ?_)));refine vL Z Z Z Z Z (zG Z yG Z xU Z Z) (pk [1,2,4,5] Z Z) (jG Z (qU (v:=sl_ gq_2 (s+1) cq_2) (hs':=(_::_::_::bk_ p31 #[i6_ a.n,str a.set,str a.rel,i6_ b.n,str b.set,str b.rel,i6_ (k:Int),i6_ ((prN a b:Nat):Int),sl_ gq_2 (s+1) cq_2,.slice none 0 0,bo_ false] 81::_::_::((optB 4 (some (gq_2,cq_2,uq_2))++[])))) 3 Z Z Z Z Z Z xU Z (by simp) Z (zI (xC (pk [1,2,4,5] Z Z) ?_))));refine Lt.nil (zD [4,6,9,43,44] [_,_,_,_,_] Z (zB (zE Z (qT Z Z Z (by omega) (by omega)) (zC 1 Z (zH (yL (s+1,some (gq_2,cq_2,uq_2)) ⟨by omega,by rw [fit_next (by omega) hsN];exact hQgq_2⟩ (by omega) (Sub.sel [4,6,9,43,44] Z) (fun _ h=>kE (hs:=[_,_,_,_,_,_]) (hs':=[_,_,_]) (tl:=optB 4 (some (gq_2,cq_2,uq_2))++[]) h [3,4,5] Z (by decide))))))))
  refine zO (v:=bo_ (sameB a (placed (stX a b k s) k) b (placed (stY a b k s) k))) Z (qK Z Tryz.call71 Z qC (fun w1 hw1=>sameWay_ok a b (placed (stX a b k s) k) (placed (stY a b k s) k) (sl_ p50a ((placed (stX a b k s) k).length) cap50a) (sl_ p50b ((placed (stY a b k s) k).length) cap50b) w1 ha hb (yX hw1 (i:=0) Z (by simpa using htp50a) (by simp) hlp50a) (yX hw1 (i:=1) Z (by simpa using htp50b) (by simp) hlp50b) hEa hEb hpl (by omega))) (zI (xC (pk [0,1,3,4] Z Z) ?_));refine Lt.two Z Z ?_ ?_
  ·
   refine zO (v:=pt_ p31) Z (zP Z Z) (zI (xC (pk [0,1,3,4] Z Z) ?_));refine vL Z Z Z Z Z (zG Z yG Z xU Z Z) (pk [0,1,3,4] Z Z) (Lt.two Z Z ?_ ?_)
   ·
    refine zO Z (zS 2 Z vU Z Z Z) (zI (xC (pk [0,1,3,4] Z Z) ?_));refine jG Z (yN (xs:=[.tmp 62]) (vs:=[bo_ (sameB a (placed (stX a b k s) k) b (placed (stY a b k s) k))]) xW Z Z Z Z Z Z (by decide) Z fun p63_3 hp63_3=>(zI (xC (pk [1,2,4,5] Z Z) ?_)));refine jG Z (Ll.appendOpt (m:=s) (bs:=(WL 0 a b k).take s) hts xW [bk_ p63_3 #[bo_ (sameB a (placed (stX a b k s) k) b (placed (stY a b k s) k))] 4,bk_ p50a cur50a 3,bk_ p50b cur50b 3,bk_ p31 #[i6_ a.n,str a.set,str a.rel,i6_ b.n,str b.set,str b.rel,i6_ (k:Int),i6_ ((prN a b:Nat):Int),optV q s,.slice none 0 0,bo_ false] 81,bk_ p6 #[i6_ b.n,str b.set,str b.rel] 24,bk_ p4 #[i6_ a.n,str a.set,str a.rel] 24] [] 0 hq Z Z Z Z Z Z Z (by omega) fun gq_3 cq_3 uq_3 _ hQgq_3=>?_)
    show Ll _ _ (Own _ _ (_::_::_::_::_::_::((optB 4 (some (gq_3,cq_3,uq_3))++[])))) _ _ ((64,sl_ gq_3 (s+1) cq_3)::_) _ _ _;refine zI (xC (pk [1,2,4,5] Z Z) ?_);refine jG Z (zO (v:=pt_ p31) Z (zP Z Z) (zI (xC (pk [1,2,4,5] Z Z) ?_)));refine vL Z Z Z Z Z (zG Z yG Z xU Z Z) (pk [1,2,4,5] Z Z) (jG Z (qU (v:=sl_ gq_3 (s+1) cq_3) (hs':=(_::_::_::bk_ p31 #[i6_ a.n,str a.set,str a.rel,i6_ b.n,str b.set,str b.rel,i6_ (k:Int),i6_ ((prN a b:Nat):Int),sl_ gq_3 (s+1) cq_3,.slice none 0 0,bo_ false] 81::_::_::((optB 4 (some (gq_3,cq_3,uq_3))++[])))) 3 Z Z Z Z Z Z xU Z (by simp) Z (zI (xC (pk [1,2,4,5] Z Z) ?_))));refine Lt.nil (zD [4,6,9,43,44] [_,_,_,_,_] Z (zB (zE Z (qT Z Z Z (by omega) (by omega)) (zC 1 Z (zH (yL (s+1,some (gq_3,cq_3,uq_3)) ⟨by omega,by rw [fit_next (by omega) hsN];exact hQgq_3⟩ (by omega) (Sub.sel [4,6,9,43,44] Z) (fun _ h=>kE (hs:=[_,_,_,_,_,_]) (hs':=[_,_,_]) (tl:=optB 4 (some (gq_3,cq_3,uq_3))++[]) h [3,4,5] Z (by decide))))))))
   refine yN (xs:=[.tmp 62]) (vs:=[bo_ (sameB a (placed (stX a b k s) k) b (placed (stY a b k s) k))]) xW Z Z Z Z Z Z (by decide) Z fun p63_4 hp63_4=>(zI (xC (pk [1,2,4,5] Z Z) ?_));refine jG Z (zO Z (zS 3 Z vU Z Z Z) (zI (xC (pk [1,2,4,5] Z Z) ?_)));refine jG Z (Ll.appendOpt (m:=s) (bs:=(WL 0 a b k).take s) hts xW [bk_ p63_4 #[bo_ (sameB a (placed (stX a b k s) k) b (placed (stY a b k s) k))] 4,bk_ p50a cur50a 3,bk_ p50b cur50b 3,bk_ p31 #[i6_ a.n,str a.set,str a.rel,i6_ b.n,str b.set,str b.rel,i6_ (k:Int),i6_ ((prN a b:Nat):Int),optV q s,.slice none 0 0,bo_ false] 81,bk_ p6 #[i6_ b.n,str b.set,str b.rel] 24,bk_ p4 #[i6_ a.n,str a.set,str a.rel] 24] [] 0 hq Z Z Z Z Z Z Z (by omega) fun gq_4 cq_4 uq_4 _ hQgq_4=>?_)
   show Ll _ _ (Own _ _ (_::_::_::_::_::_::((optB 4 (some (gq_4,cq_4,uq_4))++[])))) _ _ ((64,sl_ gq_4 (s+1) cq_4)::_) _ _ _;refine zI (xC (pk [1,2,4,5] Z Z) ?_);refine jG Z (zO (v:=pt_ p31) Z (zP Z Z) (zI (xC (pk [1,2,4,5] Z Z) ?_)));refine vL Z Z Z Z Z (zG Z yG Z xU Z Z) (pk [1,2,4,5] Z Z) (jG Z (qU (v:=sl_ gq_4 (s+1) cq_4) (hs':=(_::_::_::bk_ p31 #[i6_ a.n,str a.set,str a.rel,i6_ b.n,str b.set,str b.rel,i6_ (k:Int),i6_ ((prN a b:Nat):Int),sl_ gq_4 (s+1) cq_4,.slice none 0 0,bo_ false] 81::_::_::((optB 4 (some (gq_4,cq_4,uq_4))++[])))) 3 Z Z Z Z Z Z xU Z (by simp) Z (zI (xC (pk [1,2,4,5] Z Z) ?_))));refine Lt.nil (zD [4,6,9,43,44] [_,_,_,_,_] Z (zB (zE Z (qT Z Z Z (by omega) (by omega)) (zC 1 Z (zH (yL (s+1,some (gq_4,cq_4,uq_4)) ⟨by omega,by rw [fit_next (by omega) hsN];exact hQgq_4⟩ (by omega) (Sub.sel [4,6,9,43,44] Z) (fun _ h=>kE (hs:=[_,_,_,_,_,_]) (hs':=[_,_,_]) (tl:=optB 4 (some (gq_4,cq_4,uq_4))++[]) h [3,4,5] Z (by decide))))))))
  refine yN (xs:=[.tmp 62]) (vs:=[bo_ (sameB a (placed (stX a b k s) k) b (placed (stY a b k s) k))]) xW Z Z Z Z Z Z (by decide) Z fun p63_5 hp63_5=>(zI (xC (pk [1,2,4,5] Z Z) ?_));refine jG Z (zO (v:=pt_ p31) Z (zP Z Z) (zI (xC (pk [1,2,4,5] Z Z) ?_)));refine vL Z Z Z Z Z (zG Z yG Z xU Z Z) (pk [1,2,4,5] Z Z) (jG Z (zO Z (zS 3 Z vU Z Z Z) (zI (xC (pk [1,2,4,5] Z Z) ?_))));refine jG Z (Ll.appendOpt (m:=s) (bs:=(WL 0 a b k).take s) hts xW [bk_ p63_5 #[bo_ (sameB a (placed (stX a b k s) k) b (placed (stY a b k s) k))] 4,bk_ p50a cur50a 3,bk_ p50b cur50b 3,bk_ p31 #[i6_ a.n,str a.set,str a.rel,i6_ b.n,str b.set,str b.rel,i6_ (k:Int),i6_ ((prN a b:Nat):Int),optV q s,.slice none 0 0,bo_ false] 81,bk_ p6 #[i6_ b.n,str b.set,str b.rel] 24,bk_ p4 #[i6_ a.n,str a.set,str a.rel] 24] [] 0 hq Z Z Z Z Z Z Z (by omega) fun gq_5 cq_5 uq_5 _ hQgq_5=>?_)
  show Ll _ _ (Own _ _ (_::_::_::_::_::_::((optB 4 (some (gq_5,cq_5,uq_5))++[])))) _ _ ((64,sl_ gq_5 (s+1) cq_5)::_) _ _ _;refine zI (xC (pk [1,2,4,5] Z Z) ?_);refine jG Z (zO (v:=pt_ p31) Z (zP Z Z) (zI (xC (pk [1,2,4,5] Z Z) ?_)));refine vL Z Z Z Z Z (zG Z yG Z xU Z Z) (pk [1,2,4,5] Z Z) (jG Z (qU (v:=sl_ gq_5 (s+1) cq_5) (hs':=(_::_::_::bk_ p31 #[i6_ a.n,str a.set,str a.rel,i6_ b.n,str b.set,str b.rel,i6_ (k:Int),i6_ ((prN a b:Nat):Int),sl_ gq_5 (s+1) cq_5,.slice none 0 0,bo_ false] 81::_::_::((optB 4 (some (gq_5,cq_5,uq_5))++[])))) 3 Z Z Z Z Z Z xU Z (by simp) Z (zI (xC (pk [1,2,4,5] Z Z) ?_))));refine Lt.nil (zD [4,6,9,43,44] [_,_,_,_,_] Z (zB (zE Z (qT Z Z Z (by omega) (by omega)) (zC 1 Z (zH (yL (s+1,some (gq_5,cq_5,uq_5)) ⟨by omega,by rw [fit_next (by omega) hsN];exact hQgq_5⟩ (by omega) (Sub.sel [4,6,9,43,44] Z) (fun _ h=>kE (hs:=[_,_,_,_,_,_]) (hs':=[_,_,_]) (tl:=optB 4 (some (gq_5,cq_5,uq_5))++[]) h [3,4,5] Z (by decide))))))))
 replace h45:=zT h45
 have hsN:s=prN a b ^ k:=by omega
 have hWl:(WL 0 a b k).length=prN a b ^ k:=WL_len _ _ _ _
 have hNp:0<prN a b ^ k:=Nat.pow_pos hpp
 have hN0:=pow65 hpr hk3
 rw [List.take_of_length_le (by omega)] at hq
 obtain ⟨gf,cf,uf,hqe,hcf,hlf,htf⟩:=opt_some hq (by omega)
 subst hqe
 show Wk _ _ (Own _ _ [bk_ p31 #[i6_ a.n,str a.set,str a.rel,i6_ b.n,str b.set,str b.rel,i6_ (k:Int),i6_ ((prN a b:Nat):Int),sl_ gf s cf,.slice none 0 0,bo_ false] 81,bk_ p6 #[i6_ b.n,str b.set,str b.rel] 24,bk_ p4 #[i6_ a.n,str a.set,str a.rel] 24,bk_ gf uf 4]) _ _ _ _ _;refine yY Z (zD [9] [_] Z (zF (qI (qL 1 Z (yN (xs:=[]) (vs:=[]) xW Z Z Z Z Z Z (by decide) Z fun p69 hp69=>(qL 1 Z (zO (v:=pt_ p31) Z (zP Z Z) (zO Z (zG Z yG Z xU Z Z) (zO Z (zS 1 Z vU Z Z Z) (Ll.appendBools (xs:=([]:List Bool)) (ys:=(WL 0 a b k)) xW 0 Z Z Z Z Z Z Z Z (by decide) Z (fun w1 hw1=>(yX hw1 (i:=4) Z (by rw [hsN,← hWl];exact htf) (by rw [bools_length,hWl,hsN]) (by omega))) ((WL 0 a b k).length) (by first | (simp;done) | (simp;omega)) (by first | (simp;done) | (simp;omega) | omega) fun p74 cap74 cur74 hp74 hcp74 hlp74 htp74=>?_))))))))))
 show Ll _ _ (Own _ _ [_,_,_,_,_]) _ _ ((74,sl_ p74 ((WL 0 a b k).length) cap74)::_) _ _ _;refine zO (v:=pt_ p31) Z (zP Z Z) (zO Z (zG Z yG Z xU Z Z) (qU (v:=sl_ p74 ((WL 0 a b k).length) cap74) (hs':=[_,bk_ p31 #[i6_ a.n,str a.set,str a.rel,i6_ b.n,str b.set,str b.rel,i6_ (k:Int),i6_ ((prN a b:Nat):Int),sl_ gf s cf,sl_ p74 ((WL 0 a b k).length) cap74,bo_ false] 81,_,_,_]) 1 Z Z Z Z Z Z xU Z (by simp) Z (zI (zD [9] [_] Z (zF (zB (zC 2 Z (zH (zD [8] [_] Z (qM (qQ Z Z fun w' hw=>?_)))))))))))
 rw [hsN,← hWl] at hw
 exact ⟨p31,gf,cf,uf,p74,cap74,cur74,rfl,⟨hcf,hlf,htf⟩,⟨by simpa using hcp74,by simpa using hlp74,by simpa using htp74⟩,hw.pick [1,4,0] rfl (by decide)⟩
set_option maxHeartbeats 400000 in
theorem newPeb_no (a b:St) (xs ys:List Int) (va vb:Value) (w:World) (hsa:a.Small) (hsb:b.Small) (hva:Ints w va xs) (hvb:Ints w vb ys) (hs1:xs.length≤140737488355328) (hs2:ys.length≤140737488355328) (hr:readyB a xs b ys=false) :
    Calls Tryz.prog 59 [vS a,va,vS b,vb].toArray w fun en w'=>en=.returned (.pointer none)∧Below w.heap.size w w':=by
 refine fnStart (n:=78) (e:=[(0,vS a),(1,va),(2,vS b),(3,vb)]) Tryz.func59 Z Z Z Z Ends.both (zF (qI (xK (v:=vS a) Z Z Z Z Z fun p4 hp4=>?_)))
 show Ll _ _ (Own _ _ [_]) _ _ ((4,pt_ p4)::_) _ _ _;refine xK (v:=vS b) Z Z Z Z Z fun p6 hp6=>?_
 show Ll _ _ (Own _ _ [_,_]) _ _ ((6,pt_ p6)::_) _ _ _;refine qL 1 Z (zI (zD [1,3,4,6] [_,_,_,_] Z (zF (zF (zB (zE Z (qF (cs:=#[i6_ a.n,str a.set,str a.rel]) 1 Z zZ Z Z zQ) (zC 1 Z (zE Z (qF (cs:=#[i6_ b.n,str b.set,str b.rel]) 0 Z zZ Z Z zQ) (zC 1 Z (zE (v:=bo_ false) Z (qK Z Tryz.call108 Z qC (fun w1 hw1=>known_b hr (areReady_ok a b xs ys va vb w1 hsa hsb (Row.own hva hw1) (Row.own hvb hw1) (by first | (simp;done) | (simp;omega) | omega) (by first | (simp;done) | (simp;omega) | omega)))) (zC 1 Z (zH (zD [1,4,6,19] [_,_,_,_] Z (yW Z (zF (zB (zC 1 Z (zH (zD [8] [_] Z (qM (qQ Z Z fun w' hw=>?_)))))))))))))))))))))
 exact ⟨rfl,hw.below⟩
set_option maxHeartbeats 400000 in
theorem iPWin_yes (a b:St) (xs ys:List Int) (va vb:Value) (w:World) (hsa:a.Small) (hsb:b.Small) (hva:Ints w va xs) (hvb:Ints w vb ys) (hs1:xs.length≤140737488355328) (hs2:ys.length≤140737488355328) (t:Int) (k:Nat) (hk:xs.length=k) (hr:readyB a xs b ys=true) :
    Calls Tryz.prog 26 [vS a,va,vS b,vb,i6_ t].toArray w fun en w'=>en=.returned (.bool (pebWinB a xs b ys t))∧Below w.heap.size w w':=by
 refine fnStart (n:=40) (e:=[(0,vS a),(1,va),(2,vS b),(3,vb),(4,i6_ t)]) Tryz.func26 Z Z Z Z Ends.both ?_
 obtain ⟨hVa,hVb,h1,h3,hlen,hx,hy⟩:=ready_peb hr
 have hsg:=signsB_true (readyB_true hr).2.2.2
 have hst:=(ready_state hr).1
 unfold stN at hst
 rw [hk] at h1 h3 hx hy hsg hst
 have hk3:k≤3:=h3
 have ha:=validB_fine hVa
 have hb:=validB_fine hVb
 have hm8:=ha.hi
 have hm1:=ha.lo
 have hb8:=hb.hi
 have hb1:=hb.lo
 have hpr:=prN_le (a:=a) (b:=b) (by omega) (by omega)
 have hpp:=prN_pos a b;refine zF (qI (xK (v:=vS a) Z Z Z Z Z fun p5 hp5=>?_))
 show Ll _ _ (Own _ _ [_]) _ _ ((5,pt_ p5)::_) _ _ _;refine xK (v:=vS b) Z Z Z Z Z fun p7 hp7=>?_
 show Ll _ _ (Own _ _ [_,_]) _ _ ((7,pt_ p7)::_) _ _ _;refine qL 1 Z (zI (zD [1,3,4,5,7] [_,_,_,_,_] Z (zF (qI (zO Z (qF (cs:=#[i6_ a.n,str a.set,str a.rel]) 1 Z zZ Z Z zQ) (qL 1 Z (zO Z (qF (cs:=#[i6_ b.n,str b.set,str b.rel]) 0 Z zZ Z Z zQ) (qL 1 Z (Ll.callNew (σ:=Nat×Nat×Nat×Array Value×Nat×Nat×Array Value) (ok:=fun (p,gf,cf,uf,gw,cw,uw)=>(uf.size=cf*1∧(WL 0 a b k).length≤cf∧uf.toList.take (WL 0 a b k).length=bools (WL 0 a b k))∧(uw.size=cw*1∧(WL 0 a b k).length≤cw∧uw.toList.take (WL 0 a b k).length=bools (WL 0 a b k))) (v:=fun (p,gf,cf,uf,gw,cw,uw)=>.pointer (some ⟨p,0,none⟩)) (new:=fun (p,gf,cf,uf,gw,cw,uw)=>[bk_ p #[i6_ a.n,str a.set,str a.rel,i6_ b.n,str b.set,str b.rel,i6_ (k:Int),i6_ ((prN a b:Nat):Int),sl_ gf ((WL 0 a b k).length) cf,sl_ gw ((WL 0 a b k).length) cw,bo_ false] 81,bk_ gf uf 4,bk_ gw uw 4]) (hs:=[bk_ p7 #[i6_ b.n,str b.set,str b.rel] 24,bk_ p5 #[i6_ a.n,str a.set,str a.rel] 24]) (xs:=[.tmp 12,.tmp 13,.tmp 14,.tmp 15]) (vs:=[vS a,va,vS b,vb]) Z Z Z Z Tryz.call59 Z (fun w1 hw1=>(newPeb_yes a b xs ys va vb w1 hsa hsb (Row.own hva hw1) (Row.own hvb hw1) (by first | (simp;done) | (simp;omega) | omega) (by first | (simp;done) | (simp;omega) | omega) k hk hr).mono fun en w' ⟨p,gf,cf,uf,gw,cw,uw,h1,h2,h3,h4⟩=>⟨(p,gf,cf,uf,gw,cw,uw),h1,⟨h2,h3⟩,hw1.merge h4⟩) fun ⟨p,gf,cf,uf,gw,cw,uw⟩ ⟨⟨hcf,hlf,htf⟩,⟨hcw,hlw,htw⟩⟩=>?_)))))))))
 show Ll _ _ (Own _ _ [_,_,_,_,_]) _ _ ((16,pt_ p)::_) _ _ _;refine qL 1 Z (zI (zD [1,3,4,11] [_,_,_,_] Z (zF (zF (zB (zC 1 Z (zE (v:=bo_ false) Z (vR (p:=some ⟨p,0,none⟩) Z Tryz.underlying76 Z Z) (zC 5 Z (xD fun b23 hg23=>?_)))))))))
 cases b23
 ·
  replace hg23:=zT hg23;refine zC 3 Z (zH (zD [1,3,4,11,26] [_,_,_,_,_] Z (yF (b:=decide ((4:Int)<t)) Z (fun h26=>?_) (fun h26=>?_))))
  ·
   replace h26:=zV h26;refine zF (zB (zC 1 Z (zH (zD [10] [_] Z (qM (qQ Z Z fun w' hw=>?_))))))
   exact ⟨ret_b (by unfold pebWinB inB;rw [hr];simp;omega),hw.below⟩
  replace h26:=zT h26
  obtain ⟨n,rfl⟩:∃ n:Nat,t=(n:Int):=⟨t.toNat,by omega⟩
  have hWt:(WL n a b k).length=prN a b ^ k:=WL_len _ _ _ _;refine qR (zD [1,3,4,11] [_,_,_,_] Z (zF (qI (qL 2 Z (vZ (σ:=Nat×Nat×Array Value) (ok:=fun (g,c,u)=>(WL n a b k).length≤c∧u.toList.take (WL n a b k).length=bools (WL n a b k)) (v:=fun _=>.tuple #[]) (xs:=[.tmp 27,.tmp 28]) (vs:=[pt_ p,i6_ (n:Int)]) (hs':=fun (g,c,u)=>[bk_ p #[i6_ a.n,str a.set,str a.rel,i6_ b.n,str b.set,str b.rel,i6_ (k:Int),i6_ ((prN a b:Nat):Int),sl_ gf ((WL 0 a b k).length) cf,sl_ g ((WL n a b k).length) c,bo_ false] 81,bk_ gf uf 4,bk_ g u 4]++[bk_ p7 #[i6_ b.n,str b.set,str b.rel] 24,bk_ p5 #[i6_ a.n,str a.set,str a.rel] 24]) Z Z Z Z Tryz.call60 Z (fun w1 hw1=>(play_ok _ _ [bk_ p7 #[i6_ b.n,str b.set,str b.rel] 24,bk_ p5 #[i6_ a.n,str a.set,str a.rel] 24] a b k n p gf cf uf gw cw uw w1 hVa hVb hk3 (by omega) hlf htf hlw htw hw1).mono fun en w' ⟨g,c,u,h1,h2,h3⟩=>⟨(g,c,u),h1,h2,h3⟩) fun ⟨gt,ct,ut⟩ ⟨hlt,htt⟩=>?_)))))
  show Ll _ _ (Own _ _ [_,_,_,_,_]) _ _ ((29,.tuple #[])::_) _ _ _;refine zI (zD [1,3,11] [_,_,_] Z (zF (xY yC (fun _ h=>h.drawn) (by kernel_rfl) (zC 1 Z (zE (v:=pt_ p) Z (zP Z Z) (zE Z (zG Z yG Z xU Z Z) (zE Z (zS 0 Z vU Z Z Z) (zC 3 Z (zE (v:=i6_ (((stU b.n.toNat (prN a b) xs ys k k:Nat):Int))) Z (qK Z Tryz.call61 Z qC (fun w1 hw1=>stateOf_ok a b k p 81 (sl_ gf ((WL 0 a b k).length) cf) (sl_ gt ((WL n a b k).length) ct) va vb xs ys w1 (hw1.has 0 _ _ Z).2 (Row.own hva hw1) (Row.own hvb hw1) hVa hVb hk3 hx hy hsg)) (zE (v:=pf_ gt ((((stU b.n.toNat (prN a b) xs ys k k:Nat):Int)).toNat)) Z (yA (by rw [Nat.zero_add]) (yZ (i:=((stU b.n.toNat (prN a b) xs ys k k:Nat):Int)) Z xR vQ Z Z (by omega) (by omega))) (zE (v:=bo_ ((WL n a b k).getD ((((stU b.n.toNat (prN a b) xs ys k k:Nat):Int)).toNat) false)) Z (xT 2 Z Tryz.isAgg4 Z Z (cur_at htt (bools_at (c:=(WL n a b k)) (off:=(((stU b.n.toNat (prN a b) xs ys k k:Nat):Int)).toNat) (by first | (simp;done) | (simp;omega) | omega)))) (zC 1 Z (zH (zD [10] [_] Z (qM (qQ Z Z fun w' hw=>?_))))))))))))))))
  subst hk
  exact ⟨ret_b (win_code (t:=(n:Int)) hr (by omega) (by omega)),hw.below⟩
 replace hg23:=zV hg23;refine zM Z (zM Z (zC 1 Z (zH (zD [1,3,4,11,26] [_,_,_,_,_] Z (yW Z (zF (zB (zC 1 Z (zH (zD [10] [_] Z (qM (qQ Z Z fun w' hw=>?_))))))))))))
 exact ⟨ret_b (by unfold pebWinB inB;rw [hr];simp;omega),hw.below⟩
set_option maxHeartbeats 400000 in
theorem iPWin_no (a b:St) (xs ys:List Int) (va vb:Value) (w:World) (hsa:a.Small) (hsb:b.Small) (hva:Ints w va xs) (hvb:Ints w vb ys) (hs1:xs.length≤140737488355328) (hs2:ys.length≤140737488355328) (t:Int) (hr:readyB a xs b ys=false) :
    Calls Tryz.prog 26 [vS a,va,vS b,vb,i6_ t].toArray w fun en w'=>en=.returned (.bool (pebWinB a xs b ys t))∧Below w.heap.size w w':=by
 refine fnStart (n:=40) (e:=[(0,vS a),(1,va),(2,vS b),(3,vb),(4,i6_ t)]) Tryz.func26 Z Z Z Z Ends.both (zF (qI (xK (v:=vS a) Z Z Z Z Z fun p5 hp5=>?_)))
 show Ll _ _ (Own _ _ [_]) _ _ ((5,pt_ p5)::_) _ _ _;refine xK (v:=vS b) Z Z Z Z Z fun p7 hp7=>?_
 show Ll _ _ (Own _ _ [_,_]) _ _ ((7,pt_ p7)::_) _ _ _;refine qL 1 Z (zI (zD [1,3,4,5,7] [_,_,_,_,_] Z (zF (qI (zO Z (qF (cs:=#[i6_ a.n,str a.set,str a.rel]) 1 Z zZ Z Z zQ) (qL 1 Z (zO Z (qF (cs:=#[i6_ b.n,str b.set,str b.rel]) 0 Z zZ Z Z zQ) (qL 1 Z (zO (v:=.pointer none) Z (qK Z Tryz.call59 Z qC (fun w1 hw1=>newPeb_no a b xs ys va vb w1 hsa hsb (Row.own hva hw1) (Row.own hvb hw1) (by first | (simp;done) | (simp;omega) | omega) (by first | (simp;done) | (simp;omega) | omega) hr)) (qL 1 Z (zI (zD [1,3,4,11] [_,_,_,_] Z (zF (zF (zB (zC 1 Z (zE (v:=bo_ true) Z (vR (p:=none) Z Tryz.underlying76 Z Z) (zC 1 Z (zM Z (zM Z (zC 2 Z (zM Z (zM Z (zC 1 Z (zH (zD [1,3,4,11,26] [_,_,_,_,_] Z (yW Z (zF (zB (zC 1 Z (zH (zD [10] [_] Z (qM (qQ Z Z fun w' hw=>?_))))))))))))))))))))))))))))))))))
 exact ⟨ret_b (by unfold pebWinB;rw [hr];rfl),hw.below⟩
theorem iPWin_ok (a b:St) (xs ys:List Int) (va vb:Value) (w:World) (hsa:a.Small) (hsb:b.Small) (hva:Ints w va xs) (hvb:Ints w vb ys) (hs1:xs.length≤140737488355328) (hs2:ys.length≤140737488355328) (t:Int) :
    Calls Tryz.prog 26 #[vS a,va,vS b,vb,.int .i64 t] w fun en w'=>en=.returned (.bool (pebWinB a xs b ys t))∧Below w.heap.size w w':=by
  cases hr:readyB a xs b ys with
  | true=>exact iPWin_yes a b xs ys va vb w hsa hsb hva hvb hs1 hs2 t xs.length rfl hr
  | false=>exact iPWin_no a b xs ys va vb w hsa hsb hva hvb hs1 hs2 t hr
end Go.Proofs.YtefiibghfgfdnaaGreatDoor
namespace Go.Proofs.YtefiibghfgfdnaaGreatDoor
open Go.RowKit Go.Wk
set_option linter.unusedSimpArgs false
set_option maxHeartbeats 400000 in
theorem iEver_yes (a b:St) (xs ys:List Int) (va vb:Value) (w:World) (hsa:a.Small) (hsb:b.Small) (hva:Ints w va xs) (hvb:Ints w vb ys) (hs1:xs.length≤140737488355328) (hs2:ys.length≤140737488355328) (k:Nat) (hk:xs.length=k) (hr:readyB a xs b ys=true) :
    Calls Tryz.prog 27 [vS a,va,vS b,vb].toArray w fun en w'=>en=.returned (.bool (pebEverB a xs b ys))∧Below w.heap.size w w':=by
 refine fnStart (n:=29) (e:=[(0,vS a),(1,va),(2,vS b),(3,vb)]) Tryz.func27 Z Z Z Z Ends.both ?_
 obtain ⟨hVa,hVb,h1,h3,hlen,hx,hy⟩:=ready_peb hr
 have hsg:=signsB_true (readyB_true hr).2.2.2
 have hst:=(ready_state hr).1
 unfold stN at hst
 rw [hk] at h1 h3 hx hy hsg hst
 have hk3:k≤3:=h3
 have ha:=validB_fine hVa
 have hb:=validB_fine hVb
 have hm8:=ha.hi
 have hm1:=ha.lo
 have hb8:=hb.hi
 have hb1:=hb.lo
 have hpr:=prN_le (a:=a) (b:=b) (by omega) (by omega)
 have hpp:=prN_pos a b;refine zF (qI (xK (v:=vS a) Z Z Z Z Z fun p4 hp4=>?_))
 show Ll _ _ (Own _ _ [_]) _ _ ((4,pt_ p4)::_) _ _ _;refine xK (v:=vS b) Z Z Z Z Z fun p6 hp6=>?_
 show Ll _ _ (Own _ _ [_,_]) _ _ ((6,pt_ p6)::_) _ _ _;refine qL 1 Z (zI (zD [1,3,4,6] [_,_,_,_] Z (zF (qI (zO Z (qF (cs:=#[i6_ a.n,str a.set,str a.rel]) 1 Z zZ Z Z zQ) (qL 1 Z (zO Z (qF (cs:=#[i6_ b.n,str b.set,str b.rel]) 0 Z zZ Z Z zQ) (qL 1 Z (Ll.callNew (σ:=Nat×Nat×Nat×Array Value×Nat×Nat×Array Value) (ok:=fun (p,gf,cf,uf,gw,cw,uw)=>(uf.size=cf*1∧(WL 0 a b k).length≤cf∧uf.toList.take (WL 0 a b k).length=bools (WL 0 a b k))∧(uw.size=cw*1∧(WL 0 a b k).length≤cw∧uw.toList.take (WL 0 a b k).length=bools (WL 0 a b k))) (v:=fun (p,gf,cf,uf,gw,cw,uw)=>.pointer (some ⟨p,0,none⟩)) (new:=fun (p,gf,cf,uf,gw,cw,uw)=>[bk_ p #[i6_ a.n,str a.set,str a.rel,i6_ b.n,str b.set,str b.rel,i6_ (k:Int),i6_ ((prN a b:Nat):Int),sl_ gf ((WL 0 a b k).length) cf,sl_ gw ((WL 0 a b k).length) cw,bo_ false] 81,bk_ gf uf 4,bk_ gw uw 4]) (hs:=[bk_ p6 #[i6_ b.n,str b.set,str b.rel] 24,bk_ p4 #[i6_ a.n,str a.set,str a.rel] 24]) (xs:=[.tmp 10,.tmp 11,.tmp 12,.tmp 13]) (vs:=[vS a,va,vS b,vb]) Z Z Z Z Tryz.call59 Z (fun w1 hw1=>(newPeb_yes a b xs ys va vb w1 hsa hsb (Row.own hva hw1) (Row.own hvb hw1) (by first | (simp;done) | (simp;omega) | omega) (by first | (simp;done) | (simp;omega) | omega) k hk hr).mono fun en w' ⟨p,gf,cf,uf,gw,cw,uw,h1,h2,h3,h4⟩=>⟨(p,gf,cf,uf,gw,cw,uw),h1,⟨h2,h3⟩,hw1.merge h4⟩) fun ⟨p,gf,cf,uf,gw,cw,uw⟩ ⟨⟨hcf,hlf,htf⟩,⟨hcw,hlw,htw⟩⟩=>?_)))))))))
 show Ll _ _ (Own _ _ [_,_,_,_,_]) _ _ ((14,pt_ p)::_) _ _ _;refine qL 1 Z (zI (zD [1,3,9] [_,_,_] Z (zF (zF (zB (zC 1 Z (zE (v:=bo_ false) Z (vR (p:=some ⟨p,0,none⟩) Z Tryz.underlying76 Z Z) (zH (zD [1,3,9,16] [_,_,_,_] Z (jN Z (qR (zD [1,3,9] [_,_,_] Z (zF (qW (xM (σ:=Nat×Nat×Nat×Array Value) (fun ⟨n,g,c,u⟩=>(WL n a b k).length≤c∧u.toList.take (WL n a b k).length=bools (WL n a b k)) (fun ⟨n,g,c,u⟩=>[(1,va),(3,vb),(9,pt_ p)]) (fun ⟨n,g,c,u⟩=>Own w.heap.size w (bk_ p #[i6_ a.n,str a.set,str a.rel,i6_ b.n,str b.set,str b.rel,i6_ (k:Int),i6_ ((prN a b:Nat):Int),sl_ gf ((WL 0 a b k).length) cf,sl_ g ((WL n a b k).length) c,bo_ false] 81::bk_ gf uf 4::bk_ g u 4::([bk_ p6 #[i6_ b.n,str b.set,str b.rel] 24,bk_ p4 #[i6_ a.n,str a.set,str a.rel] 24]))) (fun ⟨n,g,c,u⟩=>nT (WL n a b k)) (0,gw,cw,uw) ⟨hlw,htw⟩ (Sub.sel [1,3,9] Z) (fun _ h=>h) ?_)))))))))))))))
 rintro ⟨n,g,c,u⟩ ⟨hlu,htu⟩
 dsimp only;refine zF (zF (qI (qL 1 Z (vZ (σ:=Nat×Nat×Array Value) (ok:=fun (g,c',u)=>u.size=c'*1∧(WL (n+1) a b k).length≤c'∧u.toList.take (WL (n+1) a b k).length=bools (WL (n+1) a b k)) (v:=fun _=>.bool (!((WL (n+1) a b k)==(WL n a b k)))) (xs:=[.tmp 17]) (vs:=[pt_ p]) (hs':=fun (g,c',u)=>(bk_ p #[i6_ a.n,str a.set,str a.rel,i6_ b.n,str b.set,str b.rel,i6_ (k:Int),i6_ ((prN a b:Nat):Int),sl_ gf ((WL 0 a b k).length) cf,sl_ g ((WL (n+1) a b k).length) c',bo_ false] 81::bk_ gf uf 4::bk_ g u 4::([bk_ p6 #[i6_ b.n,str b.set,str b.rel] 24,bk_ p4 #[i6_ a.n,str a.set,str a.rel] 24]))) Z Z Z Z Tryz.call62 Z (fun w1 hw1=>(turn_ok _ _ _ a b k n p gf cf uf g c u w1 hVa hVb hk3 hlf htf hlu htu hw1).mono fun en w' ⟨g,c',u,h1,h2,h3⟩=>⟨(g,c',u),h1,h2,h3⟩) fun ⟨gt,ct,ut⟩ ⟨hcgt,hlgt,htgt⟩=>?_))))
 show Ll _ _ (Own _ _ (_::_::_::([bk_ p6 #[i6_ b.n,str b.set,str b.rel] 24,bk_ p4 #[i6_ a.n,str a.set,str a.rel] 24]))) _ _ ((18,bo_ (!((WL (n+1) a b k)==(WL n a b k))))::_) _ _ _;refine zI (zD [1,3,9,18] [_,_,_,_] Z (yF (b:=!((WL (n+1) a b k)==(WL n a b k))) Z (fun h18=>?_) (fun h18=>?_)))
 ·
  have hdn:=wl_down (n:=n) (a:=a) (b:=b) (k:=k) (by simpa using h18);refine qR (zD [1,3,9] [_,_,_] Z (qW (qR (yL (n+1,gt,ct,ut) ⟨hlgt,htgt⟩ (by omega) (Sub.sel [1,3,9] Z) (fun _ h=>h)))))
 have hE:WL (n+1) a b k=WL n a b k:=by simpa using h18
 have hWt:(WL (n+1) a b k).length=prN a b ^ k:=WL_len _ _ _ _;refine yY Z (zD [1,3,9] [_,_,_] Z (zF (xY yC (fun _ h=>h.drawn) (by kernel_rfl) (zC 1 Z (zE (v:=pt_ p) Z (zP Z Z) (zE Z (zG Z yG Z xU Z Z) (zE Z (zS 0 Z vU Z Z Z) (zC 3 Z (zE (v:=i6_ (((stU b.n.toNat (prN a b) xs ys k k:Nat):Int))) Z (qK Z Tryz.call61 Z qC (fun w1 hw1=>stateOf_ok a b k p 81 (sl_ gf ((WL 0 a b k).length) cf) (sl_ gt ((WL (n+1) a b k).length) ct) va vb xs ys w1 (hw1.has 0 _ _ Z).2 (Row.own hva hw1) (Row.own hvb hw1) hVa hVb hk3 hx hy hsg)) (zE (v:=pf_ gt ((((stU b.n.toNat (prN a b) xs ys k k:Nat):Int)).toNat)) Z (yA (by rw [Nat.zero_add]) (yZ (i:=((stU b.n.toNat (prN a b) xs ys k k:Nat):Int)) Z xR vQ Z Z (by omega) (by omega))) (zE (v:=bo_ ((WL (n+1) a b k).getD ((((stU b.n.toNat (prN a b) xs ys k k:Nat):Int)).toNat) false)) Z (xT 2 Z Tryz.isAgg4 Z Z (cur_at htgt (bools_at (c:=(WL (n+1) a b k)) (off:=(((stU b.n.toNat (prN a b) xs ys k k:Nat):Int)).toNat) (by first | (simp;done) | (simp;omega) | omega)))) (zC 1 Z (zH (zD [8] [_] Z (qM (qQ Z Z fun w' hw=>?_))))))))))))))))
 subst hk
 exact ⟨ret_b (ever_code hr hE),hw.below⟩
set_option maxHeartbeats 400000 in
theorem iEver_no (a b:St) (xs ys:List Int) (va vb:Value) (w:World) (hsa:a.Small) (hsb:b.Small) (hva:Ints w va xs) (hvb:Ints w vb ys) (hs1:xs.length≤140737488355328) (hs2:ys.length≤140737488355328) (hr:readyB a xs b ys=false) :
    Calls Tryz.prog 27 [vS a,va,vS b,vb].toArray w fun en w'=>en=.returned (.bool (pebEverB a xs b ys))∧Below w.heap.size w w':=by
 refine fnStart (n:=29) (e:=[(0,vS a),(1,va),(2,vS b),(3,vb)]) Tryz.func27 Z Z Z Z Ends.both (zF (qI (xK (v:=vS a) Z Z Z Z Z fun p4 hp4=>?_)))
 show Ll _ _ (Own _ _ [_]) _ _ ((4,pt_ p4)::_) _ _ _;refine xK (v:=vS b) Z Z Z Z Z fun p6 hp6=>?_
 show Ll _ _ (Own _ _ [_,_]) _ _ ((6,pt_ p6)::_) _ _ _;refine qL 1 Z (zI (zD [1,3,4,6] [_,_,_,_] Z (zF (qI (zO Z (qF (cs:=#[i6_ a.n,str a.set,str a.rel]) 1 Z zZ Z Z zQ) (qL 1 Z (zO Z (qF (cs:=#[i6_ b.n,str b.set,str b.rel]) 0 Z zZ Z Z zQ) (qL 1 Z (zO (v:=.pointer none) Z (qK Z Tryz.call59 Z qC (fun w1 hw1=>newPeb_no a b xs ys va vb w1 hsa hsb (Row.own hva hw1) (Row.own hvb hw1) (by first | (simp;done) | (simp;omega) | omega) (by first | (simp;done) | (simp;omega) | omega) hr)) (qL 1 Z (zI (zD [1,3,9] [_,_,_] Z (zF (zF (zB (zC 1 Z (zE (v:=bo_ true) Z (vR (p:=none) Z Tryz.underlying76 Z Z) (zH (zD [1,3,9,16] [_,_,_,_] Z (yW Z (zF (zB (zC 1 Z (zH (zD [8] [_] Z (qM (qQ Z Z fun w' hw=>?_)))))))))))))))))))))))))))
 exact ⟨ret_b (by unfold pebEverB;rw [hr];rfl),hw.below⟩
theorem iEver_ok (a b:St) (xs ys:List Int) (va vb:Value) (w:World) (hsa:a.Small) (hsb:b.Small) (hva:Ints w va xs) (hvb:Ints w vb ys) (hs1:xs.length≤140737488355328) (hs2:ys.length≤140737488355328) :
    Calls Tryz.prog 27 #[vS a,va,vS b,vb] w fun en w'=>en=.returned (.bool (pebEverB a xs b ys))∧Below w.heap.size w w':=by
  cases hr:readyB a xs b ys with
  | true=>exact iEver_yes a b xs ys va vb w hsa hsb hva hvb hs1 hs2 xs.length rfl hr
  | false=>exact iEver_no a b xs ys va vb w hsa hsb hva hvb hs1 hs2 hr
end Go.Proofs.YtefiibghfgfdnaaGreatDoor
namespace Go.Proofs.YtefiibghfgfdnaaGreatDoor
open Go.RowKit Go.Wk
set_option linter.unusedSimpArgs false
set_option maxHeartbeats 400000 in
theorem lawFnFew (bv:Value) (L:List Int) (w:World) (hbv:Row w bv (u8s L)) (hL8:Bytes8 L) (hLm:L.length≤9223372036854775807) :
    Calls Tryz.prog 6 [bv].toArray w fun en w'=>en=.returned (.bool true)∧Below w.heap.size w w':=by
 refine fnStart (n:=132) (e:=[(0,bv)]) Tryz.func6 Z Z Z Z Ends.both (zF (zB (zC 1 Z (zH (zD [0] [_] Z (zF (zF (zB (zC 1 Z (zE (v:=i6_ (L.length:Int)) Z (yP Z xB Z (u8s_length _) (fun w1 hw1=>Row.own hbv hw1)) (zC 1 Z (zH (zD [0,16] [_,_] Z (yQ Z (fun h16=>?_) (fun h16=>?_)))))))))))))))
 ·
  refine zF (zB (zC 1 Z (zH (zD [2] [_] Z (qM (qQ Z Z fun w' hw=>?_))))))
  exact ⟨rfl,hw.below⟩
 refine qR (zD [0] [_] Z (zF (qI (qL 1 Z (uD (ok:=fun ((f,a,b,v,xs,u,ys,new):List UInt8×St×St×Value×List Int×Value×List Int×List (Nat×Obj))=>(((a.Tame∧b.Tame)∧(xs.length≤40∧ys.length≤40)∧∀ w1,Own w.heap.size w new w1→Ints w1 v xs∧Ints w1 u ys)∧f.length≤4000)) (v:=fun ((f,a,b,v,xs,u,ys,new):List UInt8×St×St×Value×List Int×Value×List Int×List (Nat×Obj))=>.tuple #[str f,vS a,v,vS b,u]) (new:=fun ((f,a,b,v,xs,u,ys,new):List UInt8×St×St×Value×List Int×Value×List Int×List (Nat×Obj))=>new) (hs:=[]) (xs:=[.tmp 18]) (vs:=[bv]) ([]:List (Nat×Obj)) Z Z Z Z Tryz.call23 Z (fun w1 hw1=>(drawSep_ok w.heap.size w (([]:List (Nat×Obj))++([])) bv L w1 (fun w2 hw2=>Row.own hbv hw2) hL8 (by omega) hw1).mono fun en w' ⟨f,a,b,v,xs,u,ys,new,h1,h2,h3⟩=>⟨(f,a,b,v,xs,u,ys,new),h1,h2,h3⟩) fun ⟨f19,a19,b19,v19,xs19,u19,ys19,new19⟩ hK=>?_)))))
 dsimp only at hK
 obtain ⟨⟨⟨hta19,htb19⟩,⟨hlxs19,hlys19⟩,hrw⟩,hff19⟩:=hK
 have hIv19:∀ w1,Own w.heap.size w new19 w1→Ints w1 v19 xs19:=fun w1 h=>(hrw w1 h).1
 have hIu19:∀ w1,Own w.heap.size w new19 w1→Ints w1 u19 ys19:=fun w1 h=>(hrw w1 h).2
 have hsa19:=hta19.small
 have loa19:=hta19.lo
 have hia19:=hta19.hi
 have hsb19:=htb19.small
 have lob19:=htb19.lo
 have hib19:=htb19.hi
 show Ll _ _ (Own _ _ (new19++([]))) _ _ ((19,.tuple #[str f19,vS a19,v19,vS b19,u19])::_) _ _ _;refine qL 1 Z (zO (v:=str f19) Z (yD Z Z Z) (zO (v:=vS a19) Z (yD Z Z Z) (zO (v:=v19) Z (yD Z Z Z) (zO (v:=vS b19) Z (yD Z Z Z) (zO (v:=u19) Z (yD Z Z Z) (jU Z Z Z Z xG fun p4 hp4=>?_))))))
 show Ll _ _ (Own _ _ (bk_ p4 #[i6_ 0,str ([]),str ([])] 24::(new19++([])))) _ _ ((4,pt_ p4)::_) _ _ _;refine jU Z Z Z Z xG fun p6 hp6=>?_
 show Ll _ _ (Own _ _ (bk_ p6 #[i6_ 0,str ([]),str ([])] 24::_::(new19++([])))) _ _ ((6,pt_ p6)::_) _ _ _;refine qL 1 Z (yV (cs':=#[i6_ a19.n,str a19.set,str a19.rel]) (hs':=(_::bk_ p4 #[i6_ a19.n,str a19.set,str a19.rel] 24::(new19++([])))) 1 Z Z Z Z Z (by kernel_rfl:_=some Tryz.t24) Z Z Z Z Z (qL 1 Z (yV (cs':=#[i6_ b19.n,str b19.set,str b19.rel]) (hs':=(bk_ p6 #[i6_ b19.n,str b19.set,str b19.rel] 24::_::(new19++([])))) 0 Z Z Z Z Z (by kernel_rfl:_=some Tryz.t24) Z Z Z Z Z (qL 1 Z (zI (zD [3,4,5,6,7] [_,_,_,_,_] Z (zF (zB (zC 1 Z (zE Z (qF (cs:=#[i6_ a19.n,str a19.set,str a19.rel]) 1 Z zZ Z Z zQ) (zC 1 Z (zE Z (qF (cs:=#[i6_ b19.n,str b19.set,str b19.rel]) 0 Z zZ Z Z zQ) (zC 1 Z (zE (v:=bo_ (sepB f19 a19 xs19 b19 ys19)) Z (qK Z Tryz.call13 Z qC (fun w1 hw1=>iSep_ok f19 a19 b19 xs19 ys19 v19 u19 w1 hsa19 hsb19 (hIv19 _ (yM (qG (f:=[_,_]) hw1))) (hIu19 _ (yM (qG (f:=[_,_]) hw1))) (by omega) (by omega) (by omega))) (zC 1 Z (zH (zD [3,4,5,6,7,8] [_,_,_,_,_,_] Z (zF (zF (zB (zC 2 Z (zE Z (qF (cs:=#[i6_ a19.n,str a19.set,str a19.rel]) 1 Z zZ Z Z zQ) (zC 1 Z (zE Z (qF (cs:=#[i6_ b19.n,str b19.set,str b19.rel]) 0 Z zZ Z Z zQ) (zC 1 Z (zE (v:=bo_ (sepB f19 a19 xs19 b19 ys19)) Z (qK Z Tryz.call24 Z qC (fun w1 hw1=>sSep_ok f19 a19 b19 xs19 ys19 v19 u19 w1 hsa19 hsb19 (hIv19 _ (yM (qG (f:=[_,_]) hw1))) (hIu19 _ (yM (qG (f:=[_,_]) hw1))) (by omega) (by omega) (by omega))) (zE Z (OpQ.bne Z xJ Z Z) (zC 1 Z (xD fun b39 hg39=>?_)))))))))))))))))))))))))))))
 cases b39
 ·
  refine zC 4 Z (xD fun b43 hg43=>?_)
  cases b43
  ·
   replace hg43:=not_false hg43;refine zC 1 Z (zE (v:=bo_ (countsV f19)) Z (qK Z Tryz.call16 Z qC (fun w1 hw1=>iCounts_ok f19 w1)) (zC 2 Z (xD fun b47 hg47=>?_)))
   cases b47
   ·
    refine zC 1 Z (zE (v:=i6_ (xs19.length:Int)) Z (yP Z zX Z (ints_length _) (fun w1 hw1=>hIv19 _ (yM (qG (f:=[_,_]) hw1)))) (zC 3 Z (xD fun b52 hg52=>?_)))
    cases b52
    ·
     replace hg52:=zT hg52;refine zE Z (zG Z zY Z zJ Z Z) (zE Z (zS 1 Z zU Z Z Z) (zC 3 Z (xD fun b57 hg57=>?_)))
     cases b57
     ·
      replace hg57:=zT hg57;refine zE Z (zG Z zY Z zJ Z Z) (zE Z (zS 0 Z zU Z Z Z) (zC 2 Z (zH (zD [3,4,5,6,7,8,61] [_,_,_,_,_,_,_] Z (yF (b:=decide ((4:Int)<b19.n)) Z (fun h61=>?_) (fun h61=>?_))))))
      ·
       replace h61:=zV h61;refine zF (zB (zC 2 Z (zE Z (qF (cs:=#[i6_ a19.n,str a19.set,str a19.rel]) 1 Z zZ Z Z zQ) (zC 1 Z (zE Z (qF (cs:=#[i6_ b19.n,str b19.set,str b19.rel]) 0 Z zZ Z Z zQ) (zC 1 Z (zE (v:=bo_ (sepB f19 a19 xs19 b19 ys19)) Z (qK Z Tryz.call24 Z qC (fun w1 hw1=>sSep_ok f19 a19 b19 xs19 ys19 v19 u19 w1 hsa19 hsb19 (hIv19 _ (yM (qG (f:=[_,_]) hw1))) (hIu19 _ (yM (qG (f:=[_,_]) hw1))) (by omega) (by omega) (by omega))) (zE Z (OpQ.beq Z xJ Z Z) (zC 1 Z (zH (zD [2] [_] Z (qM (qQ Z Z fun w' hw=>?_)))))))))))))
       exact ⟨ret_b (by first | rfl | (simp_all;done)),hw.below⟩
      replace h61:=zT h61
      have hS:sepB f19 a19 xs19 b19 ys19=true:=by simp_all
      have hC:countsV f19=false:=by simp_all
      obtain ⟨pp,hpp,hxy,hcx,hcy,-⟩:=sep_parts hS
      have hx4:=hcx.2.1;refine qR (zD [3,4,5,6,7] [_,_,_,_,_] Z (zF (zB (zC 1 Z (zE (v:=i6_ (xs19.length:Int)) Z (yP Z zX Z (ints_length _) (fun w1 hw1=>hIv19 _ (yM (qG (f:=[_,_]) hw1)))) (zC 1 Z (zH (zD [3,4,5,6,7,9] [_,_,_,_,_,_] Z (zF (zF (zB (zC 1 Z (zH (zD [3,4,5,6,7,9,10] [_,_,_,_,_,_,_] Z (qW (xM (σ:=Nat×Nat) (fun ⟨v,W⟩=>v≤4∧xs19.length≤W∧W≤4∧∀ i:Nat,i<v→(∃ c∈f19,c.toNat=97+i)→i<W) (fun ⟨v,W⟩=>[(3,str f19),(4,pt_ p4),(5,v19),(6,pt_ p6),(7,u19),(9,i6_ (W:Int)),(10,i6_ (v:Int))]) (fun ⟨v,W⟩=>Own w.heap.size w (bk_ p6 #[i6_ b19.n,str b19.set,str b19.rel] 24::bk_ p4 #[i6_ a19.n,str a19.set,str a19.rel] 24::(new19++([])))) (fun ⟨v,W⟩=>4 - v) (0,xs19.length) ⟨by omega,by omega,by omega,fun i hi=>absurd hi (by omega)⟩ (Sub.sel [3,4,5,6,7,9,10] Z) (fun _ h=>h) ?_))))))))))))))))
      rintro ⟨v,W⟩ ⟨hv4,hxW,hW4,hall⟩
      dsimp only;refine zF (zF (zB (zC 2 Z (zH (zD [3,4,5,6,7,9,10,73] [_,_,_,_,_,_,_,_] Z (yQ Z (fun h73=>?_) (fun h73=>?_)))))))
      ·
       refine qR (zD [3,4,5,6,7,9,10] [_,_,_,_,_,_,_] Z (zF (qW (zF (zB (zC 1 Z (zH (zD [3,4,5,6,7,9,10,11] [_,_,_,_,_,_,_,_] Z (qW (xM (σ:=Nat×Nat) (fun ⟨j,X⟩=>j≤f19.length∧W≤X∧X≤4∧∀ i:Nat,i<j→(f19.getD i 0).toNat=97+v→v<X) (fun ⟨j,X⟩=>[(3,str f19),(4,pt_ p4),(5,v19),(6,pt_ p6),(7,u19),(9,i6_ (X:Int)),(10,i6_ (v:Int)),(11,i6_ (j:Int))]) (fun ⟨j,X⟩=>Own w.heap.size w (bk_ p6 #[i6_ b19.n,str b19.set,str b19.rel] 24::bk_ p4 #[i6_ a19.n,str a19.set,str a19.rel] 24::(new19++([])))) (fun ⟨j,X⟩=>f19.length - j) (0,W) ⟨by omega,by omega,by omega,fun i hi=>absurd hi (by omega)⟩ (Sub.sel [3,4,5,6,7,9,10,11] Z) (fun _ h=>h) ?_))))))))))
       rintro ⟨j,X⟩ ⟨hj,hWX,hX4,hlt⟩
       dsimp only;refine zF (zF (zB (zC 2 Z (zE (v:=i6_ (f19.length:Int)) Z (jS Z qV Z) (zC 1 Z (zH (zD [3,4,5,6,7,9,10,11,79] [_,_,_,_,_,_,_,_,_] Z (yF (b:=decide ((j:Int)<(f19.length:Int))) Z (fun h79=>?_) (fun h79=>?_)))))))))
       ·
        replace h79:=zV h79
        have hb8:=(f19.getD (j:Int).toNat 0).toNat_lt;refine qR (zD [3,4,5,6,7,9,10,11] [_,_,_,_,_,_,_,_] Z (zF (qW (zF (zB (zC 2 Z (zE (v:=.int .u8 (((f19.getD ((j:Int).toNat) 0).toNat:Int))) Z (xE Z qV Z Z (by omega) (by omega)) (zE (v:=i6_ (((f19.getD ((j:Int).toNat) 0).toNat:Int))) Z (jX .i64 Z jH xF Z (IntWalk.i64_in _ (by have:=UInt8.toNat_lt (f19.getD ((j:Int).toNat) 0);omega))) (zE Z (jV Z Z Z (by omega) (by omega)) (zC 2 Z (zH (zD [3,4,5,6,7,9,10,11,88] [_,_,_,_,_,_,_,_,_] Z (yQ Z (fun h88=>?_) (fun h88=>?_))))))))))))))
        ·
         refine zB (zC 2 Z (zE Z (qT Z Z Z (by omega) (by omega)) (zE (v:=i6_ (if ((v:Int)+(1:Int)) > (X:Int) then ((v:Int)+(1:Int)) else (X:Int))) Z (OpQ.maxU Z Z Z) (zC 1 Z (zH (zD [3,4,5,6,7,9,10,11] [_,_,_,_,_,_,_,_] Z (zB (zC 1 Z (zE Z (qT Z Z Z (by omega) (by omega)) (zC 1 Z (zH (yL (j+1,max X (v+1)) ⟨by omega,by omega,by omega,fun i _ _=>by omega⟩ (by omega) (Sub.cons Z (Sub.cons Z (Sub.cons Z (Sub.cons Z (Sub.cons Z (Sub.cons (by rw [← max_nat];rfl) (Sub.sel [10,11] Z))))))) (fun _ h=>h)))))))))))))
        refine qR (zD [3,4,5,6,7,9,10,11] [_,_,_,_,_,_,_,_] Z (zB (zC 1 Z (zE Z (qT Z Z Z (by omega) (by omega)) (zC 1 Z (zH (yL (j+1,X) ⟨by omega,by omega,by omega,fun i hi=>(Nat.lt_succ_iff_lt_or_eq.1 hi).elim (hlt i) (fun e q=>by subst e;exact absurd (show ((f19.getD (i:Int).toNat 0).toNat:Int)=97+v by rw [Int.toNat_natCast,q];omega) (by omega))⟩ (by omega) (Sub.sel [3,4,5,6,7,9,10,11] Z) (fun _ h=>h))))))))
       replace h79:=zT h79;refine yY Z (zD [3,4,5,6,7,9,10] [_,_,_,_,_,_,_] Z (zB (zC 1 Z (zE Z (qT Z Z Z (by omega) (by omega)) (zC 1 Z (zH (yL (v+1,X) ⟨by omega,by omega,by omega,fun i hi=>(Nat.lt_succ_iff_lt_or_eq.1 hi).elim (fun h q=>Nat.lt_of_lt_of_le (hall i h q) hWX) (fun e=>by subst e;exact letter_at hlt (by omega))⟩ (by omega) (Sub.sel [3,4,5,6,7,9,10] Z) (fun _ h=>h))))))))
      refine yY Z (zD [3,4,5,6,7,9] [_,_,_,_,_,_] Z (zF (zF (zB (zC 3 Z (xD fun b95 hg95=>?_))))))
      cases b95
      ·
       replace hg95:=zT hg95;refine zC 1 Z (zE (v:=i6_ (rankI f19)) Z (qK Z Tryz.call14 Z qC (fun w1 hw1=>iRank_ok f19 w1)) (zC 2 Z (zH (zD [3,4,5,6,7,9,99] [_,_,_,_,_,_,_] Z (yQ Z (fun h99=>?_) (fun h99=>?_))))))
       ·
        refine zF (zB (zC 1 Z (zH (zD [2] [_] Z (qM (qQ Z Z fun w' hw=>?_))))))
        exact ⟨rfl,hw.below⟩
       refine qR (zD [3,4,5,6,7,9] [_,_,_,_,_,_] Z (zF (qI (yN (xs:=[]) (vs:=[]) yI Z Z Z Z Z Z (by decide) Z fun p100 hp100=>(qL 1 Z (xH (xs:=[]) (ys:=xs19) yI 0 Z Z Z Z Z Z Z Z (by decide) Z (fun w1 hw1=>(hIv19 _ (yM (qG (f:=[_,_,_]) hw1)))) ((xs19).length) (by first | (simp;done) | (simp;omega)) (by first | (simp;done) | (simp;omega) | omega) fun p102 cap102 cur102 hp102 hcp102 hlp102 htp102=>?_))))))
       show Ll _ _ (Own _ _ (_::_::_::(new19++([])))) _ _ ((102,sl_ p102 ((xs19).length) cap102)::_) _ _ _;refine qL 1 Z (zI (zD [3,4,6,7,9,12] [_,_,_,_,_,_] Z (zF (qI (yN (xs:=[]) (vs:=[]) yI Z Z Z Z Z Z (by decide) Z fun p103 hp103=>(qL 1 Z (xH (xs:=[]) (ys:=ys19) yI 0 Z Z Z Z Z Z Z Z (by decide) Z (fun w1 hw1=>(hIu19 _ (yM (qG (f:=[_,_,_,_]) hw1)))) ((ys19).length) (by first | (simp;done) | (simp;omega)) (by first | (simp;done) | (simp;omega) | omega) fun p105 cap105 cur105 hp105 hcp105 hlp105 htp105=>?_)))))))
       show Ll _ _ (Own _ _ (_::_::_::_::(new19++([])))) _ _ ((105,sl_ p105 ((ys19).length) cap105)::_) _ _ _;refine qL 1 Z (zI (zD [3,4,6,9,12,13] [_,_,_,_,_,_] Z (zF (qW (xM (σ:=Nat×Nat×Nat×Array Value×Nat×Nat×Array Value) (fun ⟨m,g,c,u,g2,c2,u2⟩=>xs19.length+m≤W∧(u.size=c*1∧(xs19++bes m).length≤c∧u.toList.take (xs19++bes m).length=ints (xs19++bes m))∧u2.size=c2*1∧(ys19++bes m).length≤c2∧u2.toList.take (ys19++bes m).length=ints (ys19++bes m)) (fun ⟨m,g,c,u,g2,c2,u2⟩=>[(3,str f19),(4,pt_ p4),(6,pt_ p6),(9,i6_ (W:Int)),(12,sl_ g ((xs19++bes m).length) c),(13,sl_ g2 ((ys19++bes m).length) c2)]) (fun ⟨m,g,c,u,g2,c2,u2⟩=>Own w.heap.size w (bk_ g2 u2 3::bk_ g u 3::bk_ p6 #[i6_ b19.n,str b19.set,str b19.rel] 24::bk_ p4 #[i6_ a19.n,str a19.set,str a19.rel] 24::(new19++([])))) (fun ⟨m,g,c,u,g2,c2,u2⟩=>W - xs19.length - m) (0,p102,cap102,cur102,p105,cap105,cur105) ⟨by omega,⟨by simpa using hcp102,by simpa [bes] using hlp102,by simpa [bes] using (by simpa using htp102)⟩,⟨by simpa using hcp105,by simpa [bes] using hlp105,by simpa [bes] using (by simpa using htp105)⟩⟩ (Sub.cons Z (Sub.cons Z (Sub.cons Z (Sub.cons Z (Sub.cons (by simp [bes];rfl) (Sub.cons (by simp [bes];rfl) Sub.nil)))))) (fun _ h=>h) ?_)))))
       rintro ⟨m,g,c,u,g2,c2,u2⟩ ⟨hm,⟨hcg,hlg,htg⟩,hcg2,hlg2,htg2⟩
       dsimp only
       have hpl:(xs19++bes m).length=xs19.length+m:=by simp
       have hql:(ys19++bes m).length=xs19.length+m:=by simp [← hxy]
       have hb1:xs19++bes (m+1)=(xs19++bes m)++[-1]:=by rw [bes_snoc,List.append_assoc]
       have hb2:ys19++bes (m+1)=(ys19++bes m)++[-1]:=by rw [bes_snoc,List.append_assoc]
       refine zF (zF (zB (zC 1 Z (zE Z (kD Z zX Z) (zC 2 Z (zH (zD [3,4,6,9,12,13,109] [_,_,_,_,_,_,_] Z (yF (b:=decide (((xs19++bes m).length:Int)<(W:Int))) Z (fun h109=>?_) (fun h109=>?_)))))))))
       ·
        replace h109:=zV h109;refine qR (zD [3,4,6,9,12,13] [_,_,_,_,_,_] Z (qW (zF (qI (qL 1 Z (yN (xs:=[.const (i6_ (-1))]) (vs:=[i6_ (-1)]) yI Z Z Z Z Z Z (by decide) Z fun p111 hp111=>(xH (xs:=(xs19++bes m)) (ys:=[-1]) yI 2 Z Z Z Z Z Z Z hcg hlg htg (fun w1 hw1=>(yX hw1 (i:=0) Z (n:=1) (cap:=1) (vs:=ints [-1]) Z Z (by decide))) (((xs19++bes m)++([-1])).length) (by first | (simp;done) | (simp;omega)) (by first | (simp;done) | (simp;omega) | omega) fun p112 cap112 cur112 hp112 hcp112 hlp112 htp112=>?_)))))))
        show Ll _ _ (Own _ _ (_::_::_::_::_::(new19++([])))) _ _ ((112,sl_ p112 ((((xs19++bes m)++([-1])).length)) cap112)::_) _ _ _;refine qL 1 Z (zI (zD [3,4,6,9,12,13] [_,_,_,_,_,_] Z (qI (qL 1 Z (yN (xs:=[.const (i6_ (-1))]) (vs:=[i6_ (-1)]) yI Z Z Z Z Z Z (by decide) Z fun p114 hp114=>(xH (xs:=(ys19++bes m)) (ys:=[-1]) yI 2 Z Z Z Z Z Z Z hcg2 hlg2 htg2 (fun w1 hw1=>(yX hw1 (i:=0) Z (n:=1) (cap:=1) (vs:=ints [-1]) Z Z (by decide))) (((ys19++bes m)++([-1])).length) (by first | (simp;done) | (simp;omega)) (by first | (simp;done) | (simp;omega) | omega) fun p115 cap115 cur115 hp115 hcp115 hlp115 htp115=>?_))))))
        show Ll _ _ (Own _ _ (_::_::_::_::_::_::(new19++([])))) _ _ ((115,sl_ p115 ((((ys19++bes m)++([-1])).length)) cap115)::_) _ _ _;refine qL 1 Z (zI (yL (m+1,p112,cap112,cur112,p115,cap115,cur115) ⟨by omega,⟨hcp112,by rw [hb1];exact hlp112,by rw [hb1];simpa using htp112⟩,hcp115,by rw [hb2];exact hlp115,by rw [hb2];simpa using htp115⟩ (by omega) (Sub.cons Z (Sub.cons Z (Sub.cons Z (Sub.cons Z (Sub.cons (by rw [hb1];rfl) (Sub.cons (by rw [hb2];rfl) Sub.nil)))))) (fun _ h=>h.sub (qJ _ (qJ _ (zA _ (zA _ (zA _ (zA _ (zW _))))))))))
       replace h109:=zT h109
       have hmm:m=W - xs19.length:=by omega
       have hfew:=few_law hS hC hxW (fun i hi=>hall i (by omega))
       rw [← hmm] at hfew;refine yY Z (zD [3,4,6,12,13] [_,_,_,_,_] Z (zF (xY yC (fun _ h=>h.drawn) (by kernel_rfl) (zE Z (qF (cs:=#[i6_ a19.n,str a19.set,str a19.rel]) 3 Z zZ Z Z zQ) (zC 1 Z (zE Z (qF (cs:=#[i6_ b19.n,str b19.set,str b19.rel]) 2 Z zZ Z Z zQ) (zC 2 Z (zE (v:=i6_ (rankI f19)) Z (qK Z Tryz.call14 Z qC (fun w1 hw1=>iRank_ok f19 w1)) (zE (v:=bo_ (pebWinB a19 (xs19++bes m) b19 (ys19++bes m) (rankI f19))) Z (qK Z Tryz.call26 Z qC (fun w1 hw1=>iPWin_ok a19 b19 (xs19++bes m) (ys19++bes m) (sl_ g ((xs19++bes m).length) c) (sl_ g2 ((ys19++bes m).length) c2) w1 hsa19 hsb19 (yX hw1 (i:=1) Z htg (by simp) hlg) (yX hw1 (i:=0) Z htg2 (by simp) hlg2) (by first | (simp;done) | (simp;omega) | omega) (by first | (simp;done) | (simp;omega) | omega) (rankI f19))) (zC 2 Z (xD fun b124 hg124=>?_)))))))))))
       cases b124
       ·
        replace hg124:=not_false hg124;refine zM Z (zM Z (zM Z (zM Z (zM Z (zM Z (zC 2 Z (zH (zD [2] [_] Z (qM (qQ Z Z fun w' hw=>?_))))))))))
        exact ⟨ret_b (by first | rfl | exact bool_no' hfew.1 (by assumption) | (rw [hfew.2];rfl) | exact absurd (show pebWinB _ _ _ _ _=true by assumption) (by rw [hfew.1];decide)),hw.below⟩
       replace hg124:=not_true hg124;refine zE Z (qF (cs:=#[i6_ a19.n,str a19.set,str a19.rel]) 3 Z zZ Z Z zQ) (zC 1 Z (zE Z (qF (cs:=#[i6_ b19.n,str b19.set,str b19.rel]) 2 Z zZ Z Z zQ) (zC 1 Z (zE (v:=bo_ (pebEverB a19 (xs19++bes m) b19 (ys19++bes m))) Z (qK Z Tryz.call27 Z qC (fun w1 hw1=>iEver_ok a19 b19 (xs19++bes m) (ys19++bes m) (sl_ g ((xs19++bes m).length) c) (sl_ g2 ((ys19++bes m).length) c2) w1 hsa19 hsb19 (yX hw1 (i:=1) Z htg (by simp) hlg) (yX hw1 (i:=0) Z htg2 (by simp) hlg2) (by first | (simp;done) | (simp;omega) | omega) (by first | (simp;done) | (simp;omega) | omega))) (zC 3 Z (zH (zD [2] [_] Z (qM (qQ Z Z fun w' hw=>?_)))))))))
       exact ⟨ret_b (by first | rfl | exact bool_no' hfew.1 (by assumption) | (rw [hfew.2];rfl) | exact absurd (show pebWinB _ _ _ _ _=true by assumption) (by rw [hfew.1];decide)),hw.below⟩
      replace hg95:=zV hg95;refine zM Z (zM Z (zM Z (zC 1 Z (zH (zD [3,4,5,6,7,9,99] [_,_,_,_,_,_,_] Z (yW Z (zF (zB (zC 1 Z (zH (zD [2] [_] Z (qM (qQ Z Z fun w' hw=>?_)))))))))))))
      exact ⟨rfl,hw.below⟩
     replace hg57:=zV hg57;refine zM Z (zM Z (zM Z (zC 1 Z (zH (zD [3,4,5,6,7,8,61] [_,_,_,_,_,_,_] Z (yW Z (zF (zB (zC 2 Z (zE Z (qF (cs:=#[i6_ a19.n,str a19.set,str a19.rel]) 1 Z zZ Z Z zQ) (zC 1 Z (zE Z (qF (cs:=#[i6_ b19.n,str b19.set,str b19.rel]) 0 Z zZ Z Z zQ) (zC 1 Z (zE (v:=bo_ (sepB f19 a19 xs19 b19 ys19)) Z (qK Z Tryz.call24 Z qC (fun w1 hw1=>sSep_ok f19 a19 b19 xs19 ys19 v19 u19 w1 hsa19 hsb19 (hIv19 _ (yM (qG (f:=[_,_]) hw1))) (hIu19 _ (yM (qG (f:=[_,_]) hw1))) (by omega) (by omega) (by omega))) (zE Z (OpQ.beq Z xJ Z Z) (zC 1 Z (zH (zD [2] [_] Z (qM (qQ Z Z fun w' hw=>?_))))))))))))))))))))
     exact ⟨ret_b (by first | rfl | (simp_all;done)),hw.below⟩
    replace hg52:=zV hg52;refine zM Z (zM Z (zM Z (zC 2 Z (zM Z (zM Z (zM Z (zC 1 Z (zH (zD [3,4,5,6,7,8,61] [_,_,_,_,_,_,_] Z (yW Z (zF (zB (zC 2 Z (zE Z (qF (cs:=#[i6_ a19.n,str a19.set,str a19.rel]) 1 Z zZ Z Z zQ) (zC 1 Z (zE Z (qF (cs:=#[i6_ b19.n,str b19.set,str b19.rel]) 0 Z zZ Z Z zQ) (zC 1 Z (zE (v:=bo_ (sepB f19 a19 xs19 b19 ys19)) Z (qK Z Tryz.call24 Z qC (fun w1 hw1=>sSep_ok f19 a19 b19 xs19 ys19 v19 u19 w1 hsa19 hsb19 (hIv19 _ (yM (qG (f:=[_,_]) hw1))) (hIu19 _ (yM (qG (f:=[_,_]) hw1))) (by omega) (by omega) (by omega))) (zE Z (OpQ.beq Z xJ Z Z) (zC 1 Z (zH (zD [2] [_] Z (qM (qQ Z Z fun w' hw=>?_))))))))))))))))))))))))
    exact ⟨ret_b (by first | rfl | (simp_all;done)),hw.below⟩
   refine zM Z (zM Z (zM Z (zC 2 Z (zM Z (zM Z (zM Z (zC 2 Z (zM Z (zM Z (zM Z (zC 1 Z (zH (zD [3,4,5,6,7,8,61] [_,_,_,_,_,_,_] Z (yW Z (zF (zB (zC 2 Z (zE Z (qF (cs:=#[i6_ a19.n,str a19.set,str a19.rel]) 1 Z zZ Z Z zQ) (zC 1 Z (zE Z (qF (cs:=#[i6_ b19.n,str b19.set,str b19.rel]) 0 Z zZ Z Z zQ) (zC 1 Z (zE (v:=bo_ (sepB f19 a19 xs19 b19 ys19)) Z (qK Z Tryz.call24 Z qC (fun w1 hw1=>sSep_ok f19 a19 b19 xs19 ys19 v19 u19 w1 hsa19 hsb19 (hIv19 _ (yM (qG (f:=[_,_]) hw1))) (hIu19 _ (yM (qG (f:=[_,_]) hw1))) (by omega) (by omega) (by omega))) (zE Z (OpQ.beq Z xJ Z Z) (zC 1 Z (zH (zD [2] [_] Z (qM (qQ Z Z fun w' hw=>?_))))))))))))))))))))))))))))
   exact ⟨ret_b (by first | rfl | (simp_all;done)),hw.below⟩
  replace hg43:=not_true hg43;refine zM Z (zM Z (zC 2 Z (zM Z (zM Z (zM Z (zC 2 Z (zM Z (zM Z (zM Z (zC 2 Z (zM Z (zM Z (zM Z (zC 1 Z (zH (zD [3,4,5,6,7,8,61] [_,_,_,_,_,_,_] Z (yW Z (zF (zB (zC 2 Z (zE Z (qF (cs:=#[i6_ a19.n,str a19.set,str a19.rel]) 1 Z zZ Z Z zQ) (zC 1 Z (zE Z (qF (cs:=#[i6_ b19.n,str b19.set,str b19.rel]) 0 Z zZ Z Z zQ) (zC 1 Z (zE (v:=bo_ (sepB f19 a19 xs19 b19 ys19)) Z (qK Z Tryz.call24 Z qC (fun w1 hw1=>sSep_ok f19 a19 b19 xs19 ys19 v19 u19 w1 hsa19 hsb19 (hIv19 _ (yM (qG (f:=[_,_]) hw1))) (hIu19 _ (yM (qG (f:=[_,_]) hw1))) (by omega) (by omega) (by omega))) (zE Z (OpQ.beq Z xJ Z Z) (zC 1 Z (zH (zD [2] [_] Z (qM (qQ Z Z fun w' hw=>?_)))))))))))))))))))))))))))))))
  exact ⟨ret_b (by first | rfl | (simp_all;done)),hw.below⟩
 exact absurd hg39 (by simp)
end Go.Proofs.YtefiibghfgfdnaaGreatDoor
namespace Go.Proofs.YtefiibghfgfdnaaGreatDoor
open Go.ChangeShapes Go.WideShapes Go.ChangeAt Go.RowKit Go.Wk
namespace FnFewVariables
def W0:Array Value:=#[.slice none 0 0]
set_option maxRecDepth 100000 in
theorem contract (H:Type) (enc:TypeId×Value→H) (W:World) (base:Nat) (args:Array Value) (ds gs:List (DataW H)) (before:List MemPlace)
  (hval:∀ (j:Nat) t v,Tryz.f6.params[j]?=some t→args[j]?=some v→Value.okWide Tryz.prog W .any base t v)
  (hW:DataW.Whole enc Tryz.prog Tryz.f6.params.toList Rows.fnFewVariablesSpec.vars false W args.toList ds gs before) :
  Calls Tryz.prog 6 args W fun e W'=>∃ v,e=.returned v∧Rows.fnFewVariablesSpec.post enc Tryz.prog Tryz.f6 false true false false W args v W':=by
 have hW':=hW
 obtain ⟨p,q,hA0,hV,rfl,hfz,hnd⟩:=hW
 have hA:DataW.TrodAll enc Tryz.prog W 0 (fun _=>true) true Tryz.f6.params.toList args.toList ds p:=hA0
 rw [Tryz.params6] at hA hval
 obtain ⟨v0,vs0,d0,ds0,p0,q0,hargs0,rfl,rfl,h0,r0⟩:=trodAll_cons hA
 obtain ⟨rfl,rfl,rfl⟩:=trodAll_nil r0
 obtain rfl:args=#[v0]:=by cases args;simp_all
 obtain ⟨l0,row0,eight0,len0⟩:=open_B Tryz.underlying22 Tryz.underlying5 (by kernel_rfl) (hval 0 22 v0 rfl rfl) h0
 have walk:Calls Tryz.prog 6 #[v0] W fun e w'=>e=.returned (.bool true)∧Below W.heap.size W w':=by
  exact lawFnFew v0 l0 W row0 eight0 len0
 refine walk.mono fun e W' ⟨he,hb⟩=>⟨_,he,?_⟩
 exact post_true laidOut (by rw [Tryz.params6];intro t ht;simp only [List.mem_cons,List.not_mem_nil,or_false] at ht;rcases ht with rfl <;> exact ⟨by kernel_rfl,of_decide_eq_true (by kernel_rfl)⟩) rfl hW' rfl (by kernel_rfl) Tryz.underlying4 hb
theorem reads (os:Os) {H:Type} (enc:TypeId×Value→H):∃ places,DataW.whole enc Tryz.prog ((laidWorld os).forCall (fun _ _=>0) ⟨#[],W0,[]⟩).memory Tryz.f6.params.toList Rows.fnFewVariablesSpec.vars false W0.toList 8=some ([.nil],[],places) :=
 ⟨[],by kernel_rfl⟩
set_option maxRecDepth 100000 in
theorem lifted (os:Os) (started:os.Started) (H:Type) (enc:TypeId×Value→H) (F:Stop.Interp) :
    ReturnsInHanded {} Tryz.checked os 6 .any ((OpenSpec.ofChange Rows.fnFewVariablesSpec).preRow enc Tryz.prog Tryz.f6 Rows.fnFewVariablesRow.domain false Rows.fnFewVariablesRow.laid) (((OpenSpec.ofChange Rows.fnFewVariablesSpec).at F).post enc Tryz.prog Tryz.f6 false true false false):=by
  obtain ⟨places,hx⟩:=reads os enc
  refine returnsInHanded_of_row (C:=Tryz.checked) (s:=OpenSpec.ofChange Rows.fnFewVariablesSpec) own started (by kernel_rfl) Tryz.func6
    (witness_row_at (enc:=enc) (C:=Tryz.checked) false (laidWorld os) W0 rfl (by kernel_rfl) (by kernel_rfl) (by kernel_rfl)
      (OpenSpec.preRow_of_cond 8 hx (by kernel_rfl) (fun k hk=>by cases hk) (by kernel_rfl) (laid_met os W0))) ?_
  intro W base args ds gs before hval hW _ _ _ hL _ _
  exact contract H enc W base args ds gs before hval hW
theorem k0:(Rows.fnFewVariablesRow.wf (OpenSpec.ofChange (OpenSpec.ofChange Rows.fnFewVariablesSpec).bare))=true:=by kernel_rfl
theorem k3:(Tryz.f6.params.all (Tryz.pinned.checked.prog.readableRec ·))=true:=by kernel_rfl
theorem k4:(namedTie Tryz.pinned.checked.prog Rows.fnFewVariablesRow.named (OpenSpec.ofChange Rows.fnFewVariablesSpec).bare.vars)=true:=by kernel_rfl
theorem k9:((Rows.fnFewVariablesRow.inPlace==Tryz.pinned.checked.prog.inPlace 6))=true:=by kernel_rfl
theorem k10:((Rows.fnFewVariablesRow.unfollowed==Tryz.pinned.checked.prog.unfollowed 6))=true:=by kernel_rfl
theorem k11:((Rows.fnFewVariablesRow.recurses==Tryz.pinned.checked.prog.recurses 6))=true:=by kernel_rfl
theorem k12:((Rows.fnFewVariablesRow.named==Tryz.pinned.checked.prog.varsNamed 6))=true:=by kernel_rfl
theorem k13:((Rows.fnFewVariablesRow.maps==(Tryz.f6.params.toList++(OpenSpec.ofChange Rows.fnFewVariablesSpec).bare.plain.varTypes Tryz.pinned.checked.prog).any (Tryz.pinned.checked.prog.mapsRec ·)))=true:=by kernel_rfl
theorem k14:((Rows.fnFewVariablesRow.ifaces==(Tryz.f6.params.toList++(OpenSpec.ofChange Rows.fnFewVariablesSpec).bare.plain.varTypes Tryz.pinned.checked.prog).any (Tryz.pinned.checked.prog.ifacesRec ·)))=true:=by kernel_rfl
theorem k15:((Rows.fnFewVariablesRow.mapsOut==Tryz.pinned.checked.prog.mapsAmong Tryz.f6.resultTypes.toList))=true:=by kernel_rfl
theorem k16:((Rows.fnFewVariablesRow.loops==(Tryz.f6.params.toList++(OpenSpec.ofChange Rows.fnFewVariablesSpec).bare.plain.varTypes Tryz.pinned.checked.prog).any (Tryz.pinned.checked.prog.loopsFrom ·)))=true:=by kernel_rfl
theorem k17:((Rows.fnFewVariablesRow.wideKeys==(Tryz.f6.params.toList++(OpenSpec.ofChange Rows.fnFewVariablesSpec).bare.plain.varTypes Tryz.pinned.checked.prog++Tryz.f6.resultTypes.toList).any (Tryz.pinned.checked.prog.wideKeysFrom ·)))=true:=by kernel_rfl
theorem k19:(Tryz.f6.resultTypes.all (fun t=>Tryz.pinned.checked.prog.readableRec t&&decide (t<Tryz.pinned.checked.prog.types.size)))=true:=by kernel_rfl
theorem k20:((Rows.fnFewVariablesRow.ifacesOut==Tryz.f6.resultTypes.toList.any (Tryz.pinned.checked.prog.ifacesRec ·)))=true:=by kernel_rfl
theorem k21:((Rows.fnFewVariablesRow.loopsOut==Tryz.f6.resultTypes.toList.any (Tryz.pinned.checked.prog.loopsFrom ·)))=true:=by kernel_rfl
theorem k30:((Rows.fnFewVariablesRow.veiled==(Tryz.f6.params.toList++(OpenSpec.ofChange Rows.fnFewVariablesSpec).bare.plain.varTypes Tryz.pinned.checked.prog++Tryz.f6.resultTypes.toList).any (Tryz.pinned.checked.prog.veiledRec ·)))=true:=by kernel_rfl
theorem k31:(Rows.fnFewVariablesRow.veiledFits Tryz.pinned.checked.prog Tryz.f6.params.toList (Tryz.f6.params.toList++(OpenSpec.ofChange Rows.fnFewVariablesSpec).bare.plain.varTypes Tryz.pinned.checked.prog++Tryz.f6.resultTypes.toList))=true:=by kernel_rfl
theorem closed:joinedFacts Tryz.pinned.checked.prog 6 Tryz.f6 (OpenSpec.ofChange Rows.fnFewVariablesSpec).bare Rows.fnFewVariablesRow=true :=
 facts_of k0 Laid1 Laid2 k3 k4 (by kernel_rfl) Laid6 (by kernel_rfl) Laid8 k9 k10 k11 k12 k13 k14 k15 k16 k17 (by kernel_rfl) k19 k20 k21 Laid22 (by kernel_rfl) Laid24 Laid25 Laid26 Laid27 (by kernel_rfl) (by kernel_rfl) k30 k31
theorem said:Rows.FnFewVariablesSaid :=
  OpenClaim.holds_of_cond 6 Tryz.f6 rfl rfl rfl rfl rfl rfl rfl ⟨rfl,rfl,rfl,rfl,rfl⟩ rfl rfl rfl rfl rfl (by kernel_rfl) Tryz.func6 closed
    (of_decide_eq_true (by kernel_rfl)) (by unfold Func.isWrapper;first | (rw [if_pos (by decide +kernel)];kernel_rfl) | (rw [if_neg (by decide +kernel)];exact ⟨rfl,rfl⟩))
    (fun os started H enc _ F=>by rw [OpenClaim.pre_eq_preRow];exact lifted os started H enc F)
theorem plain (f:FuncId) (fn:Func) (hf:Tryz.pinned.checked.prog.funcNamed Rows.fnFewVariablesRow.func=some f) (hfn:Tryz.pinned.checked.prog.funcs[f]?=some fn) :
  false=Tryz.pinned.checked.prog.looks []∧∀ (j:Nat) t,fn.params[j]?=some t→Tryz.pinned.checked.prog.wantsStandIn t=false:=by
 obtain rfl:f=6:=Option.some.inj ((show Tryz.pinned.checked.prog.funcNamed Rows.fnFewVariablesRow.func=some 6 by kernel_rfl).symm.trans hf) |>.symm
 obtain rfl:fn=Tryz.f6:=(Option.some.inj (Tryz.func6.symm.trans hfn)).symm
 refine ⟨by kernel_rfl,fun j t ht=>?_⟩
 rw [Tryz.params6] at ht
 have hm:t∈[22]:=by simpa using Array.mem_of_getElem? ht
 simp only [List.mem_cons,List.not_mem_nil,or_false] at hm
 rcases hm with rfl <;> (show Tryz.prog.wantsStandIn _=false) <;> kernel_rfl
theorem hw:Rows.fnFewVariablesRow.wfByText (OpenSpec.ofChange Rows.fnFewVariablesSpec)=true:=by kernel_rfl
theorem hm:Tryz.pinned.checked.prog.mainIs=some (Rows.fnFewVariablesCard.stood.harness.1,Rows.fnFewVariablesCard.stood.harness.2.toList):=by kernel_rfl
theorem hg:false=Rows.fnFewVariablesRow.goesBy Tryz.pinned.checked.prog:=by kernel_rfl
end FnFewVariables
theorem cardFnFewVariables:Rows.FnFewVariablesCardSaid :=
 Claim7.holds_tied_plain_at .later [] _ _ _ _ FnFewVariables.said (fun _ h=>by cases h) FnFewVariables.hw (fun _ h=>by cases h) fnFewVariables_row_tie rfl ⟨rfl,rfl⟩ FnFewVariables.hm rfl FnFewVariables.plain FnFewVariables.hg
end Go.Proofs.YtefiibghfgfdnaaGreatDoor
