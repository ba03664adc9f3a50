/-
  FnSentenceFor: all that its proof names (part 6)
-/
import Derived.Test.YtefiibghfgfdnaaGreatDoorKFnSentenceFore
import Derived.Test.YtefiibghfgfdnaaGreatDoorKFnSentenceForc
import Derived.Test.YtefiibghfgfdnaaGreatDoorKFnSentenceForb
import Derived.Shelf.Small.Strs
import Derived.Shelf.Strings.Search3
import Derived.Test.YtefiibghfgfdnaaGreatDoorProg
namespace Go.Proofs.YtefiibghfgfdnaaGreatDoor
open Go.RowKit Go.Wk
set_option linter.unusedSimpArgs false
set_option maxHeartbeats 400000 in
/-- impl.firstFact -/
theorem firstFact_ok (a b:St) (xs ys:List Int) (va vb:Value) (w:World) (ha:a.Fine) (hb:b.Fine) (hva:Ints w va xs) (hvb:Ints w vb ys) (hA:a.Els xs) (hB:b.Els ys) (hlen:xs.length=ys.length) (hl4:xs.length≤4) :
    Calls Tryz.prog 73 [vS a,va,vS b,vb].toArray w fun en w'=>en=.returned (str (diffO (factsL a xs xs.length) (factsL b ys ys.length)))∧Below w.heap.size w w':=by
 refine fnStart (n:=50) (e:=[(0,vS a),(1,va),(2,vS b),(3,vb)]) Tryz.func73 rfl rfl rfl rfl Ends.both ?_
 have hfl:(factsL a xs xs.length).length=(factsL b ys ys.length).length:=by rw [← hlen];exact facts_len a b xs ys xs.length
 have hf26:=factsL_length a xs xs.length hl4;refine zE (qF (yU (v:=vS a) rfl rfl rfl rfl rfl fun p4 hp4=>?_))
 show Ll _ _ (Own _ _ [_]) _ _ ((4,pt_ p4)::_) _ _ _;refine yU (v:=vS b) rfl rfl rfl rfl rfl fun p6 hp6=>?_
 show Ll _ _ (Own _ _ [_,_]) _ _ ((6,pt_ p6)::_) _ _ _;refine zU (v:=str ([])) rfl rfl rfl (yP rfl rfl) ?_;refine zG (zD [1,3,4,6] [_,_,_,_] rfl ?_);refine zE (qF (zU rfl rfl rfl (zV (cs:=#[i6_ a.n,str a.set,str a.rel]) 1 rfl zQ rfl rfl zO) ?_));refine qJ 1 rfl (Ll.callRows (xs:=[.tmp 16,.tmp 17]) (m1:=((factsL a xs xs.length).map Prod.fst).length) (vs1:=strs ((factsL a xs xs.length).map Prod.fst)) (el1:=9) (m2:=((factsL a xs xs.length).map Prod.snd).length) (vs2:=bools ((factsL a xs xs.length).map Prod.snd)) (el2:=4) rfl rfl rfl rfl Tryz.call124 rfl (fun w1 hw1=>factsOf_ok a va xs w1 ha (Row.own hva hw1) hA (by omega)) fun p18a cap18a cur18a p18b cap18b cur18b hp18a hcp18a hlp18a htp18a hp18b hcp18b hlp18b htp18b=>?_);refine qJ 1 rfl (zU (v:=sl_ p18a (((factsL a xs xs.length).map Prod.fst).length) cap18a) rfl rfl rfl (yB rfl rfl rfl) ?_);refine zU (v:=sl_ p18b (((factsL a xs xs.length).map Prod.snd).length) cap18b) rfl rfl rfl (yB rfl rfl rfl) ?_;refine qJ 2 rfl (zG (zD [3,6,9,10] [_,_,_,_] rfl ?_));refine zE (qF (zU rfl rfl rfl (zV (cs:=#[i6_ b.n,str b.set,str b.rel]) 2 rfl zQ rfl rfl zO) ?_));refine qJ 1 rfl (Ll.callRows (xs:=[.tmp 22,.tmp 23]) (m1:=((factsL b ys ys.length).map Prod.fst).length) (vs1:=strs ((factsL b ys ys.length).map Prod.fst)) (el1:=9) (m2:=((factsL b ys ys.length).map Prod.snd).length) (vs2:=bools ((factsL b ys ys.length).map Prod.snd)) (el2:=4) rfl rfl rfl rfl Tryz.call124 rfl (fun w1 hw1=>factsOf_ok b vb ys w1 hb (Row.own hvb hw1) hB (by omega)) fun p24a cap24a cur24a p24b cap24b cur24b hp24a hcp24a hlp24a htp24a hp24b hcp24b hlp24b htp24b=>?_);refine qJ 1 rfl (zU (v:=sl_ p24a (((factsL b ys ys.length).map Prod.fst).length) cap24a) rfl rfl rfl (yB rfl rfl rfl) ?_);refine zU (v:=sl_ p24b (((factsL b ys ys.length).map Prod.snd).length) cap24b) rfl rfl rfl (yB rfl rfl rfl) ?_;refine qJ 2 rfl (zG (zD [9,10,12] [_,_,_] rfl ?_));refine zE (zE (zB (zC 1 rfl (zL rfl rfl rfl (OpQ.lenS rfl yL rfl) ?_))));refine zC 1 rfl (zJ (zD [10,12,27,28,29] [_,_,_,_,_] rfl ?_));refine qT (xJ (σ:=Nat) (fun k=>k≤(factsL a xs xs.length).length∧∀ i:Nat,i<k→((factsL a xs xs.length).getD i ([],false)).2=((factsL b ys ys.length).getD i ([],false)).2) (fun k=>[(10,sl_ p18b (((factsL a xs xs.length).map Prod.snd).length) cap18b),(12,sl_ p24b (((factsL b ys ys.length).map Prod.snd).length) cap24b),(27,sl_ p18a (((factsL a xs xs.length).map Prod.fst).length) cap18a),(28,i6_ ((((factsL a xs xs.length).map Prod.fst).length:Int))),(29,i6_ ((k:Int)))]) (fun k=>Own w.heap.size w [bk_ p24a cur24a 9,bk_ p24b cur24b 4,bk_ p18a cur18a 9,bk_ p18b cur18b 4,bk_ p6 #[i6_ b.n,str b.set,str b.rel] 24,bk_ p4 #[i6_ a.n,str a.set,str a.rel] 24]) (fun k=>(factsL a xs xs.length).length - k) (0) ⟨by omega,fun i hi=>absurd hi (by omega)⟩ (Sub.sel [10,12,27,28,29] rfl) (fun _ h=>h) ?_)
 rintro k ⟨hk,hall⟩;refine zE (zB (zC 1 rfl (zJ (zD [10,12,27,28,29,30] [_,_,_,_,_,_] rfl ?_))));refine zE (qK (b:=decide (((k:Int))<((((factsL a xs xs.length).map Prod.fst).length:Int)))) rfl (fun h30=>?_) (fun h30=>?_))
 ·
  replace h30:=zN h30
  have hk1:k<(factsL a xs xs.length).length:=by rw [List.length_map] at h30;omega
  have hk2:k<(factsL b ys ys.length).length:=by rw [← hfl];exact hk1
  have e1:((factsL a xs xs.length).map Prod.fst).getD k []=((factsL a xs xs.length).getD k ([],false)).1:=map_getD Prod.fst ([],false) [] hk1
  have e2:((factsL a xs xs.length).map Prod.snd).getD k false=((factsL a xs xs.length).getD k ([],false)).2:=map_getD Prod.snd ([],false) false hk1
  have e3:((factsL b ys ys.length).map Prod.snd).getD k false=((factsL b ys ys.length).getD k ([],false)).2:=map_getD Prod.snd ([],false) false hk2
  have hn1:((factsL a xs xs.length).map Prod.snd).length=(factsL a xs xs.length).length:=List.length_map _
  have hn2:((factsL b ys ys.length).map Prod.snd).length=(factsL b ys ys.length).length:=List.length_map _;refine qU (zD [10,12,27,28,29] [_,_,_,_,_] rfl ?_);refine zE (qT (zE (zB (zC 1 rfl (zL (v:=pf_ p18a (((k:Int)).toNat)) rfl rfl rfl (yF (by rw [Nat.zero_add]) (yV (i:=(k:Int)) rfl yL qG rfl rfl (by omega) (by omega))) ?_)))));refine zL (v:=str (((factsL a xs xs.length).map Prod.fst).getD (((k:Int)).toNat) [])) rfl rfl rfl (xR 2 rfl qY rfl rfl (cur_at (by simpa using htp18a) (strs_at (c:=(factsL a xs xs.length).map Prod.fst) (off:=((k:Int)).toNat) (by first | (simp;done) | (simp;omega) | omega)))) ?_;refine zC 2 rfl (zJ (zD [10,12,13,14,27,28,29] [_,_,_,_,_,_,_] rfl ?_));refine zE (jU yH (fun _ h=>h.drawn) (by kernel_rfl) ?_);refine zC 2 rfl (zL (v:=pf_ p18b (((k:Int)).toNat)) rfl rfl rfl (yF (by rw [Nat.zero_add]) (yV (i:=(k:Int)) rfl Tryz.runUnderlying79 Tryz.sizeOf4 rfl rfl (by omega) (by omega))) ?_);refine zL (v:=bo_ (((factsL a xs xs.length).map Prod.snd).getD (((k:Int)).toNat) false)) rfl rfl rfl (xR 3 rfl Tryz.isAgg4 rfl rfl (cur_at (by simpa using htp18b) (bools_at (c:=(factsL a xs xs.length).map Prod.snd) (off:=((k:Int)).toNat) (by first | (simp;done) | (simp;omega) | omega)))) ?_;refine zC 2 rfl (zL (v:=pf_ p24b (((k:Int)).toNat)) rfl rfl rfl (yF (by rw [Nat.zero_add]) (yV (i:=(k:Int)) rfl Tryz.runUnderlying79 Tryz.sizeOf4 rfl rfl (by omega) (by omega))) ?_);refine zL (v:=bo_ (((factsL b ys ys.length).map Prod.snd).getD (((k:Int)).toNat) false)) rfl rfl rfl (xR 1 rfl Tryz.isAgg4 rfl rfl (cur_at (by simpa using htp24b) (bools_at (c:=(factsL b ys ys.length).map Prod.snd) (off:=((k:Int)).toNat) (by first | (simp;done) | (simp;omega) | omega)))) ?_;refine zL rfl rfl rfl (uN rfl xI rfl rfl) ?_;refine zJ (zD [10,12,13,14,27,28,29,42] [_,_,_,_,_,_,_,_] rfl ?_);refine qK (b:=(((factsL a xs xs.length).map Prod.snd).getD (((k:Int)).toNat) false) != (((factsL b ys ys.length).map Prod.snd).getD (((k:Int)).toNat) false)) rfl (fun h42=>?_) (fun h42=>?_)
  ·
   have hne:((factsL a xs xs.length).getD k ([],false)).2 ≠ ((factsL b ys ys.length).getD k ([],false)).2:=by rw [← e2,← e3];simpa using h42
   refine zE (zB (zC 3 rfl (zL (v:=pf_ p18b (((k:Int)).toNat)) rfl rfl rfl (yF (by rw [Nat.zero_add]) (yV (i:=(k:Int)) rfl Tryz.runUnderlying79 Tryz.sizeOf4 rfl rfl (by omega) (by omega))) ?_)));refine zL (v:=bo_ (((factsL a xs xs.length).map Prod.snd).getD (((k:Int)).toNat) false)) rfl rfl rfl (xR 3 rfl Tryz.isAgg4 rfl rfl (cur_at (by simpa using htp18b) (bools_at (c:=(factsL a xs xs.length).map Prod.snd) (off:=((k:Int)).toNat) (by first | (simp;done) | (simp;omega) | omega)))) ?_;refine zL (v:=str (signS (((factsL a xs xs.length).map Prod.snd).getD (((k:Int)).toNat) false) (((factsL a xs xs.length).map Prod.fst).getD (((k:Int)).toNat) []))) rfl rfl rfl (qH rfl Tryz.call125 rfl qC (fun w1 hw1=>signed_ok (((factsL a xs xs.length).map Prod.fst).getD (((k:Int)).toNat) []) (((factsL a xs xs.length).map Prod.snd).getD (((k:Int)).toNat) false) w1 (by have hf3:=facts_small a xs xs.length ((factsL a xs xs.length).getD k ([],false)) (by rw [getD_at hk1];exact List.getElem_mem _);simp only [Int.toNat_natCast];rw [e1];omega))) ?_;refine zC 1 rfl (zJ (zD [8] [_] rfl ?_));refine qL (qS rfl rfl fun w' hw=>?_)
   exact ⟨ret_s (by rw [diffO_at hk1 hk2 hall hne];simp only [Int.toNat_natCast];rw [e1,e2];rfl),hw.below⟩
  refine qU (zD [10,12,27,28,29] [_,_,_,_,_] rfl ?_);refine zB (zL rfl rfl rfl (yI rfl rfl rfl (by omega) (by omega)) ?_);refine zC 1 rfl (zJ (yQ (k+1) ⟨by omega,fun i hi=>(Nat.lt_succ_iff_lt_or_eq.1 hi).elim (hall i) (fun e=>by subst e;rw [← e2,← e3];simpa using h42)⟩ (by omega) (Sub.sel [10,12,27,28,29] rfl) (fun _ h=>h)))
 replace h30:=zM h30
 have hkf:k=(factsL a xs xs.length).length:=by rw [List.length_map] at h30;omega
 refine yW rfl ?_;refine zD [] [] rfl ?_;refine zE (zB (zL (v:=str ([])) rfl rfl rfl (yP rfl rfl) ?_));refine zJ (zD [8] [_] rfl ?_);refine qL (qS rfl rfl fun w' hw=>?_)
 exact ⟨ret_s (by rw [diffO_none (fun i hi=>hall i (by omega))]),hw.below⟩
set_option maxHeartbeats 400000 in
/-- spec.l6Differ -/
theorem differ_ok (a b:St) (xs ys:List Int) (va vb:Value) (w:World) (ha:a.Fine) (hb:b.Fine) (hva:Ints w va xs) (hvb:Ints w vb ys) (hA:a.Els xs) (hB:b.Els ys) (hlen:xs.length=ys.length) (hl4:xs.length≤4) :
    Calls Tryz.prog 84 [vS a,va,vS b,vb].toArray w fun en w'=>en=.returned (str (diffO (factsL a xs xs.length) (factsL b ys ys.length)))∧Below w.heap.size w w':=by
 refine fnStart (n:=48) (e:=[(0,vS a),(1,va),(2,vS b),(3,vb)]) Tryz.func84 rfl rfl rfl rfl Ends.both ?_;refine zE (qF (yU (v:=vS a) rfl rfl rfl rfl rfl fun p4 hp4=>?_))
 show Ll _ _ (Own _ _ [_]) _ _ ((4,pt_ p4)::_) _ _ _;refine yU (v:=vS b) rfl rfl rfl rfl rfl fun p6 hp6=>?_
 show Ll _ _ (Own _ _ [_,_]) _ _ ((6,pt_ p6)::_) _ _ _;refine zU (v:=str ([])) rfl rfl rfl (yP rfl rfl) ?_;refine zG (zD [1,3,4,6] [_,_,_,_] rfl ?_);refine zE (zE (zB (zC 1 rfl (zJ (zD [1,3,4,6,9] [_,_,_,_,_] rfl ?_)))));refine qT (xJ (σ:=Nat) (fun i=>i≤xs.length∧(factsL a xs i).map signed=(factsL b ys i).map signed) (fun i=>[(1,va),(3,vb),(4,pt_ p4),(6,pt_ p6),(9,i6_ ((i:Int)+1))]) (fun i=>Own w.heap.size w [bk_ p6 #[i6_ b.n,str b.set,str b.rel] 24,bk_ p4 #[i6_ a.n,str a.set,str a.rel] 24]) (fun i=>xs.length - i) (0) ⟨by omega,rfl⟩ (Sub.cons rfl (Sub.cons rfl (Sub.cons rfl (Sub.cons rfl (Sub.cons (by simp [List.lookup]) Sub.nil))))) (fun _ h=>h) ?_)
 rintro i ⟨hi,hall⟩;refine zE (zE (zB (zC 2 rfl (zL (v:=i6_ ((xs.length:Int))) rfl rfl rfl (yR rfl zX rfl (ints_length _) (fun w1 hw1=>Row.own hva hw1)) ?_))));refine zC 1 rfl (zJ (zD [1,3,4,6,9,16] [_,_,_,_,_,_] rfl ?_));refine qK (b:=decide (((i:Int)+1)≤((xs.length:Int)))) rfl (fun h16=>?_) (fun h16=>?_)
 ·
  replace h16:=zN h16
  have hin:i<xs.length:=by omega
  have hla:((factL a xs i).map signed).length=2+3*i:=by rw [List.length_map,factL_length]
  have hlb:((factL b ys i).map signed).length=2+3*i:=by rw [List.length_map,factL_length]
  refine qU (zD [1,3,4,6,9] [_,_,_,_,_] rfl ?_);refine zE (qT (zE (Wk.regionO [(0,true),(1,true),(2,true),(3,true),(4,false),(5,true)] yH (fun _ h=>h.drawn) (by kernel_rfl) ?_)));refine yD rfl rfl rfl rfl rfl (zV (cs:=#[i6_ a.n,str a.set,str a.rel]) 1 rfl zQ rfl rfl zO) (fun _ h=>h) ?_;refine xC 1 rfl (fun _ h=>h) ?_;refine yD (v:=i6_ (((i+1:Nat):Int))) rfl rfl rfl rfl rfl (yF (by simp) (OpQ.move rfl rfl)) (fun _ h=>h) ?_;refine yD (v:=sTake va ((i+1))) rfl rfl rfl rfl rfl (uD (i:=((i+1:Nat):Int)) rfl zX zK rfl rfl (by omega) (by rw [ints_length];omega) (fun w1 hw1=>Row.own hva hw1)) (fun _ h=>h) ?_;refine yJ rfl ?_;refine jQ (xs:=[.tmp 19,.tmp 22]) (m:=(((factL a xs i).map signed)).length) (vs:=strs (((factL a xs i).map signed))) (el:=9) (size:=1) rfl rfl rfl rfl Tryz.call133 rfl (fun w1 hw1=>l3Facts_ok a (sTake va ((i+1))) (xs.take ((i+1))) i (((factL a xs i).map signed)) w1 ha (Ints.take (Row.own hva hw1) ((i+1)) (by omega)) (hA.take _) (by rw [qE];omega) (by omega) (by rw [fact_take (by omega)])) fun p23 cap23 cur23 hp23 hcp23 hlp23 htp23=>?_;refine zG (yC (fun _ h=>h.tail) ?_);refine xC 1 rfl (fun _ h=>h.tail) ?_;refine vB ?_;refine zD [1,3,4,6,9,10] [_,_,_,_,_,_] rfl ?_;refine zE (Wk.regionO [(0,true),(1,true),(2,true),(3,true),(4,false),(5,true)] yH (fun _ h=>h.drawn) (by kernel_rfl) ?_);refine yD rfl rfl rfl rfl rfl (zV (cs:=#[i6_ b.n,str b.set,str b.rel]) 1 rfl zQ rfl rfl zO) (fun _ h=>h) ?_;refine xC 1 rfl (fun _ h=>h) ?_;refine yD (v:=i6_ (((i+1:Nat):Int))) rfl rfl rfl rfl rfl (yF (by simp) (OpQ.move rfl rfl)) (fun _ h=>h) ?_;refine yD (v:=sTake vb ((i+1))) rfl rfl rfl rfl rfl (uD (i:=((i+1:Nat):Int)) rfl zX zK rfl rfl (by omega) (by rw [ints_length];omega) (fun w1 hw1=>Row.own hvb hw1)) (fun _ h=>h) ?_;refine yJ rfl ?_;refine jQ (xs:=[.tmp 24,.tmp 27]) (m:=(((factL b ys i).map signed)).length) (vs:=strs (((factL b ys i).map signed))) (el:=9) (size:=1) rfl rfl rfl rfl Tryz.call133 rfl (fun w1 hw1=>l3Facts_ok b (sTake vb ((i+1))) (ys.take ((i+1))) i (((factL b ys i).map signed)) w1 hb (Ints.take (Row.own hvb hw1) ((i+1)) (by omega)) (hB.take _) (by rw [qE];omega) (by omega) (by rw [fact_take (by omega)])) fun p28 cap28 cur28 hp28 hcp28 hlp28 htp28=>?_;refine zG (yC (fun _ h=>h.tail) ?_);refine xC 1 rfl (fun _ h=>h.tail) ?_;refine vB ?_;refine zD [1,3,4,6,9,10,11] [_,_,_,_,_,_,_] rfl ?_;refine zE (zB (zC 1 rfl (zJ (zD [1,3,4,6,9,10,11,12] [_,_,_,_,_,_,_,_] rfl ?_))));refine qT (xJ (σ:=Nat) (fun k=>k≤2+3*i∧∀ j:Nat,j<k→((factL a xs i).map signed).getD j []=((factL b ys i).map signed).getD j []) (fun k=>[(1,va),(3,vb),(4,pt_ p4),(6,pt_ p6),(9,i6_ ((i:Int)+1)),(10,sl_ p23 ((((factL a xs i).map signed)).length) cap23),(11,sl_ p28 ((((factL b ys i).map signed)).length) cap28),(12,i6_ ((k:Int)))]) (fun k=>Own w.heap.size w [bk_ p28 cur28 9,bk_ p23 cur23 9,bk_ p6 #[i6_ b.n,str b.set,str b.rel] 24,bk_ p4 #[i6_ a.n,str a.set,str a.rel] 24]) (fun k=>2+3*i - k) (0) ⟨by omega,fun j hj=>absurd hj (by omega)⟩ (Sub.sel [1,3,4,6,9,10,11,12] rfl) (fun _ h=>h) ?_)
  rintro k ⟨hk,hal⟩;refine zE (zE (zB (zC 2 rfl (zL rfl rfl rfl (OpQ.lenS rfl yL rfl) ?_))));refine zC 1 rfl (zJ (zD [1,3,4,6,9,10,11,12,32] [_,_,_,_,_,_,_,_,_] rfl ?_));refine qK (b:=decide (((k:Int))<(((((factL a xs i).map signed)).length:Int)))) rfl (fun h32=>?_) (fun h32=>?_)
  ·
   replace h32:=zN h32;refine qU (zD [1,3,4,6,9,10,11,12] [_,_,_,_,_,_,_,_] rfl ?_);refine zE (qT (zE (jU yH (fun _ h=>h.drawn) (by kernel_rfl) ?_)));refine zC 2 rfl (zL (v:=pf_ p23 (((k:Int)).toNat)) rfl rfl rfl (yF (by rw [Nat.zero_add]) (yV (i:=(k:Int)) rfl yL qG rfl rfl (by omega) (by omega))) ?_);refine zL (v:=str ((((factL a xs i).map signed)).getD (((k:Int)).toNat) [])) rfl rfl rfl (xR 1 rfl qY rfl rfl (cur_at (by simpa using htp23) (strs_at (c:=((factL a xs i).map signed)) (off:=((k:Int)).toNat) (by first | (simp;done) | (simp;omega) | omega)))) ?_;refine zC 2 rfl (zL (v:=pf_ p28 (((k:Int)).toNat)) rfl rfl rfl (yF (by rw [Nat.zero_add]) (yV (i:=(k:Int)) rfl yL qG rfl rfl (by omega) (by omega))) ?_);refine zL (v:=str ((((factL b ys i).map signed)).getD (((k:Int)).toNat) [])) rfl rfl rfl (xR 0 rfl qY rfl rfl (cur_at (by simpa using htp28) (strs_at (c:=((factL b ys i).map signed)) (off:=((k:Int)).toNat) (by first | (simp;done) | (simp;omega) | omega)))) ?_;refine zL rfl rfl rfl (OpQ.sneq rfl rfl rfl) ?_;refine zJ (zD [1,3,4,6,9,10,11,12,43] [_,_,_,_,_,_,_,_,_] rfl ?_);refine qK (b:=!(((((factL a xs i).map signed)).getD (((k:Int)).toNat) [])==((((factL b ys i).map signed)).getD (((k:Int)).toNat) []))) rfl (fun h43=>?_) (fun h43=>?_)
   ·
    replace h43:=not_true h43
    have hne:((factL a xs i).map signed).getD k [] ≠ ((factL b ys i).map signed).getD k []:=by simpa using h43
    refine zE (zB (zC 2 rfl (zL (v:=pf_ p23 (((k:Int)).toNat)) rfl rfl rfl (yF (by rw [Nat.zero_add]) (yV (i:=(k:Int)) rfl yL qG rfl rfl (by omega) (by omega))) ?_)));refine zL (v:=str ((((factL a xs i).map signed)).getD (((k:Int)).toNat) [])) rfl rfl rfl (xR 1 rfl qY rfl rfl (cur_at (by simpa using htp23) (strs_at (c:=((factL a xs i).map signed)) (off:=((k:Int)).toNat) (by first | (simp;done) | (simp;omega) | omega)))) ?_;refine zC 1 rfl (zJ (zD [8] [_] rfl ?_));refine qL (qS rfl rfl fun w' hw=>?_)
    exact ⟨ret_s (by rw [← hlen,differ_at hin (by rw [factL_length];omega) hall hal hne];rfl),hw.below⟩
   replace h43:=not_false h43;refine qU (zD [1,3,4,6,9,10,11,12] [_,_,_,_,_,_,_,_] rfl ?_);refine zB (zC 1 rfl (zL rfl rfl rfl (yI rfl rfl rfl (by omega) (by omega)) ?_));refine zC 1 rfl (zJ (yQ (k+1) ⟨by omega,fun j hj=>(Nat.lt_succ_iff_lt_or_eq.1 hj).elim (hal j) (fun e=>by subst e;simpa using h43)⟩ (by omega) (Sub.sel [1,3,4,6,9,10,11,12] rfl) (fun _ h=>h)))
  replace h32:=zM h32
  have hsame:((factL a xs i).map signed)=((factL b ys i).map signed):=list_extS (by rw [hla,hlb]) (fun j hj=>hal j (by omega));refine yW rfl ?_;refine zD [1,3,4,6,9] [_,_,_,_,_] rfl ?_;refine zB (zC 1 rfl (zL rfl rfl rfl (yI rfl rfl rfl (by omega) (by omega)) ?_));refine zC 1 rfl (zJ (yQ (i+1) ⟨by omega,by rw [facts_step,facts_step,hall,hsame]⟩ (by omega) (Sub.cons rfl (Sub.cons rfl (Sub.cons rfl (Sub.cons rfl (Sub.cons (by simp [List.lookup]) Sub.nil))))) (fun _ h=>h.sub (qD _ (qD _ (zA _ (zA _ (qB _))))))))
 replace h16:=zM h16
 have hix:i=xs.length:=by omega
 refine yW rfl ?_;refine zD [] [] rfl ?_;refine zE (zB (zL (v:=str ([])) rfl rfl rfl (yP rfl rfl) ?_));refine zJ (zD [8] [_] rfl ?_);refine qL (qS rfl rfl fun w' hw=>?_)
 exact ⟨ret_s (by rw [← hlen,differ_none (by rw [← hix];exact hall)]),hw.below⟩
set_option maxHeartbeats 400000 in
/-- impl.tellApart|zero -/
theorem ta_zero (a b:St) (xs ys:List Int) (va vb:Value) (w:World) (hVa:validB a=true) (hVb:validB b=true) (hva:Ints w va xs) (hvb:Ints w vb ys) (hA:a.Els xs) (hB:b.Els ys) (hlen:xs.length=ys.length) (hl4:xs.length≤4) (hwin:winB 0 a xs b ys=false) :
    Calls Tryz.prog 38 [vS a,va,vS b,vb,i6_ 0].toArray w fun en w'=>en=.returned (.tuple #[str (tellF 0 a xs b ys),.bool true])∧Below w.heap.size w w':=by
 refine fnStart (n:=86) (e:=[(0,vS a),(1,va),(2,vS b),(3,vb),(4,i6_ 0)]) Tryz.func38 rfl rfl rfl rfl Ends.both ?_
 have ha:=validB_fine hVa
 have hb:=validB_fine hVb
 have hm8:=ha.hi
 have hm1:=ha.lo
 have hb8:=hb.hi
 have hb1:=hb.lo;refine zE (qF (yU (v:=vS a) rfl rfl rfl rfl rfl fun p5 hp5=>?_))
 show Ll _ _ (Own _ _ [_]) _ _ ((5,pt_ p5)::_) _ _ _;refine yU (v:=vS b) rfl rfl rfl rfl rfl fun p7 hp7=>?_
 show Ll _ _ (Own _ _ [_,_]) _ _ ((7,pt_ p7)::_) _ _ _;refine zU (v:=str ([])) rfl rfl rfl (yP rfl rfl) ?_;refine qJ 1 rfl (zG (zD [1,3,4,5,7] [_,_,_,_,_] rfl ?_));refine zE (zE (zB (zL rfl rfl rfl (zV (cs:=#[i6_ a.n,str a.set,str a.rel]) 1 rfl zQ rfl rfl zO) ?_)));refine zC 1 rfl (zL rfl rfl rfl (zV (cs:=#[i6_ b.n,str b.set,str b.rel]) 0 rfl zQ rfl rfl zO) ?_);refine zC 1 rfl (zL (v:=bo_ (sameB a xs b ys)) rfl rfl rfl (qH rfl Tryz.call71 rfl qC (fun w1 hw1=>sameWay_ok a b xs ys va vb w1 ha hb (Row.own hva hw1) (Row.own hvb hw1) hA hB (by omega) (by omega))) ?_);refine zC 1 rfl (zJ (zD [1,3,4,5,7,25] [_,_,_,_,_,_] rfl ?_));refine qK (b:=!(sameB a xs b ys)) rfl (fun h25=>?_) (fun h25=>?_)
 ·
  replace h25:=not_true h25;refine zE (zB (zL rfl rfl rfl (zV (cs:=#[i6_ a.n,str a.set,str a.rel]) 1 rfl zQ rfl rfl zO) ?_));refine zC 1 rfl (zL rfl rfl rfl (zV (cs:=#[i6_ b.n,str b.set,str b.rel]) 0 rfl zQ rfl rfl zO) ?_);refine zC 1 rfl (zL (v:=str (diffO (factsL a xs xs.length) (factsL b ys ys.length))) rfl rfl rfl (qH rfl Tryz.call73 rfl qC (fun w1 hw1=>firstFact_ok a b xs ys va vb w1 ha hb (Row.own hva hw1) (Row.own hvb hw1) hA hB (by omega) (by omega))) ?_);refine zC 2 rfl (zJ (zD [10,11] [_,_] rfl ?_));refine qL (xY rfl rfl rfl fun w' hw=>?_)
  exact ⟨by rw [tell_diff (by simp_all)],hw.below⟩
 replace h25:=not_false h25
 exact absurd hwin (by unfold winB;rw [show sameB a xs b ys=true from by simp_all];simp [goB])
set_option maxHeartbeats 400000 in
/-- impl.tellApart -/
theorem ta_of (n:Nat) (ih:∀ (a b:St) (xs ys:List Int) (va vb:Value) (w:World),validB a=true→validB b=true→Ints w va xs→Ints w vb ys→a.Els xs→b.Els ys→xs.length=ys.length→xs.length+n≤4→n≤3→winB n a xs b ys=false→Calls Tryz.prog 38 #[vS a,va,vS b,vb,.int .i64 (n:Int)] w fun en w'=>en=.returned (.tuple #[str (tellF n a xs b ys),.bool true])∧Below w.heap.size w w') (a b:St) (xs ys:List Int) (va vb:Value) (w:World) (hVa:validB a=true) (hVb:validB b=true) (hva:Ints w va xs) (hvb:Ints w vb ys) (hA:a.Els xs) (hB:b.Els ys) (hlen:xs.length=ys.length) (hl5:xs.length+(n+1)≤4) (hn3:n+1≤3) (hwin:winB (n+1) a xs b ys=false) :
    Calls Tryz.prog 38 [vS a,va,vS b,vb,i6_ ((n:Int)+1)].toArray w fun en w'=>en=.returned (.tuple #[str (tellF (n+1) a xs b ys),.bool true])∧Below w.heap.size w w':=by
 refine fnStart (n:=86) (e:=[(0,vS a),(1,va),(2,vS b),(3,vb),(4,i6_ ((n:Int)+1))]) Tryz.func38 rfl rfl rfl rfl Ends.both ?_
 have ha:=validB_fine hVa
 have hb:=validB_fine hVb
 have hm8:=ha.hi
 have hm1:=ha.lo
 have hb8:=hb.hi
 have hb1:=hb.lo;refine zE (qF (yU (v:=vS a) rfl rfl rfl rfl rfl fun p5 hp5=>?_))
 show Ll _ _ (Own _ _ [_]) _ _ ((5,pt_ p5)::_) _ _ _;refine yU (v:=vS b) rfl rfl rfl rfl rfl fun p7 hp7=>?_
 show Ll _ _ (Own _ _ [_,_]) _ _ ((7,pt_ p7)::_) _ _ _;refine zU (v:=str ([])) rfl rfl rfl (yP rfl rfl) ?_;refine qJ 1 rfl (zG (zD [1,3,4,5,7] [_,_,_,_,_] rfl ?_));refine zE (zE (zB (zL rfl rfl rfl (zV (cs:=#[i6_ a.n,str a.set,str a.rel]) 1 rfl zQ rfl rfl zO) ?_)));refine zC 1 rfl (zL rfl rfl rfl (zV (cs:=#[i6_ b.n,str b.set,str b.rel]) 0 rfl zQ rfl rfl zO) ?_);refine zC 1 rfl (zL (v:=bo_ (sameB a xs b ys)) rfl rfl rfl (qH rfl Tryz.call71 rfl qC (fun w1 hw1=>sameWay_ok a b xs ys va vb w1 ha hb (Row.own hva hw1) (Row.own hvb hw1) hA hB (by omega) (by omega))) ?_);refine zC 1 rfl (zJ (zD [1,3,4,5,7,25] [_,_,_,_,_,_] rfl ?_));refine qK (b:=!(sameB a xs b ys)) rfl (fun h25=>?_) (fun h25=>?_)
 ·
  replace h25:=not_true h25;refine zE (zB (zL rfl rfl rfl (zV (cs:=#[i6_ a.n,str a.set,str a.rel]) 1 rfl zQ rfl rfl zO) ?_));refine zC 1 rfl (zL rfl rfl rfl (zV (cs:=#[i6_ b.n,str b.set,str b.rel]) 0 rfl zQ rfl rfl zO) ?_);refine zC 1 rfl (zL (v:=str (diffO (factsL a xs xs.length) (factsL b ys ys.length))) rfl rfl rfl (qH rfl Tryz.call73 rfl qC (fun w1 hw1=>firstFact_ok a b xs ys va vb w1 ha hb (Row.own hva hw1) (Row.own hvb hw1) hA hB (by omega) (by omega))) ?_);refine zC 2 rfl (zJ (zD [10,11] [_,_] rfl ?_));refine qL (xY rfl rfl rfl fun w' hw=>?_)
  exact ⟨by rw [tell_diff (by simp_all)],hw.below⟩
 replace h25:=not_false h25;refine qU (zD [1,3,4,5,7] [_,_,_,_,_] rfl ?_);refine zE (zB (zL rfl rfl rfl (zV (cs:=#[i6_ a.n,str a.set,str a.rel]) 1 rfl zQ rfl rfl zO) ?_));refine zC 1 rfl (zL rfl rfl rfl (zV (cs:=#[i6_ b.n,str b.set,str b.rel]) 0 rfl zQ rfl rfl zO) ?_);refine zC 2 rfl ?_
 have hsame:sameB a xs b ys=true:=by simp_all
 obtain ⟨sd,x,hmv⟩:=move_ex hsame hwin
 have hmv2:(if sameB a xs b ys&&decide (1≤(n:Int)+1) then moveO ((n:Int)+1 - 1).toNat a xs b ys else none)=some (sd,x):=by
  rw [hsame,decide_eq_true (show 1≤(n:Int)+1 by omega),show ((n:Int)+1 - 1).toNat=n from by omega];exact hmv
 refine zL (v:=.tuple #[str (sideS (some (sd,x))),i6_ ((x:Int)),bo_ true]) rfl rfl rfl (qH rfl Tryz.call74 rfl qC (fun w1 hw1=>by have h9:=firstMove_ok a b xs ys va vb w1 ha hb (Row.own hva hw1) (Row.own hvb hw1) hA hB (by first | (simp;done) | (simp;omega) | omega) (by first | (simp;done) | (simp;omega) | omega) ((n:Int)+1) (by omega) (by omega);rw [hmv2] at h9;exact h9)) ?_;refine zC 1 rfl (zL (v:=str (sideS (some (sd,x)))) rfl rfl rfl (yB rfl rfl rfl) ?_);refine zL (v:=i6_ ((x:Int))) rfl rfl rfl (yB rfl rfl rfl) ?_;refine zL (v:=bo_ true) rfl rfl rfl (yB rfl rfl rfl) ?_;refine zC 3 rfl (zJ (zD [1,3,4,5,7,12,13] [_,_,_,_,_,_,_] rfl ?_));refine zE (zB (zL (v:=str ([83])) rfl rfl rfl (yP rfl rfl) ?_));refine zJ (zD [1,3,4,5,7,12,13,15] [_,_,_,_,_,_,_,_] rfl ?_);refine zE (zE (zB (zC 1 rfl (zL rfl rfl rfl (uL rfl rfl rfl) ?_))));refine zJ (zD [1,3,4,5,7,13,15,42] [_,_,_,_,_,_,_,_] rfl ?_);refine qK (b:=(sideS (some (sd,x)))==([98])) rfl (fun h42=>?_) (fun h42=>?_)
 ·
  obtain rfl:sd=false:=by
   cases sd with
   | false=>rfl
   | true=>exact absurd h42 (by simp [sideS])
  obtain ⟨hxm,hno⟩:=move_at2 hlen hmv;refine zE (zB (zL (v:=str ([33,83])) rfl rfl rfl (yP rfl rfl) ?_));refine zJ (zD [1,3,4,5,7,13,15] [_,_,_,_,_,_,_] rfl ?_);refine qF (zU rfl rfl rfl (zV (cs:=#[i6_ b.n,str b.set,str b.rel]) 0 rfl zQ rfl rfl zO) ?_);refine qJ 1 rfl (zU rfl rfl rfl (zV (cs:=#[i6_ a.n,str a.set,str a.rel]) 1 rfl zQ rfl rfl zO) ?_);refine qJ 1 rfl (xB (cs':=#[i6_ b.n,str b.set,str b.rel]) (hs':=[_,bk_ p5 #[i6_ b.n,str b.set,str b.rel] 24]) 1 rfl rfl rfl rfl rfl (by kernel_rfl:_=some Tryz.t24) rfl rfl rfl rfl rfl ?_);refine qJ 1 rfl (xB (cs':=#[i6_ a.n,str a.set,str a.rel]) (hs':=[bk_ p7 #[i6_ a.n,str a.set,str a.rel] 24,_]) 0 rfl rfl rfl rfl rfl (by kernel_rfl:_=some Tryz.t24) rfl rfl rfl rfl rfl ?_);refine qJ 1 rfl (zG (zD [1,3,4,5,7,13,15] [_,_,_,_,_,_,_] rfl ?_));refine zE (qF (yS (xs:=[]) (vs:=[]) xP rfl rfl rfl rfl rfl rfl (by decide) rfl fun p47 hp47=>?_));refine qJ 1 rfl (zG (zD [1,3,4,5,7,13,15,16] [_,_,_,_,_,_,_,_] rfl ?_));refine zE (zE (zB (zL rfl rfl rfl (zF rfl zY rfl zK rfl rfl) ?_)));refine zL rfl rfl rfl (zP 1 rfl zW rfl rfl rfl) ?_;refine zC 1 rfl (zJ (zD [1,3,4,5,7,13,15,16,49,50] [_,_,_,_,_,_,_,_,_,_] rfl ?_));refine qT (xJ (σ:=Nat×Nat×Nat×Array Value) (fun ⟨k,g,c,cur⟩=>(k:Int)≤a.n∧cur.size=c*1∧(tlL (fun y:Nat=>tellF n b (ys++[(x:Int)]) a (xs++[(y:Int)])) k).length≤c∧cur.toList.take (tlL (fun y:Nat=>tellF n b (ys++[(x:Int)]) a (xs++[(y:Int)])) k).length=strs (tlL (fun y:Nat=>tellF n b (ys++[(x:Int)]) a (xs++[(y:Int)])) k)) (fun ⟨k,g,c,cur⟩=>[(1,vb),(3,va),(4,i6_ ((n:Int)+1)),(5,pt_ p5),(7,pt_ p7),(13,i6_ ((x:Int))),(15,str ([33,83])),(16,sl_ g ((tlL (fun y:Nat=>tellF n b (ys++[(x:Int)]) a (xs++[(y:Int)])) k).length) c),(49,i6_ a.n),(50,i6_ ((k:Int)))]) (fun ⟨k,g,c,cur⟩=>Own w.heap.size w [bk_ g cur 9,bk_ p7 #[i6_ a.n,str a.set,str a.rel] 24,bk_ p5 #[i6_ b.n,str b.set,str b.rel] 24]) (fun ⟨k,g,c,cur⟩=>(a.n - k).toNat) ((0,p47,0,#[])) ⟨by omega,rfl,Nat.le_refl 0,rfl⟩ (Sub.sel [1,3,4,5,7,13,15,16,49,50] rfl) (fun _ h=>h) ?_)
  rintro ⟨k,g,c,cur⟩ ⟨hk,hc,hl,ht⟩
  dsimp only
  have htk:=tlL_len (fun y:Nat=>tellF n b (ys++[(x:Int)]) a (xs++[(y:Int)])) k;refine zE (zB (zC 1 rfl (zJ (zD [1,3,4,5,7,13,15,16,49,50,51] [_,_,_,_,_,_,_,_,_,_,_] rfl ?_))));refine zE (qK (b:=decide (((k:Int))<a.n)) rfl (fun h51=>?_) (fun h51=>?_))
  ·
   replace h51:=zN h51
   have hE1:=els_more hB (x:=(x:Int)) ⟨by omega,by omega⟩
   have hE2:=els_more hA (x:=(k:Int)) ⟨by omega,by omega⟩
   have hx9:b.El (x:Int):=⟨by omega,by omega⟩;refine qU (zD [1,3,4,5,7,13,15,16,49,50] [_,_,_,_,_,_,_,_,_,_] rfl ?_);refine zE (qT (zE (zB (zC 2 rfl (zJ (zD [1,3,4,5,7,13,15,16,17,49,50] [_,_,_,_,_,_,_,_,_,_,_] rfl ?_))))));refine zE (Wk.regionO [(0,true),(1,true),(2,true),(4,true),(5,true),(6,true),(8,true),(9,true),(3,false),(7,false),(10,false),(11,true),(12,true),(13,true),(14,true),(15,true)] yH (fun _ h=>h.drawn) (by kernel_rfl) ?_);refine yD rfl rfl rfl rfl rfl (zV (cs:=#[i6_ b.n,str b.set,str b.rel]) 2 rfl zQ rfl rfl zO) (fun _ h=>h) ?_;refine xC 2 rfl (fun _ h=>h) ?_;refine yD rfl rfl rfl rfl rfl (zV (cs:=#[i6_ a.n,str a.set,str a.rel]) 1 rfl zQ rfl rfl zO) (fun _ h=>h) ?_;refine xC 3 rfl (fun _ h=>h) ?_;refine yD (v:=i6_ ((n:Int))) rfl rfl rfl rfl rfl (yF (by congr 1;omega) (vD rfl rfl rfl (by omega) (by omega))) (fun _ h=>h) ?_;refine yJ rfl ?_;refine jQ (xs:=[.tmp 55,.tmp 56]) (m:=(ys++[(x:Int)]).length) (vs:=ints (ys++[(x:Int)])) (el:=3) (size:=1) rfl rfl rfl rfl Tryz.call75 rfl (fun w1 hw1=>with_ok vb ys ((x:Int)) w1 (Row.own hvb hw1) (by omega)) fun p57 cap57 cur57 hp57 hcp57 hlp57 htp57=>?_;refine zG (yC (fun _ h=>h.tail) ?_);refine yJ rfl ?_;refine jQ (xs:=[.tmp 59,.tmp 60]) (m:=(xs++[(k:Int)]).length) (vs:=ints (xs++[(k:Int)])) (el:=3) (size:=1) rfl rfl rfl rfl Tryz.call75 rfl (fun w1 hw1=>with_ok va xs ((k:Int)) w1 (Row.own hva hw1) (by omega)) fun p61 cap61 cur61 hp61 hcp61 hlp61 htp61=>?_;refine zG (yC (fun _ h=>h.tail.tail) ?_);refine yJ rfl ?_;refine zU (v:=.tuple #[str (tellF n b (ys++[(x:Int)]) a (xs++[(k:Int)])),bo_ true]) rfl rfl rfl (qH rfl Tryz.call38 rfl qC (fun w1 hw1=>ih b a (ys++[(x:Int)]) (xs++[(k:Int)]) (sl_ p57 ((ys++[(x:Int)]).length) cap57) (sl_ p61 ((xs++[(k:Int)]).length) cap61) w1 hVb hVa (yY hw1 (i:=1) rfl (by simpa using htp57) (by simp) hlp57) (yY hw1 (i:=0) rfl (by simpa using htp61) (by simp) hlp61) hE1 hE2 (by simp [hlen]) (by rw [zZ,List.length_singleton];omega) (by omega) (hno k (by omega)))) ?_;refine zG (yC (fun _ h=>h.tail.tail) ?_);refine xC 1 rfl (fun _ h=>h.tail.tail) ?_;refine yD (v:=str (tellF n b (ys++[(x:Int)]) a (xs++[(k:Int)]))) rfl rfl rfl rfl rfl (yB rfl rfl rfl) (fun _ h=>h.tail.tail) ?_;refine yD (v:=bo_ true) rfl rfl rfl rfl rfl (yB rfl rfl rfl) (fun _ h=>h.tail.tail) ?_;refine xC 2 rfl (fun _ h=>h.tail.tail) ?_;refine vB ?_;refine zD [1,3,4,5,7,13,15,16,18,19,49,50] [_,_,_,_,_,_,_,_,_,_,_,_] rfl ?_;refine zE (zE (zB (zC 2 rfl (zJ (zD [1,3,4,5,7,13,15,16,18,49,50,68] [_,_,_,_,_,_,_,_,_,_,_,_] rfl ?_)))))
   refine jD rfl ?_;refine qU (zD [1,3,4,5,7,13,15,16,18,49,50] [_,_,_,_,_,_,_,_,_,_,_] rfl ?_);refine qF (qJ 2 rfl (yS (xs:=[.tmp 70]) (vs:=[str (tellF n b (ys++[(x:Int)]) a (xs++[(k:Int)]))]) xP rfl rfl rfl rfl rfl rfl (by decide) rfl fun p71 hp71=>?_));refine uC (xs:=tlL (fun y:Nat=>tellF n b (ys++[(x:Int)]) a (xs++[(y:Int)])) k) (ys:=([tellF n b (ys++[(x:Int)]) a (xs++[(k:Int)])]:List (List UInt8))) xP 3 rfl rfl rfl rfl rfl rfl rfl hc hl ht (fun w1 hw1=>(yY hw1 (i:=0) rfl (n:=1) (cap:=1) (vs:=strs ([tellF n b (ys++[(x:Int)]) a (xs++[(k:Int)])]:List (List UInt8))) rfl rfl (by decide))) (((tlL (fun y:Nat=>tellF n b (ys++[(x:Int)]) a (xs++[(y:Int)])) k)++(([tellF n b (ys++[(x:Int)]) a (xs++[(k:Int)])]:List (List UInt8)))).length) (by first | (simp;done) | (simp;omega)) (by first | (simp;done) | (simp;omega) | omega) fun p72 cap72 cur72 hp72 hcp72 hlp72 htp72=>?_
   show Ll _ _ (Own _ _ [_,_,_,_,_,_]) _ _ ((72,sl_ p72 ((((tlL (fun y:Nat=>tellF n b (ys++[(x:Int)]) a (xs++[(y:Int)])) k)++(([tellF n b (ys++[(x:Int)]) a (xs++[(k:Int)])]:List (List UInt8)))).length)) cap72)::_) _ _ _;refine qJ 1 rfl (zG (zD [1,3,4,5,7,13,15,16,49,50] [_,_,_,_,_,_,_,_,_,_] rfl ?_));refine zB (zL rfl rfl rfl (yI rfl rfl rfl (by omega) (by omega)) ?_);refine zC 1 rfl (zJ (yQ ((k+1,p72,cap72,cur72)) ⟨by omega,by simpa using hcp72,by rw [tlL_step];exact hlp72,by rw [tlL_step];simpa only [Nat.mul_one] using htp72⟩ (by omega) (Sub.cons rfl (Sub.cons rfl (Sub.cons rfl (Sub.cons rfl (Sub.cons rfl (Sub.cons rfl (Sub.cons rfl (Sub.cons (by rw [tlL_step];rfl) (Sub.sel [49,50] rfl))))))))) (fun _ h=>h.sub (qD _ (qD _ (qD _ (zA _ (zA _ (zA _ (qB _))))))))))
  replace h51:=zM h51
  have hkn:k=a.n.toNat:=by omega
  have hT:([33,83]++nameS ys.length)++joinN [38] (dedup (tlL (fun y:Nat=>tellF n b (ys++[(x:Int)]) a (xs++[(y:Int)])) k))=tellF (n+1) a xs b ys:=by
   rw [hkn,tell_some2 hsame hmv,hlen];rfl
  have hS:(tellF (n+1) a xs b ys).length≤4000:=Nat.le_trans (tell_len (n+1) (by omega) (by omega) (by omega) (by omega)) (Nat.le_trans (LT3 hn3) (by decide))
  have htl:∀ s∈tlL (fun y:Nat=>tellF n b (ys++[(x:Int)]) a (xs++[(y:Int)])) k,s.length≤4000:=fun s hs=>by
   obtain ⟨i,_,rfl⟩:=List.mem_map.1 hs
   exact Nat.le_trans (tell_len n (by omega) (by omega) (by omega) (by omega)) (Nat.le_trans (LT3 (by omega)) (by decide))
  have hdl:=dedup_memL htl
  have hd0:=dedup_pos (l:=tlL (fun y:Nat=>tellF n b (ys++[(x:Int)]) a (xs++[(y:Int)])) k) (by omega)
  have hdn:=dedup_le (tlL (fun y:Nat=>tellF n b (ys++[(x:Int)]) a (xs++[(y:Int)])) k)
  have hjl:=joinN_len (op:=[38]) (by decide) hdl hd0
  have hnm:=nameS_length (show ys.length<4 by omega);refine yW rfl ?_;refine zD [1,15,16] [_,_,_] rfl ?_;refine zE (qF (qJ 2 rfl (zU (v:=i6_ ((ys.length:Int))) rfl rfl rfl (yR rfl zX rfl (ints_length _) (fun w1 hw1=>Row.own hvb hw1)) ?_)));refine zU (v:=str (nameS ys.length)) rfl rfl rfl (qH rfl Tryz.call76 rfl qC (fun w1 hw1=>nameOf_ok ys.length w1 (by omega))) ?_;refine zU rfl rfl rfl (yE rfl rfl rfl (by first | omega | (simp only [zZ,qV,qW];omega))) ?_;refine qJ 1 rfl (jQ (xs:=[.tmp 79]) (m:=(dedup (tlL (fun y:Nat=>tellF n b (ys++[(x:Int)]) a (xs++[(y:Int)])) k)).length) (vs:=strs (dedup (tlL (fun y:Nat=>tellF n b (ys++[(x:Int)]) a (xs++[(y:Int)])) k))) (el:=9) (size:=1) rfl rfl rfl rfl Tryz.call78 rfl (fun w1 hw1=>withoutEqual_ok (sl_ g ((tlL (fun y:Nat=>tellF n b (ys++[(x:Int)]) a (xs++[(y:Int)])) k).length) c) (tlL (fun y:Nat=>tellF n b (ys++[(x:Int)]) a (xs++[(y:Int)])) k) w1 (yY hw1 (i:=0) rfl ht (by simp) hl) (by omega)) fun p80 cap80 cur80 hp80 hcp80 hlp80 htp80=>?_);refine zU (v:=str (joinN ([38]) (dedup (tlL (fun y:Nat=>tellF n b (ys++[(x:Int)]) a (xs++[(y:Int)])) k)))) rfl rfl rfl (qH rfl Tryz.call77 rfl qC (fun w1 hw1=>joinedM_ok ([38]) (dedup (tlL (fun y:Nat=>tellF n b (ys++[(x:Int)]) a (xs++[(y:Int)])) k)) (sl_ p80 ((dedup (tlL (fun y:Nat=>tellF n b (ys++[(x:Int)]) a (xs++[(y:Int)])) k)).length) cap80) 4000 w1 (yY hw1 (i:=0) rfl (by simpa using htp80) (by simp) hlp80) hdl (by decide) (by decide) (by omega) hd0)) ?_;refine zU rfl rfl rfl (yE rfl rfl rfl (by first | omega | (simp only [zZ,qV,qW];omega))) ?_;refine zU (v:=.tuple #[str (shortS ((([33,83])++(nameS ys.length))++(joinN ([38]) (dedup (tlL (fun y:Nat=>tellF n b (ys++[(x:Int)]) a (xs++[(y:Int)])) k))))),bo_ (shortB ((([33,83])++(nameS ys.length))++(joinN ([38]) (dedup (tlL (fun y:Nat=>tellF n b (ys++[(x:Int)]) a (xs++[(y:Int)])) k)))))]) rfl rfl rfl (qH rfl Tryz.call58 rfl qC (fun w1 hw1=>shortG_ok ((([33,83])++(nameS ys.length))++(joinN ([38]) (dedup (tlL (fun y:Nat=>tellF n b (ys++[(x:Int)]) a (xs++[(y:Int)])) k)))) w1 (by rw [hT];omega))) ?_;refine zU (v:=str (shortS ((([33,83])++(nameS ys.length))++(joinN ([38]) (dedup (tlL (fun y:Nat=>tellF n b (ys++[(x:Int)]) a (xs++[(y:Int)])) k)))))) rfl rfl rfl (yB rfl rfl rfl) ?_;refine zU (v:=bo_ (shortB ((([33,83])++(nameS ys.length))++(joinN ([38]) (dedup (tlL (fun y:Nat=>tellF n b (ys++[(x:Int)]) a (xs++[(y:Int)])) k)))))) rfl rfl rfl (yB rfl rfl rfl) ?_;refine qJ 2 rfl (zG (zD [10,11] [_,_] rfl ?_));refine qL (xY rfl rfl rfl fun w' hw=>?_)
  exact ⟨by rw [hT,shortS_of hS];unfold shortB;rw [decide_eq_true hS],hw.below⟩
 obtain rfl:sd=true:=by
  cases sd with
  | true=>rfl
  | false=>exact absurd h42 (by simp [sideS])
 obtain ⟨hxm,hno⟩:=move_at1 hlen hmv;refine qU (zD [1,3,4,5,7,13,15] [_,_,_,_,_,_,_] rfl ?_);refine zE (qF (yS (xs:=[]) (vs:=[]) xP rfl rfl rfl rfl rfl rfl (by decide) rfl fun p47_1 hp47_1=>?_));refine qJ 1 rfl (zG (zD [1,3,4,5,7,13,15,16] [_,_,_,_,_,_,_,_] rfl ?_));refine zE (zE (zB (zL rfl rfl rfl (zF rfl zY rfl zK rfl rfl) ?_)));refine zL rfl rfl rfl (zP 1 rfl zW rfl rfl rfl) ?_;refine zC 1 rfl (zJ (zD [1,3,4,5,7,13,15,16,49,50] [_,_,_,_,_,_,_,_,_,_] rfl ?_));refine qT (xJ (σ:=Nat×Nat×Nat×Array Value) (fun ⟨k,g,c,cur⟩=>(k:Int)≤b.n∧cur.size=c*1∧(tlL (fun y:Nat=>tellF n a (xs++[(x:Int)]) b (ys++[(y:Int)])) k).length≤c∧cur.toList.take (tlL (fun y:Nat=>tellF n a (xs++[(x:Int)]) b (ys++[(y:Int)])) k).length=strs (tlL (fun y:Nat=>tellF n a (xs++[(x:Int)]) b (ys++[(y:Int)])) k)) (fun ⟨k,g,c,cur⟩=>[(1,va),(3,vb),(4,i6_ ((n:Int)+1)),(5,pt_ p5),(7,pt_ p7),(13,i6_ ((x:Int))),(15,str ([83])),(16,sl_ g ((tlL (fun y:Nat=>tellF n a (xs++[(x:Int)]) b (ys++[(y:Int)])) k).length) c),(49,i6_ b.n),(50,i6_ ((k:Int)))]) (fun ⟨k,g,c,cur⟩=>Own w.heap.size w [bk_ g cur 9,bk_ p7 #[i6_ b.n,str b.set,str b.rel] 24,bk_ p5 #[i6_ a.n,str a.set,str a.rel] 24]) (fun ⟨k,g,c,cur⟩=>(b.n - k).toNat) ((0,p47_1,0,#[])) ⟨by omega,rfl,Nat.le_refl 0,rfl⟩ (Sub.sel [1,3,4,5,7,13,15,16,49,50] rfl) (fun _ h=>h) ?_)
 rintro ⟨k,g,c,cur⟩ ⟨hk,hc,hl,ht⟩
 dsimp only
 have htk:=tlL_len (fun y:Nat=>tellF n a (xs++[(x:Int)]) b (ys++[(y:Int)])) k;refine zE (zB (zC 1 rfl (zJ (zD [1,3,4,5,7,13,15,16,49,50,51] [_,_,_,_,_,_,_,_,_,_,_] rfl ?_))));refine zE (qK (b:=decide (((k:Int))<b.n)) rfl (fun h51_1=>?_) (fun h51_1=>?_))
 ·
  replace h51_1:=zN h51_1
  have hE1:=els_more hA (x:=(x:Int)) ⟨by omega,by omega⟩
  have hE2:=els_more hB (x:=(k:Int)) ⟨by omega,by omega⟩
  have hx9:a.El (x:Int):=⟨by omega,by omega⟩;refine qU (zD [1,3,4,5,7,13,15,16,49,50] [_,_,_,_,_,_,_,_,_,_] rfl ?_);refine zE (qT (zE (zB (zC 2 rfl (zJ (zD [1,3,4,5,7,13,15,16,17,49,50] [_,_,_,_,_,_,_,_,_,_,_] rfl ?_))))));refine zE (Wk.regionO [(0,true),(1,true),(2,true),(4,true),(5,true),(6,true),(8,true),(9,true),(3,false),(7,false),(10,false),(11,true),(12,true),(13,true),(14,true),(15,true)] yH (fun _ h=>h.drawn) (by kernel_rfl) ?_);refine yD rfl rfl rfl rfl rfl (zV (cs:=#[i6_ a.n,str a.set,str a.rel]) 2 rfl zQ rfl rfl zO) (fun _ h=>h) ?_;refine xC 2 rfl (fun _ h=>h) ?_;refine yD rfl rfl rfl rfl rfl (zV (cs:=#[i6_ b.n,str b.set,str b.rel]) 1 rfl zQ rfl rfl zO) (fun _ h=>h) ?_;refine xC 3 rfl (fun _ h=>h) ?_;refine yD (v:=i6_ ((n:Int))) rfl rfl rfl rfl rfl (yF (by congr 1;omega) (vD rfl rfl rfl (by omega) (by omega))) (fun _ h=>h) ?_;refine yJ rfl ?_;refine jQ (xs:=[.tmp 55,.tmp 56]) (m:=(xs++[(x:Int)]).length) (vs:=ints (xs++[(x:Int)])) (el:=3) (size:=1) rfl rfl rfl rfl Tryz.call75 rfl (fun w1 hw1=>with_ok va xs ((x:Int)) w1 (Row.own hva hw1) (by omega)) fun p57_1 cap57_1 cur57_1 hp57_1 hcp57_1 hlp57_1 htp57_1=>?_;refine zG (yC (fun _ h=>h.tail) ?_);refine yJ rfl ?_;refine jQ (xs:=[.tmp 59,.tmp 60]) (m:=(ys++[(k:Int)]).length) (vs:=ints (ys++[(k:Int)])) (el:=3) (size:=1) rfl rfl rfl rfl Tryz.call75 rfl (fun w1 hw1=>with_ok vb ys ((k:Int)) w1 (Row.own hvb hw1) (by omega)) fun p61_1 cap61_1 cur61_1 hp61_1 hcp61_1 hlp61_1 htp61_1=>?_;refine zG (yC (fun _ h=>h.tail.tail) ?_);refine yJ rfl ?_;refine zU (v:=.tuple #[str (tellF n a (xs++[(x:Int)]) b (ys++[(k:Int)])),bo_ true]) rfl rfl rfl (qH rfl Tryz.call38 rfl qC (fun w1 hw1=>ih a b (xs++[(x:Int)]) (ys++[(k:Int)]) (sl_ p57_1 ((xs++[(x:Int)]).length) cap57_1) (sl_ p61_1 ((ys++[(k:Int)]).length) cap61_1) w1 hVa hVb (yY hw1 (i:=1) rfl (by simpa using htp57_1) (by simp) hlp57_1) (yY hw1 (i:=0) rfl (by simpa using htp61_1) (by simp) hlp61_1) hE1 hE2 (by simp [hlen]) (by rw [zZ,List.length_singleton];omega) (by omega) (hno k (by omega)))) ?_;refine zG (yC (fun _ h=>h.tail.tail) ?_);refine xC 1 rfl (fun _ h=>h.tail.tail) ?_;refine yD (v:=str (tellF n a (xs++[(x:Int)]) b (ys++[(k:Int)]))) rfl rfl rfl rfl rfl (yB rfl rfl rfl) (fun _ h=>h.tail.tail) ?_;refine yD (v:=bo_ true) rfl rfl rfl rfl rfl (yB rfl rfl rfl) (fun _ h=>h.tail.tail) ?_;refine xC 2 rfl (fun _ h=>h.tail.tail) ?_;refine vB ?_;refine zD [1,3,4,5,7,13,15,16,18,19,49,50] [_,_,_,_,_,_,_,_,_,_,_,_] rfl ?_
  refine zE (zE (zB (zC 2 rfl (zJ (zD [1,3,4,5,7,13,15,16,18,49,50,68] [_,_,_,_,_,_,_,_,_,_,_,_] rfl ?_)))));refine jD rfl ?_;refine qU (zD [1,3,4,5,7,13,15,16,18,49,50] [_,_,_,_,_,_,_,_,_,_,_] rfl ?_);refine qF (qJ 2 rfl (yS (xs:=[.tmp 70]) (vs:=[str (tellF n a (xs++[(x:Int)]) b (ys++[(k:Int)]))]) xP rfl rfl rfl rfl rfl rfl (by decide) rfl fun p71_1 hp71_1=>?_));refine uC (xs:=tlL (fun y:Nat=>tellF n a (xs++[(x:Int)]) b (ys++[(y:Int)])) k) (ys:=([tellF n a (xs++[(x:Int)]) b (ys++[(k:Int)])]:List (List UInt8))) xP 3 rfl rfl rfl rfl rfl rfl rfl hc hl ht (fun w1 hw1=>(yY hw1 (i:=0) rfl (n:=1) (cap:=1) (vs:=strs ([tellF n a (xs++[(x:Int)]) b (ys++[(k:Int)])]:List (List UInt8))) rfl rfl (by decide))) (((tlL (fun y:Nat=>tellF n a (xs++[(x:Int)]) b (ys++[(y:Int)])) k)++(([tellF n a (xs++[(x:Int)]) b (ys++[(k:Int)])]:List (List UInt8)))).length) (by first | (simp;done) | (simp;omega)) (by first | (simp;done) | (simp;omega) | omega) fun p72_1 cap72_1 cur72_1 hp72_1 hcp72_1 hlp72_1 htp72_1=>?_
  show Ll _ _ (Own _ _ [_,_,_,_,_,_]) _ _ ((72,sl_ p72_1 ((((tlL (fun y:Nat=>tellF n a (xs++[(x:Int)]) b (ys++[(y:Int)])) k)++(([tellF n a (xs++[(x:Int)]) b (ys++[(k:Int)])]:List (List UInt8)))).length)) cap72_1)::_) _ _ _;refine qJ 1 rfl (zG (zD [1,3,4,5,7,13,15,16,49,50] [_,_,_,_,_,_,_,_,_,_] rfl ?_));refine zB (zL rfl rfl rfl (yI rfl rfl rfl (by omega) (by omega)) ?_);refine zC 1 rfl (zJ (yQ ((k+1,p72_1,cap72_1,cur72_1)) ⟨by omega,by simpa using hcp72_1,by rw [tlL_step];exact hlp72_1,by rw [tlL_step];simpa only [Nat.mul_one] using htp72_1⟩ (by omega) (Sub.cons rfl (Sub.cons rfl (Sub.cons rfl (Sub.cons rfl (Sub.cons rfl (Sub.cons rfl (Sub.cons rfl (Sub.cons (by rw [tlL_step];rfl) (Sub.sel [49,50] rfl))))))))) (fun _ h=>h.sub (qD _ (qD _ (qD _ (zA _ (zA _ (zA _ (qB _))))))))))
 replace h51_1:=zM h51_1
 have hkn:k=b.n.toNat:=by omega
 have hT:([83]++nameS xs.length)++joinN [38] (dedup (tlL (fun y:Nat=>tellF n a (xs++[(x:Int)]) b (ys++[(y:Int)])) k))=tellF (n+1) a xs b ys:=by
  rw [hkn,tell_some1 hsame hmv];rfl
 have hS:(tellF (n+1) a xs b ys).length≤4000:=Nat.le_trans (tell_len (n+1) (by omega) (by omega) (by omega) (by omega)) (Nat.le_trans (LT3 hn3) (by decide))
 have htl:∀ s∈tlL (fun y:Nat=>tellF n a (xs++[(x:Int)]) b (ys++[(y:Int)])) k,s.length≤4000:=fun s hs=>by
  obtain ⟨i,_,rfl⟩:=List.mem_map.1 hs
  exact Nat.le_trans (tell_len n (by omega) (by omega) (by omega) (by omega)) (Nat.le_trans (LT3 (by omega)) (by decide))
 have hdl:=dedup_memL htl
 have hd0:=dedup_pos (l:=tlL (fun y:Nat=>tellF n a (xs++[(x:Int)]) b (ys++[(y:Int)])) k) (by omega)
 have hdn:=dedup_le (tlL (fun y:Nat=>tellF n a (xs++[(x:Int)]) b (ys++[(y:Int)])) k)
 have hjl:=joinN_len (op:=[38]) (by decide) hdl hd0
 have hnm:=nameS_length (show xs.length<4 by omega);refine yW rfl ?_;refine zD [1,15,16] [_,_,_] rfl ?_;refine zE (qF (qJ 2 rfl (zU (v:=i6_ ((xs.length:Int))) rfl rfl rfl (yR rfl zX rfl (ints_length _) (fun w1 hw1=>Row.own hva hw1)) ?_)));refine zU (v:=str (nameS xs.length)) rfl rfl rfl (qH rfl Tryz.call76 rfl qC (fun w1 hw1=>nameOf_ok xs.length w1 (by omega))) ?_;refine zU rfl rfl rfl (yE rfl rfl rfl (by first | omega | (simp only [zZ,qV,qW];omega))) ?_;refine qJ 1 rfl (jQ (xs:=[.tmp 79]) (m:=(dedup (tlL (fun y:Nat=>tellF n a (xs++[(x:Int)]) b (ys++[(y:Int)])) k)).length) (vs:=strs (dedup (tlL (fun y:Nat=>tellF n a (xs++[(x:Int)]) b (ys++[(y:Int)])) k))) (el:=9) (size:=1) rfl rfl rfl rfl Tryz.call78 rfl (fun w1 hw1=>withoutEqual_ok (sl_ g ((tlL (fun y:Nat=>tellF n a (xs++[(x:Int)]) b (ys++[(y:Int)])) k).length) c) (tlL (fun y:Nat=>tellF n a (xs++[(x:Int)]) b (ys++[(y:Int)])) k) w1 (yY hw1 (i:=0) rfl ht (by simp) hl) (by omega)) fun p80_1 cap80_1 cur80_1 hp80_1 hcp80_1 hlp80_1 htp80_1=>?_);refine zU (v:=str (joinN ([38]) (dedup (tlL (fun y:Nat=>tellF n a (xs++[(x:Int)]) b (ys++[(y:Int)])) k)))) rfl rfl rfl (qH rfl Tryz.call77 rfl qC (fun w1 hw1=>joinedM_ok ([38]) (dedup (tlL (fun y:Nat=>tellF n a (xs++[(x:Int)]) b (ys++[(y:Int)])) k)) (sl_ p80_1 ((dedup (tlL (fun y:Nat=>tellF n a (xs++[(x:Int)]) b (ys++[(y:Int)])) k)).length) cap80_1) 4000 w1 (yY hw1 (i:=0) rfl (by simpa using htp80_1) (by simp) hlp80_1) hdl (by decide) (by decide) (by omega) hd0)) ?_;refine zU rfl rfl rfl (yE rfl rfl rfl (by first | omega | (simp only [zZ,qV,qW];omega))) ?_;refine zU (v:=.tuple #[str (shortS ((([83])++(nameS xs.length))++(joinN ([38]) (dedup (tlL (fun y:Nat=>tellF n a (xs++[(x:Int)]) b (ys++[(y:Int)])) k))))),bo_ (shortB ((([83])++(nameS xs.length))++(joinN ([38]) (dedup (tlL (fun y:Nat=>tellF n a (xs++[(x:Int)]) b (ys++[(y:Int)])) k)))))]) rfl rfl rfl (qH rfl Tryz.call58 rfl qC (fun w1 hw1=>shortG_ok ((([83])++(nameS xs.length))++(joinN ([38]) (dedup (tlL (fun y:Nat=>tellF n a (xs++[(x:Int)]) b (ys++[(y:Int)])) k)))) w1 (by rw [hT];omega))) ?_;refine zU (v:=str (shortS ((([83])++(nameS xs.length))++(joinN ([38]) (dedup (tlL (fun y:Nat=>tellF n a (xs++[(x:Int)]) b (ys++[(y:Int)])) k)))))) rfl rfl rfl (yB rfl rfl rfl) ?_;refine zU (v:=bo_ (shortB ((([83])++(nameS xs.length))++(joinN ([38]) (dedup (tlL (fun y:Nat=>tellF n a (xs++[(x:Int)]) b (ys++[(y:Int)])) k)))))) rfl rfl rfl (yB rfl rfl rfl) ?_;refine qJ 2 rfl (zG (zD [10,11] [_,_] rfl ?_));refine qL (xY rfl rfl rfl fun w' hw=>?_)
 exact ⟨by rw [hT,shortS_of hS];unfold shortB;rw [decide_eq_true hS],hw.below⟩
set_option maxHeartbeats 400000 in
/-- spec.l6Tell|zero -/
theorem ts_zero (a b:St) (xs ys:List Int) (va vb:Value) (w:World) (hVa:validB a=true) (hVb:validB b=true) (hva:Ints w va xs) (hvb:Ints w vb ys) (hA:a.Els xs) (hB:b.Els ys) (hlen:xs.length=ys.length) (hl4:xs.length≤4) (hwin:winB 0 a xs b ys=false) :
    Calls Tryz.prog 41 [vS a,va,vS b,vb,i6_ 0].toArray w fun en w'=>en=.returned (str (tellF 0 a xs b ys))∧Below w.heap.size w w':=by
 refine fnStart (n:=100) (e:=[(0,vS a),(1,va),(2,vS b),(3,vb),(4,i6_ 0)]) Tryz.func41 rfl rfl rfl rfl Ends.both ?_
 have ha:=validB_fine hVa
 have hb:=validB_fine hVb
 have hm8:=ha.hi
 have hm1:=ha.lo
 have hb8:=hb.hi
 have hb1:=hb.lo;refine zE (qF (yU (v:=vS a) rfl rfl rfl rfl rfl fun p5 hp5=>?_))
 show Ll _ _ (Own _ _ [_]) _ _ ((5,pt_ p5)::_) _ _ _;refine yU (v:=vS b) rfl rfl rfl rfl rfl fun p7 hp7=>?_
 show Ll _ _ (Own _ _ [_,_]) _ _ ((7,pt_ p7)::_) _ _ _;refine zU (v:=str ([])) rfl rfl rfl (yP rfl rfl) ?_;refine zG (zD [1,3,4,5,7] [_,_,_,_,_] rfl ?_);refine zE (zE (zB (zL rfl rfl rfl (zV (cs:=#[i6_ a.n,str a.set,str a.rel]) 1 rfl zQ rfl rfl zO) ?_)));refine zC 1 rfl (zL rfl rfl rfl (zV (cs:=#[i6_ b.n,str b.set,str b.rel]) 0 rfl zQ rfl rfl zO) ?_);refine zC 1 rfl (zL (v:=bo_ (sameB a xs b ys)) rfl rfl rfl (qH rfl Tryz.call83 rfl qC (fun w1 hw1=>l4Partial_ok a b xs ys va vb w1 ha hb (Row.own hva hw1) (Row.own hvb hw1) hA hB (by omega) (by omega))) ?_);refine zC 1 rfl (zJ (zD [1,3,4,5,7,23] [_,_,_,_,_,_] rfl ?_));refine qK (b:=!(sameB a xs b ys)) rfl (fun h23=>?_) (fun h23=>?_)
 ·
  replace h23:=not_true h23;refine zE (zB (zL rfl rfl rfl (zV (cs:=#[i6_ a.n,str a.set,str a.rel]) 1 rfl zQ rfl rfl zO) ?_));refine zC 1 rfl (zL rfl rfl rfl (zV (cs:=#[i6_ b.n,str b.set,str b.rel]) 0 rfl zQ rfl rfl zO) ?_);refine zC 1 rfl (zL (v:=str (diffO (factsL a xs xs.length) (factsL b ys ys.length))) rfl rfl rfl (qH rfl Tryz.call84 rfl qC (fun w1 hw1=>differ_ok a b xs ys va vb w1 ha hb (Row.own hva hw1) (Row.own hvb hw1) hA hB (by omega) (by omega))) ?_);refine zC 1 rfl (zJ (zD [10] [_] rfl ?_));refine qL (qS rfl rfl fun w' hw=>?_)
  exact ⟨ret_s (by rw [tell_diff (by simp_all)]),hw.below⟩
 replace h23:=not_false h23
 exact absurd hwin (by unfold winB;rw [show sameB a xs b ys=true from by simp_all];simp [goB])
set_option maxHeartbeats 400000 in
/-- spec.l6Tell -/
theorem ts_of (n:Nat) (ih:∀ (a b:St) (xs ys:List Int) (va vb:Value) (w:World),validB a=true→validB b=true→Ints w va xs→Ints w vb ys→a.Els xs→b.Els ys→xs.length=ys.length→xs.length+n≤4→n≤3→winB n a xs b ys=false→Calls Tryz.prog 41 #[vS a,va,vS b,vb,.int .i64 (n:Int)] w fun en w'=>en=.returned (str (tellF n a xs b ys))∧Below w.heap.size w w') (a b:St) (xs ys:List Int) (va vb:Value) (w:World) (hVa:validB a=true) (hVb:validB b=true) (hva:Ints w va xs) (hvb:Ints w vb ys) (hA:a.Els xs) (hB:b.Els ys) (hlen:xs.length=ys.length) (hl5:xs.length+(n+1)≤4) (hn3:n+1≤3) (hwin:winB (n+1) a xs b ys=false) :
    Calls Tryz.prog 41 [vS a,va,vS b,vb,i6_ ((n:Int)+1)].toArray w fun en w'=>en=.returned (str (tellF (n+1) a xs b ys))∧Below w.heap.size w w':=by
 refine fnStart (n:=100) (e:=[(0,vS a),(1,va),(2,vS b),(3,vb),(4,i6_ ((n:Int)+1))]) Tryz.func41 rfl rfl rfl rfl Ends.both ?_
 have ha:=validB_fine hVa
 have hb:=validB_fine hVb
 have hm8:=ha.hi
 have hm1:=ha.lo
 have hb8:=hb.hi
 have hb1:=hb.lo
 have hsa:=ha.small
 have hsb:=hb.small
 have loa : -9223372036854775808≤a.n:=by omega
 have hia:a.n≤9223372036854775807:=by omega
 have lob : -9223372036854775808≤b.n:=by omega
 have hib:b.n≤9223372036854775807:=by omega
 refine zE (qF (yU (v:=vS a) rfl rfl rfl rfl rfl fun p5 hp5=>?_))
 show Ll _ _ (Own _ _ [_]) _ _ ((5,pt_ p5)::_) _ _ _;refine yU (v:=vS b) rfl rfl rfl rfl rfl fun p7 hp7=>?_
 show Ll _ _ (Own _ _ [_,_]) _ _ ((7,pt_ p7)::_) _ _ _;refine zU (v:=str ([])) rfl rfl rfl (yP rfl rfl) ?_;refine zG (zD [1,3,4,5,7] [_,_,_,_,_] rfl ?_);refine zE (zE (zB (zL rfl rfl rfl (zV (cs:=#[i6_ a.n,str a.set,str a.rel]) 1 rfl zQ rfl rfl zO) ?_)));refine zC 1 rfl (zL rfl rfl rfl (zV (cs:=#[i6_ b.n,str b.set,str b.rel]) 0 rfl zQ rfl rfl zO) ?_);refine zC 1 rfl (zL (v:=bo_ (sameB a xs b ys)) rfl rfl rfl (qH rfl Tryz.call83 rfl qC (fun w1 hw1=>l4Partial_ok a b xs ys va vb w1 ha hb (Row.own hva hw1) (Row.own hvb hw1) hA hB (by omega) (by omega))) ?_);refine zC 1 rfl (zJ (zD [1,3,4,5,7,23] [_,_,_,_,_,_] rfl ?_));refine qK (b:=!(sameB a xs b ys)) rfl (fun h23=>?_) (fun h23=>?_)
 ·
  replace h23:=not_true h23;refine zE (zB (zL rfl rfl rfl (zV (cs:=#[i6_ a.n,str a.set,str a.rel]) 1 rfl zQ rfl rfl zO) ?_));refine zC 1 rfl (zL rfl rfl rfl (zV (cs:=#[i6_ b.n,str b.set,str b.rel]) 0 rfl zQ rfl rfl zO) ?_);refine zC 1 rfl (zL (v:=str (diffO (factsL a xs xs.length) (factsL b ys ys.length))) rfl rfl rfl (qH rfl Tryz.call84 rfl qC (fun w1 hw1=>differ_ok a b xs ys va vb w1 ha hb (Row.own hva hw1) (Row.own hvb hw1) hA hB (by omega) (by omega))) ?_);refine zC 1 rfl (zJ (zD [10] [_] rfl ?_));refine qL (qS rfl rfl fun w' hw=>?_)
  exact ⟨ret_s (by rw [tell_diff (by simp_all)]),hw.below⟩
 replace h23:=not_false h23;refine qU (zD [1,3,4,5,7] [_,_,_,_,_] rfl ?_);refine zE (zB (zL rfl rfl rfl (zV (cs:=#[i6_ a.n,str a.set,str a.rel]) 1 rfl zQ rfl rfl zO) ?_));refine zC 1 rfl (zL rfl rfl rfl (zV (cs:=#[i6_ b.n,str b.set,str b.rel]) 0 rfl zQ rfl rfl zO) ?_);refine zC 2 rfl ?_
 have hsame:sameB a xs b ys=true:=by simp_all
 obtain ⟨sd,x,hmv⟩:=move_ex hsame hwin
 have hmv2:fmO a xs b ys ((n:Int)+1)=some (sd,x):=by
  unfold fmO gameB inB
  rw [hsame,show listsB a xs b ys=true from listsB_of (listB_of hVa hA (by omega)) (listB_of hVb hB (by omega)) hlen,decide_eq_true (show 1≤(n:Int)+1 by omega),decide_eq_true (show (0:Int)≤(n:Int)+1 by omega),decide_eq_true (show (n:Int)+1≤3 by omega),show ((n:Int)+1 - 1).toNat=n from by omega];exact hmv
 refine zL (v:=.tuple #[str (sideS (some (sd,x))),i6_ ((x:Int)),bo_ true]) rfl rfl rfl (qH rfl Tryz.call85 rfl qC (fun w1 hw1=>by have h9:=sMove_ok a b xs ys va vb w1 hsa hsb (Row.own hva hw1) (Row.own hvb hw1) (by first | (simp;done) | (simp;omega) | omega) (by first | (simp;done) | (simp;omega) | omega) loa hia lob hib ((n:Int)+1);rw [hmv2] at h9;exact h9)) ?_;refine zC 1 rfl (zL (v:=str (sideS (some (sd,x)))) rfl rfl rfl (yB rfl rfl rfl) ?_);refine zL (v:=i6_ ((x:Int))) rfl rfl rfl (yB rfl rfl rfl) ?_;refine zL (v:=bo_ true) rfl rfl rfl (yB rfl rfl rfl) ?_;refine zC 3 rfl (zJ (zD [1,3,4,5,7,11,12] [_,_,_,_,_,_,_] rfl ?_));refine zE (zB (zC 1 rfl (zL (v:=i6_ ((xs.length:Int))) rfl rfl rfl (yR rfl zX rfl (ints_length _) (fun w1 hw1=>Row.own hva hw1)) ?_)));refine zC 1 rfl (zL (v:=i6_ ((xs.length:Int))) rfl rfl rfl (yR rfl zX rfl (ints_length _) (fun w1 hw1=>Row.own hva hw1)) ?_);refine zL rfl rfl rfl (yI rfl rfl rfl (by omega) (by omega)) ?_;refine zL (v:=str (nameS xs.length)) rfl rfl rfl (yF (congrArg str (slice_name xs.length)) (vT rfl qX rfl rfl rfl (by omega) (by omega) (by first | omega | (simp;omega)))) ?_;refine zC 1 rfl (zJ (zD [1,3,4,5,7,11,12,14] [_,_,_,_,_,_,_,_] rfl ?_));refine zE (qF (yS (xs:=[]) (vs:=[]) xP rfl rfl rfl rfl rfl rfl (by decide) rfl fun p45 hp45=>?_));refine qJ 1 rfl (zG (zD [1,3,4,5,7,11,12,14,15] [_,_,_,_,_,_,_,_,_] rfl ?_));refine zE (zE (zB (zC 1 rfl (zL rfl rfl rfl (uL rfl rfl rfl) ?_))));refine zJ (zD [1,3,4,5,7,12,14,15,47] [_,_,_,_,_,_,_,_,_] rfl ?_);refine qK (b:=(sideS (some (sd,x)))==([97])) rfl (fun h47=>?_) (fun h47=>?_)
 ·
  obtain rfl:sd=true:=by
   cases sd with
   | true=>rfl
   | false=>exact absurd h47 (by simp [sideS])
  obtain ⟨hxm,hno⟩:=move_at1 hlen hmv;refine zE (zE (zB (zC 1 rfl (zJ (zD [1,3,4,5,7,12,14,15,16] [_,_,_,_,_,_,_,_,_] rfl ?_)))));refine qT (xJ (σ:=Nat×Nat×Nat×Array Value) (fun ⟨k,g,c,cur⟩=>(k:Int)≤b.n∧cur.size=c*1∧(tlL (fun y:Nat=>tellF n a (xs++[(x:Int)]) b (ys++[(y:Int)])) k).length≤c∧cur.toList.take (tlL (fun y:Nat=>tellF n a (xs++[(x:Int)]) b (ys++[(y:Int)])) k).length=strs (tlL (fun y:Nat=>tellF n a (xs++[(x:Int)]) b (ys++[(y:Int)])) k)) (fun ⟨k,g,c,cur⟩=>[(1,va),(3,vb),(4,i6_ ((n:Int)+1)),(5,pt_ p5),(7,pt_ p7),(12,i6_ ((x:Int))),(14,str (nameS xs.length)),(15,sl_ g ((tlL (fun y:Nat=>tellF n a (xs++[(x:Int)]) b (ys++[(y:Int)])) k).length) c),(16,i6_ ((k:Int)))]) (fun ⟨k,g,c,cur⟩=>Own w.heap.size w [bk_ g cur 9,bk_ p7 #[i6_ b.n,str b.set,str b.rel] 24,bk_ p5 #[i6_ a.n,str a.set,str a.rel] 24]) (fun ⟨k,g,c,cur⟩=>(b.n - k).toNat) ((0,p45,0,#[])) ⟨by omega,rfl,Nat.le_refl 0,rfl⟩ (Sub.sel [1,3,4,5,7,12,14,15,16] rfl) (fun _ h=>h) ?_)
  rintro ⟨k,g,c,cur⟩ ⟨hk,hc,hl,ht⟩
  dsimp only
  have htk:=tlL_len (fun y:Nat=>tellF n a (xs++[(x:Int)]) b (ys++[(y:Int)])) k;refine zE (zE (zB (zC 1 rfl (zL rfl rfl rfl (zF rfl zY rfl zK rfl rfl) ?_))));refine zL rfl rfl rfl (zP 1 rfl zW rfl rfl rfl) ?_;refine zC 1 rfl (zJ (zD [1,3,4,5,7,12,14,15,16,51] [_,_,_,_,_,_,_,_,_,_] rfl ?_));refine qK (b:=decide (((k:Int))<b.n)) rfl (fun h51=>?_) (fun h51=>?_)
  ·
   replace h51:=zN h51
   have hE1:=els_more hA (x:=(x:Int)) ⟨by omega,by omega⟩
   have hE2:=els_more hB (x:=(k:Int)) ⟨by omega,by omega⟩
   have hx9:a.El (x:Int):=⟨by omega,by omega⟩;refine qU (zD [1,3,4,5,7,12,14,15,16] [_,_,_,_,_,_,_,_,_] rfl ?_);refine zE (qT (jG (S:=Own w.heap.size w [bk_ p7 #[i6_ b.n,str b.set,str b.rel] 24,bk_ p5 #[i6_ a.n,str a.set,str a.rel] 24]) [(0,true),(1,true),(2,true),(3,true),(5,true),(6,true),(7,true),(9,true),(10,true),(4,false),(8,false),(11,false),(12,false),(13,false),(14,true)] yH (fun _ h=>h.drawn) (by kernel_rfl) ?_));refine xC 1 rfl (fun _ h=>h.tail) ?_;refine yD rfl rfl rfl rfl rfl (zV (cs:=#[i6_ a.n,str a.set,str a.rel]) 1 rfl zQ rfl rfl zO) (fun _ h=>h.tail) ?_;refine xC 2 rfl (fun _ h=>h.tail) ?_;refine yD rfl rfl rfl rfl rfl (zV (cs:=#[i6_ b.n,str b.set,str b.rel]) 0 rfl zQ rfl rfl zO) (fun _ h=>h.tail) ?_;refine xC 3 rfl (fun _ h=>h.tail) ?_;refine yD (v:=i6_ ((n:Int))) rfl rfl rfl rfl rfl (yF (by congr 1;omega) (vD rfl rfl rfl (by omega) (by omega))) (fun _ h=>h.tail) ?_;refine yJ rfl ?_;refine jQ (xs:=[.tmp 56,.tmp 57]) (m:=(xs++[(x:Int)]).length) (vs:=ints (xs++[(x:Int)])) (el:=3) (size:=1) rfl rfl rfl rfl Tryz.call86 rfl (fun w1 hw1=>l4With_ok va xs ((x:Int)) w1 (Row.own hva hw1) (by omega)) fun p58 cap58 cur58 hp58 hcp58 hlp58 htp58=>?_;refine zG (yC (fun _ h=>h.tail.tail) ?_);refine yJ rfl ?_;refine jQ (xs:=[.tmp 60,.tmp 61]) (m:=(ys++[(k:Int)]).length) (vs:=ints (ys++[(k:Int)])) (el:=3) (size:=1) rfl rfl rfl rfl Tryz.call86 rfl (fun w1 hw1=>l4With_ok vb ys ((k:Int)) w1 (Row.own hvb hw1) (by omega)) fun p62 cap62 cur62 hp62 hcp62 hlp62 htp62=>?_;refine zG (yC (fun _ h=>h.tail.tail.tail) ?_);refine yJ rfl ?_;refine zU (v:=str (tellF n a (xs++[(x:Int)]) b (ys++[(k:Int)]))) rfl rfl rfl (qH rfl Tryz.call41 rfl qC (fun w1 hw1=>ih a b (xs++[(x:Int)]) (ys++[(k:Int)]) (sl_ p58 ((xs++[(x:Int)]).length) cap58) (sl_ p62 ((ys++[(k:Int)]).length) cap62) w1 hVa hVb (yY hw1 (i:=1) rfl (by simpa using htp58) (by simp) hlp58) (yY hw1 (i:=0) rfl (by simpa using htp62) (by simp) hlp62) hE1 hE2 (by simp [hlen]) (by rw [zZ,List.length_singleton];omega) (by omega) (hno k (by omega)))) ?_;refine zG (yC (fun _ h=>h.tail.tail.tail) ?_);refine yJ rfl ?_;refine yS (xs:=[.tmp 65]) (vs:=[str (tellF n a (xs++[(x:Int)]) b (ys++[(k:Int)]))]) xP rfl rfl rfl rfl rfl rfl (by decide) rfl fun p66 hp66=>?_;refine zG (yC (fun _ h=>h.tail.tail.tail.tail) ?_);refine yJ rfl ?_;refine uC (xs:=tlL (fun y:Nat=>tellF n a (xs++[(x:Int)]) b (ys++[(y:Int)])) k) (ys:=([tellF n a (xs++[(x:Int)]) b (ys++[(k:Int)])]:List (List UInt8))) xP 3 rfl rfl rfl rfl rfl rfl rfl hc hl ht (fun w1 hw1=>(yY hw1 (i:=0) rfl (n:=1) (cap:=1) (vs:=strs ([tellF n a (xs++[(x:Int)]) b (ys++[(k:Int)])]:List (List UInt8))) rfl rfl (by decide))) (((tlL (fun y:Nat=>tellF n a (xs++[(x:Int)]) b (ys++[(y:Int)])) k)++(([tellF n a (xs++[(x:Int)]) b (ys++[(k:Int)])]:List (List UInt8)))).length) (by first | (simp;done) | (simp;omega)) (by first | (simp;done) | (simp;omega) | omega) fun p67 cap67 cur67 hp67 hcp67 hlp67 htp67=>?_
   show Ll _ _ (Own _ _ [_,_,_,_,_,_]) _ _ ((67,sl_ p67 ((((tlL (fun y:Nat=>tellF n a (xs++[(x:Int)]) b (ys++[(y:Int)])) k)++(([tellF n a (xs++[(x:Int)]) b (ys++[(k:Int)])]:List (List UInt8)))).length)) cap67)::_) _ _ _;refine zG (yC (fun _ h=>h.tail.tail.tail.tail) ?_);refine xC 1 rfl (fun _ h=>h.tail.tail.tail.tail) ?_;refine vB ?_;refine zD [1,3,4,5,7,12,14,15,16] [_,_,_,_,_,_,_,_,_] rfl ?_;refine zB (zC 1 rfl (zL rfl rfl rfl (yI rfl rfl rfl (by omega) (by omega)) ?_));refine zC 1 rfl (zJ (yQ ((k+1,p67,cap67,cur67)) ⟨by omega,by simpa using hcp67,by rw [tlL_step];exact hlp67,by rw [tlL_step];simpa only [Nat.mul_one] using htp67⟩ (by omega) (Sub.cons rfl (Sub.cons rfl (Sub.cons rfl (Sub.cons rfl (Sub.cons rfl (Sub.cons rfl (Sub.cons rfl (Sub.cons (by rw [tlL_step];rfl) (Sub.sel [16] rfl))))))))) (fun _ h=>h.sub (qD _ (qD _ (qD _ (zA _ (zA _ (zA _ (qB _))))))))))
  replace h51:=zM h51
  have hkn:k=b.n.toNat:=by omega
  have hT:([83]++nameS xs.length)++joinN [38] (dedup (tlL (fun y:Nat=>tellF n a (xs++[(x:Int)]) b (ys++[(y:Int)])) k))=tellF (n+1) a xs b ys:=by
   rw [hkn,tell_some1 hsame hmv];rfl
  have hS:(tellF (n+1) a xs b ys).length≤4000:=Nat.le_trans (tell_len (n+1) (by omega) (by omega) (by omega) (by omega)) (Nat.le_trans (LT3 hn3) (by decide))
  have htl:∀ s∈tlL (fun y:Nat=>tellF n a (xs++[(x:Int)]) b (ys++[(y:Int)])) k,s.length≤4000:=fun s hs=>by
   obtain ⟨i,_,rfl⟩:=List.mem_map.1 hs
   exact Nat.le_trans (tell_len n (by omega) (by omega) (by omega) (by omega)) (Nat.le_trans (LT3 (by omega)) (by decide))
  have hdl:=dedup_memL htl
  have hd0:=dedup_pos (l:=tlL (fun y:Nat=>tellF n a (xs++[(x:Int)]) b (ys++[(y:Int)])) k) (by omega)
  have hdn:=dedup_le (tlL (fun y:Nat=>tellF n a (xs++[(x:Int)]) b (ys++[(y:Int)])) k)
  have hjl:=joinN_len (op:=[38]) (by decide) hdl hd0
  have hnm:=nameS_length (show xs.length<4 by omega);refine yW rfl ?_;refine zD [14,15] [_,_] rfl ?_;refine zE (qF (qJ 1 rfl (zU rfl rfl rfl (yE rfl rfl rfl (by first | omega | (simp only [zZ,qV,qW];omega))) ?_)));refine qJ 1 rfl (jQ (xs:=[.tmp 70]) (m:=(dedup (tlL (fun y:Nat=>tellF n a (xs++[(x:Int)]) b (ys++[(y:Int)])) k)).length) (vs:=strs (dedup (tlL (fun y:Nat=>tellF n a (xs++[(x:Int)]) b (ys++[(y:Int)])) k))) (el:=9) (size:=1) rfl rfl rfl rfl Tryz.call88 rfl (fun w1 hw1=>l6Each_ok (sl_ g ((tlL (fun y:Nat=>tellF n a (xs++[(x:Int)]) b (ys++[(y:Int)])) k).length) c) (tlL (fun y:Nat=>tellF n a (xs++[(x:Int)]) b (ys++[(y:Int)])) k) w1 (yY hw1 (i:=0) rfl ht (by simp) hl) (by omega)) fun p71 cap71 cur71 hp71 hcp71 hlp71 htp71=>?_);refine zU (v:=str (joinN ([38]) (dedup (tlL (fun y:Nat=>tellF n a (xs++[(x:Int)]) b (ys++[(y:Int)])) k)))) rfl rfl rfl (qH rfl Tryz.call87 rfl qC (fun w1 hw1=>l2JoinM_ok ([38]) (dedup (tlL (fun y:Nat=>tellF n a (xs++[(x:Int)]) b (ys++[(y:Int)])) k)) (sl_ p71 ((dedup (tlL (fun y:Nat=>tellF n a (xs++[(x:Int)]) b (ys++[(y:Int)])) k)).length) cap71) 4000 w1 (yY hw1 (i:=0) rfl (by simpa using htp71) (by simp) hlp71) hdl (by decide) (by decide) (by omega) hd0)) ?_;refine zU rfl rfl rfl (yE rfl rfl rfl (by first | omega | (simp only [zZ,qV,qW];omega))) ?_;refine qJ 1 rfl (zG (zD [10] [_] rfl ?_));refine qL (qS rfl rfl fun w' hw=>?_)
  exact ⟨ret_s (by rw [hT]),hw.below⟩
 obtain rfl:sd=false:=by
  cases sd with
  | false=>rfl
  | true=>exact absurd h47 (by simp [sideS])
 obtain ⟨hxm,hno⟩:=move_at2 hlen hmv;refine qU (zD [1,3,4,5,7,12,14,15] [_,_,_,_,_,_,_,_] rfl ?_);refine zE (zE (zB (zC 1 rfl (zJ (zD [1,3,4,5,7,12,14,15,17] [_,_,_,_,_,_,_,_,_] rfl ?_)))));refine qT (xJ (σ:=Nat×Nat×Nat×Array Value) (fun ⟨k,g,c,cur⟩=>(k:Int)≤a.n∧cur.size=c*1∧(tlL (fun y:Nat=>tellF n b (ys++[(x:Int)]) a (xs++[(y:Int)])) k).length≤c∧cur.toList.take (tlL (fun y:Nat=>tellF n b (ys++[(x:Int)]) a (xs++[(y:Int)])) k).length=strs (tlL (fun y:Nat=>tellF n b (ys++[(x:Int)]) a (xs++[(y:Int)])) k)) (fun ⟨k,g,c,cur⟩=>[(1,va),(3,vb),(4,i6_ ((n:Int)+1)),(5,pt_ p5),(7,pt_ p7),(12,i6_ ((x:Int))),(14,str (nameS xs.length)),(15,sl_ g ((tlL (fun y:Nat=>tellF n b (ys++[(x:Int)]) a (xs++[(y:Int)])) k).length) c),(17,i6_ ((k:Int)))]) (fun ⟨k,g,c,cur⟩=>Own w.heap.size w [bk_ g cur 9,bk_ p7 #[i6_ b.n,str b.set,str b.rel] 24,bk_ p5 #[i6_ a.n,str a.set,str a.rel] 24]) (fun ⟨k,g,c,cur⟩=>(a.n - k).toNat) ((0,p45,0,#[])) ⟨by omega,rfl,Nat.le_refl 0,rfl⟩ (Sub.sel [1,3,4,5,7,12,14,15,17] rfl) (fun _ h=>h) ?_)
 rintro ⟨k,g,c,cur⟩ ⟨hk,hc,hl,ht⟩
 dsimp only
 have htk:=tlL_len (fun y:Nat=>tellF n b (ys++[(x:Int)]) a (xs++[(y:Int)])) k;refine zE (zE (zB (zC 1 rfl (zL rfl rfl rfl (zF rfl zY rfl zK rfl rfl) ?_))));refine zL rfl rfl rfl (zP 2 rfl zW rfl rfl rfl) ?_;refine zC 1 rfl (zJ (zD [1,3,4,5,7,12,14,15,17,77] [_,_,_,_,_,_,_,_,_,_] rfl ?_));refine qK (b:=decide (((k:Int))<a.n)) rfl (fun h77=>?_) (fun h77=>?_)
 ·
  replace h77:=zN h77
  have hE1:=els_more hB (x:=(x:Int)) ⟨by omega,by omega⟩
  have hE2:=els_more hA (x:=(k:Int)) ⟨by omega,by omega⟩
  have hx9:b.El (x:Int):=⟨by omega,by omega⟩;refine qU (zD [1,3,4,5,7,12,14,15,17] [_,_,_,_,_,_,_,_,_] rfl ?_);refine zE (qT (jG (S:=Own w.heap.size w [bk_ p7 #[i6_ b.n,str b.set,str b.rel] 24,bk_ p5 #[i6_ a.n,str a.set,str a.rel] 24]) [(0,true),(1,true),(2,true),(3,true),(5,true),(6,true),(7,true),(9,true),(10,true),(4,false),(8,false),(11,false),(12,false),(13,false),(14,true)] yH (fun _ h=>h.drawn) (by kernel_rfl) ?_));refine xC 1 rfl (fun _ h=>h.tail) ?_;refine yD rfl rfl rfl rfl rfl (zV (cs:=#[i6_ b.n,str b.set,str b.rel]) 0 rfl zQ rfl rfl zO) (fun _ h=>h.tail) ?_;refine xC 2 rfl (fun _ h=>h.tail) ?_;refine yD rfl rfl rfl rfl rfl (zV (cs:=#[i6_ a.n,str a.set,str a.rel]) 1 rfl zQ rfl rfl zO) (fun _ h=>h.tail) ?_;refine xC 3 rfl (fun _ h=>h.tail) ?_;refine yD (v:=i6_ ((n:Int))) rfl rfl rfl rfl rfl (yF (by congr 1;omega) (vD rfl rfl rfl (by omega) (by omega))) (fun _ h=>h.tail) ?_;refine yJ rfl ?_;refine jQ (xs:=[.tmp 82,.tmp 83]) (m:=(ys++[(x:Int)]).length) (vs:=ints (ys++[(x:Int)])) (el:=3) (size:=1) rfl rfl rfl rfl Tryz.call86 rfl (fun w1 hw1=>l4With_ok vb ys ((x:Int)) w1 (Row.own hvb hw1) (by omega)) fun p84 cap84 cur84 hp84 hcp84 hlp84 htp84=>?_;refine zG (yC (fun _ h=>h.tail.tail) ?_);refine yJ rfl ?_;refine jQ (xs:=[.tmp 86,.tmp 87]) (m:=(xs++[(k:Int)]).length) (vs:=ints (xs++[(k:Int)])) (el:=3) (size:=1) rfl rfl rfl rfl Tryz.call86 rfl (fun w1 hw1=>l4With_ok va xs ((k:Int)) w1 (Row.own hva hw1) (by omega)) fun p88 cap88 cur88 hp88 hcp88 hlp88 htp88=>?_;refine zG (yC (fun _ h=>h.tail.tail.tail) ?_);refine yJ rfl ?_;refine zU (v:=str (tellF n b (ys++[(x:Int)]) a (xs++[(k:Int)]))) rfl rfl rfl (qH rfl Tryz.call41 rfl qC (fun w1 hw1=>ih b a (ys++[(x:Int)]) (xs++[(k:Int)]) (sl_ p84 ((ys++[(x:Int)]).length) cap84) (sl_ p88 ((xs++[(k:Int)]).length) cap88) w1 hVb hVa (yY hw1 (i:=1) rfl (by simpa using htp84) (by simp) hlp84) (yY hw1 (i:=0) rfl (by simpa using htp88) (by simp) hlp88) hE1 hE2 (by simp [hlen]) (by rw [zZ,List.length_singleton];omega) (by omega) (hno k (by omega)))) ?_;refine zG (yC (fun _ h=>h.tail.tail.tail) ?_);refine yJ rfl ?_;refine yS (xs:=[.tmp 91]) (vs:=[str (tellF n b (ys++[(x:Int)]) a (xs++[(k:Int)]))]) xP rfl rfl rfl rfl rfl rfl (by decide) rfl fun p92 hp92=>?_;refine zG (yC (fun _ h=>h.tail.tail.tail.tail) ?_);refine yJ rfl ?_;refine uC (xs:=tlL (fun y:Nat=>tellF n b (ys++[(x:Int)]) a (xs++[(y:Int)])) k) (ys:=([tellF n b (ys++[(x:Int)]) a (xs++[(k:Int)])]:List (List UInt8))) xP 3 rfl rfl rfl rfl rfl rfl rfl hc hl ht (fun w1 hw1=>(yY hw1 (i:=0) rfl (n:=1) (cap:=1) (vs:=strs ([tellF n b (ys++[(x:Int)]) a (xs++[(k:Int)])]:List (List UInt8))) rfl rfl (by decide))) (((tlL (fun y:Nat=>tellF n b (ys++[(x:Int)]) a (xs++[(y:Int)])) k)++(([tellF n b (ys++[(x:Int)]) a (xs++[(k:Int)])]:List (List UInt8)))).length) (by first | (simp;done) | (simp;omega)) (by first | (simp;done) | (simp;omega) | omega) fun p93 cap93 cur93 hp93 hcp93 hlp93 htp93=>?_
  show Ll _ _ (Own _ _ [_,_,_,_,_,_]) _ _ ((93,sl_ p93 ((((tlL (fun y:Nat=>tellF n b (ys++[(x:Int)]) a (xs++[(y:Int)])) k)++(([tellF n b (ys++[(x:Int)]) a (xs++[(k:Int)])]:List (List UInt8)))).length)) cap93)::_) _ _ _;refine zG (yC (fun _ h=>h.tail.tail.tail.tail) ?_);refine xC 1 rfl (fun _ h=>h.tail.tail.tail.tail) ?_;refine vB ?_;refine zD [1,3,4,5,7,12,14,15,17] [_,_,_,_,_,_,_,_,_] rfl ?_;refine zB (zC 1 rfl (zL rfl rfl rfl (yI rfl rfl rfl (by omega) (by omega)) ?_));refine zC 1 rfl (zJ (yQ ((k+1,p93,cap93,cur93)) ⟨by omega,by simpa using hcp93,by rw [tlL_step];exact hlp93,by rw [tlL_step];simpa only [Nat.mul_one] using htp93⟩ (by omega) (Sub.cons rfl (Sub.cons rfl (Sub.cons rfl (Sub.cons rfl (Sub.cons rfl (Sub.cons rfl (Sub.cons rfl (Sub.cons (by rw [tlL_step];rfl) (Sub.sel [17] rfl))))))))) (fun _ h=>h.sub (qD _ (qD _ (qD _ (zA _ (zA _ (zA _ (qB _))))))))))
 replace h77:=zM h77
 have hkn:k=a.n.toNat:=by omega
 have hT:([33,83]++nameS xs.length)++joinN [38] (dedup (tlL (fun y:Nat=>tellF n b (ys++[(x:Int)]) a (xs++[(y:Int)])) k))=tellF (n+1) a xs b ys:=by
  rw [hkn,tell_some2 hsame hmv];rfl
 have hS:(tellF (n+1) a xs b ys).length≤4000:=Nat.le_trans (tell_len (n+1) (by omega) (by omega) (by omega) (by omega)) (Nat.le_trans (LT3 hn3) (by decide))
 have htl:∀ s∈tlL (fun y:Nat=>tellF n b (ys++[(x:Int)]) a (xs++[(y:Int)])) k,s.length≤4000:=fun s hs=>by
  obtain ⟨i,_,rfl⟩:=List.mem_map.1 hs
  exact Nat.le_trans (tell_len n (by omega) (by omega) (by omega) (by omega)) (Nat.le_trans (LT3 (by omega)) (by decide))
 have hdl:=dedup_memL htl
 have hd0:=dedup_pos (l:=tlL (fun y:Nat=>tellF n b (ys++[(x:Int)]) a (xs++[(y:Int)])) k) (by omega)
 have hdn:=dedup_le (tlL (fun y:Nat=>tellF n b (ys++[(x:Int)]) a (xs++[(y:Int)])) k)
 have hjl:=joinN_len (op:=[38]) (by decide) hdl hd0
 have hnm:=nameS_length (show xs.length<4 by omega);refine yW rfl ?_;refine zD [14,15] [_,_] rfl ?_;refine zE (qF (qJ 1 rfl (zU rfl rfl rfl (yE rfl rfl rfl (by first | omega | (simp only [zZ,qV,qW];omega))) ?_)));refine qJ 1 rfl (jQ (xs:=[.tmp 96]) (m:=(dedup (tlL (fun y:Nat=>tellF n b (ys++[(x:Int)]) a (xs++[(y:Int)])) k)).length) (vs:=strs (dedup (tlL (fun y:Nat=>tellF n b (ys++[(x:Int)]) a (xs++[(y:Int)])) k))) (el:=9) (size:=1) rfl rfl rfl rfl Tryz.call88 rfl (fun w1 hw1=>l6Each_ok (sl_ g ((tlL (fun y:Nat=>tellF n b (ys++[(x:Int)]) a (xs++[(y:Int)])) k).length) c) (tlL (fun y:Nat=>tellF n b (ys++[(x:Int)]) a (xs++[(y:Int)])) k) w1 (yY hw1 (i:=0) rfl ht (by simp) hl) (by omega)) fun p97 cap97 cur97 hp97 hcp97 hlp97 htp97=>?_);refine zU (v:=str (joinN ([38]) (dedup (tlL (fun y:Nat=>tellF n b (ys++[(x:Int)]) a (xs++[(y:Int)])) k)))) rfl rfl rfl (qH rfl Tryz.call87 rfl qC (fun w1 hw1=>l2JoinM_ok ([38]) (dedup (tlL (fun y:Nat=>tellF n b (ys++[(x:Int)]) a (xs++[(y:Int)])) k)) (sl_ p97 ((dedup (tlL (fun y:Nat=>tellF n b (ys++[(x:Int)]) a (xs++[(y:Int)])) k)).length) cap97) 4000 w1 (yY hw1 (i:=0) rfl (by simpa using htp97) (by simp) hlp97) hdl (by decide) (by decide) (by omega) hd0)) ?_;refine zU rfl rfl rfl (yE rfl rfl rfl (by first | omega | (simp only [zZ,qV,qW];omega))) ?_;refine qJ 1 rfl (zG (zD [10] [_] rfl ?_));refine qL (qS rfl rfl fun w' hw=>?_)
 exact ⟨ret_s (by rw [hT]),hw.below⟩
theorem ta_ok:∀ n:Nat,∀ (a b:St) (xs ys:List Int) (va vb:Value) (w:World),validB a=true→validB b=true→Ints w va xs→Ints w vb ys→a.Els xs→b.Els ys→xs.length=ys.length→xs.length+n≤4→n≤3→winB n a xs b ys=false→Calls Tryz.prog 38 #[vS a,va,vS b,vb,.int .i64 (n:Int)] w fun en w'=>en=.returned (.tuple #[str (tellF n a xs b ys),.bool true])∧Below w.heap.size w w'
  | 0=>fun a b xs ys va vb w hVa hVb hva hvb hA hB hl h4 _ hno=>ta_zero a b xs ys va vb w hVa hVb hva hvb hA hB hl h4 hno
  | n+1=>fun a b xs ys va vb w hVa hVb hva hvb hA hB hl h4 h3 hno=>ta_of n (ta_ok n) a b xs ys va vb w hVa hVb hva hvb hA hB hl h4 h3 hno
theorem ts_ok:∀ n:Nat,∀ (a b:St) (xs ys:List Int) (va vb:Value) (w:World),validB a=true→validB b=true→Ints w va xs→Ints w vb ys→a.Els xs→b.Els ys→xs.length=ys.length→xs.length+n≤4→n≤3→winB n a xs b ys=false→Calls Tryz.prog 41 #[vS a,va,vS b,vb,.int .i64 (n:Int)] w fun en w'=>en=.returned (str (tellF n a xs b ys))∧Below w.heap.size w w'
  | 0=>fun a b xs ys va vb w hVa hVb hva hvb hA hB hl h4 _ hno=>ts_zero a b xs ys va vb w hVa hVb hva hvb hA hB hl h4 hno
  | n+1=>fun a b xs ys va vb w hVa hVb hva hvb hA hB hl h4 h3 hno=>ts_of n (ts_ok n) a b xs ys va vb w hVa hVb hva hvb hA hB hl h4 h3 hno
theorem ts_at (r:Int) (h0:0≤r):∀ (a b:St) (xs ys:List Int) (va vb:Value) (w:World),validB a=true→validB b=true→Ints w va xs→Ints w vb ys→a.Els xs→b.Els ys→xs.length=ys.length→xs.length+r.toNat≤4→r.toNat≤3→winB r.toNat a xs b ys=false→Calls Tryz.prog 41 #[vS a,va,vS b,vb,.int .i64 r] w fun en w'=>en=.returned (str (tellF r.toNat a xs b ys))∧Below w.heap.size w w':=by
  have h:=ts_ok r.toNat
  rw [Int.toNat_of_nonneg h0] at h
  exact h
set_option maxHeartbeats 400000 in
/-- spec.TellApart -/
theorem sTell_ok (a b:St) (xs ys:List Int) (va vb:Value) (w:World) (hsa:a.Small) (hsb:b.Small) (hva:Ints w va xs) (hvb:Ints w vb ys) (hs1:xs.length≤140737488355328) (hs2:ys.length≤140737488355328) (loa : -9223372036854775808≤a.n) (hia:a.n≤9223372036854775807) (lob : -9223372036854775808≤b.n) (hib:b.n≤9223372036854775807) (r:Int) :
    Calls Tryz.prog 10 [vS a,va,vS b,vb,i6_ r].toArray w fun en w'=>en=.returned (.tuple #[str (telOut a xs b ys r).1,.bool (telOut a xs b ys r).2])∧Below w.heap.size w w':=by
 refine fnStart (n:=45) (e:=[(0,vS a),(1,va),(2,vS b),(3,vb),(4,i6_ r)]) Tryz.func10 rfl rfl rfl rfl Ends.both ?_;refine zE (qF (yU (v:=vS a) rfl rfl rfl rfl rfl fun p5 hp5=>?_))
 show Ll _ _ (Own _ _ [_]) _ _ ((5,pt_ p5)::_) _ _ _;refine yU (v:=vS b) rfl rfl rfl rfl rfl fun p7 hp7=>?_
 show Ll _ _ (Own _ _ [_,_]) _ _ ((7,pt_ p7)::_) _ _ _;refine zU (v:=str ([])) rfl rfl rfl (yP rfl rfl) ?_;refine qJ 1 rfl (zG (zD [1,3,4,5,7] [_,_,_,_,_] rfl ?_));refine zE (zE (zB (zL rfl rfl rfl (zV (cs:=#[i6_ a.n,str a.set,str a.rel]) 1 rfl zQ rfl rfl zO) ?_)));refine zC 1 rfl (zL rfl rfl rfl (zV (cs:=#[i6_ b.n,str b.set,str b.rel]) 0 rfl zQ rfl rfl zO) ?_);refine zC 2 rfl (zL (v:=bo_ (gameB a xs b ys r)) rfl rfl rfl (qH rfl Tryz.call39 rfl qC (fun w1 hw1=>l5Ready_ok a b xs ys va vb w1 hsa hsb (Row.own hva hw1) (Row.own hvb hw1) (by first | (simp;done) | (simp;omega) | omega) (by first | (simp;done) | (simp;omega) | omega) loa hia lob hib r)) ?_);refine zC 2 rfl (xD fun b20 hg20=>?_)
 cases b20
 ·
  replace hg20:=not_false hg20
  replace hg20:gameB a xs b ys r=true:=by simpa using hg20
  obtain ⟨hLL,hr0,hr3⟩:=gameB_true hg20
  obtain ⟨LA,LB,hlen⟩:=listsB_true hLL
  have ha:=LA.fine
  have hb:=LB.fine
  have hA:=LA.els
  have hB:=LB.els
  have hl4:=LA.len
  have hVa:=LA.valid
  have hVb:=LB.valid
  have hgm:gameB a xs b ys r=true:=hg20;refine zC 1 rfl (zL (v:=i6_ ((xs.length:Int))) rfl rfl rfl (yR rfl zX rfl (ints_length _) (fun w1 hw1=>Row.own hva hw1)) ?_);refine zC 1 rfl (zL rfl rfl rfl (yI rfl rfl rfl (by omega) (by omega)) ?_);refine zC 3 rfl (xD fun b27 hg27=>?_)
  cases b27
  ·
   replace hg27:=zM hg27;refine zL rfl rfl rfl (zV (cs:=#[i6_ a.n,str a.set,str a.rel]) 1 rfl zQ rfl rfl zO) ?_;refine zC 1 rfl (zL rfl rfl rfl (zV (cs:=#[i6_ b.n,str b.set,str b.rel]) 0 rfl zQ rfl rfl zO) ?_);refine zC 2 rfl (zL (v:=bo_ (winB r.toNat a xs b ys)) rfl rfl rfl (qH rfl Tryz.call40 rfl qC (fun w1 hw1=>l5Wins_ok a b xs ys va vb w1 ha hb (Row.own hva hw1) (Row.own hvb hw1) hA hB (by first | (simp;done) | (simp;omega) | omega) (by first | (simp;done) | (simp;omega) | omega) r (by omega) (by omega))) ?_);refine zC 1 rfl (zJ (zD [1,3,4,5,7,34] [_,_,_,_,_,_] rfl ?_));refine qK (b:=winB r.toNat a xs b ys) rfl (fun h34=>?_) (fun h34=>?_)
   ·
    refine zE (zB (zL (v:=str ([])) rfl rfl rfl (yP rfl rfl) ?_));refine zC 1 rfl (zJ (zD [10,11] [_,_] rfl ?_));refine qL (xY rfl rfl rfl fun w' hw=>?_)
    exact ⟨by rw [telOut_no (by first | (refine .inl ?_;assumption) | (refine .inr (.inl ?_);omega) | (refine .inr (.inr ?_);assumption))],hw.below⟩
   have hnw:winB r.toNat a xs b ys=false:=by assumption
   have hsh:(tellF r.toNat a xs b ys).length≤4000:=tell_short (by omega) ha hb;refine qU (zD [1,3,4,5,7] [_,_,_,_,_] rfl ?_);refine zE (zB (zL rfl rfl rfl (zV (cs:=#[i6_ a.n,str a.set,str a.rel]) 1 rfl zQ rfl rfl zO) ?_));refine zC 1 rfl (zL rfl rfl rfl (zV (cs:=#[i6_ b.n,str b.set,str b.rel]) 0 rfl zQ rfl rfl zO) ?_);refine zC 2 rfl (zL (v:=str (tellF r.toNat a xs b ys)) rfl rfl rfl (qH rfl Tryz.call41 rfl qC (fun w1 hw1=>ts_at r hr0 a b xs ys va vb w1 hVa hVb (Row.own hva hw1) (Row.own hvb hw1) hA hB hlen (by omega) (by omega) hnw)) ?_);refine zC 1 rfl (zJ (zD [12] [_] rfl ?_));refine zE (zE (zB (zC 1 rfl (zL (v:=i6_ (((tellF r.toNat a xs b ys).length:Int))) rfl rfl rfl (jT rfl yG rfl) ?_))));refine zC 1 rfl (zJ (zD [12,43] [_,_] rfl ?_));refine qK (b:=decide ((4000:Int)<(((tellF r.toNat a xs b ys).length:Int)))) rfl (fun h43=>?_) (fun h43=>?_)
   ·
    replace h43:=zN h43
    omega
   replace h43:=zM h43;refine qU (zD [12] [_] rfl ?_);refine zE (zB (zC 3 rfl (zJ (zD [10,11] [_,_] rfl ?_))));refine qL (xY rfl rfl rfl fun w' hw=>?_)
   exact ⟨by rw [telOut_yes hgm (by omega) hnw],hw.below⟩
  replace hg27:=zN hg27;refine zS rfl rfl rfl ?_;refine zS rfl rfl rfl (zS rfl rfl rfl (zS rfl rfl rfl (zS rfl rfl rfl (zS rfl rfl rfl (zC 1 rfl (zJ (zD [1,3,4,5,7,34] [_,_,_,_,_,_] rfl ?_)))))));refine xH rfl ?_;refine zE (zB (zL (v:=str ([])) rfl rfl rfl (yP rfl rfl) ?_));refine zC 1 rfl (zJ (zD [10,11] [_,_] rfl ?_));refine qL (xY rfl rfl rfl fun w' hw=>?_)
  exact ⟨by rw [telOut_no (by first | (refine .inl ?_;assumption) | (refine .inr (.inl ?_);omega) | (refine .inr (.inr ?_);assumption))],hw.below⟩
 replace hg20:=not_true hg20;refine zS rfl rfl rfl (zS rfl rfl rfl (zS rfl rfl rfl (zS rfl rfl rfl (zS rfl rfl rfl (zC 2 rfl (zS rfl rfl rfl ?_))))));refine zS rfl rfl rfl (zS rfl rfl rfl (zS rfl rfl rfl (zS rfl rfl rfl (zS rfl rfl rfl (zC 1 rfl (zJ (zD [1,3,4,5,7,34] [_,_,_,_,_,_] rfl ?_)))))));refine xH rfl ?_;refine zE (zB (zL (v:=str ([])) rfl rfl rfl (yP rfl rfl) ?_));refine zC 1 rfl (zJ (zD [10,11] [_,_] rfl ?_));refine qL (xY rfl rfl rfl fun w' hw=>?_)
 exact ⟨by rw [telOut_no (by first | (refine .inl ?_;assumption) | (refine .inr (.inl ?_);omega) | (refine .inr (.inr ?_);assumption))],hw.below⟩
end Go.Proofs.YtefiibghfgfdnaaGreatDoor
namespace Go.Proofs.YtefiibghfgfdnaaGreatDoor
open Go.RowKit Go.Wk
set_option linter.unusedSimpArgs false
set_option maxHeartbeats 400000 in
/-- spec.SameRank -/
theorem sSame_ok (a b:St) (w:World) (hsa:a.Small) (hsb:b.Small) (loa : -9223372036854775808≤a.n) (hia:a.n≤9223372036854775807) (lob : -9223372036854775808≤b.n) (hib:b.n≤9223372036854775807) (r:Int) :
    Calls Tryz.prog 52 [vS a,vS b,i6_ r].toArray w fun en w'=>en=.returned (.bool (secB a [] b [] r))∧Below w.heap.size w w':=by
 refine fnStart (n:=13) (e:=[(0,vS a),(1,vS b),(2,i6_ r)]) Tryz.func52 rfl rfl rfl rfl Ends.both ?_;refine zE (qF (yU (v:=vS a) rfl rfl rfl rfl rfl fun p3 hp3=>?_))
 show Ll _ _ (Own _ _ [_]) _ _ ((3,pt_ p3)::_) _ _ _;refine yU (v:=vS b) rfl rfl rfl rfl rfl fun p4 hp4=>?_
 show Ll _ _ (Own _ _ [_,_]) _ _ ((4,pt_ p4)::_) _ _ _;refine qJ 1 rfl (zG (zD [2,3,4] [_,_,_] rfl ?_));refine zE (qF (zU rfl rfl rfl (zV (cs:=#[i6_ a.n,str a.set,str a.rel]) 1 rfl zQ rfl rfl zO) ?_));refine yS (xs:=[]) (vs:=[]) yK rfl rfl rfl rfl rfl rfl (by decide) rfl fun p8 hp8=>?_;refine zU rfl rfl rfl (zV (cs:=#[i6_ b.n,str b.set,str b.rel]) 1 rfl zQ rfl rfl zO) ?_;refine yS (xs:=[]) (vs:=[]) yK rfl rfl rfl rfl rfl rfl (by decide) rfl fun p10 hp10=>?_;refine qJ 1 rfl (zU (v:=bo_ (secB a ([]) b ([]) r)) rfl rfl rfl (qH rfl Tryz.call101 rfl qC (fun w1 hw1=>sWins_ok a b ([]) ([]) (sl_ p8 0 0) (sl_ p10 0 0) w1 hsa hsb (yY hw1 (i:=1) rfl (n:=0) (cap:=0) (vs:=ints []) rfl rfl (by decide)) (yY hw1 (i:=0) rfl (n:=0) (cap:=0) (vs:=ints []) rfl rfl (by decide)) (by first | (simp;done) | (simp;omega) | omega) (by first | (simp;done) | (simp;omega) | omega) loa hia lob hib r)) ?_);refine qJ 1 rfl (zG (zD [6] [_] rfl ?_));refine qL (qS rfl rfl fun w' hw=>?_)
 exact ⟨rfl,hw.below⟩
set_option maxHeartbeats 400000 in
/-- impl.SentenceFor -/
theorem iSent_ok (a b:St) (w:World) (hsa:a.Small) (hsb:b.Small) :
    Calls Tryz.prog 18 [vS a,vS b].toArray w fun en w'=>en=.returned (.tuple #[str (sentO a b).1,.int .i64 (sentO a b).2.1,.bool (sentO a b).2.2])∧Below w.heap.size w w':=by
 refine fnStart (n:=37) (e:=[(0,vS a),(1,vS b)]) Tryz.func18 rfl rfl rfl rfl Ends.both ?_;refine zE (qF (yU (v:=vS a) rfl rfl rfl rfl rfl fun p2 hp2=>?_))
 show Ll _ _ (Own _ _ [_]) _ _ ((2,pt_ p2)::_) _ _ _;refine yU (v:=vS b) rfl rfl rfl rfl rfl fun p3 hp3=>?_
 show Ll _ _ (Own _ _ [_,_]) _ _ ((3,pt_ p3)::_) _ _ _;refine zU (v:=str ([])) rfl rfl rfl (yP rfl rfl) ?_;refine qJ 2 rfl (zG (zD [2,3] [_,_] rfl ?_));refine zE (zE (zB (zL rfl rfl rfl (zV (cs:=#[i6_ a.n,str a.set,str a.rel]) 1 rfl zQ rfl rfl zO) ?_)));refine zL (v:=bo_ (validB a)) rfl rfl rfl (qH rfl Tryz.call50 rfl qC (fun w1 hw1=>isStructure_ok a w1 hsa)) ?_;refine zC 2 rfl (xD fun b13 hg13=>?_)
 cases b13
 ·
  replace hg13:=not_false hg13;refine zL rfl rfl rfl (zV (cs:=#[i6_ b.n,str b.set,str b.rel]) 0 rfl zQ rfl rfl zO) ?_;refine zL (v:=bo_ (validB b)) rfl rfl rfl (qH rfl Tryz.call50 rfl qC (fun w1 hw1=>isStructure_ok b w1 hsb)) ?_;refine zC 2 rfl (zJ (zD [2,3,17] [_,_,_] rfl ?_));refine qK (b:=!(validB b)) rfl (fun h17=>?_) (fun h17=>?_)
  ·
   replace h17:=not_true h17;refine zE (zB (zL (v:=str ([])) rfl rfl rfl (yP rfl rfl) ?_));refine zC 2 rfl (zJ (zD [4,5,6] [_,_,_] rfl ?_));refine qL (vR rfl rfl rfl rfl fun w' hw=>?_);refine ⟨?_,hw.below⟩
   first | rw [sent_none (fun j hj=>hall j (by omega))] | (rw [sent_bad];simp_all;done)
  replace h17:=not_false h17
  have hVa:validB a=true:=by simp_all
  have hVb:validB b=true:=by simp_all
  have ha:=validB_fine hVa
  have hb:=validB_fine hVb
  have hlen:([]:List Int).length=([]:List Int).length:=rfl
  have hA:a.Els []:=fun x hx=>by cases hx
  have hB:b.Els []:=fun x hx=>by cases hx
  refine qU (zD [2,3] [_,_] rfl ?_);refine zE (zE (zB (zC 1 rfl (zJ (zD [2,3,7] [_,_,_] rfl ?_)))));refine qT (xJ (σ:=Nat) (fun i=>i≤3∧∀ j:Nat,j<i→winB (j+1) a [] b []=true) (fun i=>[(2,pt_ p2),(3,pt_ p3),(7,i6_ ((i:Int)+1))]) (fun i=>Own w.heap.size w [bk_ p3 #[i6_ b.n,str b.set,str b.rel] 24,bk_ p2 #[i6_ a.n,str a.set,str a.rel] 24]) (fun i=>3 - i) (0) ⟨by omega,fun j hj=>absurd hj (by omega)⟩ (Sub.cons rfl (Sub.cons rfl (Sub.cons (by simp [List.lookup]) Sub.nil))) (fun _ h=>h) ?_)
  rintro i ⟨hi3,hall⟩;refine zE (zE (zB (zC 2 rfl (zJ (zD [2,3,7,19] [_,_,_,_] rfl ?_)))));refine qK (b:=decide (((i:Int)+1)≤(3:Int))) rfl (fun h19=>?_) (fun h19=>?_)
  ·
   replace h19:=zN h19;refine qU (zD [2,3,7] [_,_,_] rfl ?_);refine zE (qT (zE (zE (zB (zL rfl rfl rfl (zV (cs:=#[i6_ a.n,str a.set,str a.rel]) 1 rfl zQ rfl rfl zO) ?_)))));refine zL rfl rfl rfl (zV (cs:=#[i6_ b.n,str b.set,str b.rel]) 0 rfl zQ rfl rfl zO) ?_;refine zC 1 rfl (zL (v:=bo_ (winB (i+1) a ([]) b ([]))) rfl rfl rfl (qH rfl Tryz.call37 rfl qC (fun w1 hw1=>wins_ok a b ([]) ([]) (.slice none 0 0) (.slice none 0 0) w1 ha hb Ints.nil Ints.nil (fun x hx=>by cases hx) (fun x hx=>by cases hx) (by first | (simp;done) | (simp;omega) | omega) (by first | (simp;done) | (simp;omega) | omega) ((i:Int)+1) (by omega) (by omega))) ?_);refine zJ (zD [2,3,7,25] [_,_,_,_] rfl ?_);refine qK (b:=winB (i+1) a ([]) b ([])) rfl (fun h25=>?_) (fun h25=>?_)
   ·
    have hyes:winB (i+1) a [] b []=true:=by assumption
    refine yW rfl ?_;refine zD [2,3,7] [_,_,_] rfl ?_;refine zB (zC 1 rfl (zL rfl rfl rfl (yI rfl rfl rfl (by omega) (by omega)) ?_));refine zC 1 rfl (zJ (yQ (i+1) ⟨by omega,fun j hj=>(Nat.lt_succ_iff_lt_or_eq.1 hj).elim (hall j) (fun e=>by subst e;exact hyes)⟩ (by omega) (Sub.cons rfl (Sub.cons rfl (Sub.cons (by simp [List.lookup]) Sub.nil))) (fun _ h=>h)))
   have hno1:winB (i+1) a [] b []=false:=by assumption
   refine qU (zD [2,3,7] [_,_,_] rfl ?_);refine zE (zB (zL rfl rfl rfl (zV (cs:=#[i6_ a.n,str a.set,str a.rel]) 1 rfl zQ rfl rfl zO) ?_));refine zL rfl rfl rfl (zV (cs:=#[i6_ b.n,str b.set,str b.rel]) 0 rfl zQ rfl rfl zO) ?_;refine zC 1 rfl (zL (v:=.tuple #[str (tellF (i+1) a ([]) b ([])),bo_ true]) rfl rfl rfl (qH rfl Tryz.call38 rfl qC (fun w1 hw1=>ta_ok (i+1) a b ([]) ([]) (.slice none 0 0) (.slice none 0 0) w1 hVa hVb Ints.nil Ints.nil hA hB rfl (by simp;omega) (by omega) hno1)) ?_);refine zC 1 rfl (zL (v:=str (tellF (i+1) a ([]) b ([]))) rfl rfl rfl (yB rfl rfl rfl) ?_);refine zL (v:=bo_ true) rfl rfl rfl (yB rfl rfl rfl) ?_;refine zC 2 rfl (zJ (zD [7,8,9] [_,_,_] rfl ?_));refine zE (zE (zB (zC 2 rfl (zJ (zD [7,8,34] [_,_,_] rfl ?_)))));refine jD rfl ?_;refine qU (zD [7,8] [_,_] rfl ?_);refine zE (zB (zC 5 rfl (zJ (zD [4,5,6] [_,_,_] rfl ?_))));refine qL (vR rfl rfl rfl rfl fun w' hw=>?_)
   exact ⟨by rw [sent_at hVa hVb (by omega) hall hno1],hw.below⟩
  replace h19:=zM h19;refine yW rfl ?_;refine zD [] [] rfl ?_;refine zE (zB (zL (v:=str ([])) rfl rfl rfl (yP rfl rfl) ?_));refine zC 2 rfl (zJ (zD [4,5,6] [_,_,_] rfl ?_));refine qL (vR rfl rfl rfl rfl fun w' hw=>?_);refine ⟨?_,hw.below⟩
  first | rw [sent_none (fun j hj=>hall j (by omega))] | (rw [sent_bad];simp_all;done)
 replace hg13:=not_true hg13;refine zS rfl rfl rfl (zS rfl rfl rfl (zS rfl rfl rfl (zC 1 rfl (zJ (zD [2,3,17] [_,_,_] rfl ?_)))));refine xH rfl ?_;refine zE (zB (zL (v:=str ([])) rfl rfl rfl (yP rfl rfl) ?_));refine zC 2 rfl (zJ (zD [4,5,6] [_,_,_] rfl ?_));refine qL (vR rfl rfl rfl rfl fun w' hw=>?_);refine ⟨?_,hw.below⟩
 first | rw [sent_none (fun j hj=>hall j (by omega))] | (rw [sent_bad];simp_all;done)
set_option maxHeartbeats 400000 in
/-- spec.SentenceFor -/
theorem sSent_ok (a b:St) (w:World) (hsa:a.Small) (hsb:b.Small) (loa : -9223372036854775808≤a.n) (hia:a.n≤9223372036854775807) (lob : -9223372036854775808≤b.n) (hib:b.n≤9223372036854775807) :
    Calls Tryz.prog 19 [vS a,vS b].toArray w fun en w'=>en=.returned (.tuple #[str (sentO a b).1,.int .i64 (sentO a b).2.1,.bool (sentO a b).2.2])∧Below w.heap.size w w':=by
 refine fnStart (n:=40) (e:=[(0,vS a),(1,vS b)]) Tryz.func19 rfl rfl rfl rfl Ends.both ?_;refine zE (qF (yU (v:=vS a) rfl rfl rfl rfl rfl fun p2 hp2=>?_))
 show Ll _ _ (Own _ _ [_]) _ _ ((2,pt_ p2)::_) _ _ _;refine yU (v:=vS b) rfl rfl rfl rfl rfl fun p3 hp3=>?_
 show Ll _ _ (Own _ _ [_,_]) _ _ ((3,pt_ p3)::_) _ _ _;refine zU (v:=str ([])) rfl rfl rfl (yP rfl rfl) ?_;refine qJ 2 rfl (zG (zD [2,3] [_,_] rfl ?_));refine zE (zE (zB (zL rfl rfl rfl (zV (cs:=#[i6_ a.n,str a.set,str a.rel]) 1 rfl zQ rfl rfl zO) ?_)));refine zL (v:=bo_ (validB a)) rfl rfl rfl (qH rfl Tryz.call51 rfl qC (fun w1 hw1=>sValid_ok a w1 hsa)) ?_;refine zC 2 rfl (xD fun b13 hg13=>?_)
 cases b13
 ·
  replace hg13:=not_false hg13;refine zL rfl rfl rfl (zV (cs:=#[i6_ b.n,str b.set,str b.rel]) 0 rfl zQ rfl rfl zO) ?_;refine zL (v:=bo_ (validB b)) rfl rfl rfl (qH rfl Tryz.call51 rfl qC (fun w1 hw1=>sValid_ok b w1 hsb)) ?_;refine zC 2 rfl (zJ (zD [2,3,17] [_,_,_] rfl ?_));refine qK (b:=!(validB b)) rfl (fun h17=>?_) (fun h17=>?_)
  ·
   replace h17:=not_true h17;refine zE (zB (zL (v:=str ([])) rfl rfl rfl (yP rfl rfl) ?_));refine zC 2 rfl (zJ (zD [4,5,6] [_,_,_] rfl ?_));refine qL (vR rfl rfl rfl rfl fun w' hw=>?_);refine ⟨?_,hw.below⟩
   first | rw [sent_none (fun j hj=>hall j (by omega))] | (rw [sent_bad];simp_all;done)
  replace h17:=not_false h17
  have hVa:validB a=true:=by simp_all
  have hVb:validB b=true:=by simp_all
  have ha:=validB_fine hVa
  have hb:=validB_fine hVb
  have hlen:([]:List Int).length=([]:List Int).length:=rfl
  have hA:a.Els []:=fun x hx=>by cases hx
  have hB:b.Els []:=fun x hx=>by cases hx
  refine qU (zD [2,3] [_,_] rfl ?_);refine zE (zE (zB (zC 1 rfl (zJ (zD [2,3,7] [_,_,_] rfl ?_)))));refine qT (xJ (σ:=Nat) (fun i=>i≤3∧∀ j:Nat,j<i→winB (j+1) a [] b []=true) (fun i=>[(2,pt_ p2),(3,pt_ p3),(7,i6_ ((i:Int)+1))]) (fun i=>Own w.heap.size w [bk_ p3 #[i6_ b.n,str b.set,str b.rel] 24,bk_ p2 #[i6_ a.n,str a.set,str a.rel] 24]) (fun i=>3 - i) (0) ⟨by omega,fun j hj=>absurd hj (by omega)⟩ (Sub.cons rfl (Sub.cons rfl (Sub.cons (by simp [List.lookup]) Sub.nil))) (fun _ h=>h) ?_)
  rintro i ⟨hi3,hall⟩;refine zE (zE (zB (zC 2 rfl (zJ (zD [2,3,7,19] [_,_,_,_] rfl ?_)))));refine qK (b:=decide (((i:Int)+1)≤(3:Int))) rfl (fun h19=>?_) (fun h19=>?_)
  ·
   replace h19:=zN h19;refine qU (zD [2,3,7] [_,_,_] rfl ?_);refine zE (qT (zE (zB (zL rfl rfl rfl (zV (cs:=#[i6_ a.n,str a.set,str a.rel]) 1 rfl zQ rfl rfl zO) ?_))));refine zL rfl rfl rfl (zV (cs:=#[i6_ b.n,str b.set,str b.rel]) 0 rfl zQ rfl rfl zO) ?_;refine zC 1 rfl (zL (v:=bo_ (secB a [] b [] ((i:Int)+1))) rfl rfl rfl (qH rfl Tryz.call52 rfl qC (fun w1 hw1=>sSame_ok a b w1 hsa hsb loa hia lob hib ((i:Int)+1))) ?_);refine zC 1 rfl (zJ (zD [2,3,7,26] [_,_,_,_] rfl ?_));refine qK (b:=!(secB a [] b [] ((i:Int)+1))) rfl (fun h26=>?_) (fun h26=>?_)
   ·
    replace h26:=not_true h26
    have hno1:winB (i+1) a [] b []=false:=sec_no hVa hVb (by omega) (by first | assumption | simpa using h26);refine zE (qF (zU rfl rfl rfl (zV (cs:=#[i6_ a.n,str a.set,str a.rel]) 1 rfl zQ rfl rfl zO) ?_));refine yS (xs:=[]) (vs:=[]) yK rfl rfl rfl rfl rfl rfl (by decide) rfl fun p29 hp29=>?_;refine zU rfl rfl rfl (zV (cs:=#[i6_ b.n,str b.set,str b.rel]) 1 rfl zQ rfl rfl zO) ?_;refine yS (xs:=[]) (vs:=[]) yK rfl rfl rfl rfl rfl rfl (by decide) rfl fun p31 hp31=>?_;refine qJ 1 rfl (zU (v:=.tuple #[str ((telOut a ([]) b ([]) ((i:Int)+1)).1),bo_ ((telOut a ([]) b ([]) ((i:Int)+1)).2)]) rfl rfl rfl (qH rfl Tryz.call10 rfl qC (fun w1 hw1=>sTell_ok a b ([]) ([]) (sl_ p29 0 0) (sl_ p31 0 0) w1 hsa hsb (yY hw1 (i:=1) rfl (n:=0) (cap:=0) (vs:=ints []) rfl rfl (by decide)) (yY hw1 (i:=0) rfl (n:=0) (cap:=0) (vs:=ints []) rfl rfl (by decide)) (by first | (simp;done) | (simp;omega) | omega) (by first | (simp;done) | (simp;omega) | omega) loa hia lob hib ((i:Int)+1))) ?_);refine qJ 1 rfl (zU (v:=str ((telOut a ([]) b ([]) ((i:Int)+1)).1)) rfl rfl rfl (yB rfl rfl rfl) ?_);refine zU (v:=bo_ ((telOut a ([]) b ([]) ((i:Int)+1)).2)) rfl rfl rfl (yB rfl rfl rfl) ?_;refine qJ 2 rfl (zG (zD [7,8,9] [_,_,_] rfl ?_));refine zE (zE (zB (zC 2 rfl (zJ (zD [7,8,37] [_,_,_] rfl ?_)))));refine qK (b:=!((telOut a ([]) b ([]) ((i:Int)+1)).2)) rfl (fun h37=>?_) (fun h37=>?_)
    ·
     replace h37:=not_true h37
     exact absurd h37 (by rw [telOut_nil hVa hVb (by omega) hno1];simp)
    replace h37:=not_false h37;refine qU (zD [7,8] [_,_] rfl ?_);refine zE (zB (zC 5 rfl (zJ (zD [4,5,6] [_,_,_] rfl ?_))));refine qL (vR rfl rfl rfl rfl fun w' hw=>?_)
    exact ⟨by rw [sent_at hVa hVb (by omega) hall hno1,telOut_nil hVa hVb (by omega) hno1],hw.below⟩
   replace h26:=not_false h26
   have hyes:winB (i+1) a [] b []=true:=by
    have h9:secB a [] b [] ((i:Int)+1)=true:=by first | assumption | simpa using h26
    unfold secB at h9;simp only [Bool.and_eq_true] at h9;exact h9.2
   refine qU (zD [2,3,7] [_,_,_] rfl ?_);refine zB (zC 1 rfl (zL rfl rfl rfl (yI rfl rfl rfl (by omega) (by omega)) ?_));refine zC 1 rfl (zJ (yQ (i+1) ⟨by omega,fun j hj=>(Nat.lt_succ_iff_lt_or_eq.1 hj).elim (hall j) (fun e=>by subst e;exact hyes)⟩ (by omega) (Sub.cons rfl (Sub.cons rfl (Sub.cons (by simp [List.lookup]) Sub.nil))) (fun _ h=>h)))
  replace h19:=zM h19;refine yW rfl ?_;refine zD [] [] rfl ?_;refine zE (zB (zL (v:=str ([])) rfl rfl rfl (yP rfl rfl) ?_));refine zC 2 rfl (zJ (zD [4,5,6] [_,_,_] rfl ?_));refine qL (vR rfl rfl rfl rfl fun w' hw=>?_);refine ⟨?_,hw.below⟩
  first | rw [sent_none (fun j hj=>hall j (by omega))] | (rw [sent_bad];simp_all;done)
 replace hg13:=not_true hg13;refine zS rfl rfl rfl (zS rfl rfl rfl (zS rfl rfl rfl (zC 1 rfl (zJ (zD [2,3,17] [_,_,_] rfl ?_)))));refine xH rfl ?_;refine zE (zB (zL (v:=str ([])) rfl rfl rfl (yP rfl rfl) ?_));refine zC 2 rfl (zJ (zD [4,5,6] [_,_,_] rfl ?_));refine qL (vR rfl rfl rfl rfl fun w' hw=>?_);refine ⟨?_,hw.below⟩
 first | rw [sent_none (fun j hj=>hall j (by omega))] | (rw [sent_bad];simp_all;done)
end Go.Proofs.YtefiibghfgfdnaaGreatDoor
namespace Go.Proofs.YtefiibghfgfdnaaGreatDoor
open Go.RowKit Go.Wk
set_option linter.unusedSimpArgs false
set_option maxHeartbeats 400000 in
/-- slices.Index[[]int,int] -/
theorem index_ok (va:Value) (xs:List Int) (y:Int) (w:World) (hva:Ints w va xs) (hs1:xs.length≤1000000) :
    Calls Tryz.prog 144 [va,i6_ y].toArray w fun en w'=>en=.returned (.int .i64 (idxI xs fun z=>decide (y=z)))∧Below w.heap.size w w':=by
 refine fnStart (n:=19) (e:=[(0,va),(1,i6_ y)]) Tryz.func144 rfl rfl rfl rfl Ends.both ?_;refine zE (zB (zC 1 rfl (zJ (zD [0,1] [_,_] rfl ?_))));refine zE (zE (zB (zC 1 rfl (zL (v:=i6_ ((xs.length:Int))) rfl rfl rfl (yR rfl zX rfl (ints_length _) (fun w1 hw1=>Row.own hva hw1)) ?_))));refine zC 1 rfl (zJ (zD [0,1,7,8] [_,_,_,_] rfl ?_));refine qT (xJ (σ:=Nat) (fun k=>k≤xs.length∧∀ i:Nat,i<k→(fun z=>decide (y=z)) (xs.getD i 0)=false) (fun k=>[(0,va),(1,i6_ y),(7,i6_ ((xs.length:Int))),(8,i6_ ((k:Int)))]) (fun k=>Own w.heap.size w []) (fun k=>xs.length - k) (0) ⟨by omega,fun i hi=>absurd hi (by omega)⟩ (Sub.sel [0,1,7,8] rfl) (fun _ h=>h) ?_)
 rintro k ⟨hk,hall⟩;refine zE (zB (zC 1 rfl (zJ (zD [0,1,7,8,9] [_,_,_,_,_] rfl ?_))));refine zE (qK (b:=decide (((k:Int))<((xs.length:Int)))) rfl (fun h9=>?_) (fun h9=>?_))
 ·
  replace h9:=zN h9;refine qU (zD [0,1,7,8] [_,_,_,_] rfl ?_);refine zE (qT (zE (zB (zC 2 rfl (zJ (zD [0,1,5,7,8] [_,_,_,_,_] rfl ?_))))));refine zE (zB (zC 3 rfl (zL (v:=.pointer (some (sAt va ((k:Int))))) rfl rfl rfl (yM rfl zX zK rfl rfl (by omega) (by rw [ints_length];omega) (fun w1 hw1=>Row.own hva hw1)) ?_)));refine zL (v:=i6_ (xs.getD (((k:Int)).toNat) 0)) rfl rfl rfl (qQ rfl zW rfl (fun w1 hw1=>Ints.cell (Row.own hva hw1) (by omega) (by omega))) ?_;refine zC 1 rfl (zJ (zD [0,1,5,7,8,16] [_,_,_,_,_,_] rfl ?_));refine qK (b:=decide (y=(xs.getD (((k:Int)).toNat) 0))) rfl (fun h16=>?_) (fun h16=>?_)
  ·
   replace h16:=zN h16;refine zE (zB (zC 2 rfl (zJ (zD [4] [_] rfl ?_))));refine qL (qS rfl rfl fun w' hw=>?_)
   exact ⟨ret_i (idxI_at (by omega) hall (by simpa using h16)).symm,hw.below⟩
  replace h16:=zM h16;refine qU (zD [0,1,7,8] [_,_,_,_] rfl ?_);refine zB (zL rfl rfl rfl (yI rfl rfl rfl (by omega) (by omega)) ?_);refine zC 1 rfl (zJ (yQ (k+1) ⟨by omega,fun i hi=>(Nat.lt_succ_iff_lt_or_eq.1 hi).elim (hall i) (fun e=>by subst e;simpa using h16)⟩ (by omega) (Sub.sel [0,1,7,8] rfl) (fun _ h=>h)))
 replace h9:=zM h9;refine yW rfl ?_;refine zD [] [] rfl ?_;refine zE (zB (zC 1 rfl (zJ (zD [4] [_] rfl ?_))));refine qL (qS rfl rfl fun w' hw=>?_)
 exact ⟨ret_i (idxI_none (fun i hi=>hall i (by omega))).symm,hw.below⟩
set_option maxHeartbeats 400000 in
/-- slices.Contains[[]int,int] -/
theorem contains_ok (va:Value) (xs:List Int) (y:Int) (w:World) (hva:Ints w va xs) (hs1:xs.length≤1000000) :
    Calls Tryz.prog 103 [va,i6_ y].toArray w fun en w'=>en=.returned (.bool (decide (y∈xs)))∧Below w.heap.size w w':=by
 refine fnStart (n:=9) (e:=[(0,va),(1,i6_ y)]) Tryz.func103 rfl rfl rfl rfl Ends.both ?_;refine zE (zB (zC 1 rfl (zJ (zD [0,1] [_,_] rfl ?_))));refine zE (zB (zC 2 rfl (zL (v:=i6_ (idxI xs fun z=>decide (y=z))) rfl rfl rfl (qH rfl Tryz.call144 rfl qC (fun w1 hw1=>index_ok va xs y w1 (Row.own hva hw1) (by omega))) ?_)));refine zC 2 rfl (zJ (zD [4] [_] rfl ?_));refine qL (qS rfl rfl fun w' hw=>?_)
 exact ⟨ret_b (has_idx xs y),hw.below⟩
set_option maxHeartbeats 400000 in
/-- impl.placed -/
theorem placed_ok (a b:St) (va:Value) (os:List Int) (x:Int) (w:World) (ha:a.Fine) (hb:b.Fine) (hva:Ints w va os) (hs:os.length≤8) (hA:a.Els os) (hx:a.El x) (hbi:b.El os.length) :
    Calls Tryz.prog 104 [vS a,vS b,va,i6_ x].toArray w fun en w'=>en=.returned (.bool (placedB a b os x))∧Below w.heap.size w w':=by
 refine fnStart (n:=60) (e:=[(0,vS a),(1,vS b),(2,va),(3,i6_ x)]) Tryz.func104 rfl rfl rfl rfl Ends.both ?_;refine zE (qF (yU (v:=vS a) rfl rfl rfl rfl rfl fun p4 hp4=>?_))
 show Ll _ _ (Own _ _ [_]) _ _ ((4,pt_ p4)::_) _ _ _;refine yU (v:=vS b) rfl rfl rfl rfl rfl fun p5 hp5=>?_
 show Ll _ _ (Own _ _ [_,_]) _ _ ((5,pt_ p5)::_) _ _ _;refine qJ 1 rfl (zG (zD [2,3,4,5] [_,_,_,_] rfl ?_));refine zE (zB (zC 1 rfl (zL (v:=i6_ ((os.length:Int))) rfl rfl rfl (yR rfl zX rfl (ints_length _) (fun w1 hw1=>Row.own hva hw1)) ?_)));refine zC 1 rfl (zJ (zD [2,3,4,5,9] [_,_,_,_,_] rfl ?_));refine zE (zE (jU yH (fun _ h=>h.drawn) (by kernel_rfl) ?_));refine zL rfl rfl rfl (zV (cs:=#[i6_ a.n,str a.set,str a.rel]) 1 rfl zQ rfl rfl zO) ?_;refine zC 1 rfl (zL (v:=bo_ (a.inSet x)) rfl rfl rfl (qH rfl Tryz.call90 rfl qC (fun w1 hw1=>inSet_ok a x w1 ha (by first | assumption | exact St.Els.at (by assumption) (by omega) (by omega)))) ?_);refine zL rfl rfl rfl (zV (cs:=#[i6_ b.n,str b.set,str b.rel]) 0 rfl zQ rfl rfl zO) ?_;refine zC 1 rfl (zL (v:=bo_ (b.inSet ((os.length:Int)))) rfl rfl rfl (qH rfl Tryz.call90 rfl qC (fun w1 hw1=>inSet_ok b ((os.length:Int)) w1 hb (by first | assumption | exact St.Els.at (by assumption) (by omega) (by omega)))) ?_);refine zL rfl rfl rfl (uN rfl xI rfl rfl) ?_;refine zC 1 rfl (xD fun b21 hg21=>?_)
 cases b21
 ·
  refine zL rfl rfl rfl (zV (cs:=#[i6_ a.n,str a.set,str a.rel]) 1 rfl zQ rfl rfl zO) ?_;refine zC 2 rfl (zL (v:=bo_ (a.inRel x x)) rfl rfl rfl (qH rfl jV rfl qC (fun w1 hw1=>inRel_ok a x x w1 ha (by first | assumption | exact St.Els.at (by assumption) (by omega) (by omega)) (by first | assumption | exact St.Els.at (by assumption) (by omega) (by omega)))) ?_);refine zL rfl rfl rfl (zV (cs:=#[i6_ b.n,str b.set,str b.rel]) 0 rfl zQ rfl rfl zO) ?_;refine zC 2 rfl (zL (v:=bo_ (b.inRel ((os.length:Int)) ((os.length:Int)))) rfl rfl rfl (qH rfl jV rfl qC (fun w1 hw1=>inRel_ok b ((os.length:Int)) ((os.length:Int)) w1 hb (by first | assumption | exact St.Els.at (by assumption) (by omega) (by omega)) (by first | assumption | exact St.Els.at (by assumption) (by omega) (by omega)))) ?_);refine zL rfl rfl rfl (uN rfl xI rfl rfl) ?_;refine zC 1 rfl (zJ (zD [2,3,4,5,9,31] [_,_,_,_,_,_] rfl ?_));refine qK (b:=(a.inRel x x) != (b.inRel ((os.length:Int)) ((os.length:Int)))) rfl (fun h31=>?_) (fun h31=>?_)
  ·
   refine zE (zB (zC 1 rfl (zJ (zD [8] [_] rfl ?_))));refine qL (qS rfl rfl fun w' hw=>?_)
   first | exact ⟨ret_b (placed_head (.inl (by assumption))).symm,hw.below⟩ | exact ⟨ret_b (placed_head (.inr (by assumption))).symm,hw.below⟩ | exact ⟨ret_b (placed_no (k:=k) (by omega) (.inl (by simpa using hg48))).symm,hw.below⟩ | exact ⟨ret_b (placed_no (k:=k) (by omega) (.inr (by simpa using h58))).symm,hw.below⟩ | exact ⟨ret_b (placed_yes (by assumption) (by assumption) (fun i hi=>hall i (by omega))).symm,hw.below⟩
  refine qU (zD [2,3,4,5,9] [_,_,_,_,_] rfl ?_);refine zE (zE (zB (zC 1 rfl (zL (v:=i6_ ((os.length:Int))) rfl rfl rfl (yR rfl zX rfl (ints_length _) (fun w1 hw1=>Row.own hva hw1)) ?_))));refine zC 1 rfl (zJ (zD [3,4,5,9,32,33,34] [_,_,_,_,_,_,_] rfl ?_));refine qT (xJ (σ:=Nat) (fun k=>k≤os.length∧∀ i:Nat,i<k→(a.inRel x (os.getD i 0) != b.inRel os.length i)=false∧(a.inRel (os.getD i 0) x != b.inRel i os.length)=false) (fun k=>[(3,i6_ x),(4,pt_ p4),(5,pt_ p5),(9,i6_ ((os.length:Int))),(32,va),(33,i6_ ((os.length:Int))),(34,i6_ ((k:Int)))]) (fun k=>Own w.heap.size w [bk_ p5 #[i6_ b.n,str b.set,str b.rel] 24,bk_ p4 #[i6_ a.n,str a.set,str a.rel] 24]) (fun k=>os.length - k) (0) ⟨by omega,fun i hi=>absurd hi (by omega)⟩ (Sub.sel [3,4,5,9,32,33,34] rfl) (fun _ h=>h) ?_)
  rintro k ⟨hk,hall⟩;refine zE (zB (zC 1 rfl (zJ (zD [3,4,5,9,32,33,34,35] [_,_,_,_,_,_,_,_] rfl ?_))));refine zE (qK (b:=decide (((k:Int))<((os.length:Int)))) rfl (fun h35=>?_) (fun h35=>?_))
  ·
   replace h35:=zN h35
   have hbk:b.El (k:Int):=⟨by omega,by have:=hbi.2;omega⟩;refine qU (zD [3,4,5,9,32,33,34] [_,_,_,_,_,_,_] rfl ?_);refine zE (qT (zE (zB (zC 1 rfl (zL (v:=.pointer (some (sAt va ((k:Int))))) rfl rfl rfl (yM rfl zX zK rfl rfl (by omega) (by rw [ints_length];omega) (fun w1 hw1=>Row.own hva hw1)) ?_)))));refine zL (v:=i6_ (os.getD (((k:Int)).toNat) 0)) rfl rfl rfl (qQ rfl zW rfl (fun w1 hw1=>Ints.cell (Row.own hva hw1) (by omega) (by omega))) ?_;refine zC 2 rfl (zJ (zD [3,4,5,9,10,11,32,33,34] [_,_,_,_,_,_,_,_,_] rfl ?_));refine zE (jU yH (fun _ h=>h.drawn) (by kernel_rfl) ?_);refine zL rfl rfl rfl (zV (cs:=#[i6_ a.n,str a.set,str a.rel]) 1 rfl zQ rfl rfl zO) ?_;refine zC 2 rfl (zL (v:=bo_ (a.inRel x (os.getD (((k:Int)).toNat) 0))) rfl rfl rfl (qH rfl jV rfl qC (fun w1 hw1=>inRel_ok a x (os.getD (((k:Int)).toNat) 0) w1 ha (by first | assumption | exact St.Els.at (by assumption) (by omega) (by omega)) (by first | assumption | exact St.Els.at (by assumption) (by omega) (by omega)))) ?_);refine zL rfl rfl rfl (zV (cs:=#[i6_ b.n,str b.set,str b.rel]) 0 rfl zQ rfl rfl zO) ?_;refine zC 2 rfl (zL (v:=bo_ (b.inRel ((os.length:Int)) ((k:Int)))) rfl rfl rfl (qH rfl jV rfl qC (fun w1 hw1=>inRel_ok b ((os.length:Int)) ((k:Int)) w1 hb (by first | assumption | exact St.Els.at (by assumption) (by omega) (by omega)) (by first | assumption | exact St.Els.at (by assumption) (by omega) (by omega)))) ?_);refine zL rfl rfl rfl (uN rfl xI rfl rfl) ?_;refine zC 1 rfl (xD fun b48 hg48=>?_)
   cases b48
   ·
    refine zL rfl rfl rfl (zV (cs:=#[i6_ a.n,str a.set,str a.rel]) 1 rfl zQ rfl rfl zO) ?_;refine zC 2 rfl (zL (v:=bo_ (a.inRel (os.getD (((k:Int)).toNat) 0) x)) rfl rfl rfl (qH rfl jV rfl qC (fun w1 hw1=>inRel_ok a (os.getD (((k:Int)).toNat) 0) x w1 ha (by first | assumption | exact St.Els.at (by assumption) (by omega) (by omega)) (by first | assumption | exact St.Els.at (by assumption) (by omega) (by omega)))) ?_);refine zL rfl rfl rfl (zV (cs:=#[i6_ b.n,str b.set,str b.rel]) 0 rfl zQ rfl rfl zO) ?_;refine zC 2 rfl (zL (v:=bo_ (b.inRel ((k:Int)) ((os.length:Int)))) rfl rfl rfl (qH rfl jV rfl qC (fun w1 hw1=>inRel_ok b ((k:Int)) ((os.length:Int)) w1 hb (by first | assumption | exact St.Els.at (by assumption) (by omega) (by omega)) (by first | assumption | exact St.Els.at (by assumption) (by omega) (by omega)))) ?_);refine zL rfl rfl rfl (uN rfl xI rfl rfl) ?_;refine zC 1 rfl (zJ (zD [3,4,5,9,32,33,34,58] [_,_,_,_,_,_,_,_] rfl ?_));refine qK (b:=(a.inRel (os.getD (((k:Int)).toNat) 0) x) != (b.inRel ((k:Int)) ((os.length:Int)))) rfl (fun h58=>?_) (fun h58=>?_)
    ·
     refine zE (zB (zC 1 rfl (zJ (zD [8] [_] rfl ?_))));refine qL (qS rfl rfl fun w' hw=>?_)
     first | exact ⟨ret_b (placed_head (.inl (by assumption))).symm,hw.below⟩ | exact ⟨ret_b (placed_head (.inr (by assumption))).symm,hw.below⟩ | exact ⟨ret_b (placed_no (k:=k) (by omega) (.inl (by simpa using hg48))).symm,hw.below⟩ | exact ⟨ret_b (placed_no (k:=k) (by omega) (.inr (by simpa using h58))).symm,hw.below⟩ | exact ⟨ret_b (placed_yes (by assumption) (by assumption) (fun i hi=>hall i (by omega))).symm,hw.below⟩
    refine qU (zD [3,4,5,9,32,33,34] [_,_,_,_,_,_,_] rfl ?_);refine zB (zL rfl rfl rfl (yI rfl rfl rfl (by omega) (by omega)) ?_);refine zC 1 rfl (zJ (yQ (k+1) ⟨by omega,fun i hi=>(Nat.lt_succ_iff_lt_or_eq.1 hi).elim (hall i) (fun e=>by subst e;exact ⟨by simpa using hg48,by simpa using h58⟩)⟩ (by omega) (Sub.sel [3,4,5,9,32,33,34] rfl) (fun _ h=>h)))
   refine zS rfl rfl rfl (zS rfl rfl rfl (zS rfl rfl rfl (zS rfl rfl rfl ?_)));refine zS rfl rfl rfl (zS rfl rfl rfl (zS rfl rfl rfl (zS rfl rfl rfl (zS rfl rfl rfl (zC 1 rfl (zJ (zD [3,4,5,9,32,33,34,58] [_,_,_,_,_,_,_,_] rfl ?_)))))));refine xH rfl ?_;refine zE (zB (zC 1 rfl (zJ (zD [8] [_] rfl ?_))));refine qL (qS rfl rfl fun w' hw=>?_)
   first | exact ⟨ret_b (placed_head (.inl (by assumption))).symm,hw.below⟩ | exact ⟨ret_b (placed_head (.inr (by assumption))).symm,hw.below⟩ | exact ⟨ret_b (placed_no (k:=k) (by omega) (.inl (by simpa using hg48))).symm,hw.below⟩ | exact ⟨ret_b (placed_no (k:=k) (by omega) (.inr (by simpa using h58))).symm,hw.below⟩ | exact ⟨ret_b (placed_yes (by assumption) (by assumption) (fun i hi=>hall i (by omega))).symm,hw.below⟩
  replace h35:=zM h35;refine yW rfl ?_;refine zD [] [] rfl ?_;refine zE (zB (zC 1 rfl (zJ (zD [8] [_] rfl ?_))));refine qL (qS rfl rfl fun w' hw=>?_)
  first | exact ⟨ret_b (placed_head (.inl (by assumption))).symm,hw.below⟩ | exact ⟨ret_b (placed_head (.inr (by assumption))).symm,hw.below⟩ | exact ⟨ret_b (placed_no (k:=k) (by omega) (.inl (by simpa using hg48))).symm,hw.below⟩ | exact ⟨ret_b (placed_no (k:=k) (by omega) (.inr (by simpa using h58))).symm,hw.below⟩ | exact ⟨ret_b (placed_yes (by assumption) (by assumption) (fun i hi=>hall i (by omega))).symm,hw.below⟩
 refine zS rfl rfl rfl (zS rfl rfl rfl (zS rfl rfl rfl (zS rfl rfl rfl ?_)));refine zS rfl rfl rfl (zS rfl rfl rfl (zS rfl rfl rfl (zS rfl rfl rfl (zS rfl rfl rfl (zC 1 rfl (zJ (zD [2,3,4,5,9,31] [_,_,_,_,_,_] rfl ?_)))))));refine xH rfl ?_;refine zE (zB (zC 1 rfl (zJ (zD [8] [_] rfl ?_))));refine qL (qS rfl rfl fun w' hw=>?_)
 first | exact ⟨ret_b (placed_head (.inl (by assumption))).symm,hw.below⟩ | exact ⟨ret_b (placed_head (.inr (by assumption))).symm,hw.below⟩ | exact ⟨ret_b (placed_no (k:=k) (by omega) (.inl (by simpa using hg48))).symm,hw.below⟩ | exact ⟨ret_b (placed_no (k:=k) (by omega) (.inr (by simpa using h58))).symm,hw.below⟩ | exact ⟨ret_b (placed_yes (by assumption) (by assumption) (fun i hi=>hall i (by omega))).symm,hw.below⟩
set_option maxHeartbeats 400000 in
/-- impl.eachShape$1|0 -/
theorem place_zero (a b:St) {τ α:Type} (D:τ→α→List (Nat×Obj)) (okD:τ→α→Prop) (step:List Int→τ→τ×Bool) (tf:FuncId) (tcap:Array Value) (B:Nat) (w0:World) (hcf:∀ args w,(callFunc tf args).run Tryz.prog w=.ok (.enter tf args) w) (hT:Tells Tryz.prog tf tcap a b B w0 D okD step) (ha:a.Fine) (_hb:b.Fine) (hn:a.n=b.n) (pp po pt pb pa:Nat) (os:List Int) (t:τ) (al:α) (g cap:Nat) (cur:Array Value) (w:World) (hm:os.length+0=a.n.toNat) (hA:a.Els os) (hsm:sameB a os b (upto os.length)=true) (hok:okD t al) (hcg:cur.size=cap*1) (hlg:os.length≤cap) (htg:cur.toList.take os.length=ints os) (hw:Own B w0 (bk_ pp #[.func (.func 102) #[] #[pt_ po,pt_ pa,pt_ pt,pt_ pb,pt_ pp]] 68::bk_ po #[sl_ g os.length cap] 25::bk_ g cur 3::bk_ pt #[.func (.func tf) #[] tcap] 72::bk_ pb #[i6_ b.n,str b.set,str b.rel] 24::bk_ pa #[i6_ a.n,str a.set,str a.rel] 24::(D t al)) w) :
    Calls Tryz.prog 102 [pt_ po,pt_ pa,pt_ pt,pt_ pb,pt_ pp].toArray w fun en w'=>∃ (os':List Int) (g' cap':Nat) (cur':Array Value) (al':α),en=.returned (.bool (shS a b step 0 os t).2)∧okD (shS a b step 0 os t).1 al'∧((shS a b step 0 os t).2=true→os'=os)∧(cur'.size=cap'*1∧os'.length≤cap'∧cur'.toList.take os'.length=ints os')∧Own B w0 (bk_ pp #[.func (.func 102) #[] #[pt_ po,pt_ pa,pt_ pt,pt_ pb,pt_ pp]] 68::bk_ po #[sl_ g' os'.length cap'] 25::bk_ g' cur' 3::bk_ pt #[.func (.func tf) #[] tcap] 72::bk_ pb #[i6_ b.n,str b.set,str b.rel] 24::bk_ pa #[i6_ a.n,str a.set,str a.rel] 24::(D (shS a b step 0 os t).1 al')) w':=by
 refine fnStartC (Own B w0 (bk_ pp #[.func (.func 102) #[] #[pt_ po,pt_ pa,pt_ pt,pt_ pb,pt_ pp]] 68::bk_ po #[sl_ g os.length cap] 25::bk_ g cur 3::bk_ pt #[.func (.func tf) #[] tcap] 72::bk_ pb #[i6_ b.n,str b.set,str b.rel] 24::bk_ pa #[i6_ a.n,str a.set,str a.rel] 24::(D t al))) (n:=44) (e:=[(0,pt_ po),(1,pt_ pa),(2,pt_ pt),(3,pt_ pb),(4,pt_ pp)]) Tryz.func102 rfl rfl rfl rfl Ends.both hw ?_
 have hm8:=ha.hi
 have hm1:=ha.lo;refine zE (zB (zC 1 rfl (zJ (zD [0,1,2,3,4] [_,_,_,_,_] rfl ?_))));refine zE (zB (zL rfl rfl rfl (zP 1 rfl jZ rfl rfl rfl) ?_));refine zL rfl rfl rfl (OpQ.lenS rfl zX rfl) ?_;refine zC 1 rfl (zJ (zD [0,1,2,3,4,6] [_,_,_,_,_,_] rfl ?_));refine zE (zE (zB (zC 1 rfl (zL rfl rfl rfl (zF rfl zY rfl zK rfl rfl) ?_))));refine zL rfl rfl rfl (zP 5 rfl zW rfl rfl rfl) ?_;refine zC 1 rfl (zJ (zD [0,1,2,3,4,6,13] [_,_,_,_,_,_,_] rfl ?_));refine qK (b:=decide (((os.length:Int))=a.n)) rfl (fun h13=>?_) (fun h13=>?_)
 ·
  replace h13:=zN h13;refine zE (qF (zU rfl rfl rfl (zP 3 rfl Tryz.isAgg72 rfl rfl rfl) ?_));refine zU rfl rfl rfl (zP 1 rfl jZ rfl rfl rfl) ?_;refine Ll.callFnGet (ok:=fun al'=>okD (step os t).1 al') (v:=fun _=>.bool (step os t).2) (hs':=fun al'=>([bk_ pp #[.func (.func 102) #[] #[pt_ po,pt_ pa,pt_ pt,pt_ pb,pt_ pp]] 68,bk_ po #[sl_ g os.length cap] 25,bk_ g cur 3,bk_ pt #[.func (.func tf) #[] tcap] 72,bk_ pb #[i6_ b.n,str b.set,str b.rel] 24,bk_ pa #[i6_ a.n,str a.set,str a.rel] 24]:List (Nat×Obj))++D (step os t).1 al') (xs:=[.tmp 15]) (vs:=[sl_ g os.length cap]) rfl rfl rfl rfl rfl hcf rfl (fun w1 hw1=>hT ([bk_ pp #[.func (.func 102) #[] #[pt_ po,pt_ pa,pt_ pt,pt_ pb,pt_ pp]] 68,bk_ po #[sl_ g os.length cap] 25,bk_ g cur 3,bk_ pt #[.func (.func tf) #[] tcap] 72,bk_ pb #[i6_ b.n,str b.set,str b.rel] 24,bk_ pa #[i6_ a.n,str a.set,str a.rel] 24]:List (Nat×Obj)) (sl_ g os.length cap) os t al w1 hok (fun w2 hw2=>(yY hw2 (i:=2) rfl htg (by simp) hlg)) (by omega) hsm hA hw1) fun al16 hok2=>?_
  show Ll _ _ (Own _ _ (_::_::_::_::_::_::((D (step os t).1 al16)))) _ _ ((16,bo_ ((step os t).2))::_) _ _ _;refine qJ 1 rfl (zG (zD [5] [_] rfl ?_));refine qL (qS rfl rfl fun w' hw=>?_)
  exact ⟨os,g,cap,cur,al16,rfl,hok2,fun _=>rfl,⟨hcg,hlg,htg⟩,hw⟩
 replace h13:=zM h13
 exact absurd (by omega) h13
set_option maxHeartbeats 1000000 in
/-- impl.eachShape$1 -/
theorem place_of (a b:St) {τ α:Type} (D:τ→α→List (Nat×Obj)) (okD:τ→α→Prop) (step:List Int→τ→τ×Bool) (tf:FuncId) (tcap:Array Value) (B:Nat) (w0:World) (_hcf:∀ args w,(callFunc tf args).run Tryz.prog w=.ok (.enter tf args) w) (_hT:Tells Tryz.prog tf tcap a b B w0 D okD step) (ha:a.Fine) (hb:b.Fine) (hn:a.n=b.n) (pp po pt pb pa:Nat) (m:Nat) (ih:∀ (os:List Int) (t:τ) (al:α) (g cap:Nat) (cur:Array Value) (w:World) (_:os.length+m=a.n.toNat) (_:a.Els os) (_:sameB a os b (upto os.length)=true) (_:okD t al) (_:cur.size=cap*1) (_:os.length≤cap) (_:cur.toList.take os.length=ints os),Own B w0 (bk_ pp #[.func (.func 102) #[] #[pt_ po,pt_ pa,pt_ pt,pt_ pb,pt_ pp]] 68::bk_ po #[sl_ g os.length cap] 25::bk_ g cur 3::bk_ pt #[.func (.func tf) #[] tcap] 72::bk_ pb #[i6_ b.n,str b.set,str b.rel] 24::bk_ pa #[i6_ a.n,str a.set,str a.rel] 24::(D t al)) w→Calls Tryz.prog 102 #[pt_ po,pt_ pa,pt_ pt,pt_ pb,pt_ pp] w fun en w'=>∃ (os':List Int) (g' cap':Nat) (cur':Array Value) (al':α),en=.returned (.bool (shS a b step m os t).2)∧okD (shS a b step m os t).1 al'∧((shS a b step m os t).2=true→os'=os)∧(cur'.size=cap'*1∧os'.length≤cap'∧cur'.toList.take os'.length=ints os')∧Own B w0 (bk_ pp #[.func (.func 102) #[] #[pt_ po,pt_ pa,pt_ pt,pt_ pb,pt_ pp]] 68::bk_ po #[sl_ g' os'.length cap'] 25::bk_ g' cur' 3::bk_ pt #[.func (.func tf) #[] tcap] 72::bk_ pb #[i6_ b.n,str b.set,str b.rel] 24::bk_ pa #[i6_ a.n,str a.set,str a.rel] 24::(D (shS a b step m os t).1 al')) w') (os:List Int) (t:τ) (al:α) (g cap:Nat) (cur:Array Value) (w:World) (hm:os.length+(m+1)=a.n.toNat) (hA:a.Els os) (hsm:sameB a os b (upto os.length)=true) (hok:okD t al) (hcg:cur.size=cap*1) (hlg:os.length≤cap) (htg:cur.toList.take os.length=ints os) (hw:Own B w0 (bk_ pp #[.func (.func 102) #[] #[pt_ po,pt_ pa,pt_ pt,pt_ pb,pt_ pp]] 68::bk_ po #[sl_ g os.length cap] 25::bk_ g cur 3::bk_ pt #[.func (.func tf) #[] tcap] 72::bk_ pb #[i6_ b.n,str b.set,str b.rel] 24::bk_ pa #[i6_ a.n,str a.set,str a.rel] 24::(D t al)) w) :
    Calls Tryz.prog 102 [pt_ po,pt_ pa,pt_ pt,pt_ pb,pt_ pp].toArray w fun en w'=>∃ (os':List Int) (g' cap':Nat) (cur':Array Value) (al':α),en=.returned (.bool (shS a b step (m+1) os t).2)∧okD (shS a b step (m+1) os t).1 al'∧((shS a b step (m+1) os t).2=true→os'=os)∧(cur'.size=cap'*1∧os'.length≤cap'∧cur'.toList.take os'.length=ints os')∧Own B w0 (bk_ pp #[.func (.func 102) #[] #[pt_ po,pt_ pa,pt_ pt,pt_ pb,pt_ pp]] 68::bk_ po #[sl_ g' os'.length cap'] 25::bk_ g' cur' 3::bk_ pt #[.func (.func tf) #[] tcap] 72::bk_ pb #[i6_ b.n,str b.set,str b.rel] 24::bk_ pa #[i6_ a.n,str a.set,str a.rel] 24::(D (shS a b step (m+1) os t).1 al')) w':=by
 refine fnStartC (Own B w0 (bk_ pp #[.func (.func 102) #[] #[pt_ po,pt_ pa,pt_ pt,pt_ pb,pt_ pp]] 68::bk_ po #[sl_ g os.length cap] 25::bk_ g cur 3::bk_ pt #[.func (.func tf) #[] tcap] 72::bk_ pb #[i6_ b.n,str b.set,str b.rel] 24::bk_ pa #[i6_ a.n,str a.set,str a.rel] 24::(D t al))) (n:=44) (e:=[(0,pt_ po),(1,pt_ pa),(2,pt_ pt),(3,pt_ pb),(4,pt_ pp)]) Tryz.func102 rfl rfl rfl rfl Ends.both hw ?_
 have hm8:=ha.hi
 have hm1:=ha.lo;refine zE (zB (zC 1 rfl (zJ (zD [0,1,2,3,4] [_,_,_,_,_] rfl ?_))));refine zE (zB (zL rfl rfl rfl (zP 1 rfl jZ rfl rfl rfl) ?_));refine zL rfl rfl rfl (OpQ.lenS rfl zX rfl) ?_;refine zC 1 rfl (zJ (zD [0,1,2,3,4,6] [_,_,_,_,_,_] rfl ?_));refine zE (zE (zB (zC 1 rfl (zL rfl rfl rfl (zF rfl zY rfl zK rfl rfl) ?_))));refine zL rfl rfl rfl (zP 5 rfl zW rfl rfl rfl) ?_;refine zC 1 rfl (zJ (zD [0,1,2,3,4,6,13] [_,_,_,_,_,_,_] rfl ?_));refine qK (b:=decide (((os.length:Int))=a.n)) rfl (fun h13=>?_) (fun h13=>?_)
 ·
  replace h13:=zN h13
  exact absurd h13 (by omega)
 replace h13:=zM h13;refine qU (zD [0,1,3,4,6] [_,_,_,_,_] rfl ?_);refine zE (zE (zB (zL rfl rfl rfl (zF rfl zY rfl zK rfl rfl) ?_)));refine zL rfl rfl rfl (zP 5 rfl zW rfl rfl rfl) ?_;refine zC 1 rfl (zJ (zD [0,1,3,4,6,18,19] [_,_,_,_,_,_,_] rfl ?_));refine qT (xJ (σ:=Nat×Nat×Nat×Array Value×τ×α) (fun ⟨k,g1,cap1,cur1,t1,al1⟩=>(k:Int)≤a.n∧shLoop (shF a b (shS a b step m) os) k t=(t1,true)∧okD t1 al1∧(cur1.size=cap1*1∧os.length≤cap1∧cur1.toList.take os.length=ints os)) (fun ⟨k,g1,cap1,cur1,t1,al1⟩=>[(0,pt_ po),(1,pt_ pa),(3,pt_ pb),(4,pt_ pp),(6,i6_ ((os.length:Int))),(18,i6_ a.n),(19,i6_ ((k:Int)))]) (fun ⟨k,g1,cap1,cur1,t1,al1⟩=>Own B w0 (bk_ pp #[.func (.func 102) #[] #[pt_ po,pt_ pa,pt_ pt,pt_ pb,pt_ pp]] 68::bk_ po #[sl_ g1 os.length cap1] 25::bk_ g1 cur1 3::bk_ pt #[.func (.func tf) #[] tcap] 72::bk_ pb #[i6_ b.n,str b.set,str b.rel] 24::bk_ pa #[i6_ a.n,str a.set,str a.rel] 24::((D t1 al1)))) (fun ⟨k,g1,cap1,cur1,t1,al1⟩=>(a.n - k).toNat) ((0,g,cap,cur,t,al)) ⟨by omega,rfl,hok,⟨hcg,hlg,htg⟩⟩ (Sub.sel [0,1,3,4,6,18,19] rfl) (fun _ h=>h) ?_)
 rintro ⟨k,g1,cap1,cur1,t1,al1⟩ ⟨hk,hlp,hok1,⟨hcg1,hlg1,htg1⟩⟩
 dsimp only;refine zE (zB (zC 1 rfl (zJ (zD [0,1,3,4,6,18,19,20] [_,_,_,_,_,_,_,_] rfl ?_))));refine zE (qK (b:=decide (((k:Int))<a.n)) rfl (fun h20=>?_) (fun h20=>?_))
 ·
  replace h20:=zN h20
  have hx:a.El (k:Int):=⟨by omega,by omega⟩
  have hbi:b.El (os.length:Int):=⟨by omega,by omega⟩;refine qU (zD [0,1,3,4,6,18,19] [_,_,_,_,_,_,_] rfl ?_);refine zE (qT (zE (zB (zC 2 rfl (zJ (zD [0,1,3,4,6,7,18,19] [_,_,_,_,_,_,_,_] rfl ?_))))));refine zE (zE (zB (zL rfl rfl rfl (zP 1 rfl jZ rfl rfl rfl) ?_)));refine zC 1 rfl (zL (v:=bo_ (decide (((k:Int))∈os))) rfl rfl rfl (qH rfl Tryz.call103 rfl qC (fun w1 hw1=>contains_ok (sl_ g1 os.length cap1) os ((k:Int)) w1 (yY hw1 (i:=2) rfl htg1 (by simp) hlg1) (by omega))) ?_);refine zC 1 rfl (xD fun b25 hg25=>?_)
  cases b25
  ·
   replace hg25:=zM hg25;refine zL rfl rfl rfl (zV (cs:=#[i6_ a.n,str a.set,str a.rel]) 5 rfl zQ rfl rfl zO) ?_;refine zL rfl rfl rfl (zV (cs:=#[i6_ b.n,str b.set,str b.rel]) 4 rfl zQ rfl rfl zO) ?_;refine zL rfl rfl rfl (zP 1 rfl jZ rfl rfl rfl) ?_;refine zC 1 rfl (zL (v:=bo_ (placedB a b os ((k:Int)))) rfl rfl rfl (qH rfl Tryz.call104 rfl qC (fun w1 hw1=>placed_ok a b (sl_ g1 os.length cap1) os ((k:Int)) w1 ha hb (yY hw1 (i:=2) rfl htg1 (by simp) hlg1) (by omega) hA hx hbi)) ?_);refine zC 2 rfl (zJ (zD [0,1,3,4,6,7,18,19,32] [_,_,_,_,_,_,_,_,_] rfl ?_));refine qK (b:=!(placedB a b os ((k:Int)))) rfl (fun h32=>?_) (fun h32=>?_)
   ·
    replace h32:=not_true h32
    have hno:¬ stillB a os b (upto os.length) (k:Int) os.length=true:=by
     rw [still_placed];simp_all
    refine yW rfl ?_;refine zD [0,1,3,4,6,18,19] [_,_,_,_,_,_,_] rfl ?_;refine zB (zL rfl rfl rfl (yI rfl rfl rfl (by omega) (by omega)) ?_);refine zC 1 rfl (zJ (yQ ((k+1,g1,cap1,cur1,t1,al1)) ⟨by omega,by rw [shLoop_step hlp,shF,if_neg hno],hok1,⟨hcg1,hlg1,htg1⟩⟩ (by omega) (Sub.sel [0,1,3,4,6,18,19] rfl) (fun _ h=>h)))
   replace h32:=not_false h32
   have hst:stillB a os b (upto os.length) (k:Int) os.length=true:=by
    rw [still_placed];simp_all
   refine qU (zD [0,1,3,4,6,7,18,19] [_,_,_,_,_,_,_,_] rfl ?_);refine zE (qF (zU rfl rfl rfl (zP 1 rfl jZ rfl rfl rfl) ?_));refine qJ 1 rfl (yS (xs:=[.tmp 34]) (vs:=[i6_ ((k:Int))]) yK rfl rfl rfl rfl rfl rfl (by decide) rfl fun p35 hp35=>?_);refine xL (xs:=os) (ys:=[(k:Int)]) yK 3 rfl rfl rfl rfl rfl rfl rfl hcg1 hlg1 htg1 (fun w1 hw1=>(yY hw1 (i:=0) rfl (n:=1) (cap:=1) (vs:=ints [(k:Int)]) rfl rfl (by decide))) ((os++([(k:Int)])).length) (by first | (simp;done) | (simp;omega)) (by first | (simp;done) | (simp;omega) | omega) fun p36 cap36 cur36 hp36 hcp36 hlp36 htp36=>?_
   show Ll _ _ (Own _ _ (_::_::_::_::_::_::_::((D t1 al1)))) _ _ ((36,sl_ p36 (((os++([(k:Int)])).length)) cap36)::_) _ _ _;refine qM (v:=sl_ p36 (((os++([(k:Int)])).length)) cap36) (hs':=(_::_::bk_ po #[sl_ p36 (((os++([(k:Int)])).length)) cap36] 25::_::_::_::_::((D t1 al1)))) 2 rfl rfl rfl rfl rfl rfl uB rfl (by simp) rfl ?_;refine zG (zD [0,1,3,4,6,18,19] [_,_,_,_,_,_,_] rfl ?_);refine zE (zE (qF (zU rfl rfl rfl (zP 1 rfl Tryz.isAgg68 rfl rfl rfl) ?_)));refine Ll.callFnGet (σ:=List Int×Nat×Nat×Array Value×α) (ok:=fun (os',_,cap',cur',al')=>okD (shS a b step m (os++[(k:Int)]) t1).1 al'∧((shS a b step m (os++[(k:Int)]) t1).2=true→os'=os++[(k:Int)])∧(cur'.size=cap'*1∧os'.length≤cap'∧cur'.toList.take os'.length=ints os')) (v:=fun _=>.bool (shS a b step m (os++[(k:Int)]) t1).2) (hs':=fun (os',g',cap',cur',al')=>(bk_ pp #[.func (.func 102) #[] #[pt_ po,pt_ pa,pt_ pt,pt_ pb,pt_ pp]] 68::bk_ po #[sl_ g' os'.length cap'] 25::bk_ g' cur' 3::bk_ pt #[.func (.func tf) #[] tcap] 72::bk_ pb #[i6_ b.n,str b.set,str b.rel] 24::bk_ pa #[i6_ a.n,str a.set,str a.rel] 24::(D (shS a b step m (os++[(k:Int)]) t1).1 al'))) (xs:=[]) (vs:=[]) rfl rfl rfl rfl rfl Tryz.call102 rfl (fun w1 hw1=>(ih (os++[(k:Int)]) t1 al1 p36 cap36 cur36 w1 (by simp;omega) (els_more hA hx) (same_grown hsm hst) hok1 hcp36 hlp36 (by simpa using (by simpa using htp36)) (hw1.sub (qD _ (zA _ (zA _ (zA _ (zA _ (zA _ (zA _ (qB _)))))))))).mono fun en w' ⟨os',g',cap',cur',al',h1,h2,h3,h4,h5⟩=>⟨(os',g',cap',cur',al'),h1,⟨h2,h3,h4⟩,h5⟩) fun ⟨os38,g38,cap38,cur38,al38⟩ ⟨hok2,hos2,hcg2,hlg2,htg2⟩=>?_
   show Ll _ _ (Own _ _ (_::_::_::_::_::_::((D (shS a b step m (os++[(k:Int)]) t1).1 al38)))) _ _ ((38,bo_ ((shS a b step m (os++[(k:Int)]) t1).2))::_) _ _ _;refine qJ 1 rfl (zG (zD [0,1,3,4,6,18,19,39] [_,_,_,_,_,_,_,_] rfl ?_));refine qK (b:=!((shS a b step m (os++[(k:Int)]) t1).2)) rfl (fun h39=>?_) (fun h39=>?_)
   ·
    replace h39:=not_true h39;refine zE (zB (zC 1 rfl (zJ (zD [5] [_] rfl ?_))));refine qL (qS rfl rfl fun w' hw=>?_)
    have hfin:shS a b step (m+1) os t=shS a b step m (os++[(k:Int)]) t1:=by
     show shLoop _ a.n.toNat t=_
     have h8:shLoop (shF a b (shS a b step m) os) (k+1) t=shS a b step m (os++[(k:Int)]) t1:=by rw [shLoop_step hlp,shF,if_pos hst]
     rw [shLoop_stop (k:=k+1) (by rw [h8];assumption) _ (by omega),h8]
    refine ⟨os38,g38,cap38,cur38,al38,?_,?_,?_,⟨hcg2,hlg2,htg2⟩,?_⟩
    · rw [hfin];congr 2;exact (by assumption:_=false).symm
    · rw [hfin];exact hok2
    · rw [hfin];intro h;simp_all
    · rw [hfin];exact hw
   replace h39:=not_false h39
   have hose:=hos2 (by first | assumption | (simp_all;done))
   have hosl:os38.length=os.length+1:=by rw [hose];simp
   refine qU (zD [0,1,3,4,6,18,19] [_,_,_,_,_,_,_] rfl ?_);refine qF (zU rfl rfl rfl (zP 1 rfl jZ rfl rfl rfl) ?_);refine qJ 1 rfl (zU (v:=sl_ g38 (((os.length:Int)).toNat) cap38) rfl rfl rfl (OpQ.takeS (i:=(os.length:Int)) rfl zX zK rfl rfl (by omega) (by omega)) ?_);refine qM (v:=sl_ g38 (((os.length:Int)).toNat) cap38) (hs':=(_::bk_ po #[sl_ g38 (((os.length:Int)).toNat) cap38] 25::_::_::_::_::((D (shS a b step m (os++[(k:Int)]) t1).1 al38)))) 1 rfl rfl rfl rfl rfl rfl uB rfl (by simp) rfl ?_;refine zG (zD [0,1,3,4,6,18,19] [_,_,_,_,_,_,_] rfl ?_);refine zB (zL rfl rfl rfl (yI rfl rfl rfl (by omega) (by omega)) ?_);refine zC 1 rfl (zJ (yQ ((k+1,g38,cap38,cur38,(shS a b step m (os++[(k:Int)]) t1).1,al38)) ⟨by omega,by rw [shLoop_step hlp,shF,if_pos hst];exact Prod.ext rfl (by assumption),hok2,⟨by simpa using hcg2,by have:=hlg2;rw [hose] at this;simp at this;dsimp only;omega,by dsimp only;have h9:=congrArg (List.take os.length) htg2;rw [hose,List.take_take,zZ,Nat.min_eq_left (by omega)] at h9;rw [h9];simp [ints]⟩⟩ (by omega) (Sub.sel [0,1,3,4,6,18,19] rfl) (fun _ h=>by simpa using h)))
  replace hg25:=zN hg25
  have hno:¬ stillB a os b (upto os.length) (k:Int) os.length=true:=by
   rw [still_placed];simp_all
  refine zS rfl rfl rfl ?_;refine zS rfl rfl rfl (zS rfl rfl rfl (zS rfl rfl rfl (zS rfl rfl rfl (zS rfl rfl rfl (zC 1 rfl (zJ (zD [0,1,3,4,6,7,18,19,32] [_,_,_,_,_,_,_,_,_] rfl ?_)))))));refine xH rfl ?_;refine yW rfl ?_;refine zD [0,1,3,4,6,18,19] [_,_,_,_,_,_,_] rfl ?_;refine zB (zL rfl rfl rfl (yI rfl rfl rfl (by omega) (by omega)) ?_);refine zC 1 rfl (zJ (yQ ((k+1,g1,cap1,cur1,t1,al1)) ⟨by omega,by rw [shLoop_step hlp,shF,if_neg hno],hok1,⟨hcg1,hlg1,htg1⟩⟩ (by omega) (Sub.sel [0,1,3,4,6,18,19] rfl) (fun _ h=>h)))
 replace h20:=zM h20;refine yW rfl ?_;refine zD [] [] rfl ?_;refine zE (zB (zC 1 rfl (zJ (zD [5] [_] rfl ?_))));refine qL (qS rfl rfl fun w' hw=>?_)
 have hfin:shS a b step (m+1) os t=(t1,true):=by
  show shLoop _ a.n.toNat t=_
  rw [show a.n.toNat=k from by omega];exact hlp
 exact ⟨os,g1,cap1,cur1,al1,by rw [hfin],by rw [hfin];exact hok1,fun _=>rfl,⟨hcg1,hlg1,htg1⟩,by rw [hfin];exact hw⟩
theorem place_ok (a b:St) {τ α:Type} (D:τ→α→List (Nat×Obj)) (okD:τ→α→Prop) (step:List Int→τ→τ×Bool) (tf:FuncId) (tcap:Array Value) (B:Nat) (w0:World) (hcf:∀ args w,(callFunc tf args).run Tryz.prog w=.ok (.enter tf args) w) (hT:Tells Tryz.prog tf tcap a b B w0 D okD step) (ha:a.Fine) (hb:b.Fine) (hn:a.n=b.n) (pp po pt pb pa:Nat):∀ m:Nat,∀ (os:List Int) (t:τ) (al:α) (g cap:Nat) (cur:Array Value) (w:World) (_:os.length+m=a.n.toNat) (_:a.Els os) (_:sameB a os b (upto os.length)=true) (_:okD t al) (_:cur.size=cap*1) (_:os.length≤cap) (_:cur.toList.take os.length=ints os),Own B w0 (bk_ pp #[.func (.func 102) #[] #[pt_ po,pt_ pa,pt_ pt,pt_ pb,pt_ pp]] 68::bk_ po #[sl_ g os.length cap] 25::bk_ g cur 3::bk_ pt #[.func (.func tf) #[] tcap] 72::bk_ pb #[i6_ b.n,str b.set,str b.rel] 24::bk_ pa #[i6_ a.n,str a.set,str a.rel] 24::(D t al)) w→Calls Tryz.prog 102 #[pt_ po,pt_ pa,pt_ pt,pt_ pb,pt_ pp] w fun en w'=>∃ (os':List Int) (g' cap':Nat) (cur':Array Value) (al':α),en=.returned (.bool (shS a b step m os t).2)∧okD (shS a b step m os t).1 al'∧((shS a b step m os t).2=true→os'=os)∧(cur'.size=cap'*1∧os'.length≤cap'∧cur'.toList.take os'.length=ints os')∧Own B w0 (bk_ pp #[.func (.func 102) #[] #[pt_ po,pt_ pa,pt_ pt,pt_ pb,pt_ pp]] 68::bk_ po #[sl_ g' os'.length cap'] 25::bk_ g' cur' 3::bk_ pt #[.func (.func tf) #[] tcap] 72::bk_ pb #[i6_ b.n,str b.set,str b.rel] 24::bk_ pa #[i6_ a.n,str a.set,str a.rel] 24::(D (shS a b step m os t).1 al')) w'
  | 0,os,t,al,g,cap,cur,w,h1,h2,h3,h4,h5,h6,h7,hw=>place_zero a b D okD step tf tcap B w0 hcf hT ha hb hn pp po pt pb pa os t al g cap cur w h1 h2 h3 h4 h5 h6 h7 hw
  | m+1,os,t,al,g,cap,cur,w,h1,h2,h3,h4,h5,h6,h7,hw=>place_of a b D okD step tf tcap B w0 hcf hT ha hb hn pp po pt pb pa m (place_ok a b D okD step tf tcap B w0 hcf hT ha hb hn pp po pt pb pa m) os t al g cap cur w h1 h2 h3 h4 h5 h6 h7 hw
set_option maxHeartbeats 400000 in
/-- impl.eachShape -/
theorem eachShape_ok (a b:St) {τ α:Type} (D:τ→α→List (Nat×Obj)) (okD:τ→α→Prop) (step:List Int→τ→τ×Bool) (tf:FuncId) (tcap:Array Value) (B:Nat) (w0:World) (hcf:∀ args w,(callFunc tf args).run Tryz.prog w=.ok (.enter tf args) w) (hT:Tells Tryz.prog tf tcap a b B w0 D okD step) (ha:a.Fine) (hb:b.Fine) (hn:a.n=b.n) (t:τ) (al:α) (w:World) (hok:okD t al) (hw:Own B w0 (D t al) w) :
    Calls Tryz.prog 53 [vS a,vS b,.func (.func tf) #[] tcap].toArray w fun en w'=>∃ al':α,en=.returned (.tuple #[])∧okD (shS a b step a.n.toNat [] t).1 al'∧Own B w0 (D (shS a b step a.n.toNat [] t).1 al') w':=by
 refine fnStartC (Own B w0 (D t al)) (n:=12) (e:=[(0,vS a),(1,vS b),(2,.func (.func tf) #[] tcap)]) Tryz.func53 rfl rfl rfl rfl Ends.both hw ?_;refine zE (qF (yU (v:=vS a) rfl rfl rfl rfl rfl fun p3 hp3=>?_))
 show Ll _ _ (Own _ _ (_::((D t al)))) _ _ ((3,pt_ p3)::_) _ _ _;refine yU (v:=vS b) rfl rfl rfl rfl rfl fun p4 hp4=>?_
 show Ll _ _ (Own _ _ (_::_::((D t al)))) _ _ ((4,pt_ p4)::_) _ _ _;refine yU (v:=.func (.func tf) #[] tcap) rfl rfl rfl rfl rfl fun p5 hp5=>?_
 show Ll _ _ (Own _ _ (_::_::_::((D t al)))) _ _ ((5,pt_ p5)::_) _ _ _;refine zG (zD [3,4,5] [_,_,_] rfl ?_);refine zE (qF (yS (xs:=[]) (vs:=[]) yK rfl rfl rfl rfl rfl rfl (by decide) rfl fun p8 hp8=>?_));refine jF rfl rfl rfl rfl Tryz.zeroValue25 fun p6 hp6=>?_
 show Ll _ _ (Own _ _ (bk_ p6 #[.slice none 0 0] 25::_::_::_::_::((D t al)))) _ _ ((6,pt_ p6)::_) _ _ _;refine qM (v:=sl_ p8 0 0) (hs':=(bk_ p6 #[sl_ p8 0 0] 25::_::_::_::_::((D t al)))) 0 rfl rfl rfl rfl rfl rfl uB rfl (by simp) rfl ?_;refine zG (zD [3,4,5,6] [_,_,_,_] rfl ?_);refine zE (qF (jF rfl rfl rfl rfl Tryz.zeroValue68 fun p7 hp7=>?_))
 show Ll _ _ (Own _ _ (bk_ p7 #[.nilFunc] 68::_::_::_::_::_::((D t al)))) _ _ ((7,pt_ p7)::_) _ _ _;refine zG (zD [3,4,5,6,7] [_,_,_,_,_] rfl ?_);refine zE (qF (zU (v:=.func (.func 102) #[] #[pt_ p6,pt_ p3,pt_ p5,pt_ p4,pt_ p7]) rfl rfl rfl (OpQ.func' (cap:=[.tmp 6,.tmp 3,.tmp 5,.tmp 4,.tmp 7]) rfl rfl) ?_));refine qM (v:=.func (.func 102) #[] #[pt_ p6,pt_ p3,pt_ p5,pt_ p4,pt_ p7]) (hs':=(bk_ p7 #[.func (.func 102) #[] #[pt_ p6,pt_ p3,pt_ p5,pt_ p4,pt_ p7]] 68::_::_::_::_::_::((D t al)))) 0 rfl rfl rfl rfl rfl rfl Tryz.sizeOf68 rfl (by simp) rfl ?_;refine zG (zD [7] [_] rfl ?_);refine qF (zU rfl rfl rfl (zP 0 rfl Tryz.isAgg68 rfl rfl rfl) ?_);refine Ll.callFnGet (σ:=List Int×Nat×Nat×Array Value×α) (ok:=fun (os',_,cap',cur',al')=>okD (shS a b step a.n.toNat [] t).1 al') (v:=fun _=>.bool (shS a b step a.n.toNat [] t).2) (hs':=fun (os',g',cap',cur',al')=>(bk_ p7 #[.func (.func 102) #[] #[pt_ p6,pt_ p3,pt_ p5,pt_ p4,pt_ p7]] 68::bk_ p6 #[sl_ g' os'.length cap'] 25::bk_ g' cur' 3::bk_ p5 #[.func (.func tf) #[] tcap] 72::bk_ p4 #[i6_ b.n,str b.set,str b.rel] 24::bk_ p3 #[i6_ a.n,str a.set,str a.rel] 24::(D (shS a b step a.n.toNat [] t).1 al'))) (xs:=[]) (vs:=[]) rfl rfl rfl rfl rfl Tryz.call102 rfl (fun w1 hw1=>(place_ok a b D okD step tf tcap B w0 hcf hT ha hb hn p7 p6 p5 p4 p3 a.n.toNat [] t al p8 0 #[] w1 (by simp) (fun x hx=>by cases hx) rfl hok rfl (Nat.le_refl 0) rfl hw1).mono fun en w' ⟨os',g',cap',cur',al',h1,h2,h3,h4,h5⟩=>⟨(os',g',cap',cur',al'),h1,h2,h5⟩) fun ⟨os9,g9,cap9,cur9,al11⟩ hok9=>?_
 show Ll _ _ (Own _ _ (_::_::_::_::_::_::((D (shS a b step a.n.toNat [] t).1 al11)))) _ _ ((11,bo_ ((shS a b step a.n.toNat [] t).2))::_) _ _ _;refine zG ((Kt.end0 rfl fun w' hw=>?_))
 exact ⟨al11,rfl,hok9,qI (f:=[_,_,_,_,_,_]) hw⟩
set_option maxHeartbeats 400000 in
/-- impl.SameShape$1 -/
theorem keepFirst_ok (B:Nat) (w0:World) (pf:Nat) (fv:Value) (fr:List (Nat×Obj)) (v:Value) (os:List Int) (w:World) (hva:∀ w,Own B w0 ((pf,.cells #[fv] 25 (0,0))::fr) w→Ints w v os) (hs:os.length≤8) (hw:Own B w0 ((pf,.cells #[fv] 25 (0,0))::fr) w) :
    Calls Tryz.prog 54 [v,pt_ pf].toArray w fun en w'=>∃ g c:Nat,en=.returned (.bool false)∧Own B w0 ((pf,.cells #[.slice (some ⟨g,0,none⟩) os.length c] 25 (0,0))::fr) w':=by
 refine fnStartC (Own B w0 ((pf,.cells #[fv] 25 (0,0))::fr)) (n:=7) (e:=[(0,v),(1,pt_ pf)]) Tryz.func54 rfl rfl rfl rfl Ends.both hw ?_;refine zE (zB (zC 1 rfl (zJ (zD [0,1] [_,_] rfl ?_))));refine zE (qF (yS (xs:=[]) (vs:=[]) yK rfl rfl rfl rfl rfl rfl (by decide) rfl fun p4 hp4=>?_));refine qJ 1 rfl (xL (xs:=[]) (ys:=os) yK 0 rfl rfl rfl rfl rfl rfl rfl rfl (by decide) rfl (fun w1 hw1=>(hva _ (qI (f:=[_]) hw1))) ((os).length) (by first | (simp;done) | (simp;omega)) (by first | (simp;done) | (simp;omega) | omega) fun p6 cap6 cur6 hp6 hcp6 hlp6 htp6=>?_)
 show Ll _ _ (Own _ _ (_::_::fr)) _ _ ((6,sl_ p6 (((os).length)) cap6)::_) _ _ _;refine qM (v:=sl_ p6 (((os).length)) cap6) (hs':=(_::bk_ pf #[sl_ p6 (((os).length)) cap6] 25::fr)) 1 rfl rfl rfl rfl rfl rfl uB rfl (by simp) rfl ?_;refine zG (zD [] [] rfl ?_);refine zE (zB (zC 1 rfl (zJ (zD [3] [_] rfl ?_))));refine qL (qS rfl rfl fun w' hw=>?_)
 exact ⟨p6,cap6,rfl,hw.sub (qD _ (zA _ (qB _)))⟩
theorem keepTells (a b:St) (B:Nat) (w0:World) (pf:Nat) (rest:List (Nat×Obj)) (hn:a.n≤8):Tells Tryz.prog 54 #[.pointer (some ⟨pf,0,none⟩)] a b B w0 (fun (o:Option (List Int)) (al:Nat×Nat)=>(pf,.cells #[fndV o al] 25 (0,0))::rest) (fun _ _=>True) keepStep:=by
  intro fr v os t al w _ hv hl _ _ hw
  refine (keepFirst_ok B w0 pf (fndV t al) (fr++rest) v os w (fun w h=>hv w (yZ (qI (f:=[_]) h))) (by omega) (hw.perm List.perm_middle)).mono fun en w' ⟨g,c,h1,h2⟩=>?_
  exact ⟨(g,c),h1,trivial,h2.perm List.perm_middle.symm⟩
set_option maxHeartbeats 400000 in
/-- impl.SameShape -/
theorem iShape_ok (a b:St) (w:World) (hsa:a.Small) (hsb:b.Small) :
    Calls Tryz.prog 22 [vS a,vS b].toArray w fun en w'=>∃ (v:Value) (y:Bool),en=.returned (.tuple #[v,.bool y])∧(y=true→Shaped a b)∧Below w.heap.size w w':=by
 refine fnStart (n:=29) (e:=[(0,vS a),(1,vS b)]) Tryz.func22 rfl rfl rfl rfl Ends.both ?_;refine zE (qF (yU (v:=vS a) rfl rfl rfl rfl rfl fun p2 hp2=>?_))
 show Ll _ _ (Own _ _ [_]) _ _ ((2,pt_ p2)::_) _ _ _;refine yU (v:=vS b) rfl rfl rfl rfl rfl fun p3 hp3=>?_
 show Ll _ _ (Own _ _ [_,_]) _ _ ((3,pt_ p3)::_) _ _ _;refine qJ 2 rfl (zG (zD [2,3] [_,_] rfl ?_));refine zE (zE (zB (zL rfl rfl rfl (zV (cs:=#[i6_ a.n,str a.set,str a.rel]) 1 rfl zQ rfl rfl zO) ?_)));refine zL (v:=bo_ (validB a)) rfl rfl rfl (qH rfl Tryz.call50 rfl qC (fun w1 hw1=>isStructure_ok a w1 hsa)) ?_;refine zC 2 rfl (xD fun b10 hg10=>?_)
 cases b10
 ·
  replace hg10:=not_false hg10;refine zL rfl rfl rfl (zV (cs:=#[i6_ b.n,str b.set,str b.rel]) 0 rfl zQ rfl rfl zO) ?_;refine zL (v:=bo_ (validB b)) rfl rfl rfl (qH rfl Tryz.call50 rfl qC (fun w1 hw1=>isStructure_ok b w1 hsb)) ?_;refine zC 3 rfl (xD fun b15 hg15=>?_)
  cases b15
  ·
   replace hg15:=not_false hg15;refine zL rfl rfl rfl (zF rfl zY rfl zK rfl rfl) ?_;refine zL rfl rfl rfl (zP 1 rfl zW rfl rfl rfl) ?_;refine zL rfl rfl rfl (zF rfl zY rfl zK rfl rfl) ?_;refine zL rfl rfl rfl (zP 0 rfl zW rfl rfl rfl) ?_;refine zC 2 rfl (zJ (zD [2,3,21] [_,_,_] rfl ?_));refine qK (b:=!(decide (a.n=b.n))) rfl (fun h21=>?_) (fun h21=>?_)
   ·
    replace h21:=not_true h21
    replace h21:=zM h21;refine zE (zB (zC 2 rfl (zJ (zD [4,5] [_,_] rfl ?_))));refine qL (xY rfl rfl rfl fun w' hw=>?_)
    exact ⟨_,false,rfl,(fun (h:false=true)=>nomatch h),hw.below⟩
   replace h21:=not_false h21
   replace h21:=zN h21
   have hva:validB a=true:=by simp_all
   have hvb:validB b=true:=by simp_all
   have ha:=validB_fine hva
   have hb:=validB_fine hvb
   have hn:a.n=b.n:=by omega
   refine qU (zD [2,3] [_,_] rfl ?_);refine zE (qF (jF rfl rfl rfl rfl Tryz.zeroValue25 fun p6 hp6=>?_))
   show Ll _ _ (Own _ _ [bk_ p6 #[.slice none 0 0] 25,_,_]) _ _ ((6,pt_ p6)::_) _ _ _;refine zG (zD [2,3,6] [_,_,_] rfl ?_);refine zE (qF (zU rfl rfl rfl (zV (cs:=#[i6_ a.n,str a.set,str a.rel]) 2 rfl zQ rfl rfl zO) ?_));refine zU rfl rfl rfl (zV (cs:=#[i6_ b.n,str b.set,str b.rel]) 1 rfl zQ rfl rfl zO) ?_;refine zU (v:=.func (.func 54) #[] #[pt_ p6]) rfl rfl rfl (OpQ.func' (cap:=[.tmp 6]) rfl rfl) ?_;refine vL (σ:=Nat×Nat) (ok:=fun _=>True) (v:=fun _=>.tuple #[]) (hs':=fun al=>(p6,.cells #[fndV (shS a b keepStep a.n.toNat [] none).1 al] 25 (0,0))::([bk_ p3 #[i6_ b.n,str b.set,str b.rel] 24,bk_ p2 #[i6_ a.n,str a.set,str a.rel] 24]:List (Nat×Obj))) (xs:=[.tmp 22,.tmp 23,.tmp 24]) (vs:=[vS a,vS b,.func (.func 54) #[] #[pt_ p6]]) rfl rfl rfl rfl Tryz.call53 rfl (fun w1 hw1=>(eachShape_ok a b (fun (o:Option (List Int)) (al:Nat×Nat)=>(p6,.cells #[fndV o al] 25 (0,0))::([bk_ p3 #[i6_ b.n,str b.set,str b.rel] 24,bk_ p2 #[i6_ a.n,str a.set,str a.rel] 24]:List (Nat×Obj))) (fun _ _=>True) keepStep 54 #[.pointer (some ⟨p6,0,none⟩)] _ _ Tryz.call54 (keepTells a b _ _ p6 ([bk_ p3 #[i6_ b.n,str b.set,str b.rel] 24,bk_ p2 #[i6_ a.n,str a.set,str a.rel] 24]:List (Nat×Obj)) ha.hi) ha hb hn none (0,0) w1 trivial hw1).mono fun en w' ⟨al,h1,_,h2⟩=>⟨al,h1,trivial,h2⟩) fun al _=>?_
   show Ll _ _ (Own _ _ [_,_,_]) _ _ _ _ _ _;refine zG (zD [6] [_] rfl ?_);refine zE (jU yH (fun _ h=>h.drawn) (by kernel_rfl) ?_);refine zL rfl rfl rfl (zP 0 rfl jZ rfl rfl rfl) ?_;refine zL rfl rfl rfl (zP 0 rfl jZ rfl rfl rfl) ?_;refine zL (v:=bo_ (!((shS a b keepStep a.n.toNat [] none).1.map fun _=>(⟨al.1,0,none⟩:Addr)).isNone)) rfl rfl rfl (OpQ.neNilS rfl Tryz.underlying25 rfl rfl) ?_;refine zC 2 rfl (zJ (zD [4,5] [_,_] rfl ?_));refine qL (xY rfl rfl rfl fun w' hw=>?_)
   exact ⟨_,(!((shS a b keepStep a.n.toNat [] none).1.map fun _=>(⟨al.1,0,none⟩:Addr)).isNone),rfl,fun h=>keep_shaped ha hb h hn,hw.below⟩
  replace hg15:=not_true hg15;refine zS rfl rfl rfl (zS rfl rfl rfl (zS rfl rfl rfl (zS rfl rfl rfl (zS rfl rfl rfl (zC 1 rfl (zJ (zD [2,3,21] [_,_,_] rfl ?_)))))));refine xH rfl ?_;refine zE (zB (zC 2 rfl (zJ (zD [4,5] [_,_] rfl ?_))));refine qL (xY rfl rfl rfl fun w' hw=>?_)
  exact ⟨_,false,rfl,(fun (h:false=true)=>nomatch h),hw.below⟩
 replace hg10:=not_true hg10;refine zS rfl rfl rfl (zS rfl rfl rfl (zS rfl rfl rfl (zC 2 rfl ?_)));refine zS rfl rfl rfl (zS rfl rfl rfl (zS rfl rfl rfl (zS rfl rfl rfl (zS rfl rfl rfl (zC 1 rfl (zJ (zD [2,3,21] [_,_,_] rfl ?_)))))));refine xH rfl ?_;refine zE (zB (zC 2 rfl (zJ (zD [4,5] [_,_] rfl ?_))));refine qL (xY rfl rfl rfl fun w' hw=>?_)
 exact ⟨_,false,rfl,(fun (h:false=true)=>nomatch h),hw.below⟩
end Go.Proofs.YtefiibghfgfdnaaGreatDoor
namespace Go.Proofs
open Go.Shelf
def Tryz.lays137_ren : Go.Shelf.Ren := ⟨fun | 137 => 141 | 217 => 163 | 266 => 177 | n => n, fun | 9 => 9 | 5 => 5 | 3 => 3 | n => n, fun | n => n⟩
theorem Tryz.lays137 : Go.Proofs.Lays.n137 Tryz.prog Tryz.lays137_ren := {
  mixed := by kernel_rfl
  f137 := Tryz.func141.trans (congrArg some (by kernel_rfl))
  f217 := Tryz.func163.trans (congrArg some (by kernel_rfl))
  f266 := Tryz.func177.trans (congrArg some (by kernel_rfl))
  t3 := Tryz.underlying3
  a3 := Tryz.isAgg3
  z3 := Tryz.sizeOf3
  v3 := Tryz.zeroValue3
  t5 := Tryz.underlying5
  a5 := Tryz.isAgg5
  z5 := Tryz.sizeOf5
  v5 := Tryz.zeroValue5
  t9 := Tryz.underlying9
  a9 := Tryz.isAgg9
  z9 := Tryz.sizeOf9
  v9 := Tryz.zeroValue9 }
open Go.RowKit in
theorem Tryz.strings_IndexByte (s : ByteArray) (c : Int) (w : World) :
    Calls Tryz.prog 141 #[.string s, .int .u8 c] w fun e w' => e = .returned (.int .i64 (Lib.indexByte s.data.toList c.toNat.toUInt8)) ∧ w' = w := Any.strings_IndexByte Tryz.lays137 s c w
def Tryz.lays144_ren : Go.Shelf.Ren := ⟨fun | 144 => 140 | 143 => 162 | 219 => 176 | 217 => 163 | 225 => 182 | 224 => 183 | 267 => 184 | 266 => 177 | 314 => 188 | n => n, fun | 9 => 9 | 4 => 4 | 3 => 3 | 5 => 5 | 46 => 120 | 146 => 185 | 51 => 184 | n => n, fun | 1 => 0 | n => n⟩
theorem Tryz.lays144 : Go.Proofs.Lays.n144 Tryz.prog Tryz.lays144_ren := {
  mixed := by kernel_rfl
  f143 := Tryz.func162.trans (congrArg some (by kernel_rfl))
  f144 := Tryz.func140.trans (congrArg some (by kernel_rfl))
  f217 := Tryz.func163.trans (congrArg some (by kernel_rfl))
  f219 := Tryz.func176.trans (congrArg some (by kernel_rfl))
  f224 := Tryz.func183.trans (congrArg some (by kernel_rfl))
  f225 := Tryz.func182.trans (congrArg some (by kernel_rfl))
  f266 := Tryz.func177.trans (congrArg some (by kernel_rfl))
  f267 := Tryz.func184.trans (congrArg some (by kernel_rfl))
  f314 := Tryz.func188.trans (congrArg some (by kernel_rfl))
  t3 := Tryz.underlying3
  a3 := Tryz.isAgg3
  z3 := Tryz.sizeOf3
  v3 := Tryz.zeroValue3
  t4 := Tryz.underlying4
  a4 := Tryz.isAgg4
  z4 := Tryz.sizeOf4
  v4 := Tryz.zeroValue4
  t5 := Tryz.underlying5
  a5 := Tryz.isAgg5
  z5 := Tryz.sizeOf5
  v5 := Tryz.zeroValue5
  t9 := Tryz.underlying9
  a9 := Tryz.isAgg9
  z9 := Tryz.sizeOf9
  v9 := Tryz.zeroValue9
  t46 := Tryz.underlying120
  a46 := Tryz.isAgg120
  z46 := Tryz.sizeOf120
  v46 := Tryz.zeroValue120
  t51 := Tryz.underlying184
  a51 := Tryz.isAgg184
  z51 := Tryz.sizeOf184
  v51 := Tryz.zeroValue184
  t146 := Tryz.underlying185
  a146 := Tryz.isAgg185
  z146 := Tryz.sizeOf185
  v146 := Tryz.zeroValue185
  g1 := by kernel_rfl }
open Go.RowKit Go.Lib in
theorem Tryz.strings_Contains_one (s : ByteArray) (c : UInt8) (w : World) :
    Calls Tryz.prog 140 #[.string s, .string ⟨#[c]⟩] w fun e w' => e = .returned (.bool (decide (0 ≤ Lib.indexByte s.data.toList c))) ∧ w' = w := Any.strings_Contains_one Tryz.lays144 s c w
end Go.Proofs
