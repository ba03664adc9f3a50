/-
  FnPlayGame: all that its proof names (part 3)
-/
import Derived.Test.YteccfipfimbdgaaDoorKFnPlayGameb
import Derived.Test.YteccfipfimbdgaaDoorKFnPlayGamea
import Derived.Laws.Cover3
import Derived.LoopN
import Derived.Lib.Bytealg
import Derived.LaidEqlPtr
namespace Go.Wk
open Go.RowKit
theorem cut_first:∀ l:List UInt8,∃ p,(l=p∧cutL l=[p])∨∃ l',l=p++32::l'∧cutL l=p::cutL l'
  | []=>⟨[],.inl ⟨rfl,rfl⟩⟩
  | b::l=>by
    by_cases h:b=32
    · subst h
      exact ⟨[],.inr ⟨l,rfl,by unfold cutL;rw [cutGo,if_pos rfl]⟩⟩
    · obtain ⟨p,hp⟩:=cut_first l
      obtain ⟨q,r,h1,h2⟩:=cutGo_pre l [b]
      have e:cutL (b::l)=([b]++q)::r:=by unfold cutL;rw [cutGo,if_neg h];exact h2
      rcases hp with ⟨h3,h4⟩ | ⟨l',h3,h4⟩
      · unfold cutL at h4;rw [h1] at h4
        injection h4 with h5 h6
        subst h5;subst h6
        exact ⟨b::l,.inl ⟨rfl,by rw [e,← h3];rfl⟩⟩
      · unfold cutL at h4;rw [h1] at h4
        injection h4 with h5 h6
        exact ⟨b::p,.inr ⟨l',by rw [h3];rfl,by rw [e,h5,h6];rfl⟩⟩
theorem cut_places:∀ (n:Nat) (l:List UInt8),l.length≤n→(∀ p∈cutL l,p.length=2)→l.length+1=3*(cutL l).length∧∀ i:Nat,i<(cutL l).length→∀ j:Nat,j<2→l.getD (3*i+j) 0=((cutL l).getD i []).getD j 0
  | n,l,hn,h=>by
    obtain ⟨p,⟨h1,h2⟩ | ⟨l',h1,h2⟩⟩:=cut_first l
    · rw [h2] at h ⊢
      have hp:=h p (by simp)
      subst h1
      refine ⟨by simp;omega,fun i hi j hj=>?_⟩
      obtain rfl:i=0:=by simp at hi;omega
      simp
    · rw [h2] at h ⊢
      have hp:=h p (by simp)
      have hl:l.length=2+(l'.length+1):=by rw [h1,List.length_append,List.length_cons,hp]
      match n,hn with
      | 0,hn=>omega
      | n+1,hn =>
        obtain ⟨h3,h4⟩:=cut_places n l' (by omega) fun q hq=>h q (List.mem_cons_of_mem _ hq)
        refine ⟨by rw [List.length_cons];omega,fun i hi j hj=>?_⟩
        cases i with
        | zero =>
          rw [h1,List.getD_cons_zero,List.getD_eq_getElem?_getD,List.getElem?_append_left (by omega),← List.getD_eq_getElem?_getD]
          rw [Nat.mul_zero,Nat.zero_add]
        | succ i =>
          rw [List.length_cons] at hi
          rw [List.getD_cons_succ,← h4 i (by omega) j hj,h1,List.getD_eq_getElem?_getD,List.getElem?_append_right (by omega),hp,show 3*(i+1)+j - 2=3*i+j+1 by omega,List.getElem?_cons_succ,← List.getD_eq_getElem?_getD]
theorem moves_places {n m:Int} {s:List UInt8} (h:movesB n m s=true):((s.length:Int)+1) / 3=((movesL s).length:Int)∧∀ i:Nat,i<(movesL s).length→3*i+2≤s.length∧∀ j:Nat,j<2→s.getD (3*i+j) 0=((movesL s).getD i []).getD j 0:=by
  unfold movesB at h
  unfold movesL
  by_cases e:s=[]
  · subst e
    rw [if_pos rfl]
    exact ⟨rfl,fun i hi=>by simp at hi⟩
  · rw [decide_eq_false e,Bool.false_or,Bool.and_eq_true,List.all_eq_true] at h
    rw [if_neg e]
    obtain ⟨h1,h2⟩:=cut_places s.length s (Nat.le_refl _) fun p hp=>(move_parts (h.1 p hp)).1
    exact ⟨by omega,fun i hi=>⟨by omega,h2 i hi⟩⟩
theorem snoc_at {xs:List Int} {x:Int} {i:Nat} (h:i<xs.length):(xs++[x]).getD i 0=xs.getD i 0:=by
 rw [List.getD_eq_getElem?_getD,List.getElem?_append_left h,← List.getD_eq_getElem?_getD]
theorem snoc_last {xs:List Int} {x:Int} {i:Nat} (h:i=xs.length):(xs++[x]).getD i 0=x:=by
 subst h
 rw [List.getD_eq_getElem?_getD,List.getElem?_append_right (Nat.le_refl _)];simp
theorem play_keeps {a b:St}:∀ (l:List (List UInt8)) (xs ys:List Int),xs.length=ys.length →
    (∀ i:Nat,i<xs.length→(playGo a b l xs ys).1.getD i 0=xs.getD i 0∧(playGo a b l xs ys).2.1.getD i 0=ys.getD i 0) ∧
    ∀ j:Nat,j<l.length→xs.length+j<(playGo a b l xs ys).1.length→xs.length+j<(playGo a b l xs ys).2.1.length →
      ((((l.getD j []).getD 0 0).toNat:Int)=97→(playGo a b l xs ys).1.getD (xs.length+j) 0=mvE (l.getD j []))∧(¬ (((l.getD j []).getD 0 0).toNat:Int)=97→(playGo a b l xs ys).2.1.getD (xs.length+j) 0=mvE (l.getD j []))
  | [],xs,ys,_=>⟨fun i hi=>⟨rfl,rfl⟩,fun j hj=>absurd hj (by simp)⟩
  | m::l,xs,ys,hl=>by
    by_cases h:((m.getD 0 0).toNat:Int)=97
    · cases hb:bestO l.length a xs b ys (mvE m) with
      | none =>
        rw [play_a' h hb]
        exact ⟨fun i hi=>⟨snoc_at hi,rfl⟩,fun j hj h1 h2=>absurd h2 (by dsimp only;omega)⟩
      | some y =>
        rw [play_a h hb]
        obtain ⟨k1,k2⟩:=play_keeps l (xs++[mvE m]) (ys++[(y:Int)]) (by simp [hl])
        rw [List.length_append,List.length_singleton] at k1 k2
        refine ⟨fun i hi=>?_,fun j hj h1 h2=>?_⟩
        · obtain ⟨e1,e2⟩:=k1 i (by omega)
          exact ⟨by rw [e1,snoc_at hi],by rw [e2,snoc_at (by omega)]⟩
        · cases j with
          | zero =>
            obtain ⟨e1,e2⟩:=k1 xs.length (by omega)
            rw [List.getD_cons_zero]
            exact ⟨fun _=>by rw [Nat.add_zero,e1,snoc_last rfl],fun hn=>absurd h hn⟩
          | succ j =>
            rw [List.getD_cons_succ,show xs.length+(j+1)=xs.length+1+j by omega]
            rw [show xs.length+(j+1)=xs.length+1+j by omega] at h1 h2
            exact k2 j (by simpa using hj) h1 h2
    · cases hb:bestO l.length b ys a xs (mvE m) with
      | none =>
        rw [play_b' h hb]
        exact ⟨fun i hi=>⟨rfl,snoc_at (by omega)⟩,fun j hj h1 h2=>absurd h1 (by dsimp only;omega)⟩
      | some y =>
        rw [play_b h hb]
        obtain ⟨k1,k2⟩:=play_keeps l (xs++[(y:Int)]) (ys++[mvE m]) (by simp [hl])
        rw [List.length_append,List.length_singleton] at k1 k2
        refine ⟨fun i hi=>?_,fun j hj h1 h2=>?_⟩
        · obtain ⟨e1,e2⟩:=k1 i (by omega)
          exact ⟨by rw [e1,snoc_at hi],by rw [e2,snoc_at (by omega)]⟩
        · cases j with
          | zero =>
            obtain ⟨e1,e2⟩:=k1 xs.length (by omega)
            rw [List.getD_cons_zero]
            exact ⟨fun hn=>absurd hn h,fun _=>by rw [Nat.add_zero,e2,snoc_last hl]⟩
          | succ j =>
            rw [List.getD_cons_succ,show xs.length+(j+1)=xs.length+1+j by omega]
            rw [show xs.length+(j+1)=xs.length+1+j by omega] at h1 h2
            exact k2 j (by simpa using hj) h1 h2
theorem rep_still {n y:Nat} {a b:St} {xs ys:List Int} {x:Int} (h:rep (goB n) a xs b ys x=some y):stillB a xs b ys x (y:Int)=true∧goB n a (xs++[x]) b (ys++[(y:Int)])=true:=by
  unfold rep at h
  split at h
  · have:=List.find?_some h
    simpa using this
  · cases h
theorem best_still {n y:Nat} {a b:St} {xs ys:List Int} {x:Int} (h:bestO n a xs b ys x=some y):stillB a xs b ys x (y:Int)=true:=by
 unfold bestO at h
 cases e:rep (goB n) a xs b ys x with
 | some z=>rw [e] at h;injection h with h;subst h;exact (rep_still e).1
 | none=>rw [e,Option.none_or] at h;simpa using List.find?_some h
theorem same_snoc {n y:Nat} {a b:St} {xs ys:List Int} {x:Int} (hl:xs.length=ys.length) (h:sameB a xs b ys=true) (hb:bestO n a xs b ys x=some y):sameB a (xs++[x]) b (ys++[(y:Int)])=true:=by
 rw [same_more hl,h,best_still hb];rfl
theorem move_el {a b:St} {m:List UInt8} (h:moveB a.n b.n m=true):(((m.getD 0 0).toNat:Int)=97→a.El (mvE m))∧(¬ ((m.getD 0 0).toNat:Int)=97→b.El (mvE m)):=by
 obtain ⟨h1,h2,h3,h4,h5⟩:=move_parts h
 unfold mvE
 exact ⟨fun e=>⟨by omega,h4 e⟩,fun e=>⟨by omega,h5 (by omega)⟩⟩
theorem play_ends {a b:St} (ha:a.Fine) (hb:b.Fine):∀ (l:List (List UInt8)) (xs ys:List Int),(∀ p∈l,moveB a.n b.n p=true)→xs.length=ys.length→a.Els xs→b.Els ys→sameB a xs b ys=true →
    ((playGo a b l xs ys).2.2=true→(playGo a b l xs ys).1.length=xs.length+l.length∧(playGo a b l xs ys).2.1.length=xs.length+l.length∧a.Els (playGo a b l xs ys).1∧b.Els (playGo a b l xs ys).2.1∧sameB a (playGo a b l xs ys).1 b (playGo a b l xs ys).2.1=true) ∧
    ((playGo a b l xs ys).2.2=false→¬ (playGo a b l xs ys).1.length=(playGo a b l xs ys).2.1.length∧winB l.length a xs b ys=false)
  | [],xs,ys,_,hl,hA,hB,hs=>⟨fun _=>⟨rfl,hl.symm,hA,hB,hs⟩,fun h=>by cases h⟩
  | m::l,xs,ys,hv,hl,hA,hB,hs=>by
    have hm:=move_el (hv m (by simp))
    have hv':∀ p∈l,moveB a.n b.n p=true:=fun p hp=>hv p (List.mem_cons_of_mem _ hp)
    by_cases h:((m.getD 0 0).toNat:Int)=97
    · have hx:=hm.1 h
      cases hbo:bestO l.length a xs b ys (mvE m) with
      | none =>
        rw [play_a' h hbo]
        refine ⟨fun h=>(by cases h),fun _=>⟨by dsimp only;rw [List.length_append,List.length_singleton];omega,?_⟩⟩
        cases hw:winB (l.length+1) a xs b ys with
        | false=>rfl
        | true =>
          unfold winB at hw
          rw [Bool.and_eq_true,goB,Bool.and_eq_true,List.all_eq_true] at hw
          have h9:=hw.2.1 (mvE m).toNat (List.mem_range.2 (by have:=hx.1;have:=hx.2;omega))
          rw [Int.toNat_of_nonneg hx.1] at h9
          unfold bestO at hbo
          obtain ⟨z,hz⟩:=Option.isSome_iff_exists.1 h9
          rw [hz] at hbo;cases hbo
      | some y =>
        rw [play_a h hbo]
        obtain ⟨k1,k2⟩:=play_ends ha hb l (xs++[mvE m]) (ys++[(y:Int)]) hv' (by simp [hl]) (els_more hA hx) (els_more hB (best_el hb hbo)) (same_snoc hl hs hbo)
        rw [List.length_append,List.length_singleton] at k1
        refine ⟨fun e=>?_,fun e=>⟨(k2 e).1,?_⟩⟩
        · obtain ⟨e1,e2,e3⟩:=k1 e
          exact ⟨by rw [e1,List.length_cons];omega,by rw [e2,List.length_cons];omega,e3⟩
        · cases hw:winB (l.length+1) a xs b ys with
          | false=>rfl
          | true =>
            unfold winB at hw
            rw [Bool.and_eq_true,goB,Bool.and_eq_true,List.all_eq_true] at hw
            have h9:=hw.2.1 (mvE m).toNat (List.mem_range.2 (by have:=hx.1;have:=hx.2;omega))
            rw [Int.toNat_of_nonneg hx.1] at h9
            obtain ⟨z,hz⟩:=Option.isSome_iff_exists.1 h9
            have hbz:=best_some hz
            rw [hbo] at hbz
            injection hbz with hbz
            subst hbz
            have h8:=(k2 e).2
            unfold winB at h8
            rw [same_snoc hl hs hbo,(rep_still hz).2] at h8
            cases h8
    · have hx:=hm.2 h
      have hs':sameB b ys a xs=true:=by rw [sameB_comm hl.symm];exact hs
      cases hbo:bestO l.length b ys a xs (mvE m) with
      | none =>
        rw [play_b' h hbo]
        refine ⟨fun h=>(by cases h),fun _=>⟨by dsimp only;rw [List.length_append,List.length_singleton];omega,?_⟩⟩
        cases hw:winB (l.length+1) a xs b ys with
        | false=>rfl
        | true =>
          unfold winB at hw
          rw [Bool.and_eq_true,goB,Bool.and_eq_true,List.all_eq_true,List.all_eq_true] at hw
          have h9:=hw.2.2 (mvE m).toNat (List.mem_range.2 (by have:=hx.1;have:=hx.2;omega))
          rw [Int.toNat_of_nonneg hx.1] at h9
          unfold bestO at hbo
          obtain ⟨z,hz⟩:=Option.isSome_iff_exists.1 h9
          rw [hz] at hbo;cases hbo
      | some y =>
        rw [play_b h hbo]
        have hsn:sameB a (xs++[(y:Int)]) b (ys++[mvE m])=true:=by rw [sameB_comm (by simp [hl])];exact same_snoc hl.symm hs' hbo
        obtain ⟨k1,k2⟩:=play_ends ha hb l (xs++[(y:Int)]) (ys++[mvE m]) hv' (by simp [hl]) (els_more hA (best_el ha hbo)) (els_more hB hx) hsn
        rw [List.length_append,List.length_singleton] at k1
        refine ⟨fun e=>?_,fun e=>⟨(k2 e).1,?_⟩⟩
        · obtain ⟨e1,e2,e3⟩:=k1 e
          exact ⟨by rw [e1,List.length_cons];omega,by rw [e2,List.length_cons];omega,e3⟩
        · cases hw:winB (l.length+1) a xs b ys with
          | false=>rfl
          | true =>
            unfold winB at hw
            rw [Bool.and_eq_true,goB,Bool.and_eq_true,List.all_eq_true,List.all_eq_true] at hw
            have h9:=hw.2.2 (mvE m).toNat (List.mem_range.2 (by have:=hx.1;have:=hx.2;omega))
            rw [Int.toNat_of_nonneg hx.1] at h9
            obtain ⟨z,hz⟩:=Option.isSome_iff_exists.1 h9
            have hbz:=best_some hz
            rw [hbo] at hbz
            injection hbz with hbz
            subst hbz
            have h8:=(k2 e).2
            have h7:winB l.length b (ys++[mvE m]) a (xs++[(y:Int)])=true:=by
              unfold winB;rw [same_snoc hl.symm hs' hbo,(rep_still hz).2];rfl
            rw [win_iff _ _ _ _ _ (by simp [hl])] at h7
            rw [(win_iff _ _ _ _ _ (by simp [hl])).2 (winP_comm _ _ _ _ _ (by simp [hl]) h7)] at h8
            cases h8
structure PlayLaw (a b:St) (s:List UInt8):Prop where
 va:validB a=true
 vb:validB b=true
 mv:movesB a.n b.n s=true
 l1:(playO a b s).1.length≤3
 l2:(playO a b s).2.1.length≤3
 rounds:((s.length:Int)+1) / 3=((movesL s).length:Int)
 few:(movesL s).length≤3
 place:∀ i:Nat,i<(movesL s).length→3*i+2≤s.length∧∀ j:Nat,j<2→s.getD (3*i+j) 0=((movesL s).getD i []).getD j 0
 head:∀ i:Nat,i<(movesL s).length→i<(playO a b s).1.length→i<(playO a b s).2.1.length→(((((movesL s).getD i []).getD 0 0).toNat:Int)=97→(playO a b s).1.getD i 0=mvE ((movesL s).getD i []))∧(¬ ((((movesL s).getD i []).getD 0 0).toNat:Int)=97→(playO a b s).2.1.getD i 0=mvE ((movesL s).getD i []))
 won:(playO a b s).2.2=[115,101,99,111,110,100]→wayB a (playO a b s).1 b (playO a b s).2.1=true∧(playO a b s).1.length=(movesL s).length
 lost:¬ (playO a b s).2.2=[115,101,99,111,110,100]→(playO a b s).2.2=[102,105,114,115,116]∧secB a [] b [] ((movesL s).length:Int)=false∧¬ (playO a b s).1.length=(playO a b s).2.1.length
theorem play_law {a b:St} {s:List UInt8} (h:¬ (playO a b s).2.2=[110,111]):PlayLaw a b s:=by
  cases hv:validB a&&validB b&&movesB a.n b.n s with
  | false=>rw [play_no hv] at h;exact absurd rfl h
  | true =>
    have h0:=hv
    simp only [Bool.and_eq_true] at h0
    obtain ⟨⟨hva,hvb⟩,hm⟩:=h0
    have ha:=validB_fine hva
    have hb:=validB_fine hvb
    obtain ⟨_,_,hf3,hmv⟩:=moves_fields hm ha.hi hb.hi
    obtain ⟨hr,hp⟩:=moves_places hm
    have hlen:=play_len hv
    have e:playO a b s=((playGo a b (movesL s) [] []).1,(playGo a b (movesL s) [] []).2.1,endS true (playGo a b (movesL s) [] []).2.2):=by unfold playO;rw [if_pos hv]
    have hk:=(play_keeps (a:=a) (b:=b) (movesL s) [] [] rfl).2
    have he:=play_ends ha hb (movesL s) [] [] hmv rfl (fun x hx=>by cases hx) (fun x hx=>by cases hx) rfl
    simp only [List.length_nil,Nat.zero_add] at hk he
    refine ⟨hva,hvb,hm,hlen.1,hlen.2,hr,hf3,hp,?_,?_,?_⟩
    · rw [e];exact hk
    · intro hw
      rw [e] at hw ⊢
      cases hq:(playGo a b (movesL s) [] []).2.2 with
      | false=>rw [hq] at hw;exact absurd (show ([102,105,114,115,116]:List UInt8)=[115,101,99,111,110,100] from hw) (by decide)
      | true =>
        obtain ⟨k1,k2,k3,k4,k5⟩:=he.1 hq
        refine ⟨?_,k1⟩
        have lb:∀ {c:St} {zs:List Int},validB c=true→c.Els zs→zs.length≤3→listB c zs=true:=fun {c zs} hc hz h3=>by
          unfold listB
          rw [hc,decide_eq_true (by omega),Bool.true_and,Bool.true_and,List.all_eq_true]
          exact fun x hx=>elB_true.2 (hz x hx)
        unfold wayB listsB
        dsimp only
        rw [lb hva k3 (by omega),lb hvb k4 (by omega),decide_eq_true (by omega),k5];rfl
    · intro hw
      rw [e] at hw ⊢
      cases hq:(playGo a b (movesL s) [] []).2.2 with
      | true=>rw [hq] at hw;exact absurd rfl hw
      | false =>
        obtain ⟨k1,k2⟩:=he.2 hq
        refine ⟨rfl,?_,k1⟩
        unfold secB
        rw [Int.toNat_natCast,k2,Bool.and_false]
theorem play_small (a b:St) (s:List UInt8):(playO a b s).1.length≤3∧(playO a b s).2.1.length≤3:=by
 cases hv:validB a&&validB b&&movesB a.n b.n s with
 | true=>exact play_len hv
 | false=>rw [play_no hv];exact ⟨by decide,by decide⟩
end Go.Wk
namespace Go.Proofs.YteccfipfimbdgaaDoor
open Go.RowKit Go.Wk
set_option linter.unusedSimpArgs false
set_option maxHeartbeats 400000 in
theorem sPlay_ok (a b:St) (s:List UInt8) (w:World) (hsa:a.Small) (hsb:b.Small) (hs:s.length≤1048576) (loa : -9223372036854775808≤a.n) (hia:a.n≤9223372036854775807) (lob : -9223372036854775808≤b.n) (hib:b.n≤9223372036854775807) :
    Calls Tryd.prog 14 [vS a,vS b,str s].toArray w fun en w'=>∃ v,en=.returned v∧Below w.heap.size w w'∧NewRowsZ w.heap.size 3 3 w' v (str (playO a b s).2.2) (playO a b s).1.length (ints (playO a b s).1) (playO a b s).2.1.length (ints (playO a b s).2.1):=by
 refine fnStart (n:=105) (e:=[(0,vS a),(1,vS b),(2,str s)]) Tryd.func14 Z Z Z Z Ends.both (zF (qD (yT (v:=vS a) Z Z Z Z Z fun p3 hp3=>?_)))
 show Ll _ _ (Own _ _ [_]) _ _ ((3,pt_ p3)::_) _ _ _;refine yT (v:=vS b) Z Z Z Z Z fun p4 hp4=>?_
 show Ll _ _ (Own _ _ [_,_]) _ _ ((4,pt_ p4)::_) _ _ _;refine qQ 2 Z (qC (v:=str ([])) Z (yV Z Z) (zL (zC [2,3,4] [_,_,_] Z (zF (qD (yS (xs:=[]) (vs:=[]) qS Z Z Z Z Z Z (by decide) Z fun p17 hp17=>(qQ 1 Z (zL (zC [2,3,4,9] [_,_,_,_] Z (zF (qD (yS (xs:=[]) (vs:=[]) qS Z Z Z Z Z Z (by decide) Z fun p18 hp18=>(qQ 1 Z (zL (zC [2,3,4,9,10] [_,_,_,_,_] Z (zF (zF (zB (zD Z (zU (cs:=#[i6_ a.n,str a.set,str a.rel]) 3 Z zP Z Z zJ) (zD (v:=bo_ (validB a)) Z (qH Z Tryd.call36 Z zZ (fun w1 hw1=>sValid_ok a w1 hsa)) (zA 2 Z (yF fun b22 hg22=>?_))))))))))))))))))))))
 cases b22
 ·
  replace hg22:=not_false hg22;refine zD Z (zU (cs:=#[i6_ b.n,str b.set,str b.rel]) 2 Z zP Z Z zJ) (zD (v:=bo_ (validB b)) Z (qH Z Tryd.call36 Z zZ (fun w1 hw1=>sValid_ok b w1 hsb)) (zA 2 Z (zH (zC [2,3,4,9,10,26] [_,_,_,_,_,_] Z (yA (b:=!(validB b)) Z (fun h26=>?_) (fun h26=>?_))))))
  ·
   replace h26:=not_true h26;refine zF (zB (zA 4 Z (zD (v:=str ([110,111])) Z (yV Z Z) (zH (zC [6,7,8] [_,_,_] Z (qI (Kt.end3 Z Z Z Z fun w' hw=>?_)))))))
   have hpo:=play_no (a:=a) (b:=b) (s:=s) (by simp_all)
   exact ⟨_,rfl,hw.below,by rw [hpo];exact hw.newRowsZ (i:=1) (j:=0) rfl rfl (by decide) rfl (Nat.le_refl 0) rfl rfl (Nat.le_refl 0) rfl⟩
  replace h26:=not_false h26
  have hVa:validB a=true:=by simp_all
  have hVb:validB b=true:=by simp_all
  have ha:=validB_fine hVa
  have hb:=validB_fine hVb
  have ha1:=ha.lo
  have ha8:=ha.hi
  have hb1:=hb.lo
  have hb8:=hb.hi;refine qR (zC [2,3,4,9,10] [_,_,_,_,_] Z (zF (qD (qC Z (zU (cs:=#[i6_ a.n,str a.set,str a.rel]) 3 Z zP Z Z zJ) (qC Z (zU (cs:=#[i6_ b.n,str b.set,str b.rel]) 2 Z zP Z Z zJ) (qQ 1 Z (Ll.callRowZ (xs:=[.tmp 30,.tmp 31,.tmp 32]) (m:=(movesL s).length) (vs:=strs (movesL s)) (z:=.bool (movesB a.n b.n s)) (el:=9) Z Z Z Z Tryd.call39 Z (fun w1 hw1=>l5Moves_ok a b s w1 ha hb hs) fun p33 cap33 cur33 hp33 hcp33 hlp33 htp33=>(qQ 1 Z (qC (v:=sl_ p33 ((movesL s).length) cap33) Z (xA Z Z Z) (qC (v:=bo_ (movesB a.n b.n s)) Z (xA Z Z Z) (qQ 2 Z (zL (zC [3,4,9,10,11,12] [_,_,_,_,_,_] Z (zF (zF (zB (zA 2 Z (zH (zC [3,4,9,10,11,37] [_,_,_,_,_,_] Z (yA (b:=!(movesB a.n b.n s)) Z (fun h37=>?_) (fun h37=>?_)))))))))))))))))))))
  ·
   replace h37:=not_true h37;refine zF (zB (zA 4 Z (zD (v:=str ([110,111])) Z (yV Z Z) (zH (zC [6,7,8] [_,_,_] Z (qI (Kt.end3 Z Z Z Z fun w' hw=>?_)))))))
   have hpo:=play_no (a:=a) (b:=b) (s:=s) (by simp_all)
   exact ⟨_,rfl,hw.below,by rw [hpo];exact hw.newRowsZ (i:=2) (j:=1) rfl rfl (by decide) rfl (Nat.le_refl 0) rfl rfl (Nat.le_refl 0) rfl⟩
  replace h37:=not_false h37
  have hvm:(validB a&&validB b&&movesB a.n b.n s)=true:=by simp_all
  obtain ⟨hml1,hml2,hml3,hml4⟩:=moves_fields (n:=a.n) (m:=b.n) (s:=s) (by simp_all) ha8 hb8;refine qR (zC [3,4,9,10,11] [_,_,_,_,_] Z (zF (zF (zB (zA 1 Z (zH (zC [3,4,9,10,11,13] [_,_,_,_,_,_] Z (qT (xF (σ:=Nat×Nat×Nat×Array Value×List Int×Nat×Nat×Array Value×List Int) (fun ⟨i,g1,c1,u1,xs,g2,c2,u2,ys⟩=>(u1.size=c1*1∧xs.length≤c1∧u1.toList.take xs.length=ints xs)∧(u2.size=c2*1∧ys.length≤c2∧u2.toList.take ys.length=ints ys)∧PlayTo a b (movesL s) i xs ys) (fun ⟨i,g1,c1,u1,xs,g2,c2,u2,ys⟩=>[(3,pt_ p3),(4,pt_ p4),(9,sl_ g1 xs.length c1),(10,sl_ g2 ys.length c2),(11,sl_ p33 ((movesL s).length) cap33),(13,i6_ (i:Int))]) (fun ⟨i,g1,c1,u1,xs,g2,c2,u2,ys⟩=>Own w.heap.size w [bk_ g1 u1 3,bk_ g2 u2 3,bk_ p33 cur33 9,bk_ p4 #[i6_ b.n,str b.set,str b.rel] 24,bk_ p3 #[i6_ a.n,str a.set,str a.rel] 24]) (fun ⟨i,g1,c1,u1,xs,g2,c2,u2,ys⟩=>(movesL s).length - i) (0,p17,0,#[],[],p18,0,#[],[]) ⟨⟨rfl,Nat.le_refl 0,rfl⟩,⟨rfl,Nat.le_refl 0,rfl⟩,PlayTo.start⟩ (Sub.sel [3,4,9,10,11,13] Z) (fun _ h=>h.pick [2,1,0,3,4] Z (by decide)) ?_)))))))))
  rintro ⟨i,g1,c1,u1,xs,g2,c2,u2,ys⟩ ⟨⟨hcg1,hlg1,htg1⟩,⟨hcg2,hlg2,htg2⟩,hPt⟩
  dsimp only
  have hlx:=hPt.lx
  have hly:=hPt.ly
  have hile:=hPt.le;refine zF (zF (zB (zA 2 Z (zD Z (jE Z yD Z) (zA 1 Z (zH (zC [3,4,9,10,11,13,43] [_,_,_,_,_,_,_] Z (yA (b:=decide ((i:Int)<((movesL s).length:Int))) Z (fun h43=>?_) (fun h43=>?_)))))))))
  ·
   replace h43:=zV h43
   have hil:i<(movesL s).length:=by omega
   obtain ⟨hp1,hp2,hp3,hp4,hp5⟩:=move_parts (hml4 ((movesL s).getD i []) (by rw [getD_at hil];exact List.getElem_mem _))
   have hnr:((((movesL s).length:Int) - (i:Int)) - 1).toNat+i+1=(movesL s).length:=by omega
   refine qR (zC [3,4,9,10,11,13] [_,_,_,_,_,_] Z (zF (qT (zF (zB (zA 2 Z (zD (v:=pf_ p33 i) Z (qW (by simp) (yK Z yD zQ Z Z (by omega) (by omega))) (zD (v:=str ((movesL s).getD (i) [])) Z (xN 2 Z qG Z Z (cur_at (by simpa using htp33) (strs_at (c:=(movesL s)) (off:=i) (by first | (simp;done) | (simp;omega) | omega)))) (zD (v:=.int .u8 (((((movesL s).getD i []).getD 1 0).toNat:Int))) Z (qW (v':=.int .u8 ((((movesL s).getD i []).getD 1 0).toNat:Int)) Z (yB (i:=(1:Int)) Z qA Z Z (by decide) (by omega))) (zD (v:=i6_ (((((movesL s).getD i []).getD 1 0).toNat:Int))) Z (xR .i64 Z yO xD Z (IntWalk.i64_in _ (by have:=UInt8.toNat_lt (((movesL s).getD i []).getD 1 0);omega))) (zD (v:=i6_ ((mvE ((movesL s).getD i [])))) Z (qW (by rfl) (xO Z Z Z (by omega) (by omega))) (zA 1 Z (zH (zC [3,4,9,10,11,13,14] [_,_,_,_,_,_,_] Z (zF (zF (zB (zA 2 Z (zD (v:=pf_ p33 i) Z (qW (by simp) (yK Z yD zQ Z Z (by omega) (by omega))) (zD (v:=str ((movesL s).getD (i) [])) Z (xN 2 Z qG Z Z (cur_at (by simpa using htp33) (strs_at (c:=(movesL s)) (off:=i) (by first | (simp;done) | (simp;omega) | omega)))) (zD (v:=.int .u8 (((((movesL s).getD i []).getD 0 0).toNat:Int))) Z (qW (v':=.int .u8 ((((movesL s).getD i []).getD 0 0).toNat:Int)) Z (yB (i:=(0:Int)) Z qA Z Z (by decide) (by omega))) (zA 1 Z (zH (zC [3,4,9,10,11,13,14,58] [_,_,_,_,_,_,_,_] Z (yA (b:=decide ((((((movesL s).getD i []).getD 0 0).toNat:Int))=(97:Int))) Z (fun h58=>?_) (fun h58=>?_))))))))))))))))))))))))))
   ·
    replace h58:=zV h58
    have h58:=h58
    have hx:a.El (mvE ((movesL s).getD i [])):=⟨by unfold mvE;omega,by unfold mvE;have:=hp4 h58;omega⟩;refine zF (zB (zD Z (zU (cs:=#[i6_ a.n,str a.set,str a.rel]) 4 Z zP Z Z zJ) (zA 1 Z (zD Z (zU (cs:=#[i6_ b.n,str b.set,str b.rel]) 3 Z zP Z Z zJ) (zA 2 Z (zD Z (jE Z yD Z) (zA 1 Z (zD Z (xO Z Z Z (by omega) (by omega)) (zA 1 Z (zD (v:=i6_ (repI (bestO ((((movesL s).length:Int) - (i:Int)) - 1).toNat a xs b ys ((mvE ((movesL s).getD i [])))))) Z (qH Z Tryd.call40 Z zZ (fun w1 hw1=>l5Best_ok a b xs ys (sl_ g1 xs.length c1) (sl_ g2 ys.length c2) w1 ha hb (yH hw1 (i:=0) Z htg1 (by simp) hlg1) (yH hw1 (i:=1) Z htg2 (by simp) hlg2) hPt.ex hPt.ey (by first | (simp;done) | (simp;omega) | omega) (by first | (simp;done) | (simp;omega) | omega) (((movesL s).length:Int) - (i:Int)) (by omega) (by omega) ((mvE ((movesL s).getD i []))) hx)) (zA 1 Z (zH (zC [3,4,9,10,11,13,14,15] [_,_,_,_,_,_,_,_] Z (zF (zF (zB (zA 2 Z (zH (zC [3,4,9,10,11,13,14,15,70] [_,_,_,_,_,_,_,_,_] Z (yA (b:=decide ((repI (bestO ((((movesL s).length:Int) - (i:Int)) - 1).toNat a xs b ys ((mvE ((movesL s).getD i [])))))<(0:Int))) Z (fun h70=>?_) (fun h70=>?_)))))))))))))))))))))
    ·
     replace h70:=zV h70;refine zF (qD (qQ 2 Z (xQ (xs:=[.tmp 71,.tmp 72]) (m:=(xs++[(mvE ((movesL s).getD i []))]).length) (vs:=ints (xs++[(mvE ((movesL s).getD i []))])) (el:=3) (size:=1) Z Z Z Z jC Z (fun w1 hw1=>l4With_ok (sl_ g1 xs.length c1) xs ((mvE ((movesL s).getD i []))) w1 (yH hw1 (i:=0) Z htg1 (by simp) hlg1) (by omega)) fun p73 cap73 cur73 hp73 hcp73 hlp73 htp73=>(qQ 3 Z (qC (v:=str ([102,105,114,115,116])) Z (yV Z Z) (zL (zC [6,7,8] [_,_,_] Z (qI (Kt.end3 Z Z Z Z fun w' hw=>?_)))))))))
     have hpo:=hPt.enda hvm hil hnr h58 (best_neg (by assumption))
     exact ⟨_,rfl,hw.below,by rw [hpo];exact hw.newRowsZ (i:=0) (j:=2) rfl rfl (by decide) hcp73 hlp73 (by simpa using (by simpa using htp73)) hcg2 hlg2 (by simpa using htg2)⟩
    replace h70:=zR h70
    obtain ⟨y,hbo,hyI⟩:=best_pos h70
    have hPn:=hPt.ma hil hnr hb h58 hx hbo
    rw [← hyI] at hPn;refine qR (zC [3,4,9,10,11,13,14,15] [_,_,_,_,_,_,_,_] Z (zF (qD (qQ 2 Z (xQ (xs:=[.tmp 75,.tmp 76]) (m:=(xs++[(mvE ((movesL s).getD i []))]).length) (vs:=ints (xs++[(mvE ((movesL s).getD i []))])) (el:=3) (size:=1) Z Z Z Z jC Z (fun w1 hw1=>l4With_ok (sl_ g1 xs.length c1) xs ((mvE ((movesL s).getD i []))) w1 (yH hw1 (i:=0) Z htg1 (by simp) hlg1) (by omega)) fun p77 cap77 cur77 hp77 hcp77 hlp77 htp77=>(qQ 1 Z (zL (zC [3,4,9,10,11,13,15] [_,_,_,_,_,_,_] Z (zF (qD (qQ 2 Z (xQ (xs:=[.tmp 78,.tmp 79]) (m:=(ys++[repI (bestO ((((movesL s).length:Int) - (i:Int)) - 1).toNat a xs b ys ((mvE ((movesL s).getD i []))))]).length) (vs:=ints (ys++[repI (bestO ((((movesL s).length:Int) - (i:Int)) - 1).toNat a xs b ys ((mvE ((movesL s).getD i []))))])) (el:=3) (size:=1) Z Z Z Z jC Z (fun w1 hw1=>l4With_ok (sl_ g2 ys.length c2) ys (repI (bestO ((((movesL s).length:Int) - (i:Int)) - 1).toNat a xs b ys ((mvE ((movesL s).getD i []))))) w1 (yH hw1 (i:=2) Z htg2 (by simp) hlg2) (by omega)) fun p80 cap80 cur80 hp80 hcp80 hlp80 htp80=>(qQ 1 Z (zL (zC [3,4,9,10,11,13] [_,_,_,_,_,_] Z (yY Z (zC [3,4,9,10,11,13] [_,_,_,_,_,_] Z (zB (zA 1 Z (zD Z (qV Z Z Z (by omega) (by omega)) (zA 1 Z (zH (qZ ((i+1,p77,cap77,cur77,xs++[(mvE ((movesL s).getD i []))],p80,cap80,cur80,ys++[repI (bestO ((((movesL s).length:Int) - (i:Int)) - 1).toNat a xs b ys ((mvE ((movesL s).getD i []))))])) ⟨⟨by simpa using hcp77,hlp77,by simpa using (by simpa using htp77)⟩,⟨by simpa using hcp80,hlp80,by simpa using (by simpa using htp80)⟩,hPn⟩ (by omega) (Sub.sel [3,4,9,10,11,13] Z) (fun _ h=>h.pick [1,0,4,5,6] Z (by decide)))))))))))))))))))))))))
   replace h58:=zR h58
   have h58:=h58
   have hx:b.El (mvE ((movesL s).getD i [])):=⟨by unfold mvE;omega,by unfold mvE;have:=hp5 (by omega);omega⟩;refine qR (zC [3,4,9,10,11,13,14] [_,_,_,_,_,_,_] Z (zF (zB (zD Z (zU (cs:=#[i6_ b.n,str b.set,str b.rel]) 3 Z zP Z Z zJ) (zA 1 Z (zD Z (zU (cs:=#[i6_ a.n,str a.set,str a.rel]) 4 Z zP Z Z zJ) (zA 2 Z (zD Z (jE Z yD Z) (zA 1 Z (zD Z (xO Z Z Z (by omega) (by omega)) (zA 1 Z (zD (v:=i6_ (repI (bestO ((((movesL s).length:Int) - (i:Int)) - 1).toNat b ys a xs ((mvE ((movesL s).getD i [])))))) Z (qH Z Tryd.call40 Z zZ (fun w1 hw1=>l5Best_ok b a ys xs (sl_ g2 ys.length c2) (sl_ g1 xs.length c1) w1 hb ha (yH hw1 (i:=1) Z htg2 (by simp) hlg2) (yH hw1 (i:=0) Z htg1 (by simp) hlg1) hPt.ey hPt.ex (by first | (simp;done) | (simp;omega) | omega) (by first | (simp;done) | (simp;omega) | omega) (((movesL s).length:Int) - (i:Int)) (by omega) (by omega) ((mvE ((movesL s).getD i []))) hx)) (zA 1 Z (zH (zC [3,4,9,10,11,13,14,16] [_,_,_,_,_,_,_,_] Z (zF (zF (zB (zA 2 Z (zH (zC [3,4,9,10,11,13,14,16,92] [_,_,_,_,_,_,_,_,_] Z (yA (b:=decide ((repI (bestO ((((movesL s).length:Int) - (i:Int)) - 1).toNat b ys a xs ((mvE ((movesL s).getD i [])))))<(0:Int))) Z (fun h92=>?_) (fun h92=>?_)))))))))))))))))))))))
   ·
    replace h92:=zV h92;refine zF (qD (qQ 3 Z (xQ (xs:=[.tmp 94,.tmp 95]) (m:=(ys++[(mvE ((movesL s).getD i []))]).length) (vs:=ints (ys++[(mvE ((movesL s).getD i []))])) (el:=3) (size:=1) Z Z Z Z jC Z (fun w1 hw1=>l4With_ok (sl_ g2 ys.length c2) ys ((mvE ((movesL s).getD i []))) w1 (yH hw1 (i:=1) Z htg2 (by simp) hlg2) (by omega)) fun p96 cap96 cur96 hp96 hcp96 hlp96 htp96=>(qQ 2 Z (qC (v:=str ([102,105,114,115,116])) Z (yV Z Z) (zL (zC [6,7,8] [_,_,_] Z (qI (Kt.end3 Z Z Z Z fun w' hw=>?_)))))))))
    have hpo:=hPt.endb hvm hil hnr h58 (best_neg (by assumption))
    exact ⟨_,rfl,hw.below,by rw [hpo];exact hw.newRowsZ (i:=1) (j:=0) rfl rfl (by decide) hcg1 hlg1 (by simpa using htg1) hcp96 hlp96 (by simpa using (by simpa using htp96))⟩
   replace h92:=zR h92
   obtain ⟨y,hbo,hyI⟩:=best_pos h92
   have hPn:=hPt.mb hil hnr ha h58 hx hbo
   rw [← hyI] at hPn;refine qR (zC [3,4,9,10,11,13,14,16] [_,_,_,_,_,_,_,_] Z (zF (qD (qQ 2 Z (xQ (xs:=[.tmp 97,.tmp 98]) (m:=(xs++[repI (bestO ((((movesL s).length:Int) - (i:Int)) - 1).toNat b ys a xs ((mvE ((movesL s).getD i []))))]).length) (vs:=ints (xs++[repI (bestO ((((movesL s).length:Int) - (i:Int)) - 1).toNat b ys a xs ((mvE ((movesL s).getD i []))))])) (el:=3) (size:=1) Z Z Z Z jC Z (fun w1 hw1=>l4With_ok (sl_ g1 xs.length c1) xs (repI (bestO ((((movesL s).length:Int) - (i:Int)) - 1).toNat b ys a xs ((mvE ((movesL s).getD i []))))) w1 (yH hw1 (i:=0) Z htg1 (by simp) hlg1) (by omega)) fun p99 cap99 cur99 hp99 hcp99 hlp99 htp99=>(qQ 1 Z (zL (zC [3,4,9,10,11,13,14] [_,_,_,_,_,_,_] Z (qD (qQ 2 Z (xQ (xs:=[.tmp 100,.tmp 101]) (m:=(ys++[(mvE ((movesL s).getD i []))]).length) (vs:=ints (ys++[(mvE ((movesL s).getD i []))])) (el:=3) (size:=1) Z Z Z Z jC Z (fun w1 hw1=>l4With_ok (sl_ g2 ys.length c2) ys ((mvE ((movesL s).getD i []))) w1 (yH hw1 (i:=2) Z htg2 (by simp) hlg2) (by omega)) fun p102 cap102 cur102 hp102 hcp102 hlp102 htp102=>(qQ 1 Z (zL (zC [3,4,9,10,11,13] [_,_,_,_,_,_] Z (zB (zA 1 Z (zD Z (qV Z Z Z (by omega) (by omega)) (zA 1 Z (zH (qZ ((i+1,p99,cap99,cur99,xs++[repI (bestO ((((movesL s).length:Int) - (i:Int)) - 1).toNat b ys a xs ((mvE ((movesL s).getD i []))))],p102,cap102,cur102,ys++[(mvE ((movesL s).getD i []))])) ⟨⟨by simpa using hcp99,hlp99,by simpa using (by simpa using htp99)⟩,⟨by simpa using hcp102,hlp102,by simpa using (by simpa using htp102)⟩,hPn⟩ (by omega) (Sub.sel [3,4,9,10,11,13] Z) (fun _ h=>h.pick [1,0,4,5,6] Z (by decide))))))))))))))))))))))
  replace h43:=zR h43;refine yY Z (zC [9,10] [_,_] Z (zF (zB (zA 4 Z (zD (v:=str ([115,101,99,111,110,100])) Z (yV Z Z) (zH (zC [6,7,8] [_,_,_] Z (qI (Kt.end3 Z Z Z Z fun w' hw=>?_)))))))))
  have hpo:=hPt.fin hvm (by omega)
  exact ⟨_,rfl,hw.below,by rw [hpo];exact hw.newRowsZ (i:=0) (j:=1) rfl rfl (by decide) hcg1 hlg1 (by simpa using htg1) hcg2 hlg2 (by simpa using htg2)⟩
 replace hg22:=not_true hg22;refine zE Z (zE Z (zE Z (zA 1 Z (zH (zC [2,3,4,9,10,26] [_,_,_,_,_,_] Z (jB Z (zF (zB (zA 4 Z (zD (v:=str ([110,111])) Z (yV Z Z) (zH (zC [6,7,8] [_,_,_] Z (qI (Kt.end3 Z Z Z Z fun w' hw=>?_))))))))))))))
 have hpo:=play_no (a:=a) (b:=b) (s:=s) (by simp_all)
 exact ⟨_,rfl,hw.below,by rw [hpo];exact hw.newRowsZ (i:=1) (j:=0) rfl rfl (by decide) rfl (Nat.le_refl 0) rfl rfl (Nat.le_refl 0) rfl⟩
set_option maxHeartbeats 400000 in
theorem iPlay_yes (a b:St) (s:List UInt8) (w:World) (hsa:a.Small) (hsb:b.Small) (hs:s.length≤1048576) (hG:GW w.heap.size w) (hvm:(validB a&&validB b&&movesB a.n b.n s)=true) :
    Calls Tryd.prog 16 [vS a,vS b,str s].toArray w fun en w'=>∃ v,en=.returned v∧Below w.heap.size w w'∧NewRowsZ w.heap.size 3 3 w' v (str (playO a b s).2.2) (playO a b s).1.length (ints (playO a b s).1) (playO a b s).2.1.length (ints (playO a b s).2.1):=by
 refine fnStart (n:=101) (e:=[(0,vS a),(1,vS b),(2,str s)]) Tryd.func16 Z Z Z Z Ends.both ?_
 have hVa:validB a=true:=by simp_all
 have hVb:validB b=true:=by simp_all
 have ha:=validB_fine hVa
 have hb:=validB_fine hVb
 have ha1:=ha.lo
 have ha8:=ha.hi
 have hb1:=hb.lo
 have hb8:=hb.hi
 have hmv:movesB a.n b.n s=true:=by simp_all
 obtain ⟨hml1,hml2,hml3,hml4⟩:=moves_fields (n:=a.n) (m:=b.n) (s:=s) hmv ha8 hb8;refine zF (qD (yT (v:=vS a) Z Z Z Z Z fun p3 hp3=>?_))
 show Ll _ _ (Own _ _ [_]) _ _ ((3,pt_ p3)::_) _ _ _;refine yT (v:=vS b) Z Z Z Z Z fun p4 hp4=>?_
 show Ll _ _ (Own _ _ [_,_]) _ _ ((4,pt_ p4)::_) _ _ _;refine qQ 2 Z (qC (v:=str ([])) Z (yV Z Z) (zL (zC [2,3,4] [_,_,_] Z (zF (zF ?_)))));refine zB (zD Z (zU (cs:=#[i6_ a.n,str a.set,str a.rel]) 1 Z zP Z Z zJ) (zD (v:=bo_ true) Z (qH Z Tryd.call32 Z zZ (fun w1 hw1=>known_b hVa (isStructure_ok a w1 hsa))) (zA 2 Z (zD Z (zU (cs:=#[i6_ b.n,str b.set,str b.rel]) 0 Z zP Z Z zJ) (zD (v:=bo_ true) Z (qH Z Tryd.call32 Z zZ (fun w1 hw1=>known_b hVb (isStructure_ok b w1 hsb))) (zA 3 Z (zD Z (zU (cs:=#[i6_ a.n,str a.set,str a.rel]) 1 Z zP Z Z zJ) (zD Z (zU (cs:=#[i6_ b.n,str b.set,str b.rel]) 0 Z zP Z Z zJ) (zA 1 Z (zD (v:=bo_ true) Z (qH Z Tryd.call42 Z zZ (fun w1 hw1=>known_b hmv (iMoves_ok a b s w1 ha hb (by omega) (gw_max hG hw1) (gw_lt hG hw1)))) (zA 2 Z (zH (zC [2,3,4,31] [_,_,_,_] Z (jQ Z (qR (zC [2,3,4] [_,_,_] Z (zF (qD (yS (xs:=[]) (vs:=[]) qS Z Z Z Z Z Z (by decide) Z fun p32 hp32=>(yS (xs:=[]) (vs:=[]) qS Z Z Z Z Z Z (by decide) Z fun p33 hp33=>(qQ 2 Z (zL (zC [2,3,4,9,10] [_,_,_,_,_] Z (zF (qD (qQ 1 Z (xQ (xs:=[.tmp 34]) (m:=(movesL s).length) (vs:=strs (movesL s)) (el:=9) (size:=1) Z Z Z Z Tryd.call43 Z (fun w1 hw1=>fieldsM_ok s (movesL s) w1 (by omega) hml1 hml2 (gw_tab hG hw1)) fun p35 cap35 cur35 hp35 hcp35 hlp35 htp35=>(qQ 1 Z (zL (zC [3,4,9,10,11] [_,_,_,_,_] Z (zF (zF (zB (zA 1 Z (zD Z (jE Z yD Z) (zA 1 Z (zH (zC [3,4,9,10,11,36,37,38] [_,_,_,_,_,_,_,_] Z (qT (xF (σ:=Nat×Nat×Nat×Array Value×List Int×Nat×Nat×Array Value×List Int) (fun ⟨i,g1,c1,u1,xs,g2,c2,u2,ys⟩=>(u1.size=c1*1∧xs.length≤c1∧u1.toList.take xs.length=ints xs)∧(u2.size=c2*1∧ys.length≤c2∧u2.toList.take ys.length=ints ys)∧PlayTo a b (movesL s) i xs ys) (fun ⟨i,g1,c1,u1,xs,g2,c2,u2,ys⟩=>[(3,pt_ p3),(4,pt_ p4),(9,sl_ g1 xs.length c1),(10,sl_ g2 ys.length c2),(11,sl_ p35 ((movesL s).length) cap35),(36,sl_ p35 ((movesL s).length) cap35),(37,i6_ ((movesL s).length:Int)),(38,i6_ (i:Int))]) (fun ⟨i,g1,c1,u1,xs,g2,c2,u2,ys⟩=>Own w.heap.size w [bk_ g1 u1 3,bk_ g2 u2 3,bk_ p35 cur35 9,bk_ p4 #[i6_ b.n,str b.set,str b.rel] 24,bk_ p3 #[i6_ a.n,str a.set,str a.rel] 24]) (fun ⟨i,g1,c1,u1,xs,g2,c2,u2,ys⟩=>(movesL s).length - i) (0,p32,0,#[],[],p33,0,#[],[]) ⟨⟨rfl,Nat.le_refl 0,rfl⟩,⟨rfl,Nat.le_refl 0,rfl⟩,PlayTo.start⟩ (Sub.sel [3,4,9,10,11,36,37,38] Z) (fun _ h=>h.pick [2,1,0,3,4] Z (by decide)) ?_))))))))))))))))))))))))))))))))))))))))
 rintro ⟨i,g1,c1,u1,xs,g2,c2,u2,ys⟩ ⟨⟨hcg1,hlg1,htg1⟩,⟨hcg2,hlg2,htg2⟩,hPt⟩
 dsimp only
 have hlx:=hPt.lx
 have hly:=hPt.ly
 have hile:=hPt.le;refine zF (zB (zA 1 Z (zH (zC [3,4,9,10,11,36,37,38,39] [_,_,_,_,_,_,_,_,_] Z (zF (yA (b:=decide ((i:Int)<((movesL s).length:Int))) Z (fun h39=>?_) (fun h39=>?_)))))))
 ·
  replace h39:=zV h39
  have hil:i<(movesL s).length:=by omega
  obtain ⟨hp1,hp2,hp3,hp4,hp5⟩:=move_parts (hml4 ((movesL s).getD i []) (by rw [getD_at hil];exact List.getElem_mem _))
  have hnr:((((movesL s).length:Int) - (i:Int)) - 1).toNat+i+1=(movesL s).length:=by omega
  have hby:=UInt8.toNat_lt (((movesL s).getD i []).getD 1 0);refine qR (zC [3,4,9,10,11,36,37,38] [_,_,_,_,_,_,_,_] Z (zF (qT (zF (zB (zA 1 Z (zD (v:=pf_ p35 i) Z (qW (by simp) (yK Z yD zQ Z Z (by omega) (by omega))) (zD (v:=str ((movesL s).getD (i) [])) Z (xN 2 Z qG Z Z (cur_at (by simpa using htp35) (strs_at (c:=movesL s) (off:=i) (by first | (simp;done) | (simp;omega) | omega)))) (zA 2 Z (zH (zC [3,4,9,10,11,12,13,36,37,38] [_,_,_,_,_,_,_,_,_,_] Z (zF (zB (zA 1 Z (zD (v:=.int .u8 (((((movesL s).getD i []).getD 1 0).toNat:Int))) Z (qW (v':=.int .u8 ((((movesL s).getD i []).getD 1 0).toNat:Int)) Z (yB (i:=(1:Int)) Z qA Z Z (by decide) (by omega))) (zD (v:=.int .u8 ((((((movesL s).getD i []).getD 1 0).toNat:Int)) - (48:Int))) Z (qW (by rw [IntWalk.u8_in _ (by omega)]) (OpQ.subU8 Z Z Z)) (zD (v:=i6_ ((mvE ((movesL s).getD i [])))) Z (qW (by rfl) (xR .i64 Z yO xD Z (IntWalk.i64_in _ (by omega)))) (zA 1 Z (zH (zC [3,4,9,10,11,12,13,14,36,37,38] [_,_,_,_,_,_,_,_,_,_,_] Z (zF (zB (zA 2 Z (zH (zC [3,4,9,10,11,12,13,14,36,37,38] [_,_,_,_,_,_,_,_,_,_,_] Z (zF (zF (zB (zA 1 Z (zD (v:=.int .u8 (((((movesL s).getD i []).getD 0 0).toNat:Int))) Z (qW (v':=.int .u8 ((((movesL s).getD i []).getD 0 0).toNat:Int)) Z (yB (i:=(0:Int)) Z qA Z Z (by decide) (by omega))) (zA 1 Z (zH (zC [3,4,9,10,11,12,14,36,37,38,49] [_,_,_,_,_,_,_,_,_,_,_] Z (yA (b:=decide ((((((movesL s).getD i []).getD 0 0).toNat:Int))=(97:Int))) Z (fun h49=>?_) (fun h49=>?_)))))))))))))))))))))))))))))))))))
  ·
   replace h49:=zV h49
   have h58:=h49
   have hx:a.El (mvE ((movesL s).getD i [])):=⟨by unfold mvE;omega,by unfold mvE;have:=hp4 h58;omega⟩;refine zF (zB (zD Z (zU (cs:=#[i6_ a.n,str a.set,str a.rel]) 4 Z zP Z Z zJ) (zA 1 Z (zD Z (zU (cs:=#[i6_ b.n,str b.set,str b.rel]) 3 Z zP Z Z zJ) (zA 2 Z (zD Z (jE Z yD Z) (zA 1 Z (zD Z (xO Z Z Z (by omega) (by omega)) (zA 1 Z (zD (v:=.tuple #[i6_ ((((bestO ((((movesL s).length:Int) - (i:Int)) - 1).toNat a xs b ys ((mvE ((movesL s).getD i [])))).getD 0:Nat):Int)),bo_ ((bestO ((((movesL s).length:Int) - (i:Int)) - 1).toNat a xs b ys ((mvE ((movesL s).getD i [])))).isSome)]) Z (qH Z Tryd.call44 Z zZ (fun w1 hw1=>playReply_ok a b xs ys (sl_ g1 xs.length c1) (sl_ g2 ys.length c2) w1 ha hb (yH hw1 (i:=0) Z htg1 (by simp) hlg1) (yH hw1 (i:=1) Z htg2 (by simp) hlg2) hPt.ex hPt.ey (by first | (simp;done) | (simp;omega) | omega) (by first | (simp;done) | (simp;omega) | omega) (((movesL s).length:Int) - (i:Int)) (by omega) (by omega) ((mvE ((movesL s).getD i []))) hx)) (zA 1 Z (zD (v:=i6_ ((((bestO ((((movesL s).length:Int) - (i:Int)) - 1).toNat a xs b ys ((mvE ((movesL s).getD i [])))).getD 0:Nat):Int))) Z (xA Z Z Z) (zD (v:=bo_ ((bestO ((((movesL s).length:Int) - (i:Int)) - 1).toNat a xs b ys ((mvE ((movesL s).getD i [])))).isSome)) Z (xA Z Z Z) (zA 2 Z (zH (zC [3,4,9,10,11,14,15,16,36,37,38] [_,_,_,_,_,_,_,_,_,_,_] Z (zF (qD (qQ 2 Z (yS (xs:=[.tmp 64]) (vs:=[i6_ ((mvE ((movesL s).getD i [])))]) qS Z Z Z Z Z Z (by decide) Z fun p65 hp65=>(yG (xs:=xs) (ys:=[(mvE ((movesL s).getD i []))]) qS 1 Z Z Z Z Z Z Z hcg1 hlg1 htg1 (fun w1 hw1=>(yH hw1 (i:=0) Z (n:=1) (cap:=1) (vs:=ints [(mvE ((movesL s).getD i []))]) Z Z (by decide))) ((xs++([(mvE ((movesL s).getD i []))])).length) (by first | (simp;done) | (simp;omega)) (by first | (simp;done) | (simp;omega) | omega) fun p66 cap66 cur66 hp66 hcp66 hlp66 htp66=>?_)))))))))))))))))))))
   show Ll _ _ (Own _ _ [_,_,_,_,_,_]) _ _ ((66,sl_ p66 (((xs++([(mvE ((movesL s).getD i []))])).length)) cap66)::_) _ _ _;refine qQ 1 Z (zL (zC [3,4,9,10,11,15,16,36,37,38] [_,_,_,_,_,_,_,_,_,_] Z (zF (zB (zA 1 Z (zH (zC [3,4,9,10,11,15,16,36,37,38,67] [_,_,_,_,_,_,_,_,_,_,_] Z (yA (b:=(bestO ((((movesL s).length:Int) - (i:Int)) - 1).toNat a xs b ys ((mvE ((movesL s).getD i [])))).isSome) Z (fun h67=>?_) (fun h67=>?_)))))))))
   ·
    obtain ⟨y,hbo⟩:=Option.isSome_iff_exists.1 h67
    have hPn:=hPt.ma hil hnr hb h58 hx hbo
    have hyI:(((bestO ((((movesL s).length:Int) - (i:Int)) - 1).toNat a xs b ys ((mvE ((movesL s).getD i [])))).getD 0:Nat):Int)=(y:Int):=by rw [hbo];rfl
    rw [← hyI] at hPn;refine qD (qQ 2 Z (yS (xs:=[.tmp 69]) (vs:=[i6_ ((((bestO ((((movesL s).length:Int) - (i:Int)) - 1).toNat a xs b ys ((mvE ((movesL s).getD i [])))).getD 0:Nat):Int))]) qS Z Z Z Z Z Z (by decide) Z fun p70 hp70=>(yG (xs:=ys) (ys:=[(((bestO ((((movesL s).length:Int) - (i:Int)) - 1).toNat a xs b ys ((mvE ((movesL s).getD i [])))).getD 0:Nat):Int)]) qS 3 Z Z Z Z Z Z Z hcg2 hlg2 htg2 (fun w1 hw1=>(yH hw1 (i:=0) Z (n:=1) (cap:=1) (vs:=ints [(((bestO ((((movesL s).length:Int) - (i:Int)) - 1).toNat a xs b ys ((mvE ((movesL s).getD i [])))).getD 0:Nat):Int)]) Z Z (by decide))) ((ys++([(((bestO ((((movesL s).length:Int) - (i:Int)) - 1).toNat a xs b ys ((mvE ((movesL s).getD i [])))).getD 0:Nat):Int)])).length) (by first | (simp;done) | (simp;omega)) (by first | (simp;done) | (simp;omega) | omega) fun p71 cap71 cur71 hp71 hcp71 hlp71 htp71=>?_)))
    show Ll _ _ (Own _ _ [_,_,_,_,_,_,_]) _ _ ((71,sl_ p71 (((ys++([(((bestO ((((movesL s).length:Int) - (i:Int)) - 1).toNat a xs b ys ((mvE ((movesL s).getD i [])))).getD 0:Nat):Int)])).length)) cap71)::_) _ _ _;refine qQ 1 Z (zL (zC [3,4,9,10,11,16,36,37,38] [_,_,_,_,_,_,_,_,_] Z (zF (zB (zD (v:=bo_ true) Z (qW (by rw [h67]) (OpQ.move Z Z)) (zA 1 Z (zH (zC [3,4,9,10,11,36,37,38,95] [_,_,_,_,_,_,_,_,_] Z (jQ Z (qR (zC [3,4,9,10,11,36,37,38] [_,_,_,_,_,_,_,_] Z (zB (zD Z (qV Z Z Z (by omega) (by omega)) (zA 1 Z (zH (qZ ((i+1,p66,cap66,cur66,xs++([(mvE ((movesL s).getD i []))]),p71,cap71,cur71,ys++([(((bestO ((((movesL s).length:Int) - (i:Int)) - 1).toNat a xs b ys ((mvE ((movesL s).getD i [])))).getD 0:Nat):Int)]))) ⟨⟨by simpa using hcp66,hlp66,by simpa using (by simpa using htp66)⟩,⟨by simpa using hcp71,hlp71,by simpa using (by simpa using htp71)⟩,hPn⟩ (by omega) (Sub.sel [3,4,9,10,11,36,37,38] Z) (fun _ h=>h.pick [2,3,4,5,6] Z (by decide))))))))))))))))))
   have hbn:=Option.not_isSome_iff_eq_none.1 (by rw [h67];decide);refine qR (zC [3,4,9,10,11,16,36,37,38] [_,_,_,_,_,_,_,_,_] Z (zF (zB (zD (v:=bo_ false) Z (qW (by rw [h67]) (OpQ.move Z Z)) (zA 1 Z (zH (zC [3,4,9,10,11,36,37,38,95] [_,_,_,_,_,_,_,_,_] Z (jB Z (zF (zB (zA 4 Z (zD (v:=str ([102,105,114,115,116])) Z (yV Z Z) (zH (zC [6,7,8] [_,_,_] Z (qI (Kt.end3 Z Z Z Z fun w' hw=>?_))))))))))))))))
   have hpo:=hPt.enda hvm hil hnr h58 hbn
   exact ⟨_,rfl,hw.below,by rw [hpo];exact hw.newRowsZ (i:=1) (j:=2) rfl rfl (by decide) hcp66 hlp66 (by simpa using (by simpa using htp66)) hcg2 hlg2 (by simpa using htg2)⟩
  replace h49:=zR h49
  have h58:=h49
  have hx:b.El (mvE ((movesL s).getD i [])):=⟨by unfold mvE;omega,by unfold mvE;have:=hp5 (by omega);omega⟩;refine zF (zB (zD Z (zU (cs:=#[i6_ b.n,str b.set,str b.rel]) 3 Z zP Z Z zJ) (zA 1 Z (zD Z (zU (cs:=#[i6_ a.n,str a.set,str a.rel]) 4 Z zP Z Z zJ) (zA 2 Z (zD Z (jE Z yD Z) (zA 1 Z (zD Z (xO Z Z Z (by omega) (by omega)) (zA 1 Z (zD (v:=.tuple #[i6_ ((((bestO ((((movesL s).length:Int) - (i:Int)) - 1).toNat b ys a xs ((mvE ((movesL s).getD i [])))).getD 0:Nat):Int)),bo_ ((bestO ((((movesL s).length:Int) - (i:Int)) - 1).toNat b ys a xs ((mvE ((movesL s).getD i [])))).isSome)]) Z (qH Z Tryd.call44 Z zZ (fun w1 hw1=>playReply_ok b a ys xs (sl_ g2 ys.length c2) (sl_ g1 xs.length c1) w1 hb ha (yH hw1 (i:=1) Z htg2 (by simp) hlg2) (yH hw1 (i:=0) Z htg1 (by simp) hlg1) hPt.ey hPt.ex (by first | (simp;done) | (simp;omega) | omega) (by first | (simp;done) | (simp;omega) | omega) (((movesL s).length:Int) - (i:Int)) (by omega) (by omega) ((mvE ((movesL s).getD i []))) hx)) (zA 1 Z (zD (v:=i6_ ((((bestO ((((movesL s).length:Int) - (i:Int)) - 1).toNat b ys a xs ((mvE ((movesL s).getD i [])))).getD 0:Nat):Int))) Z (xA Z Z Z) (zD (v:=bo_ ((bestO ((((movesL s).length:Int) - (i:Int)) - 1).toNat b ys a xs ((mvE ((movesL s).getD i [])))).isSome)) Z (xA Z Z Z) (zA 2 Z (zH (zC [3,4,9,10,11,14,15,16,36,37,38] [_,_,_,_,_,_,_,_,_,_,_] Z (zF (qD (qQ 2 Z (yS (xs:=[.tmp 86]) (vs:=[i6_ ((mvE ((movesL s).getD i [])))]) qS Z Z Z Z Z Z (by decide) Z fun p87 hp87=>(yG (xs:=ys) (ys:=[(mvE ((movesL s).getD i []))]) qS 2 Z Z Z Z Z Z Z hcg2 hlg2 htg2 (fun w1 hw1=>(yH hw1 (i:=0) Z (n:=1) (cap:=1) (vs:=ints [(mvE ((movesL s).getD i []))]) Z Z (by decide))) ((ys++([(mvE ((movesL s).getD i []))])).length) (by first | (simp;done) | (simp;omega)) (by first | (simp;done) | (simp;omega) | omega) fun p88 cap88 cur88 hp88 hcp88 hlp88 htp88=>?_)))))))))))))))))))))
  show Ll _ _ (Own _ _ [_,_,_,_,_,_]) _ _ ((88,sl_ p88 (((ys++([(mvE ((movesL s).getD i []))])).length)) cap88)::_) _ _ _;refine qQ 1 Z (zL (zC [3,4,9,10,11,15,16,36,37,38] [_,_,_,_,_,_,_,_,_,_] Z (zF (zB (zA 1 Z (zH (zC [3,4,9,10,11,15,16,36,37,38,89] [_,_,_,_,_,_,_,_,_,_,_] Z (yA (b:=(bestO ((((movesL s).length:Int) - (i:Int)) - 1).toNat b ys a xs ((mvE ((movesL s).getD i [])))).isSome) Z (fun h89=>?_) (fun h89=>?_)))))))))
  ·
   obtain ⟨y,hbo⟩:=Option.isSome_iff_exists.1 h89
   have hPn:=hPt.mb hil hnr ha h58 hx hbo
   have hyI:(((bestO ((((movesL s).length:Int) - (i:Int)) - 1).toNat b ys a xs ((mvE ((movesL s).getD i [])))).getD 0:Nat):Int)=(y:Int):=by rw [hbo];rfl
   rw [← hyI] at hPn;refine qD (qQ 2 Z (yS (xs:=[.tmp 91]) (vs:=[i6_ ((((bestO ((((movesL s).length:Int) - (i:Int)) - 1).toNat b ys a xs ((mvE ((movesL s).getD i [])))).getD 0:Nat):Int))]) qS Z Z Z Z Z Z (by decide) Z fun p92 hp92=>(yG (xs:=xs) (ys:=[(((bestO ((((movesL s).length:Int) - (i:Int)) - 1).toNat b ys a xs ((mvE ((movesL s).getD i [])))).getD 0:Nat):Int)]) qS 2 Z Z Z Z Z Z Z hcg1 hlg1 htg1 (fun w1 hw1=>(yH hw1 (i:=0) Z (n:=1) (cap:=1) (vs:=ints [(((bestO ((((movesL s).length:Int) - (i:Int)) - 1).toNat b ys a xs ((mvE ((movesL s).getD i [])))).getD 0:Nat):Int)]) Z Z (by decide))) ((xs++([(((bestO ((((movesL s).length:Int) - (i:Int)) - 1).toNat b ys a xs ((mvE ((movesL s).getD i [])))).getD 0:Nat):Int)])).length) (by first | (simp;done) | (simp;omega)) (by first | (simp;done) | (simp;omega) | omega) fun p93 cap93 cur93 hp93 hcp93 hlp93 htp93=>?_)))
   show Ll _ _ (Own _ _ [_,_,_,_,_,_,_]) _ _ ((93,sl_ p93 (((xs++([(((bestO ((((movesL s).length:Int) - (i:Int)) - 1).toNat b ys a xs ((mvE ((movesL s).getD i [])))).getD 0:Nat):Int)])).length)) cap93)::_) _ _ _;refine qQ 1 Z (zL (zC [3,4,9,10,11,16,36,37,38] [_,_,_,_,_,_,_,_,_] Z (zF (zB (zD (v:=bo_ true) Z (qW (by rw [h89]) (OpQ.move Z Z)) (zA 1 Z (zH (zC [3,4,9,10,11,36,37,38,95] [_,_,_,_,_,_,_,_,_] Z (jQ Z (qR (zC [3,4,9,10,11,36,37,38] [_,_,_,_,_,_,_,_] Z (zB (zD Z (qV Z Z Z (by omega) (by omega)) (zA 1 Z (zH (qZ ((i+1,p93,cap93,cur93,xs++([(((bestO ((((movesL s).length:Int) - (i:Int)) - 1).toNat b ys a xs ((mvE ((movesL s).getD i [])))).getD 0:Nat):Int)]),p88,cap88,cur88,ys++([(mvE ((movesL s).getD i []))]))) ⟨⟨by simpa using hcp93,hlp93,by simpa using (by simpa using htp93)⟩,⟨by simpa using hcp88,hlp88,by simpa using (by simpa using htp88)⟩,hPn⟩ (by omega) (Sub.sel [3,4,9,10,11,36,37,38] Z) (fun _ h=>h.pick [2,3,4,5,6] Z (by decide))))))))))))))))))
  have hbn:=Option.not_isSome_iff_eq_none.1 (by rw [h89];decide);refine qR (zC [3,4,9,10,11,16,36,37,38] [_,_,_,_,_,_,_,_,_] Z (zF (zB (zD (v:=bo_ false) Z (qW (by rw [h89]) (OpQ.move Z Z)) (zA 1 Z (zH (zC [3,4,9,10,11,36,37,38,95] [_,_,_,_,_,_,_,_,_] Z (jB Z (zF (zB (zA 4 Z (zD (v:=str ([102,105,114,115,116])) Z (yV Z Z) (zH (zC [6,7,8] [_,_,_] Z (qI (Kt.end3 Z Z Z Z fun w' hw=>?_))))))))))))))))
  have hpo:=hPt.endb hvm hil hnr h58 hbn
  exact ⟨_,rfl,hw.below,by rw [hpo];exact hw.newRowsZ (i:=1) (j:=2) rfl rfl (by decide) hcg1 hlg1 (by simpa using htg1) hcp88 hlp88 (by simpa using (by simpa using htp88))⟩
 replace h39:=zR h39;refine yY Z (zC [9,10] [_,_] Z (zF (zB (zA 4 Z (zD (v:=str ([115,101,99,111,110,100])) Z (yV Z Z) (zH (zC [6,7,8] [_,_,_] Z (qI (Kt.end3 Z Z Z Z fun w' hw=>?_)))))))))
 have hpo:=hPt.fin hvm (by omega)
 exact ⟨_,rfl,hw.below,by rw [hpo];exact hw.newRowsZ (i:=0) (j:=1) rfl rfl (by decide) hcg1 hlg1 (by simpa using htg1) hcg2 hlg2 (by simpa using htg2)⟩
set_option maxHeartbeats 400000 in
theorem iPlay_no (a b:St) (s:List UInt8) (w:World) (hsa:a.Small) (hsb:b.Small) (hs:s.length≤1048576) (hG:GW w.heap.size w) (hvm:(validB a&&validB b&&movesB a.n b.n s)=false) :
    Calls Tryd.prog 16 [vS a,vS b,str s].toArray w fun en w'=>en=.returned (.tuple #[.slice none 0 0,.slice none 0 0,str [110,111]])∧Below w.heap.size w w':=by
 refine fnStart (n:=101) (e:=[(0,vS a),(1,vS b),(2,str s)]) Tryd.func16 Z Z Z Z Ends.both (zF (qD (yT (v:=vS a) Z Z Z Z Z fun p3 hp3=>?_)))
 show Ll _ _ (Own _ _ [_]) _ _ ((3,pt_ p3)::_) _ _ _;refine yT (v:=vS b) Z Z Z Z Z fun p4 hp4=>?_
 show Ll _ _ (Own _ _ [_,_]) _ _ ((4,pt_ p4)::_) _ _ _;refine qQ 2 Z (qC (v:=str ([])) Z (yV Z Z) (zL (zC [2,3,4] [_,_,_] Z (zF (zF (zB (zD Z (zU (cs:=#[i6_ a.n,str a.set,str a.rel]) 1 Z zP Z Z zJ) (zD (v:=bo_ (validB a)) Z (qH Z Tryd.call32 Z zZ (fun w1 hw1=>isStructure_ok a w1 hsa)) (zA 2 Z (yF fun b20 hg20=>?_))))))))))
 cases b20
 ·
  replace hg20:=not_false hg20;refine zD Z (zU (cs:=#[i6_ b.n,str b.set,str b.rel]) 0 Z zP Z Z zJ) (zD (v:=bo_ (validB b)) Z (qH Z Tryd.call32 Z zZ (fun w1 hw1=>isStructure_ok b w1 hsb)) (zA 3 Z (yF fun b25 hg25=>?_)))
  cases b25
  ·
   replace hg25:=not_false hg25
   have hVa:validB a=true:=by simp_all
   have hVb:validB b=true:=by simp_all
   have ha:=validB_fine hVa
   have hb:=validB_fine hVb
   have ha1:=ha.lo
   have ha8:=ha.hi
   have hb1:=hb.lo
   have hb8:=hb.hi;refine zD Z (zU (cs:=#[i6_ a.n,str a.set,str a.rel]) 1 Z zP Z Z zJ) (zD Z (zU (cs:=#[i6_ b.n,str b.set,str b.rel]) 0 Z zP Z Z zJ) (zA 1 Z (zD (v:=bo_ (movesB a.n b.n s)) Z (qH Z Tryd.call42 Z zZ (fun w1 hw1=>iMoves_ok a b s w1 ha hb (by omega) (gw_max hG hw1) (gw_lt hG hw1))) (zA 2 Z (zH (zC [2,3,4,31] [_,_,_,_] Z (yA (b:=!(movesB a.n b.n s)) Z (fun h31=>?_) (fun h31=>?_))))))))
   ·
    replace h31:=not_true h31;refine zF (zB (zA 2 Z (zD (v:=str ([110,111])) Z (yV Z Z) (zH (zC [6,7,8] [_,_,_] Z (qI (Kt.end3 Z Z Z Z fun w' hw=>?_)))))))
    exact ⟨rfl,hw.below⟩
   replace h31:=not_false h31
   exact absurd hvm (by simp_all)
  replace hg25:=not_true hg25;refine zE Z (zE Z (zE Z (zE Z (zE Z (zA 1 Z (zH (zC [2,3,4,31] [_,_,_,_] Z (jB Z (zF (zB (zA 2 Z (zD (v:=str ([110,111])) Z (yV Z Z) (zH (zC [6,7,8] [_,_,_] Z (qI (Kt.end3 Z Z Z Z fun w' hw=>?_))))))))))))))))
  exact ⟨rfl,hw.below⟩
 replace hg20:=not_true hg20;refine zE Z (zE Z (zE Z (zA 2 Z (zE Z (zE Z (zE Z (zE Z (zE Z (zA 1 Z (zH (zC [2,3,4,31] [_,_,_,_] Z (jB Z (zF (zB (zA 2 Z (zD (v:=str ([110,111])) Z (yV Z Z) (zH (zC [6,7,8] [_,_,_] Z (qI (Kt.end3 Z Z Z Z fun w' hw=>?_))))))))))))))))))))
 exact ⟨rfl,hw.below⟩
end Go.Proofs.YteccfipfimbdgaaDoor
namespace Go.Wk
open Go.RowKit
inductive Fm where
 | leaf (c:UInt8) (vs:List UInt8)
 | one (c:UInt8) (vs:List UInt8) (p:Fm)
 | two (c:UInt8) (p q:Fm)
def isV (v:UInt8):Bool:=decide (97≤v.toNat)&&decide (v.toNat≤100)
def arV (c:UInt8):Nat:=if c=80 then 1 else if c=61∨c=69 then 2 else if c=65∨c=83∨c=50∨c=51∨c=52 then 1 else 0
def arP (c:UInt8):Nat:=if c=33 then 1 else if c=38∨c=124 then 2 else if c=65∨c=83∨c=50∨c=51∨c=52 then 1 else 0
def isOp (c:UInt8):Bool:=decide (c∈([116,102,80,61,69,33,38,124,65,83,50,51,52]:List UInt8))
def takeV:Nat→List UInt8→Option (List UInt8×List UInt8)
 | 0,s=>some ([],s)
 | _+1,[]=>none
 | k+1,v::s=>if isV v then (match takeV k s with | some (vs,r)=>some (v::vs,r) | none=>none) else none
def psF:Nat→List UInt8→Option (Fm×List UInt8)
  | 0,_=>none
  | _+1,[]=>none
  | n+1,c::s =>
    if isOp c then
      match takeV (arV c) s with
      | none=>none
      | some (vs,r) =>
        if arP c=0 then some (.leaf c vs,r)
        else if arP c=1 then (match psF n r with | some (p,r')=>some (.one c vs p,r') | none=>none)
        else (match psF n r with
          | some (p,r')=>(match psF n r' with | some (q,r2)=>some (.two c p q,r2) | none=>none)
          | none=>none)
    else none
theorem takeV_len:∀ {k:Nat} {s vs r:List UInt8},takeV k s=some (vs,r)→vs.length=k∧vs.length+r.length=s.length∧s=vs++r∧∀ v∈vs,isV v=true
  | 0,s,vs,r,h=>by
    injection h with h;injection h with h1 h2;subst h1;subst h2
    exact ⟨rfl,by simp,rfl,fun v hv=>by cases hv⟩
  | k+1,[],vs,r,h=>by cases h
  | k+1,v::s,vs,r,h=>by
    unfold takeV at h
    split at h
    · rename_i hv
      split at h
      · rename_i us r' e
        injection h with h;injection h with h1 h2;subst h1;subst h2
        obtain ⟨h3,h4,h5,h6⟩:=takeV_len e
        refine ⟨by simp [h3],by simp;omega,by rw [h5];rfl,fun u hu=>?_⟩
        rcases List.mem_cons.1 hu with rfl | hu
        · exact hv
        · exact h6 u hu
      · cases h
    · cases h
theorem psF_len:∀ {n:Nat} {s:List UInt8} {p:Fm} {r:List UInt8},psF n s=some (p,r)→r.length<s.length
  | 0,_,_,_,h=>by cases h
  | _+1,[],_,_,h=>by cases h
  | n+1,c::s,p,r,h=>by
    unfold psF at h
    split at h
    · split at h
      · cases h
      · rename_i vs t e
        obtain ⟨_,h2,_⟩:=takeV_len e
        split at h
        · injection h with h;injection h with _ h;subst h
          simp;omega
        · split at h
          · split at h
            · rename_i q r' e2
              injection h with h;injection h with _ h;subst h
              have:=psF_len e2
              simp;omega
            · cases h
          · split at h
            · rename_i q r' e2
              split at h
              · rename_i q2 r2 e3
                injection h with h;injection h with _ h;subst h
                have h3:=psF_len e2
                have h4:=psF_len e3
                simp;omega
              · cases h
            · cases h
    · cases h
theorem psF_fuel:∀ {n m:Nat} {s:List UInt8},s.length<n→s.length<m→psF n s=psF m s
  | 0,_,_,h,_=>by omega
  | _+1,0,_,_,h=>by omega
  | _+1,_+1,[],_,_=>rfl
  | n+1,m+1,c::s,h1,h2=>by
    unfold psF
    simp only [List.length_cons] at h1 h2
    split
    · cases e:takeV (arV c) s with
      | none=>rfl
      | some x =>
        obtain ⟨vs,r⟩:=x
        dsimp only
        obtain ⟨_,h3,_⟩:=takeV_len e
        have e1:psF n r=psF m r:=psF_fuel (by omega) (by omega)
        rw [e1]
        cases e2:psF m r with
        | none=>rfl
        | some y =>
          obtain ⟨p,r'⟩:=y
          dsimp only
          have h4:=psF_len e2
          rw [psF_fuel (n:=n) (m:=m) (s:=r') (by omega) (by omega)]
    · rfl
def parse (s:List UInt8):Option (Fm×List UInt8):=psF (s.length+1) s
theorem parse_len {s r:List UInt8} {p:Fm} (h:parse s=some (p,r)):r.length<s.length:=psF_len h
theorem parse_of {n:Nat} {s:List UInt8} (h:s.length<n):psF n s=parse s:=psF_fuel h (Nat.lt_succ_self _)
theorem parse_cons (c : UInt8) (s : List UInt8) : parse (c :: s) = if isOp c then
      match takeV (arV c) s with
      | none=>none
      | some (vs,r) =>
        if arP c=0 then some (.leaf c vs,r)
        else if arP c=1 then (match parse r with | some (p,r')=>some (.one c vs p,r') | none=>none)
        else (match parse r with
          | some (p,r')=>(match parse r' with | some (q,r2)=>some (.two c p q,r2) | none=>none)
          | none=>none)
    else none:=by
  unfold parse
  rw [psF]
  split
  · cases e:takeV (arV c) s with
    | none=>rfl
    | some x =>
      obtain ⟨vs,r⟩:=x
      dsimp only
      obtain ⟨_,h3,_⟩:=takeV_len e
      rw [parse_of (n:=(c::s).length) (s:=r) (by simp only [List.length_cons];omega)]
      unfold parse
      cases e2:psF (r.length+1) r with
      | none=>rfl
      | some y =>
        obtain ⟨p,r'⟩:=y
        dsimp only
        have h4:=psF_len e2
        rw [parse_of (n:=(c::s).length) (s:=r') (by simp only [List.length_cons];omega)]
        rfl
  · rfl
def fT:Fm→List UInt8
 | .leaf c vs=>c::vs
 | .one c vs p=>c::(vs++fT p)
 | .two c p q=>c::(fT p++fT q)
theorem ar_two {c:UInt8} (h0:¬ arP c=0) (h1:¬ arP c=1):arV c=0:=by
  by_cases e:c=38∨c=124
  · rcases e with rfl | rfl <;> rfl
  · exfalso
    unfold arP at h0 h1
    by_cases e2:c=33
    · rw [if_pos e2] at h1;exact h1 rfl
    · rw [if_neg e2,if_neg e] at h0 h1
      split at h1
      · exact h1 rfl
      · rename_i h3;rw [if_neg h3] at h0;exact h0 rfl
theorem parse_text:∀ (n:Nat) {s r:List UInt8} {p:Fm},s.length≤n→parse s=some (p,r)→s=fT p++r
  | 0,[],_,_,_,h=>by cases h
  | 0,_::_,_,_,hn,_=>by simp at hn
  | _+1,[],_,_,_,h=>by cases h
  | n+1,c::s,r,p,hn,h=>by
    rw [parse_cons] at h
    simp only [List.length_cons] at hn
    split at h
    · split at h
      · cases h
      · rename_i vs t e
        obtain ⟨_,h2,h3,_⟩:=takeV_len e
        by_cases h0:arP c=0
        · rw [if_pos h0] at h
          injection h with h;injection h with h4 h;subst h;subst h4
          rw [h3];rfl
        · rw [if_neg h0] at h
          by_cases h1:arP c=1
          · rw [if_pos h1] at h
            split at h
            · rename_i q r' e2
              injection h with h;injection h with h4 h;subst h;subst h4
              have:=parse_text n (s:=t) (by omega) e2
              rw [h3,this];simp [fT]
            · cases h
          · rw [if_neg h1] at h
            split at h
            · rename_i q r' e2
              split at h
              · rename_i q2 r2 e3
                injection h with h;injection h with h4 h;subst h;subst h4
                have h5:=parse_len e2
                have h6:=parse_text n (s:=t) (by omega) e2
                have h7:=parse_text n (s:=r') (by omega) e3
                have hvs:vs=[]:=by
                  have h8:=(takeV_len e).1
                  rw [ar_two h0 h1] at h8
                  exact List.length_eq_zero_iff.1 h8
                rw [h3,hvs,h6,h7];simp [fT]
              · cases h
            · cases h
    · cases h
def vI (v:UInt8):Nat:=v.toNat - 97
def vBit (v:UInt8):Nat:=2 ^ vI v
def vBits:List UInt8→Nat
 | []=>0
 | v::vs=>vBit v ||| vBits vs
def frB:Fm→Nat
 | .leaf _ vs=>vBits vs
 | .one _ [] p=>frB p
 | .one _ (v::_) p=>frB p &&& (15 ^^^ vBit v)
 | .two _ p q=>frB p ||| frB q
def allB:Fm→Nat
 | .leaf _ vs=>vBits vs
 | .one _ vs p=>vBits vs ||| allB p
 | .two _ p q=>allB p ||| allB q
def cntT (f:Nat→Bool):Nat→Nat
 | 0=>0
 | x+1=>cntT f x+(if f x then 1 else 0)
def need (c:UInt8) (n:Nat):Nat:=if c=65 then n else if c=83 then 1 else c.toNat - 48
def atV (env:List Int) (v:UInt8):Int:=env.getD (vI v) 0
def ev (a:St):Fm→List Int→Bool
 | .leaf c vs,env=>if c=116 then true else if c=102 then false else if c=80 then a.inSet (atV env (vs.getD 0 0)) else if c=61 then decide (atV env (vs.getD 0 0)=atV env (vs.getD 1 0)) else a.inRel (atV env (vs.getD 0 0)) (atV env (vs.getD 1 0))
 | .one c vs p,env=>if c=33 then !ev a p env else decide (need c a.n.toNat≤cntT (fun x=>ev a p (env.set (vI (vs.getD 0 0)) (x:Int))) a.n.toNat)
 | .two c p q,env=>if c=38 then ev a p env&&ev a q env else ev a p env||ev a q env
def rankF:Fm→Nat
 | .leaf _ _=>0
 | .one c _ p=>if c=33 then rankF p else if c=65∨c=83 then rankF p+1 else rankF p+(c.toNat - 48)
 | .two _ p q=>max (rankF p) (rankF q)
end Go.Wk
namespace Go.Wk
open Go.RowKit
def wfF:Fm→Prop
 | .leaf c vs=>isOp c=true∧arP c=0∧vs.length=arV c∧∀ v∈vs,isV v=true
 | .one c vs p=>isOp c=true∧arP c=1∧vs.length=arV c∧(∀ v∈vs,isV v=true)∧wfF p
 | .two c p q=>isOp c=true∧¬ arP c=0∧¬ arP c=1∧wfF p∧wfF q
theorem parse_wf:∀ (n:Nat) {s r:List UInt8} {p:Fm},s.length≤n→parse s=some (p,r)→wfF p
  | 0,[],_,_,_,h=>by cases h
  | 0,_::_,_,_,hn,_=>by simp at hn
  | _+1,[],_,_,_,h=>by cases h
  | n+1,c::s,r,p,hn,h=>by
    rw [parse_cons] at h
    simp only [List.length_cons] at hn
    split at h
    · rename_i hop
      split at h
      · cases h
      · rename_i vs t e
        obtain ⟨h7,h2,_,h4⟩:=takeV_len e
        by_cases h0:arP c=0
        · rw [if_pos h0] at h
          injection h with h;injection h with h5 h;subst h5
          exact ⟨hop,h0,h7,h4⟩
        · rw [if_neg h0] at h
          by_cases h1:arP c=1
          · rw [if_pos h1] at h
            split at h
            · rename_i q r' e2
              injection h with h;injection h with h5 h;subst h5
              exact ⟨hop,h1,h7,h4,parse_wf n (by omega) e2⟩
            · cases h
          · rw [if_neg h1] at h
            split at h
            · rename_i q r' e2
              split at h
              · rename_i q2 r2 e3
                injection h with h;injection h with h5 h;subst h5
                have h6:=parse_len e2
                exact ⟨hop,h0,h1,parse_wf n (by omega) e2,parse_wf n (by omega) e3⟩
              · cases h
            · cases h
    · cases h
end Go.Wk
namespace Go.Wk
open Go.RowKit
def EnvOk (e:List Int):Prop:=e.length=4∧∀ i:Nat,i<4→0≤e.getD i 0∧e.getD i 0<8
def kSum (b:Nat) (e:List Int):Nat→Nat
 | 0=>0
 | i+1=>kSum b e i+(if b.testBit i then (e.getD i 0).toNat*8 ^ i else 0)
def keyF (p:Fm) (e:List Int):Int:=(kSum (frB p) e 4:Int)
end Go.Wk
namespace Go.Wk
open Go.RowKit
theorem drop_at {f:List UInt8} {i:Nat} (h:i<f.length):f.drop i=f.getD i 0::f.drop (i+1):=by
 rw [getD_at h];exact List.drop_eq_getElem_cons h
theorem parse_rest {f r:List UInt8} {i:Nat} {p:Fm} (h:parse (f.drop i)=some (p,r)):r=f.drop (f.length - r.length)∧i<f.length - r.length∧r.length≤f.length:=by
 have h1:=parse_text _ (Nat.le_refl _) h
 have h2:=parse_len h
 rw [List.length_drop] at h2
 refine ⟨?_,by omega,by omega⟩
 have h3:f=f.take i++(fT p++r):=by rw [← h1];exact (List.take_append_drop i f).symm
 have h4:f.length=(f.take i).length+((fT p).length+r.length):=by
  have:=congrArg List.length h3
  rwa [List.length_append,List.length_append] at this
 have h5:f.drop (f.length - r.length)=(f.take i++(fT p++r)).drop ((f.take i++fT p).length):=by
  rw [← h3]
  congr 1
  rw [List.length_append];omega
 rw [h5,← List.append_assoc]
 exact (List.drop_left).symm
end Go.Wk
namespace Go.Wk
open Go.RowKit
def Pa (f:List UInt8) (n:Nat) (p:Fm) (e:Nat):Prop:=parse (f.drop n)=some (p,f.drop e)∧n<e∧e≤f.length
theorem Pa.of {f r:List UInt8} {n:Nat} {p:Fm} (h:parse (f.drop n)=some (p,r)):Pa f n p (f.length - r.length)∧r=f.drop (f.length - r.length):=by
 obtain ⟨h1,h2,_⟩:=parse_rest h
 exact ⟨⟨by rw [h,← h1],h2,by omega⟩,h1⟩
theorem Pa.lt {f:List UInt8} {n e:Nat} {p:Fm} (h:Pa f n p e):n<f.length:=by have:=h.2;omega
theorem Pa.wf {f:List UInt8} {n e:Nat} {p:Fm} (h:Pa f n p e):wfF p:=parse_wf _ (Nat.le_refl _) h.1
theorem Pa.same {f:List UInt8} {n e e':Nat} {p p':Fm} (h:Pa f n p e) (h':Pa f n p' e'):p=p'∧e=e':=by
 have h1:=h.1.symm.trans h'.1
 injection h1 with h1;injection h1 with h1 h2
 have h3:=congrArg List.length h2
 rw [List.length_drop,List.length_drop] at h3
 have:=h.2.2;have:=h'.2.2
 exact ⟨h1,by omega⟩
theorem drop_inj {f:List UInt8} {e k:Nat} (h:f.drop e=f.drop k) (h1:e≤f.length) (h2:k≤f.length):e=k:=by
 have h3:=congrArg List.length h
 rw [List.length_drop,List.length_drop] at h3;omega
theorem Pa.cons {f:List UInt8} {n e:Nat} {p:Fm} (h:Pa f n p e):isOp (f.getD n 0)=true∧∃ vs k,takeV (arV (f.getD n 0)) (f.drop (n+1))=some (vs,f.drop k)∧n<k∧k≤f.length∧vs.length=arV (f.getD n 0)∧k=n+1+arV (f.getD n 0) ∧
    ((arP (f.getD n 0)=0∧p=.leaf (f.getD n 0) vs∧e=k)∨(arP (f.getD n 0)=1∧∃ q,Pa f k q e∧p=.one (f.getD n 0) vs q) ∨
     (arP (f.getD n 0) ≠ 0∧arP (f.getD n 0) ≠ 1∧∃ q m q2,Pa f k q m∧Pa f m q2 e∧p=.two (f.getD n 0) q q2)):=by
  have hn:=h.lt
  obtain ⟨h1,h2,h3⟩:=h
  rw [drop_at hn,parse_cons] at h1
  split at h1
  · rename_i ho
    refine ⟨ho,?_⟩
    split at h1
    · cases h1
    · rename_i vs r et
      obtain ⟨h4,h5,h6,_⟩:=takeV_len et
      rw [List.length_drop] at h5
      have hr:r=f.drop (n+1+vs.length):=by
        rw [← List.drop_drop,h6,List.drop_left]
      have hk:n+1+vs.length≤f.length:=by omega
      refine ⟨vs,n+1+vs.length,by rw [et,hr],by omega,hk,h4,by omega,?_⟩
      by_cases c0:arP (f.getD n 0)=0
      · rw [if_pos c0] at h1
        injection h1 with h1;injection h1 with h7 h8
        exact .inl ⟨c0,h7.symm,drop_inj (h8.symm.trans hr) h3 hk⟩
      · rw [if_neg c0] at h1
        by_cases c1:arP (f.getD n 0)=1
        · rw [if_pos c1] at h1
          split at h1
          · rename_i q r' e2
            injection h1 with h1;injection h1 with h7 h8;subst h8
            have h9:=parse_len e2
            rw [hr] at e2
            refine .inr (.inl ⟨c1,q,⟨e2,?_,h3⟩,h7.symm⟩)
            rw [List.length_drop] at h9;omega
          · cases h1
        · rw [if_neg c1] at h1
          split at h1
          · rename_i q r' e2
            split at h1
            · rename_i q2 r2 e3
              injection h1 with h1;injection h1 with h7 h8;subst h8
              have h9:=parse_len e3
              rw [hr] at e2
              obtain ⟨h10,h11⟩:=Pa.of e2
              refine .inr (.inr ⟨c0,c1,q,_,q2,h10,⟨by rw [← h11];exact e3,?_,h3⟩,h7.symm⟩)
              rw [List.length_drop] at h9;omega
            · cases h1
          · cases h1
  · cases h1
end Go.Wk
namespace Go.Wk
open Go.RowKit
section
variable {P:Program} {n:Nat} {C:World→Prop} {e:Env} {o:Oper}
theorem bits_nat {op:BinOp} {f:BitVec 64→BitVec 64→BitVec 64} {g:Nat→Nat→Nat} {a b:Nat} (ha:a<4611686018427387904) (hb:b<4611686018427387904) (hf:∀ x y:BitVec 64,x.toNat=a→y.toNat=b→(f x y).toNat=g a b) (hg:g a b<4611686018427387904) (h:bits op .i64 (a:Int) (b:Int)=IntKind.i64.wrap ((f (BitVec.ofInt 64 (a:Int)) (BitVec.ofInt 64 (b:Int))).toNat:Int)):bits op .i64 (a:Int) (b:Int)=(g a b:Int):=by
 rw [h,hf _ _ (by rw [BitVec.toNat_ofInt];omega) (by rw [BitVec.toNat_ofInt];omega),IntWalk.i64_in _ (by omega)]
theorem or_lt62 {a b:Nat} (ha:a<4611686018427387904) (hb:b<4611686018427387904):a ||| b<4611686018427387904:=Nat.or_lt_two_pow (n:=62) ha hb
theorem OpQ.or {t t':TypeId} {x y:Operand} {a b:Nat} (h:o.op=.binOp .or t x y t') (hx:opd e x=some (.int .i64 (a:Int))) (hy:opd e y=some (.int .i64 (b:Int))) (ha:a<4611686018427387904) (hb:b<4611686018427387904):OpQ P n C e o (.int .i64 ((a ||| b:Nat):Int)):=OpQ.val fun A hf w=>by
  unfold execOp;rw [h];simp only [hf.opd hx,hf.opd hy]
  have:=bits_nat (op:=.or) (f:=(· ||| ·)) (g:=(· ||| ·)) ha hb (fun x y h1 h2=>by rw [BitVec.toNat_or,h1,h2]) (or_lt62 ha hb) rfl
  simp [go_sem,this]
end
end Go.Wk
namespace Go.Wk
open Go.RowKit
def quI (c:Int):Prop:=c=65∨c=83∨c=50∨c=51∨c=52
instance (c:Int):Decidable (quI c):=by unfold quI;exact inferInstance
def EnvA (a:St) (e:List Int):Prop:=e.length=4∧∀ i:Nat,i<4→a.El (e.getD i 0)
theorem EnvA.set {a:St} {e:List Int} (h:EnvA a e) {k:Nat} {x:Int} (hx:a.El x):EnvA a (e.set k x):=by
  refine ⟨by rw [List.length_set];exact h.1,fun i hi=>?_⟩
  rw [List.getD_eq_getElem?_getD,List.getElem?_set]
  by_cases e1:k=i
  · subst e1
    have h9:=h.1
    rw [if_pos rfl,if_pos (by omega)];exact hx
  · rw [if_neg e1,← List.getD_eq_getElem?_getD];exact h.2 i hi
theorem EnvA.at {a:St} {e:List Int} (h:EnvA a e) {v:UInt8} (hv:vI v<4):a.El (e.getD (vI v) 0):=h.2 _ hv
end Go.Wk
namespace Go.Wk
open Go.RowKit
def pW:Nat→St→List Int→St→List Int→Prop
 | 0,a,xs,b,ys=>(∀ i:Nat,i<xs.length→(xs.getD i 0<0↔ys.getD i 0<0))∧sameB a (placed xs xs.length) b (placed ys ys.length)=true
 | n+1,a,xs,b,ys=>pW n a xs b ys∧∀ i:Nat,i<xs.length→(∀ x:Nat,x<a.n.toNat→∃ y:Nat,y<b.n.toNat∧pW n a (xs.set i (x:Int)) b (ys.set i (y:Int))) ∧
   (∀ y:Nat,y<b.n.toNat→∃ x:Nat,x<a.n.toNat∧pW n a (xs.set i (x:Int)) b (ys.set i (y:Int)))
def idxP (size:Nat) (xs:List Int):Nat:=xs.foldl (fun n x=>n*(size+1)+(x+1).toNat) 0
def atP (size:Nat):Nat→Nat→List Int
 | 0,_=>[]
 | k+1,n=>atP size k (n / (size+1))++[((n % (size+1):Nat):Int) - 1]
def Peb (size k:Nat) (xs:List Int):Prop:=xs.length=k∧∀ x∈xs,-1≤x∧x<(size:Int)
@[simp] theorem atP_len (size:Nat):∀ k n,(atP size k n).length=k
 | 0,_=>rfl
 | k+1,n=>by simp [atP,atP_len size k]
theorem peb_set {size k i:Nat} {xs:List Int} (h:Peb size k xs) {x:Nat} (hx:x<size):Peb size k (xs.set i (x:Int)):=by
  refine ⟨by rw [List.length_set];exact h.1,fun y hy=>?_⟩
  rcases List.mem_or_eq_of_mem_set hy with h1 | h1
  · exact h.2 y h1
  · rw [h1];omega
def numP (size:Nat) (R:List Int) (xs:List Int):Int:=R.getD (idxP size xs) 0
structure GoodP (n k:Nat) (a b:St) (Ra Rb:List Int):Prop where
 aa:∀ xs ys,Peb a.n.toNat k xs→Peb a.n.toNat k ys→(numP a.n.toNat Ra xs=numP a.n.toNat Ra ys↔pW n a xs a ys)
 ab:∀ xs ys,Peb a.n.toNat k xs→Peb b.n.toNat k ys→(numP a.n.toNat Ra xs=numP b.n.toNat Rb ys↔pW n a xs b ys)
 bb:∀ xs ys,Peb b.n.toNat k xs→Peb b.n.toNat k ys→(numP b.n.toNat Rb xs=numP b.n.toNat Rb ys↔pW n b xs b ys)
def NumOf (T:List (List UInt8)) (text:Nat→List UInt8) (R:List Int) (N:Nat):Prop:=R.length=N∧∀ i:Nat,i<N→∃ m:Nat,R.getD i 0=(m:Int)∧T[m]?=some (text i)
theorem NumOf.mono {T T':List (List UInt8)} {text:Nat→List UInt8} {R:List Int} {N:Nat} (h:NumOf T text R N) (hp:T <+: T'):NumOf T' text R N :=
 ⟨h.1,fun i hi=>(h.2 i hi).elim fun m hm=>⟨m,hm.1,prefix_get hp hm.2⟩⟩
end Go.Wk
namespace Go.Wk
open Go.RowKit
end Go.Wk
namespace Go.Wk
open Go.RowKit
def NumTo (T:List (List UInt8)) (text:Nat→List UInt8) (R:List Int) (N k:Nat):Prop:=R.length=N∧∀ i:Nat,i<k→∃ m:Nat,R.getD i 0=(m:Int)∧T[m]?=some (text i)
theorem NumTo.zero (T:List (List UInt8)) (text:Nat→List UInt8) (N:Nat):NumTo T text (List.replicate N 0) N 0:=⟨by simp,fun i hi=>absurd hi (by omega)⟩
theorem NumTo.step {T T':List (List UInt8)} {text:Nat→List UInt8} {R:List Int} {N k m:Nat} (h:NumTo T text R N k) (hp:T <+: T') (hm:T'[m]?=some (text k)) (hk:k<N):NumTo T' text (R.set k (m:Int)) N (k+1):=by
  refine ⟨by rw [List.length_set];exact h.1,fun i hi=>?_⟩
  by_cases e:i=k
  · subst e
    exact ⟨m,by rw [List.getD_eq_getElem?_getD,List.getElem?_set_self (by rw [h.1];exact hk)];rfl,hm⟩
  · obtain ⟨p,h1,h2⟩:=h.2 i (by omega)
    exact ⟨p,by rw [List.getD_eq_getElem?_getD,List.getElem?_set_ne (fun e'=>e e'.symm),← List.getD_eq_getElem?_getD];exact h1,prefix_get hp h2⟩
theorem NumTo.all {T:List (List UInt8)} {text:Nat→List UInt8} {R:List Int} {N:Nat} (h:NumTo T text R N N):NumOf T text R N:=h
theorem NumOf.small {T:List (List UInt8)} {text:Nat→List UInt8} {R:List Int} {N:Nat} (h:NumOf T text R N) (hT:T.length≤1000000):∀ i:Nat,0≤R.getD i 0∧R.getD i 0<1000000:=fun i=>by
  rcases Nat.lt_or_ge i N with h1 | h1
  · obtain ⟨m,e,h2⟩:=h.2 i h1
    have:=(List.getElem?_eq_some_iff.1 h2).1
    rw [e];omega
  · rw [List.getD_eq_getElem?_getD,List.getElem?_eq_none (by rw [h.1];exact h1)];exact ⟨Int.le_refl 0,by decide⟩
end Go.Wk
namespace Go.Wk
open Go.RowKit
def Onto (T0 T:List (List UInt8)) (R:List Int) (k:Nat):Prop:=∀ m:Nat,T0.length≤m→m<T.length→∃ i:Nat,i<k∧R.getD i 0=(m:Int)
theorem Onto.zero (T:List (List UInt8)) (R:List Int):Onto T T R 0:=fun m h1 h2=>absurd h1 (by omega)
theorem Onto.step {T0 T T':List (List UInt8)} {R:List Int} {k m:Nat} {s:List UInt8} (h:Onto T0 T R k) (hd:T'=T∨T'=T++[s]∧m=T.length) (hk:k<R.length):Onto T0 T' (R.set k (m:Int)) (k+1):=fun p h1 h2=>by
  have old:∀ i:Nat,i<k→(R.set k (m:Int)).getD i 0=R.getD i 0:=fun i hi=>by
    rw [List.getD_eq_getElem?_getD,List.getElem?_set_ne (by omega),← List.getD_eq_getElem?_getD]
  have new:(R.set k (m:Int)).getD k 0=(m:Int):=by rw [List.getD_eq_getElem?_getD,List.getElem?_set_self hk];rfl
  rcases hd with e | ⟨e,e2⟩
  · subst e
    obtain ⟨i,hi,h3⟩:=h p h1 h2
    exact ⟨i,by omega,(old i hi).trans h3⟩
  · rw [e,List.length_append,List.length_singleton] at h2
    rcases Nat.lt_or_ge p T.length with h4 | h4
    · obtain ⟨i,hi,h3⟩:=h p h1 h4
      exact ⟨i,by omega,(old i hi).trans h3⟩
    · exact ⟨k,by omega,by rw [new,e2,show p=T.length from by omega]⟩
structure LevP (n k:Nat) (a b:St) (Ra Rb:List Int) (K:Nat):Prop where
 good:GoodP n k a b Ra Rb
 la:Ra.length=(a.n.toNat+1) ^ k
 lb:Rb.length=(b.n.toNat+1) ^ k
 sa:∀ i:Nat,i<Ra.length→0≤Ra.getD i 0∧Ra.getD i 0<(K:Int)
 sb:∀ i:Nat,i<Rb.length→0≤Rb.getD i 0∧Rb.getD i 0<(K:Int)
 onto:∀ m:Nat,m<K→(∃ i:Nat,i<Ra.length∧Ra.getD i 0=(m:Int))∨∃ i:Nat,i<Rb.length∧Rb.getD i 0=(m:Int)
theorem LevP.ma {n k:Nat} {a b:St} {Ra Rb:List Int} {K:Nat} (h:LevP n k a b Ra Rb K) (hK:K≤1000000):∀ i:Nat,0≤Ra.getD i 0∧Ra.getD i 0<1000000:=fun i=>by
  rcases Nat.lt_or_ge i Ra.length with h1 | h1
  · have:=h.sa i h1;omega
  · rw [List.getD_eq_getElem?_getD,List.getElem?_eq_none h1];exact ⟨Int.le_refl 0,by decide⟩
theorem LevP.mb {n k:Nat} {a b:St} {Ra Rb:List Int} {K:Nat} (h:LevP n k a b Ra Rb K) (hK:K≤1000000):∀ i:Nat,0≤Rb.getD i 0∧Rb.getD i 0<1000000:=fun i=>by
  rcases Nat.lt_or_ge i Rb.length with h1 | h1
  · have:=h.sb i h1;omega
  · rw [List.getD_eq_getElem?_getD,List.getElem?_eq_none h1];exact ⟨Int.le_refl 0,by decide⟩
def sS (a b:St) (s:Bool×List Int):St:=if s.1 then b else a
def sP (a b:St) (k:Nat) (s:Bool×List Int):Prop:=Peb (sS a b s).n.toNat k s.2
def Still (n k:Nat) (a b:St):Prop:=∀ s t,sP a b k s→sP a b k t→pW n (sS a b s) s.2 (sS a b t) t.2→pW (n+1) (sS a b s) s.2 (sS a b t) t.2
theorem Still.next {n k:Nat} {a b:St} (h:Still n k a b):Still (n+1) k a b:=fun s t hs ht e=>by
  refine ⟨e,fun i hi=>?_⟩
  obtain ⟨h1,h2⟩:=e.2 i hi
  have put:∀ {u:Bool×List Int} {x:Nat},sP a b k u→x<(sS a b u).n.toNat→sP a b k (u.1,u.2.set i (x:Int)):=fun hu hx=>peb_set hu hx
  refine ⟨fun x hx=>?_,fun y hy=>?_⟩
  · obtain ⟨y,hy,e2⟩:=h1 x hx
    exact ⟨y,hy,h (s.1,s.2.set i (x:Int)) (t.1,t.2.set i (y:Int)) (put hs hx) (put ht hy) e2⟩
  · obtain ⟨x,hx,e2⟩:=h2 y hy
    exact ⟨x,hx,h (s.1,s.2.set i (x:Int)) (t.1,t.2.set i (y:Int)) (put hs hx) (put ht hy) e2⟩
theorem Still.all {n k:Nat} {a b:St} (h:Still n k a b):∀ m:Nat,Still (n+m) k a b
 | 0=>h
 | m+1=>(h.all m).next
end Go.Wk
namespace Go.Wk
open Go.RowKit
structure Levs (k M:Nat) (a b:St) (A B:List (List Int)) (m g:Nat):Prop where
 la:A.length=m+1
 lb:B.length=m+1
 lev:∃ Ks:Nat→Nat,(∀ i:Nat,i≤m→Ks i≤1458∧LevP i k a b (A.getD i []) (B.getD i []) (Ks i))∧(4<M→∀ i:Nat,i<g→Ks i<Ks (i+1))
theorem Levs.at {k M m g:Nat} {a b:St} {A B:List (List Int)} (h:Levs k M a b A B m g) {i:Nat} (hi:i≤m):∃ K,K≤1458∧LevP i k a b (A.getD i []) (B.getD i []) K:=by
 obtain ⟨_,_,Ks,h1,_⟩:=h
 exact ⟨Ks i,h1 i hi⟩
end Go.Wk
namespace Go.Wk
open Go.RowKit
theorem RowsOk.cell {rr:List RR} {u:Array Value} {c i:Nat} (h:RowsOk rr u c) (hi:i<rr.length):u.toList[i]?=some (rv (rr.getD i rd)):=by
 have:=rvs_at hi
 rw [← h.vals,List.getElem?_take,if_pos hi] at this
 exact this
end Go.Wk
namespace Go.Wk
open Go.RowKit
end Go.Wk
namespace Go.Wk
open Go.RowKit
end Go.Wk
namespace Go.Wk
open Go.RowKit
end Go.Wk
namespace Go.Wk
open Go.RowKit
def dig (pr s i:Nat):Nat:=s / pr ^ i % pr
def zer (pr s i:Nat):Nat:=s - pr ^ i*dig pr s i
def xOf (nb d:Nat):Int:=if d=0 then -1 else (((d - 1) / nb:Nat):Int)
def yOf (nb d:Nat):Int:=if d=0 then -1 else (((d - 1) % nb:Nat):Int)
def pX (nb pr k s:Nat):List Int:=(List.range k).map fun i=>xOf nb (dig pr s i)
def pY (nb pr k s:Nat):List Int:=(List.range k).map fun i=>yOf nb (dig pr s i)
@[simp] theorem pX_len (nb pr k s:Nat):(pX nb pr k s).length=k:=by simp [pX]
@[simp] theorem pY_len (nb pr k s:Nat):(pY nb pr k s).length=k:=by simp [pY]
def code (nb:Nat) (x y:Int):Nat:=if 0≤x then 1+x.toNat*nb+y.toNat else 0
end Go.Wk
namespace Go.Wk
open Go.RowKit
def prN (a b:St):Nat:=a.n.toNat*b.n.toNat+1
def stX (a b:St) (k s:Nat):List Int:=pX b.n.toNat (prN a b) k s
def stY (a b:St) (k s:Nat):List Int:=pY b.n.toNat (prN a b) k s
@[simp] theorem stX_len (a b:St) (k s:Nat):(stX a b k s).length=k:=by unfold stX;simp
@[simp] theorem stY_len (a b:St) (k s:Nat):(stY a b k s).length=k:=by unfold stY;simp
open Classical in
noncomputable def winAt (n:Nat) (a b:St) (k s:Nat):Bool:=decide (pW n a (stX a b k s) b (stY a b k s))
noncomputable def WL (n:Nat) (a b:St) (k:Nat):List Bool:=(List.range (prN a b ^ k)).map (winAt n a b k)
@[simp] theorem WL_len (n:Nat) (a b:St) (k:Nat):(WL n a b k).length=prN a b ^ k:=by simp [WL]
def Ans (W:Nat→Bool) (na nb rest step:Nat):Prop:=(∀ x:Nat,x<na→∃ y:Nat,y<nb∧W (rest+step*(1+x*nb+y))=true)∧∀ y:Nat,y<nb→∃ x:Nat,x<na∧W (rest+step*(1+x*nb+y))=true
end Go.Wk
namespace Go.Wk
open Go.RowKit
structure Marks (f:Nat→Nat→Bool) (na nb x y:Nat) (R C:List Bool):Prop where
 rl:R.length=na
 cl:C.length=nb
 rows:∀ i:Nat,i<na→(R.getD i false=true↔∃ j:Nat,j<nb∧(i<x∨i=x∧j<y)∧f i j=true)
 cols:∀ j:Nat,j<nb→(C.getD j false=true↔∃ i:Nat,i<na∧(i<x∨i=x∧j<y)∧f i j=true)
end Go.Wk
namespace Go.Wk
open Go.RowKit
end Go.Wk
namespace Go.Wk
end Go.Wk
namespace Go.Wk
open Go.RowKit
structure TurnAt (fit W:Nat→Bool) (a b:St) (k i S:Nat) (X:List Bool):Prop where
 len:X.length=prN a b ^ k
 at_:∀ s:Nat,s<prN a b ^ k→(X.getD s false=true↔fit s=true∧(∀ j:Nat,j<i→Ans W a.n.toNat b.n.toNat (zer (prN a b) s j) (prN a b ^ j))∧(zer (prN a b) s i<S→Ans W a.n.toNat b.n.toNat (zer (prN a b) s i) (prN a b ^ i)))
structure Cleared (X0 X:List Bool) (S step Q:Nat):Prop where
 len:X.length=X0.length
 at_:∀ s:Nat,s<X0.length→(X.getD s false=true↔X0.getD s false=true∧¬ ∃ q,q<Q∧s=S+step*q)
end Go.Wk
namespace Go.Wk
open Go.RowKit
end Go.Wk
namespace Go.Wk
open Go.RowKit
end Go.Wk
namespace Go.Wk
open Go.RowKit
section
variable {P:Program} {n:Nat} {C:World→Prop} {N R:Act→World→Prop} {X:List (Nat×(Act→World→Prop))} {e:Env}
theorem Own.trans {B:Nat} {w0 w1 w:World} {hs:List (Nat×Obj)} (h:Own B w0 hs w1) (k:Below w1.heap.size w1 w):Own B w0 hs w:=h.calls k
end
section
variable {P:Program} {n:Nat} {B:Nat} {w0:World} {hs:List (Nat×Obj)} {N R:Act→World→Prop} {X:List (Nat×(Act→World→Prop))} {e:Env} {ops:Array Oper} {l:List Oper} {o:Oper}
end
end Go.Wk
namespace Go.Wk
open Go.RowKit
def ptrV (p:Nat):Value:=.pointer (some ⟨p,0,none⟩)
def u8V (v:UInt8):Value:=.int .u8 (v.toNat:Int)
def NodeC (T:TypeId) (w:World) (p:Nat) (c:UInt8) (vs:List UInt8) (ps:List Nat) (fr al:Nat):Prop :=
 ∃ vv pv,w.heap[p]?=some (.cells #[u8V c,vv,pv,.int .i64 (fr:Int),.int .i64 (al:Int)] T (0,0))∧Row w vv (vs.map u8V)∧Row w pv (ps.map ptrV)
def Tree (T:TypeId) (w:World):Fm→Nat→Prop
 | .leaf c vs,p=>NodeC T w p c vs [] (frB (.leaf c vs)) (allB (.leaf c vs))
 | .one c vs q,p=>∃ q',NodeC T w p c vs [q'] (frB (.one c vs q)) (allB (.one c vs q))∧Tree T w q q'
 | .two c q r,p=>∃ q' r',NodeC T w p c [] [q',r'] (frB (.two c q r)) (allB (.two c q r))∧Tree T w q q'∧Tree T w r r'
theorem Tree.node {T:TypeId} {w:World}:∀ {fm:Fm} {p:Nat},Tree T w fm p→∃ c vs ps,NodeC T w p c vs ps (frB fm) (allB fm)
 | .leaf c vs,_,h=>⟨c,vs,[],h⟩
 | .one c vs _,_,h=>by obtain ⟨q',h1,_⟩:=h;exact ⟨c,vs,[q'],h1⟩
 | .two c _ _,_,h=>by obtain ⟨q',r',h1,_⟩:=h;exact ⟨c,[],[q',r'],h1⟩
theorem Row.same {w:World} {v:Value} {vs us:List Value} (h:Row w v vs) (k:Row w v us):vs=us:=by
  obtain ⟨src,cap,h1,_,h3,h4⟩:=h
  obtain ⟨src',cap',k1,_,k3,k4⟩:=k
  rw [h1] at k1
  injection k1 with e1 e2 e3
  subst e1
  cases src with
  | none=>rw [h3 rfl,k3 rfl]
  | some ad =>
    apply List.ext_getElem? ;intro j
    rcases Nat.lt_or_ge j vs.length with hj | hj
    · have a1:=(h4 ad rfl).2 j vs[j] (List.getElem?_eq_getElem hj)
      have a2:=(k4 ad rfl).2 j us[j] (List.getElem?_eq_getElem (by omega))
      rw [List.getElem?_eq_getElem hj,List.getElem?_eq_getElem (show j<us.length by omega)]
      exact a1.symm.trans a2
    · rw [List.getElem?_eq_none hj,List.getElem?_eq_none (by omega)]
theorem u8V_inj {a b:UInt8} (h:u8V a=u8V b):a=b:=by
 unfold u8V at h;injection h with _ h
 exact UInt8.toNat.inj (by omega)
theorem ptrV_inj {a b:Nat} (h:ptrV a=ptrV b):a=b:=by
 unfold ptrV at h;injection h with h;injection h with h;injection h
theorem map_inj' {α β:Type} {f:α→β} (hf:∀ a b,f a=f b→a=b):∀ {xs ys:List α},xs.map f=ys.map f→xs=ys
 | [],[],_=>rfl
 | [],_::_,h=>by cases h
 | _::_,[],h=>by cases h
 | x::xs,y::ys,h=>by
  simp only [List.map_cons,List.cons.injEq] at h
  rw [hf x y h.1,map_inj' hf h.2]
theorem NodeC.same {T:TypeId} {w:World} {p:Nat} {c c':UInt8} {vs vs':List UInt8} {ps ps':List Nat} {fr al fr' al':Nat} (h:NodeC T w p c vs ps fr al) (k:NodeC T w p c' vs' ps' fr' al'):c=c'∧vs=vs'∧ps=ps':=by
 obtain ⟨vv,pv,h1,h2,h3⟩:=h
 obtain ⟨vv',pv',k1,k2,k3⟩:=k
 rw [h1] at k1
 have k4:=Option.some.inj k1
 injection k4 with k5
 have e1:u8V c=u8V c':=by have:=congrArg (fun a:Array Value=>a[0]?) k5;exact Option.some.inj this
 have e2:vv=vv':=by have:=congrArg (fun a:Array Value=>a[1]?) k5;exact Option.some.inj this
 have e3:pv=pv':=by have:=congrArg (fun a:Array Value=>a[2]?) k5;exact Option.some.inj this
 subst e2;subst e3
 exact ⟨u8V_inj e1,map_inj' (fun _ _=>u8V_inj) (h2.same k2),map_inj' (fun _ _=>ptrV_inj) (h3.same k3)⟩
theorem Tree.same {T:TypeId} {w:World}:∀ {fm fm':Fm} {p:Nat},Tree T w fm p→Tree T w fm' p→fm=fm'
 | .leaf c vs,.leaf c' vs',p,h,k=>by obtain ⟨e1,e2,_⟩:=NodeC.same h k;rw [e1,e2]
 | .leaf c vs,.one c' vs' q,p,h,k=>by obtain ⟨q',k1,_⟩:=k;have:=(NodeC.same h k1).2.2;cases this
 | .leaf c vs,.two c' q r,p,h,k=>by obtain ⟨q',r',k1,_⟩:=k;have:=(NodeC.same h k1).2.2;cases this
 | .one c vs q,.leaf c' vs',p,h,k=>by obtain ⟨q',h1,_⟩:=h;have:=(NodeC.same h1 k).2.2;cases this
 | .one c vs q,.one c' vs' r,p,h,k=>by
  obtain ⟨q',h1,h2⟩:=h
  obtain ⟨r',k1,k2⟩:=k
  obtain ⟨e1,e2,e3⟩:=NodeC.same h1 k1
  injection e3 with e3;subst e3
  rw [e1,e2,Tree.same h2 k2]
 | .one c vs q,.two c' r s,p,h,k=>by obtain ⟨q',h1,_⟩:=h;obtain ⟨r',s',k1,_⟩:=k;have:=(NodeC.same h1 k1).2.2;cases this
 | .two c q r,.leaf c' vs',p,h,k=>by obtain ⟨q',r',h1,_⟩:=h;have:=(NodeC.same h1 k).2.2;cases this
 | .two c q r,.one c' vs' s,p,h,k=>by obtain ⟨q',r',h1,_⟩:=h;obtain ⟨s',k1,_⟩:=k;have:=(NodeC.same h1 k1).2.2;cases this
 | .two c q r,.two c' q2 r2,p,h,k=>by
  obtain ⟨q',r',h1,h2,h3⟩:=h
  obtain ⟨q2',r2',k1,k2,k3⟩:=k
  obtain ⟨e1,_,e3⟩:=NodeC.same h1 k1
  injection e3 with e3 e4;injection e4 with e4;subst e3;subst e4
  rw [e1,Tree.same h2 k2,Tree.same h3 k3]
theorem Tree.lt {T:TypeId} {w:World} {fm:Fm} {p:Nat} (h:Tree T w fm p):p<w.heap.size:=by
  obtain ⟨c,vs,ps,vv,pv,h1,_⟩:=h.node
  rcases Nat.lt_or_ge p w.heap.size with h | h
  · exact h
  · rw [Array.getElem?_eq_none h] at h1;cases h1
end Go.Wk
namespace Go.Wk
open Go.RowKit
def RowB (hs:List (Nat×Obj)) (v:Value) (vs:List Value):Prop :=
 (v=.slice none 0 0∧vs=[])∨∃ g cap cur el,v=.slice (some ⟨g,0,none⟩) vs.length cap∧(g,Obj.cells cur el (0,0))∈hs∧cur.toList.take vs.length=vs∧vs.length≤cap
theorem RowB.row {B:Nat} {w0 w:World} {hs:List (Nat×Obj)} {v:Value} {vs:List Value} (h:RowB hs v vs) (hw:Own B w0 hs w):Row w v vs:=by
  rcases h with ⟨rfl,rfl⟩ | ⟨g,cap,cur,el,rfl,h1,h2,h3⟩
  · exact Ints.nil
  · obtain ⟨i,hi⟩:=List.mem_iff_getElem?.1 h1
    exact Own.row hw hi h2 rfl h3
theorem RowB.more {hs hs':List (Nat×Obj)} {v:Value} {vs:List Value} (k:∀ x∈hs,x∈hs') (h:RowB hs v vs):RowB hs' v vs:=by
  rcases h with h | ⟨g,cap,cur,el,h0,h1,h2,h3⟩
  · exact .inl h
  · exact .inr ⟨g,cap,cur,el,h0,k _ h1,h2,h3⟩
theorem RowB.nil {hs:List (Nat×Obj)}:RowB hs (.slice none 0 0) []:=.inl ⟨rfl,rfl⟩
theorem RowB.at {hs:List (Nat×Obj)} {g n cap el:Nat} {cur:Array Value} {vs:List Value} (hm:(g,Obj.cells cur el (0,0))∈hs) (ht:cur.toList.take n=vs) (hn:vs.length=n) (hc:n≤cap):RowB hs (.slice (some ⟨g,0,none⟩) n cap) vs:=by
 subst hn
 exact .inr ⟨g,cap,cur,el,rfl,hm,ht,hc⟩
def NodeB (T:TypeId) (hs:List (Nat×Obj)) (p:Nat) (c:UInt8) (vs:List UInt8) (ps:List Nat) (fr al:Nat):Prop :=
 ∃ vv pv,(p,Obj.cells #[u8V c,vv,pv,.int .i64 (fr:Int),.int .i64 (al:Int)] T (0,0))∈hs∧RowB hs vv (vs.map u8V)∧RowB hs pv (ps.map ptrV)
def TreeB (T:TypeId) (hs:List (Nat×Obj)):Fm→Nat→Prop
 | .leaf c vs,p=>NodeB T hs p c vs [] (frB (.leaf c vs)) (allB (.leaf c vs))
 | .one c vs q,p=>∃ q',NodeB T hs p c vs [q'] (frB (.one c vs q)) (allB (.one c vs q))∧TreeB T hs q q'
 | .two c q r,p=>∃ q' r',NodeB T hs p c [] [q',r'] (frB (.two c q r)) (allB (.two c q r))∧TreeB T hs q q'∧TreeB T hs r r'
theorem NodeB.more {T:TypeId} {hs hs':List (Nat×Obj)} {p:Nat} {c:UInt8} {vs:List UInt8} {ps:List Nat} {fr al:Nat} (k:∀ x∈hs,x∈hs') (h:NodeB T hs p c vs ps fr al):NodeB T hs' p c vs ps fr al:=by
 obtain ⟨vv,pv,h1,h2,h3⟩:=h
 exact ⟨vv,pv,k _ h1,h2.more k,h3.more k⟩
theorem TreeB.more {T:TypeId} {hs hs':List (Nat×Obj)} (k:∀ x∈hs,x∈hs'):∀ {fm:Fm} {p:Nat},TreeB T hs fm p→TreeB T hs' fm p
 | .leaf _ _,_,h=>NodeB.more k h
 | .one _ _ _,_,h=>by obtain ⟨q',h1,h2⟩:=h;exact ⟨q',h1.more k,TreeB.more k h2⟩
 | .two _ _ _,_,h=>by obtain ⟨q',r',h1,h2,h3⟩:=h;exact ⟨q',r',h1.more k,TreeB.more k h2,TreeB.more k h3⟩
theorem TreeB.left {T:TypeId} {hs hs':List (Nat×Obj)} {fm:Fm} {p:Nat} (h:TreeB T hs fm p):TreeB T (hs++hs') fm p:=h.more fun _ hx=>List.mem_append_left _ hx
theorem NodeB.node {T:TypeId} {B:Nat} {w0 w:World} {hs:List (Nat×Obj)} {p:Nat} {c:UInt8} {vs:List UInt8} {ps:List Nat} {fr al:Nat} (h:NodeB T hs p c vs ps fr al) (hw:Own B w0 hs w):NodeC T w p c vs ps fr al:=by
 obtain ⟨vv,pv,h1,h2,h3⟩:=h
 exact ⟨vv,pv,(hw.mem h1).2,h2.row hw,h3.row hw⟩
theorem TreeB.tree {T:TypeId} {B:Nat} {w0 w:World} {hs:List (Nat×Obj)} (hw:Own B w0 hs w):∀ {fm:Fm} {p:Nat},TreeB T hs fm p→Tree T w fm p
 | .leaf _ _,_,h=>NodeB.node h hw
 | .one _ _ _,_,h=>by obtain ⟨q',h1,h2⟩:=h;exact ⟨q',h1.node hw,TreeB.tree hw h2⟩
 | .two _ _ _,_,h=>by obtain ⟨q',r',h1,h2,h3⟩:=h;exact ⟨q',r',h1.node hw,TreeB.tree hw h2,TreeB.tree hw h3⟩
theorem TreeB.node {T:TypeId} {hs:List (Nat×Obj)}:∀ {fm:Fm} {p:Nat},TreeB T hs fm p→∃ c vs ps,NodeB T hs p c vs ps (frB fm) (allB fm)
 | .leaf c vs,_,h=>⟨c,vs,[],h⟩
 | .one c vs _,_,h=>by obtain ⟨q',h1,_⟩:=h;exact ⟨c,vs,[q'],h1⟩
 | .two c _ _,_,h=>by obtain ⟨q',r',h1,_⟩:=h;exact ⟨c,[],[q',r'],h1⟩
theorem TreeB.same {T:TypeId} {B:Nat} {w0 w:World} {hs:List (Nat×Obj)} (hw:Own B w0 hs w) {fm fm':Fm} {p:Nat} (h:TreeB T hs fm p) (k:TreeB T hs fm' p):fm=fm':=(TreeB.tree hw h).same (TreeB.tree hw k)
abbrev Memo:=List (Nat×Nat×List (Int×Bool))
def MemoOk (T:TypeId) (a:St) (hs:List (Nat×Obj)) (K:Memo):Prop:=∀ x∈K,∃ fm,wfF fm∧TreeB T hs fm x.1∧∀ y∈x.2.2,∃ e,EnvA a e∧keyF fm e=y.1∧ev a fm e=y.2
theorem MemoOk.nil {T:TypeId} {a:St} {hs:List (Nat×Obj)}:MemoOk T a hs []:=fun x hx=>by cases hx
theorem EnvA.ok {a:St} {e:List Int} (h:EnvA a e) (ha:a.Fine):EnvOk e:=⟨h.1,fun i hi=>by
 have h1:=h.2 i hi
 have h2:=ha.hi
 unfold St.El at h1
 omega⟩
theorem MemoOk.add {T:TypeId} {a:St} {hs:List (Nat×Obj)} {K:Memo} {fm:Fm} {p m:Nat} (h:MemoOk T a hs K) (hT:TreeB T hs fm p) (hwf:wfF fm):MemoOk T a hs (K++[(p,m,[])]):=fun x hx=>by
  rcases List.mem_append.1 hx with hx | hx
  · exact h x hx
  · rw [List.mem_singleton.1 hx]
    exact ⟨fm,hwf,hT,fun y hy=>by cases hy⟩
theorem MemoOk.set {T:TypeId} {a:St} {B:Nat} {w0 w:World} {hs ts:List (Nat×Obj)} {K:Memo} {fm:Fm} {p j m:Nat} {L L':List (Int×Bool)} {en:List Int} (h:MemoOk T a ts K) (hts:∀ x∈ts,x∈hs) (hw:Own B w0 hs w) (hT:TreeB T ts fm p) (hwf:wfF fm) (hE:EnvA a en) (hj:K[j]?=some (p,m,L)) (hL:∀ x∈L',x∈L∨x=(keyF fm en,ev a fm en)):MemoOk T a ts (K.set j (p,m,L')):=fun x hx=>by
  rcases List.mem_or_eq_of_mem_set hx with hx | rfl
  · exact h x hx
  · obtain ⟨fm',h1,h2,h3⟩:=h _ (List.mem_of_getElem? hj)
    have e:=TreeB.same hw (h2.more hts) (hT.more hts)
    subst e
    refine ⟨fm',hwf,hT,fun y hy=>?_⟩
    rcases hL y hy with hy | rfl
    · exact h3 y hy
    · exact ⟨en,hE,rfl,rfl⟩
end Go.Wk
namespace Go.Wk
open Go.RowKit
section
variable {P:Program} {n:Nat} {C:World→Prop} {B:Nat} {w0:World} {hs hs':List (Nat×Obj)} {N R:Act→World→Prop} {X:List (Nat×(Act→World→Prop))} {e:Env} {ops:Array Oper} {l:List Oper} {o:Oper}
theorem Row.u8 {w:World} {v:Value} {vs:List UInt8} (h:Row w v (vs.map u8V)) {i:Int} (h0:0≤i) (h1:i<vs.length):w.cell? (sAt v i)=some (.int .u8 ((vs.getD i.toNat 0).toNat:Int)):=by
 have hi:i.toNat<vs.length:=by omega
 rw [Row.cell h h0 (by rw [List.length_map];exact h1),getD_at hi]
 congr 1
 rw [List.getD_eq_getElem?_getD,List.getElem?_map,List.getElem?_eq_getElem hi];rfl
end
section
variable {a:St} {en:List Int} {c v u:UInt8} {q r:Fm}
end
end Go.Wk
namespace Go.Wk
open Go.RowKit
section
variable {P:Program} {n:Nat} {C:World→Prop} {e:Env} {o:Oper}
end
def bitC (b:Bool):List UInt8:=if b then [49] else [48]
@[simp] theorem bitC_len (b:Bool):(bitC b).length=1:=by cases b <;> rfl
def flipTo (s:List UInt8):Nat→List UInt8
 | 0=>[]
 | k+1=>flipTo s k++bitC (decide (s.getD k 0=48))
@[simp] theorem flip_len (s:List UInt8):∀ k,(flipTo s k).length=k
 | 0=>rfl
 | k+1=>by simp [flipTo,flip_len s k]
def mkSet (p:Nat→Bool):Nat→List UInt8
 | 0=>[]
 | k+1=>mkSet p k++bitC (p k)
@[simp] theorem mkSet_len (p:Nat→Bool):∀ k,(mkSet p k).length=k
 | 0=>rfl
 | k+1=>by simp [mkSet,mkSet_len p k]
def mkRel (q:Nat→Nat→Bool) (n:Nat):Nat→List UInt8
 | 0=>[]
 | k+1=>mkRel q n k++mkSet (q k) n
@[simp] theorem mkRel_len (q:Nat→Nat→Bool) (n:Nat):∀ k,(mkRel q n k).length=k*n
 | 0=>by simp [mkRel]
 | k+1=>by simp [mkRel,mkRel_len q n k,Nat.add_mul]
end Go.Wk
namespace Go.Wk
open Go.RowKit
def bes (k:Nat):List Int:=List.replicate k (-1)
@[simp] theorem bes_len (k:Nat):(bes k).length=k:=List.length_replicate
end Go.Wk
namespace Go.Wk
open Go.RowKit
def InBoth (as_ bs:List Int) (x y:Int):Prop:=∃ j:Nat,j<as_.length∧x=as_.getD j 0∧y=bs.getD j 0
theorem getD_snoc {l:List Int} {x:Int} {i:Nat}:(l++[x]).getD i 0=if i<l.length then l.getD i 0 else if i=l.length then x else 0:=by
  rw [List.getD_eq_getElem?_getD]
  by_cases h:i<l.length
  · rw [if_pos h,List.getElem?_append_left h,← List.getD_eq_getElem?_getD]
  · rw [if_neg h,List.getElem?_append_right (by omega)]
    by_cases e:i=l.length
    · rw [if_pos e,e,Nat.sub_self];rfl
    · rw [if_neg e,List.getElem?_eq_none (by simp;omega)];rfl
theorem InBoth.more {as_ bs:List Int} {x y u v:Int} (hl:as_.length=bs.length) (h:InBoth as_ bs x y):InBoth (as_++[u]) (bs++[v]) x y:=by
 obtain ⟨j,hj,e1,e2⟩:=h
 exact ⟨j,by rw [List.length_append];omega,by rw [getD_snoc,if_pos hj];exact e1,by rw [getD_snoc,if_pos (by omega)];exact e2⟩
theorem InBoth.last {as_ bs:List Int} {u v:Int} (hl:as_.length=bs.length):InBoth (as_++[u]) (bs++[v]) u v :=
 ⟨as_.length,by rw [List.length_append];simp,by rw [getD_snoc,if_neg (by omega),if_pos rfl],by rw [getD_snoc,if_neg (by omega),if_pos hl]⟩
end Go.Wk
namespace Go.Wk
open Go.RowKit
def OnVars (xs ys:List Int) (fr:Nat) (e e':List Int):Prop:=∀ i:Nat,i<4→fr.testBit i=true→InBoth xs ys (e.getD i 0) (e'.getD i 0)
theorem InBoth.left {as_ bs X Y:List Int} (hl:as_.length=bs.length) {x y:Int} (h:InBoth as_ bs x y):InBoth (as_++X) (bs++Y) x y:=by
  obtain ⟨j,hj,e1,e2⟩:=h
  refine ⟨j,by rw [List.length_append];omega,?_,?_⟩
  · rw [e1,List.getD_eq_getElem?_getD,List.getD_eq_getElem?_getD,List.getElem?_append_left hj]
  · rw [e2,List.getD_eq_getElem?_getD,List.getD_eq_getElem?_getD,List.getElem?_append_left (by omega)]
theorem OnVars.more {xs ys X Y:List Int} {fr:Nat} {e e':List Int} (hl:xs.length=ys.length) (h:OnVars xs ys fr e e'):OnVars (xs++X) (ys++Y) fr e e':=fun i hi ht=>(h i hi ht).left hl
end Go.Wk
namespace Go.Wk
open Go.RowKit
theorem takeV_more {t:List UInt8}:∀ {k:Nat} {s vs r:List UInt8},takeV k s=some (vs,r)→takeV k (s++t)=some (vs,r++t)
  | 0,s,vs,r,h=>by injection h with h;injection h with h1 h2;subst h1;subst h2;rfl
  | k+1,[],vs,r,h=>by cases h
  | k+1,v::s,vs,r,h=>by
    unfold takeV at h
    split at h
    · rename_i hv
      split at h
      · rename_i us r' e
        injection h with h;injection h with h1 h2;subst h1;subst h2
        show (if isV v then (match takeV k (s++t) with | some (vs,r)=>some (v::vs,r) | none=>none) else none)=_
        rw [if_pos hv,takeV_more e]
      · cases h
    · cases h
theorem parse_more {t:List UInt8}:∀ (n:Nat) {s r:List UInt8} {p:Fm},s.length≤n→parse s=some (p,r)→parse (s++t)=some (p,r++t)
  | 0,[],_,_,_,h=>by cases h
  | 0,_::_,_,_,hn,_=>by simp at hn
  | _+1,[],_,_,_,h=>by cases h
  | n+1,c::s,r,p,hn,h=>by
    rw [List.cons_append]
    rw [parse_cons] at h ⊢
    simp only [List.length_cons] at hn
    split at h
    · rename_i hop
      rw [if_pos hop]
      split at h
      · cases h
      · rename_i vs r0 e
        obtain ⟨_,h2,_⟩:=takeV_len e
        rw [takeV_more e]
        dsimp only
        by_cases h0:arP c=0
        · rw [if_pos h0] at h ⊢
          injection h with h;injection h with h4 h;subst h;subst h4;rfl
        · rw [if_neg h0] at h ⊢
          by_cases h1:arP c=1
          · rw [if_pos h1] at h ⊢
            split at h
            · rename_i q r' e2
              injection h with h;injection h with h4 h;subst h;subst h4
              rw [parse_more n (by omega) e2]
            · cases h
          · rw [if_neg h1] at h ⊢
            split at h
            · rename_i q r' e2
              split at h
              · rename_i q2 r2 e3
                injection h with h;injection h with h4 h;subst h;subst h4
                have:=parse_len e2
                rw [parse_more n (by omega) e2]
                dsimp only
                rw [parse_more n (by omega) e3]
              · cases h
            · cases h
    · cases h
def Is (s:List UInt8) (p:Fm):Prop:=parse s=some (p,[])
theorem Is.more {s:List UInt8} {p:Fm} (h:Is s p) (t:List UInt8):parse (s++t)=some (p,t):=by
 have:=parse_more (t:=t) _ (Nat.le_refl _) h
 rwa [List.nil_append] at this
theorem Is.wf {s:List UInt8} {p:Fm} (h:Is s p):wfF p:=parse_wf _ (Nat.le_refl _) h
theorem Is.same {s:List UInt8} {p q:Fm} (h:Is s p) (k:Is s q):p=q:=by
 have:=h.symm.trans k
 injection this with this;injection this
theorem is_not {s:List UInt8} {p:Fm} (h:Is s p):Is (33::s) (.one 33 [] p):=by
 unfold Is;rw [parse_cons,show isOp 33=true from rfl,if_pos rfl,show takeV (arV 33) s=some ([],s) from rfl]
 dsimp only
 rw [if_neg (by decide),if_pos (by rfl),h]
def plainB:Fm→Bool
 | .leaf _ _=>true
 | .one c _ p=>!(decide (c=50)||decide (c=51)||decide (c=52))&&plainB p
 | .two _ p q=>plainB p&&plainB q
structure Tx (s:List UInt8) (lo hi k w:Nat) (φ:St→List Int→Prop):Prop where
 ex:∃ p,Is s p∧lo≤rankF p∧rankF p≤hi∧(∀ i:Nat,i<4→(frB p).testBit i=true→i<k)∧(∀ i:Nat,i<4→(allB p).testBit i=true→i<w)∧plainB p=true∧∀ a e,e.length=4→(ev a p e=true↔φ a e)
theorem tx_not {s:List UInt8} {lo hi k w:Nat} {φ:St→List Int→Prop} (h:Tx s lo hi k w φ):Tx (33::s) lo hi k w fun a e=>¬ φ a e:=by
  obtain ⟨p,g0,g1,g2,g3,g4,g5,g6⟩:=h.ex
  refine ⟨_,is_not g0,g1,g2,g3,fun i hi ht=>g4 i hi ?_,by show (!_&&plainB p)=true;rw [g5];rfl,fun a e he=>?_⟩
  · have:(0 ||| allB p).testBit i=true:=ht
    rwa [Nat.zero_or] at this
  · rw [← g6 a e he]
    show (!ev a p e)=true↔_
    cases ev a p e <;> simp
end Go.Wk
namespace Go.Wk
open Go.RowKit
inductive At where
 | P (i:Nat)
 | E (i j:Nat)
 | Q (i j:Nat)
def At.val (a:St) (xs:List Int):At→Bool
 | .P i=>a.inSet (xs.getD i 0)
 | .E i j=>a.inRel (xs.getD i 0) (xs.getD j 0)
 | .Q i j=>decide (xs.getD i 0=xs.getD j 0)
def At.lt (n:Nat):At→Prop
 | .P i=>i<n
 | .E i j=>i<n∧j<n
 | .Q i j=>i<n∧j<n
theorem At.same {a:St} {e xs:List Int} {n:Nat} (h:∀ j:Nat,j<n→e.getD j 0=xs.getD j 0):∀ {t:At},t.lt n→t.val a e=t.val a xs
 | .P i,k=>by have hk:i<n:=k;show a.inSet _=a.inSet _;rw [h i hk]
 | .E i j,k=>by show a.inRel _ _=a.inRel _ _;rw [h i k.1,h j k.2]
 | .Q i j,k=>by show decide (_=_)=decide (_=_);rw [h i k.1,h j k.2]
def TrueIn (s:List UInt8) (a:St) (e:List Int):Prop:=∃ p,Is s p∧ev a p e=true
theorem Tx.self {s:List UInt8} {lo hi k w:Nat} {φ:St→List Int→Prop} (h:Tx s lo hi k w φ):Tx s lo hi k w (TrueIn s):=by
 obtain ⟨p,g0,g1,g2,g3,g4,g5,g6⟩:=h.ex
 exact ⟨p,g0,g1,g2,g3,g4,g5,fun a e _=>⟨fun h=>⟨p,g0,h⟩,fun ⟨q,h1,h2⟩=>by rw [g0.same h1];exact h2⟩⟩
theorem Tx.at {s:List UInt8} {lo hi k w:Nat} {φ:St→List Int→Prop} (h:Tx s lo hi k w φ) {a:St} {e:List Int} (he:e.length=4):TrueIn s a e↔φ a e:=by
 obtain ⟨p,g0,g1,g2,g3,g4,g5,g6⟩:=h.ex
 exact ⟨fun ⟨q,h1,h2⟩=>(g6 a e he).1 (by rw [g0.same h1];exact h2),fun h=>⟨p,g0,(g6 a e he).2 h⟩⟩
def Tells2 (s:List UInt8) (r n:Nat) (a:St) (xs:List Int) (b:St) (ys:List Int):Prop :=
 Tx s 0 r n (n+r) (TrueIn s)∧(∀ e:List Int,e.length=4→e.take n=xs→TrueIn s a e)∧∀ e:List Int,e.length=4→e.take n=ys→¬ TrueIn s b e
theorem Tells2.not {s:List UInt8} {r n:Nat} {a b:St} {xs ys:List Int} (h:Tells2 s r n a xs b ys):Tells2 (33::s) r n b ys a xs:=by
 have hq:=tx_not h.1
 exact ⟨hq.self,fun e he hy=>(hq.at he).2 (h.2.2 e he hy),fun e he hx h1=>(hq.at he).1 h1 (h.2.1 e he hx)⟩
end Go.Wk
namespace Go.Wk
open Go.RowKit
theorem len_of {v:List UInt8} {l:List (List UInt8)} (h:v∈l) {a b:Nat} (hl:l.all (fun x=>decide (a≤x.length)&&decide (x.length≤b))=true):a≤v.length∧v.length≤b:=by
 have:=List.all_eq_true.1 hl v h
 simpa using this
end Go.Wk
namespace Go.Proofs.YteccfipfimbdgaaDoor
open Go.RowKit Go.Wk
set_option linter.unusedSimpArgs false
set_option maxHeartbeats 400000 in
theorem l1Draw_ok (B:Nat) (w0:World) (hs:List (Nat×Obj)) (rp p:Nat) (bv:Value) (L:List Int) (n:Int) (w:World) (hb:∀ w,Own B w0 hs w→Row w bv (u8s L)) (hL8:Bytes8 L) (hL:L.length≤2000) (hn0:0≤n) (hn8:n≤8) (hp:p≤900000) (hw:Own B w0 ((rp,.cells #[bv,.int .i64 (p:Int)] 84 (0,0))::hs) w) :
    Calls Tryd.prog 83 [pt_ rp,i6_ n].toArray w fun en w'=>∃ a:St,∃ p':Nat,en=.returned (vS a)∧((a.n=n∧(a.set.length:Int)=n∧a.rel.length=n.toNat*n.toNat)∧p'≤p+100)∧Own B w0 (((rp,.cells #[bv,.int .i64 (p':Int)] 84 (0,0))::hs)) w':=by
 refine fnStartC (Own B w0 ((rp,.cells #[bv,.int .i64 (p:Int)] 84 (0,0))::hs)) (n:=111) (e:=[(0,pt_ rp),(1,i6_ n)]) Tryd.func83 Z Z Z Z Ends.both hw (zF (qD (xW Z Z Z Z yQ fun p4 hp4=>?_)))
 show Ll _ _ (Own _ _ (bk_ p4 #[i6_ 0,str ([]),str ([])] 24::_::hs)) _ _ ((4,pt_ p4)::_) _ _ _;refine zL (zC [0,1,4] [_,_,_] Z (zF (qD (qQ 1 Z (qC (v:=.agg #[i6_ n,str ([]),str ([])]) Z (OpQ.build (xs:=[.tmp 10]) (vs:=[i6_ n]) Z Z (by kernel_rfl)) (xW Z Z Z Z yQ fun p5 hp5=>?_))))))
 show Ll _ _ (Own _ _ (bk_ p5 #[i6_ 0,str ([]),str ([])] 24::_::_::hs)) _ _ ((5,pt_ p5)::_) _ _ _;refine yL (cs':=#[i6_ n,str ([]),str ([])]) (hs':=(bk_ p5 #[i6_ n,str ([]),str ([])] 24::_::_::hs)) 0 Z Z Z Z Z (by kernel_rfl:_=some Tryd.t24) Z Z Z Z Z (zL (zC [0,1,4,5] [_,_,_,_] Z (zF (qD (qQ 1 Z (yM (rp:=rp) (RT:=84) (p:=p) (bv:=bv) (hs:=hs) (ok:=fun (k:Int) p'=>0≤k∧(1≤(8:Int)→k<8)∧p'=p+1) (v:=fun (k:Int)=>i6_ k) (new:=fun (k:Int)=>[]) (xs:=[.tmp 12,.const (i6_ 8)]) (vs:=[pt_ rp,i6_ 8]) ([bk_ p5 #[i6_ n,str ([]),str ([])] 24,bk_ p4 #[i6_ 0,str ([]),str ([])] 24]:List (Nat×Obj)) Z Z Z Z xP Z (fun w1 hw1=>(pick_ok B w0 (([bk_ p5 #[i6_ n,str ([]),str ([])] 24,bk_ p4 #[i6_ 0,str ([]),str ([])] 24]:List (Nat×Obj))++hs) rp p bv L 8 w1 (fun w2 hw2=>hb w2 (qE (f:=([bk_ p5 #[i6_ n,str ([]),str ([])] 24,bk_ p4 #[i6_ 0,str ([]),str ([])] 24]:List (Nat×Obj))) hw2)) hL8 hL (by omega) hw1).mono fun en w' ⟨k',p',h1,h2,h3⟩=>⟨k',p',h1,h2,h3⟩) fun k13 p_13 hKp_13=>?_))))))
 show Ll _ _ (Own _ _ (_::_::_::hs)) _ _ ((13,i6_ k13)::_) _ _ _
 obtain ⟨h0k13,h1k13,hep_13⟩:=hKp_13
 try have hltk13:=h1k13 (by first | omega | (split <;> omega) | decide);refine qQ 1 Z (zL (zC [0,1,4,5,6] [_,_,_,_,_] Z (zF (zF (zB (zA 1 Z (zH (zC [0,1,4,5,6,7] [_,_,_,_,_,_] Z (qT (xF (σ:=Nat×List UInt8×List UInt8×Nat) (fun ⟨k,S,R,p0⟩=>(k:Int)≤n∧S.length=k∧R.length=k*n.toNat∧p0≤p+2+k*9) (fun ⟨k,S,R,p0⟩=>[(0,pt_ rp),(1,i6_ n),(4,pt_ p4),(5,pt_ p5),(6,i6_ k13),(7,i6_ (k:Int))]) (fun ⟨k,S,R,p0⟩=>Own B w0 (bk_ p5 #[i6_ n,str S,str R] 24::bk_ p4 #[i6_ 0,str ([]),str ([])] 24::bk_ rp #[bv,i6_ (p0:Int)] 84::hs)) (fun ⟨k,S,R,p0⟩=>(n - k).toNat) (0,[],[],p_13) ⟨by omega,rfl,by simp,by omega⟩ (Sub.sel [0,1,4,5,6,7] Z) (fun _ h=>h) ?_))))))))))
 rintro ⟨k,S,R,p0⟩ ⟨hk,hS,hR,hp0⟩
 dsimp only
 have hkn:k*n.toNat≤8*8:=Nat.mul_le_mul (by omega) (by omega);refine zF (zF (zB (zA 3 Z (zH (zC [0,1,4,5,6,7,16] [_,_,_,_,_,_,_] Z (xI Z (fun h16=>?_) (fun h16=>?_)))))))
 ·
  refine qR (zC [0,1,4,5,6,7] [_,_,_,_,_,_] Z (zF (qT (zF (Wk.join (σ:=List UInt8×Nat) (fun ⟨S2,p2⟩=>S2.length=k+1∧p2≤p0+1) (fun ⟨S2,p2⟩=>[(0,pt_ rp),(1,i6_ n),(4,pt_ p4),(5,pt_ p5),(6,i6_ k13),(7,i6_ (k:Int))]) (fun ⟨S2,p2⟩=>Own B w0 (bk_ p5 #[i6_ n,str S2,str R] 24::bk_ p4 #[i6_ 0,str ([]),str ([])] 24::bk_ rp #[bv,i6_ (p2:Int)] 84::hs)) ?_ ?_)))))
  ·
   refine jO (S:=Own B w0 [bk_ p4 #[i6_ 0,str ([]),str ([])] 24]) (.take 0 (.take 2 (.take 3 (.take 4 (.take 5 (.two 1 (.one 6 (.take 7 (.take 8 (.one 9 (.take 10 (.take 11 (.one 12 .done))))))) 6 (.take 7 (.take 8 (.two 1 (.one 9 (.take 10 (.take 11 (.one 12 .done)))) 9 (.one 1 (.take 10 (.take 11 (.one 12 .done))))))))))))) yJ (fun _ h=>h.drawn) (by kernel_rfl) (zX Z Z Z Z Z (zN Z zI Z zQ Z Z) (pk [1] Z Z) (jH 3 Z (pk [1] Z Z) (Lu.bool fun b23 hg23=>?_)))
   cases b23
   ·
    replace hg23:=zR hg23;refine Lu.pass Z Z Z Z (pk [1] Z Z) (xU Z Z ?_ ?_)
    ·
     refine qC Z (zS 0 Z qG Z Z Z) (zL (zT (pk [1] Z Z) ?_));refine qN Z (Ll.pass3 Z (zL (zT (pk [1] Z Z) ?_)));refine Lu.pass Z Z Z Z (pk [1] Z Z) (jH 1 Z (pk [1] Z Z) (qN Z (qC (v:=str (if false then [49] else [48])) Z (qH Z yX Z zZ (fun w1 hw1=>bitD_ok false w1 )) (zL (zT (pk [1] Z Z) ?_)))));refine zX Z Z Z Z Z (qU Z Z Z (by first | (rw [bit_len];omega) | omega)) (pk [1] Z Z) (zX Z Z Z Z Z (zN Z zI Z zQ Z Z) (pk [1] Z Z) (qN Z (qY (v:=str (S++(if false then [49] else [48]))) (hs':=(bk_ p5 #[i6_ n,str (S++(if false then [49] else [48])),str R] 24::_::_::hs)) 0 Z Z Z Z Z Z zQ Z (by simp) Z (zL (zT (pk [1] Z Z) ?_)))));refine xB (qX (S++(if false then [49] else [48]),p0) ⟨by (try dsimp only);rw [zM];first | (rw [bit_len];omega) | (simp;omega),by (try dsimp only);omega⟩ (Sub.sel [0,1,4,5,6,7] Z) (fun _ h=>h))
    refine Ll.pass3 Z (zL (zT (pk [1] Z Z) ?_));refine Lu.pass Z Z Z Z (pk [1] Z Z) (jH 1 Z (pk [1] Z Z) (xU Z Z ?_ ?_))
    ·
     refine qC Z (zS 0 Z qG Z Z Z) (zL (zT (pk [1] Z Z) ?_));refine qN Z (qC (v:=str (if false then [49] else [48])) Z (qH Z yX Z zZ (fun w1 hw1=>bitD_ok false w1 )) (zL (zT (pk [1] Z Z) ?_)));refine zX Z Z Z Z Z (qU Z Z Z (by first | (rw [bit_len];omega) | omega)) (pk [1] Z Z) (zX Z Z Z Z Z (zN Z zI Z zQ Z Z) (pk [1] Z Z) (qN Z (qY (v:=str (S++(if false then [49] else [48]))) (hs':=(bk_ p5 #[i6_ n,str (S++(if false then [49] else [48])),str R] 24::_::_::hs)) 0 Z Z Z Z Z Z zQ Z (by simp) Z (zL (zT (pk [1] Z Z) ?_)))));refine xB (qX (S++(if false then [49] else [48]),p0) ⟨by (try dsimp only);rw [zM];first | (rw [bit_len];omega) | (simp;omega),by (try dsimp only);omega⟩ (Sub.sel [0,1,4,5,6,7] Z) (fun _ h=>h))
    refine qC (v:=str (if false then [49] else [48])) Z (qH Z yX Z zZ (fun w1 hw1=>bitD_ok false w1 )) (zL (zT (pk [1] Z Z) ?_));refine qN Z (qC Z (zS 0 Z qG Z Z Z) (zL (zT (pk [1] Z Z) ?_)));refine zX Z Z Z Z Z (qU Z Z Z (by first | (rw [bit_len];omega) | omega)) (pk [1] Z Z) (zX Z Z Z Z Z (zN Z zI Z zQ Z Z) (pk [1] Z Z) (qN Z (qY (v:=str (S++(if false then [49] else [48]))) (hs':=(bk_ p5 #[i6_ n,str (S++(if false then [49] else [48])),str R] 24::_::_::hs)) 0 Z Z Z Z Z Z zQ Z (by simp) Z (zL (zT (pk [1] Z Z) ?_)))));refine xB (qX (S++(if false then [49] else [48]),p0) ⟨by (try dsimp only);rw [zM];first | (rw [bit_len];omega) | (simp;omega),by (try dsimp only);omega⟩ (Sub.sel [0,1,4,5,6,7] Z) (fun _ h=>h))
   replace hg23:=zV hg23;refine jH 1 Z (pk [1] Z Z) (xU Z Z ?_ ?_)
   ·
    refine qC Z (zS 0 Z qG Z Z Z) (zL (zT (pk [1] Z Z) ?_));refine qN Z (yM (rp:=rp) (RT:=84) (p:=p0) (bv:=bv) (hs:=hs) (ok:=fun (k:Int) p'=>0≤k∧(1≤(3:Int)→k<3)∧p'=p0+1) (v:=fun (k:Int)=>i6_ k) (new:=fun (k:Int)=>[]) (xs:=[.tmp 24,.const (i6_ 3)]) (vs:=[pt_ rp,i6_ 3]) ([bk_ p5 #[i6_ n,str S,str R] 24,bk_ p4 #[i6_ 0,str ([]),str ([])] 24]:List (Nat×Obj)) Z Z Z Z xP Z (fun w1 hw1=>(pick_ok B w0 (([bk_ p5 #[i6_ n,str S,str R] 24,bk_ p4 #[i6_ 0,str ([]),str ([])] 24]:List (Nat×Obj))++hs) rp p0 bv L 3 w1 (fun w2 hw2=>hb w2 (qE (f:=([bk_ p5 #[i6_ n,str S,str R] 24,bk_ p4 #[i6_ 0,str ([]),str ([])] 24]:List (Nat×Obj))) hw2)) hL8 hL (by omega) hw1).mono fun en w' ⟨k',p',h1,h2,h3⟩=>⟨k',p',h1,h2,h3⟩) fun k25 p_25 hKp_25=>?_)
    show Ll _ _ (Own _ _ (_::_::_::hs)) _ _ ((25,i6_ k25)::_) _ _ _
    obtain ⟨h0k25,h1k25,hep_25⟩:=hKp_25
    try have hltk25:=h1k25 (by first | omega | (split <;> omega) | decide);refine zL (zT (pk [1] Z Z) ?_);refine jH 2 Z (pk [1] Z Z) (qN Z (qC (v:=str ((if decide (k25=(0:Int)) then [49] else [48]))) Z (qH Z yX Z zZ (fun w1 hw1=>bitD_ok (decide (k25=(0:Int))) w1 )) (zL (zT (pk [1] Z Z) ?_))));refine zX Z Z Z Z Z (qU Z Z Z (by first | (rw [bit_len];omega) | omega)) (pk [1] Z Z) (zX Z Z Z Z Z (zN Z zI Z zQ Z Z) (pk [1] Z Z) (qN Z (qY (v:=str (S++((if decide (k25=(0:Int)) then [49] else [48])))) (hs':=(bk_ p5 #[i6_ n,str (S++((if decide (k25=(0:Int)) then [49] else [48]))),str R] 24::_::_::hs)) 0 Z Z Z Z Z Z zQ Z (by simp) Z (zL (zT (pk [1] Z Z) ?_)))));refine xB (qX ((S++((if decide (k25=(0:Int)) then [49] else [48])),p_25)) ⟨by (try dsimp only);rw [zM];first | (rw [bit_len];omega) | (simp;omega),by (try dsimp only);omega⟩ (Sub.sel [0,1,4,5,6,7] Z) (fun _ h=>h))
   refine yM (rp:=rp) (RT:=84) (p:=p0) (bv:=bv) (hs:=hs) (ok:=fun (k:Int) p'=>0≤k∧(1≤(3:Int)→k<3)∧p'=p0+1) (v:=fun (k:Int)=>i6_ k) (new:=fun (k:Int)=>[]) (xs:=[.tmp 24,.const (i6_ 3)]) (vs:=[pt_ rp,i6_ 3]) ([bk_ p5 #[i6_ n,str S,str R] 24,bk_ p4 #[i6_ 0,str ([]),str ([])] 24]:List (Nat×Obj)) Z Z Z Z xP Z (fun w1 hw1=>(pick_ok B w0 (([bk_ p5 #[i6_ n,str S,str R] 24,bk_ p4 #[i6_ 0,str ([]),str ([])] 24]:List (Nat×Obj))++hs) rp p0 bv L 3 w1 (fun w2 hw2=>hb w2 (qE (f:=([bk_ p5 #[i6_ n,str S,str R] 24,bk_ p4 #[i6_ 0,str ([]),str ([])] 24]:List (Nat×Obj))) hw2)) hL8 hL (by omega) hw1).mono fun en w' ⟨k',p',h1,h2,h3⟩=>⟨k',p',h1,h2,h3⟩) fun k25_1 p_25_1 hKp_25_1=>?_
   show Ll _ _ (Own _ _ (_::_::_::hs)) _ _ ((25,i6_ k25_1)::_) _ _ _
   obtain ⟨h0k25_1,h1k25_1,hep_25_1⟩:=hKp_25_1
   try have hltk25_1:=h1k25_1 (by first | omega | (split <;> omega) | decide);refine zL (zT (pk [1] Z Z) ?_);refine jH 2 Z (pk [1] Z Z) (xU Z Z ?_ ?_)
   ·
    refine qC Z (zS 0 Z qG Z Z Z) (zL (zT (pk [1] Z Z) ?_));refine qN Z (qC (v:=str ((if decide (k25_1=(0:Int)) then [49] else [48]))) Z (qH Z yX Z zZ (fun w1 hw1=>bitD_ok (decide (k25_1=(0:Int))) w1 )) (zL (zT (pk [1] Z Z) ?_)));refine zX Z Z Z Z Z (qU Z Z Z (by first | (rw [bit_len];omega) | omega)) (pk [1] Z Z) (zX Z Z Z Z Z (zN Z zI Z zQ Z Z) (pk [1] Z Z) (qN Z (qY (v:=str (S++((if decide (k25_1=(0:Int)) then [49] else [48])))) (hs':=(bk_ p5 #[i6_ n,str (S++((if decide (k25_1=(0:Int)) then [49] else [48]))),str R] 24::_::_::hs)) 0 Z Z Z Z Z Z zQ Z (by simp) Z (zL (zT (pk [1] Z Z) ?_)))));refine xB (qX ((S++((if decide (k25_1=(0:Int)) then [49] else [48])),p_25_1)) ⟨by (try dsimp only);rw [zM];first | (rw [bit_len];omega) | (simp;omega),by (try dsimp only);omega⟩ (Sub.sel [0,1,4,5,6,7] Z) (fun _ h=>h))
   refine qC (v:=str ((if decide (k25_1=(0:Int)) then [49] else [48]))) Z (qH Z yX Z zZ (fun w1 hw1=>bitD_ok (decide (k25_1=(0:Int))) w1 )) (zL (zT (pk [1] Z Z) ?_));refine qN Z (qC Z (zS 0 Z qG Z Z Z) (zL (zT (pk [1] Z Z) ?_)));refine zX Z Z Z Z Z (qU Z Z Z (by first | (rw [bit_len];omega) | omega)) (pk [1] Z Z) (zX Z Z Z Z Z (zN Z zI Z zQ Z Z) (pk [1] Z Z) (qN Z (qY (v:=str (S++((if decide (k25_1=(0:Int)) then [49] else [48])))) (hs':=(bk_ p5 #[i6_ n,str (S++((if decide (k25_1=(0:Int)) then [49] else [48]))),str R] 24::_::_::hs)) 0 Z Z Z Z Z Z zQ Z (by simp) Z (zL (zT (pk [1] Z Z) ?_)))));refine xB (qX ((S++((if decide (k25_1=(0:Int)) then [49] else [48])),p_25_1)) ⟨by (try dsimp only);rw [zM];first | (rw [bit_len];omega) | (simp;omega),by (try dsimp only);omega⟩ (Sub.sel [0,1,4,5,6,7] Z) (fun _ h=>h))
  rintro ⟨S2,p2⟩ ⟨hS2,hp2⟩
  dsimp only;refine zC [0,1,4,5,6,7] [_,_,_,_,_,_] Z (zF (zB (zA 1 Z (zH (zC [0,1,4,5,6,7,8] [_,_,_,_,_,_,_] Z (qT (xF (σ:=Nat×List UInt8×Nat) (fun ⟨j,R1,p1⟩=>(j:Int)≤n∧R1.length=k*n.toNat+j∧p1≤p+3+k*9+j) (fun ⟨j,R1,p1⟩=>[(0,pt_ rp),(1,i6_ n),(4,pt_ p4),(5,pt_ p5),(6,i6_ k13),(7,i6_ (k:Int)),(8,i6_ (j:Int))]) (fun ⟨j,R1,p1⟩=>Own B w0 (bk_ p5 #[i6_ n,str S2,str R1] 24::bk_ p4 #[i6_ 0,str ([]),str ([])] 24::bk_ rp #[bv,i6_ (p1:Int)] 84::hs)) (fun ⟨j,R1,p1⟩=>(n - j).toNat) (0,R,p2) ⟨by omega,by omega,by omega⟩ (Sub.sel [0,1,4,5,6,7,8] Z) (fun _ h=>h) ?_)))))))
  rintro ⟨j,R1,p1⟩ ⟨hj,hR1,hp1⟩
  dsimp only
  have hj8:j≤8:=by omega
  refine zF (zF (zB (zA 3 Z (zH (zC [0,1,4,5,6,7,8,33] [_,_,_,_,_,_,_,_] Z (xI Z (fun h33=>?_) (fun h33=>?_)))))))
  ·
   refine qR (zC [0,1,4,5,6,7,8] [_,_,_,_,_,_,_] Z (zF (qT (zF (qD (qQ 1 Z (yM (rp:=rp) (RT:=84) (p:=p1) (bv:=bv) (hs:=hs) (ok:=fun (k:Int) p'=>0≤k∧(1≤(3:Int)→k<3)∧p'=p1+1) (v:=fun (k:Int)=>i6_ k) (new:=fun (k:Int)=>[]) (xs:=[.tmp 36,.const (i6_ 3)]) (vs:=[pt_ rp,i6_ 3]) ([bk_ p5 #[i6_ n,str S2,str R1] 24,bk_ p4 #[i6_ 0,str ([]),str ([])] 24]:List (Nat×Obj)) Z Z Z Z xP Z (fun w1 hw1=>(pick_ok B w0 (([bk_ p5 #[i6_ n,str S2,str R1] 24,bk_ p4 #[i6_ 0,str ([]),str ([])] 24]:List (Nat×Obj))++hs) rp p1 bv L 3 w1 (fun w2 hw2=>hb w2 (qE (f:=([bk_ p5 #[i6_ n,str S2,str R1] 24,bk_ p4 #[i6_ 0,str ([]),str ([])] 24]:List (Nat×Obj))) hw2)) hL8 hL (by omega) hw1).mono fun en w' ⟨k',p',h1,h2,h3⟩=>⟨k',p',h1,h2,h3⟩) fun k37 p_37 hKp_37=>?_)))))))
   show Ll _ _ (Own _ _ (_::_::_::hs)) _ _ ((37,i6_ k37)::_) _ _ _
   obtain ⟨h0k37,h1k37,hep_37⟩:=hKp_37
   try have hltk37:=h1k37 (by first | omega | (split <;> omega) | decide);refine qQ 2 Z (zL (zC [0,1,4,5,6,7,8,9] [_,_,_,_,_,_,_,_] Z (zF (zF (zB (zA 1 Z (zH (zC [0,1,4,5,6,7,8,9,39] [_,_,_,_,_,_,_,_,_] Z (Wk.join (σ:=Bool) (fun b9=>True) (fun b9=>[(0,pt_ rp),(1,i6_ n),(4,pt_ p4),(5,pt_ p5),(6,i6_ k13),(7,i6_ (k:Int)),(8,i6_ (j:Int)),(9,bo_ b9)]) (fun b9=>Own B w0 (bk_ p5 #[i6_ n,str S2,str R1] 24::bk_ p4 #[i6_ 0,str ([]),str ([])] 24::bk_ rp #[bv,i6_ (p_37:Int)] 84::hs)) ?_ ?_)))))))))
   ·
    refine qT (zF (zB (zA 2 Z (zH (zC [0,1,4,5,6,7,8,9,39,40] [_,_,_,_,_,_,_,_,_,_] Z (xI Z (fun h40=>?_) (fun h40=>?_)))))))
    ·
     refine zB (zA 2 Z (zD Z (qV Z Z Z (by omega) (by omega)) (zA 1 Z (zD (v:=i6_ (((k:Int)+(1:Int)) % n)) Z (OpQ.rem Z Z Z (by omega) (by omega)) (zA 2 Z (zH (qX (decide ((j:Int)=(((k:Int)+(1:Int)) % n))) trivial (Sub.sel [0,1,4,5,6,7,8,9] Z) (fun _ h=>h))))))))
    refine zF (zB (zA 2 Z (zH (zC [0,1,4,5,6,7,8,9,39,48] [_,_,_,_,_,_,_,_,_,_] Z (xI Z (fun h48=>?_) (fun h48=>?_))))))
    ·
     refine zB (zA 4 Z (zH (qX (decide ((k:Int)<(j:Int))) trivial (Sub.sel [0,1,4,5,6,7,8,9] Z) (fun _ h=>h))))
    refine zF (zB (zA 2 Z (zH (zC [0,1,4,5,6,7,8,9,39,53] [_,_,_,_,_,_,_,_,_,_] Z (xI Z (fun h53=>?_) (fun h53=>?_))))))
    ·
     refine zB (zA 4 Z (yF fun b58 hg58=>?_))
     cases b58
     ·
      replace hg58:=not_false hg58
      replace hg58:=zV hg58;refine zE Z (zE Z (zE Z (zE Z (zE Z (zA 2 Z (zH (qX (false) trivial (Sub.sel [0,1,4,5,6,7,8,9] Z) (fun _ h=>h))))))))
     replace hg58:=not_true hg58
     replace hg58:=zR hg58;refine zA 2 Z (zD Z (qV Z Z Z (by omega) (by omega)) (zD (v:=i6_ (((k:Int)+(j:Int)) % (2:Int))) Z (OpQ.rem Z Z Z (by omega) (by decide)) (zA 3 Z (zH (qX (decide ((((k:Int)+(j:Int)) % (2:Int))=(1:Int))) trivial (Sub.sel [0,1,4,5,6,7,8,9] Z) (fun _ h=>h))))))
    refine zF (zB (zA 2 Z (zH (zC [0,1,4,5,6,7,8,9,39,65] [_,_,_,_,_,_,_,_,_,_] Z (xI Z (fun h65=>?_) (fun h65=>?_))))))
    ·
     refine zB (zA 4 Z (yF fun b70 hg70=>?_))
     cases b70
     ·
      replace hg70:=zR hg70;refine zA 2 Z (zD Z (qV Z Z Z (by omega) (by omega)) (zA 3 Z (yF fun b76 hg76=>?_)))
      cases b76
      ·
       replace hg76:=zR hg76;refine zA 2 Z (zD Z (qV Z Z Z (by omega) (by omega)) (zA 3 Z (zH (qX (decide ((k:Int)=((j:Int)+(1:Int)))) trivial (Sub.sel [0,1,4,5,6,7,8,9] Z) (fun _ h=>h)))))
      replace hg76:=zV hg76;refine zE Z (zE Z (zE Z (zE Z (zA 2 Z (zH (qX (true) trivial (Sub.sel [0,1,4,5,6,7,8,9] Z) (fun _ h=>h)))))))
     replace hg70:=zV hg70;refine zE Z (zE Z (zE Z (zE Z (zA 2 Z (zE Z (zE Z (zE Z (zE Z (zA 2 Z (zH (qX (true) trivial (Sub.sel [0,1,4,5,6,7,8,9] Z) (fun _ h=>h))))))))))))
    refine zF (zB (zA 2 Z (zH (zC [0,1,4,5,6,7,8,9,39,82] [_,_,_,_,_,_,_,_,_,_] Z (xI Z (fun h82=>?_) (fun h82=>?_))))))
    ·
     refine zB (zA 2 Z (yF fun b85 hg85=>?_))
     cases b85
     ·
      replace hg85:=zR hg85;refine zE Z (zE Z (zE Z (zA 2 Z (zH (qX (false) trivial (Sub.sel [0,1,4,5,6,7,8,9] Z) (fun _ h=>h))))))
     replace hg85:=zV hg85;refine zA 5 Z (zH (qX (!(decide ((k:Int)=(j:Int)))) trivial (Sub.sel [0,1,4,5,6,7,8,9] Z) (fun _ h=>h)))
    refine zF (zB (zA 2 Z (zH (zC [0,1,4,5,6,7,8,9,90] [_,_,_,_,_,_,_,_,_] Z (xI Z (fun h90=>?_) (fun h90=>?_))))))
    ·
     refine zB (zA 1 Z (zD Z (qV Z Z Z (by omega) (by omega)) (zD (v:=i6_ (((k:Int)+(1:Int)) / (2:Int))) Z (OpQ.quo Z Z Z (by omega) (by omega) (by decide)) (zA 1 Z (zD Z (qV Z Z Z (by omega) (by omega)) (zD (v:=i6_ (((j:Int)+(1:Int)) / (2:Int))) Z (OpQ.quo Z Z Z (by omega) (by omega) (by decide)) (zA 2 Z (yF fun b99 hg99=>?_))))))))
     cases b99
     ·
      replace hg99:=zR hg99;refine zE Z (zE Z (zE Z (zA 2 Z (zH (qX (false) trivial (Sub.sel [0,1,4,5,6,7,8,9] Z) (fun _ h=>h))))))
     replace hg99:=zV hg99;refine zA 5 Z (zH (qX (!(decide ((k:Int)=(j:Int)))) trivial (Sub.sel [0,1,4,5,6,7,8,9] Z) (fun _ h=>h)))
    refine qR (qX (decide (k37=(0:Int))) trivial (Sub.sel [0,1,4,5,6,7,8,9] Z) (fun _ h=>h))
   rintro b9 _;refine zC [0,1,4,5,6,7,8,9] [_,_,_,_,_,_,_,_] Z (jO (S:=Own B w0 [bk_ p4 #[i6_ 0,str ([]),str ([])] 24,bk_ rp #[bv,i6_ (p_37:Int)] 84]) (.take 0 (.take 2 (.two 1 (.one 3 (.take 4 (.take 5 (.one 6 .done)))) 3 (.one 1 (.take 4 (.take 5 (.one 6 .done))))))) yJ (fun _ h=>h.drawn) (by kernel_rfl) (zX Z Z Z Z Z (zN Z zI Z zQ Z Z) (pk [1,2] Z Z) (jH 1 Z (pk [1,2] Z Z) (xU Z Z ?_ ?_))))
   ·
    refine qC Z (zS 0 Z qG Z Z Z) (zL (zT (pk [1,2] Z Z) ?_));refine qN Z (qC (v:=str (if b9 then [49] else [48])) Z (qH Z yX Z zZ (fun w1 hw1=>bitD_ok b9 w1 )) (zL (zT (pk [1,2] Z Z) ?_)));refine zX Z Z Z Z Z (qU Z Z Z (by first | (rw [bit_len];omega) | omega)) (pk [1,2] Z Z) (zX Z Z Z Z Z (zN Z zI Z zQ Z Z) (pk [1,2] Z Z) (qN Z (qY (v:=str (R1++(if b9 then [49] else [48]))) (hs':=(bk_ p5 #[i6_ n,str S2,str (R1++(if b9 then [49] else [48]))] 24::_::_::hs)) 0 Z Z Z Z Z Z zQ Z (by simp) Z (zL (zT (pk [1,2] Z Z) ?_)))));refine xB (zC [0,1,4,5,6,7,8] [_,_,_,_,_,_,_] Z (zB (zA 1 Z (zD Z (qV Z Z Z (by omega) (by omega)) (zA 1 Z (zH (qZ (j+1,R1++(if b9 then [49] else [48]),p_37) ⟨by omega,by (try dsimp only);rw [zM,bit_len];omega,by (try dsimp only);omega⟩ (by omega) (Sub.sel [0,1,4,5,6,7,8] Z) (fun _ h=>h))))))))
   refine qC (v:=str (if b9 then [49] else [48])) Z (qH Z yX Z zZ (fun w1 hw1=>bitD_ok b9 w1 )) (zL (zT (pk [1,2] Z Z) ?_));refine qN Z (qC Z (zS 0 Z qG Z Z Z) (zL (zT (pk [1,2] Z Z) ?_)));refine zX Z Z Z Z Z (qU Z Z Z (by first | (rw [bit_len];omega) | omega)) (pk [1,2] Z Z) (zX Z Z Z Z Z (zN Z zI Z zQ Z Z) (pk [1,2] Z Z) (qN Z (qY (v:=str (R1++(if b9 then [49] else [48]))) (hs':=(bk_ p5 #[i6_ n,str S2,str (R1++(if b9 then [49] else [48]))] 24::_::_::hs)) 0 Z Z Z Z Z Z zQ Z (by simp) Z (zL (zT (pk [1,2] Z Z) ?_)))));refine xB (zC [0,1,4,5,6,7,8] [_,_,_,_,_,_,_] Z (zB (zA 1 Z (zD Z (qV Z Z Z (by omega) (by omega)) (zA 1 Z (zH (qZ (j+1,R1++(if b9 then [49] else [48]),p_37) ⟨by omega,by (try dsimp only);rw [zM,bit_len];omega,by (try dsimp only);omega⟩ (by omega) (Sub.sel [0,1,4,5,6,7,8] Z) (fun _ h=>h))))))))
  refine yY Z (zC [0,1,4,5,6,7] [_,_,_,_,_,_] Z (zB (zA 1 Z (zD Z (qV Z Z Z (by omega) (by omega)) (zA 1 Z (zH (qZ (k+1,S2,R1,p1) ⟨by omega,by (try dsimp only);omega,by (try dsimp only);rw [Nat.add_mul,Nat.one_mul];omega,by (try dsimp only);omega⟩ (by omega) (Sub.sel [0,1,4,5,6,7] Z) (fun _ h=>h))))))))
 refine yY Z (zC [4,5] [_,_] Z (zF (qD (qC Z (zU (cs:=#[i6_ n,str S,str R]) 0 Z zP Z Z zJ) (yL (cs':=#[i6_ n,str S,str R]) (hs':=(_::bk_ p4 #[i6_ n,str S,str R] 24::_::hs)) 1 Z Z Z Z Z (by kernel_rfl:_=some Tryd.t24) Z Z Z Z Z (zL (zC [4] [_] Z (qI (Kt.endBox (cs:=#[i6_ n,str S,str R]) 1 Z Z Z zP zJ fun w' hw=>?_)))))))))
 exact ⟨⟨n,S,R⟩,p0,rfl,⟨⟨rfl,by dsimp only;omega,by dsimp only;rw [hR,show k=n.toNat from by omega]⟩,by omega⟩,hw.sub (zW _ (zW _ (zG _ (qJ _))))⟩
set_option maxHeartbeats 400000 in
theorem l1Some_ok (B:Nat) (w0:World) (hs:List (Nat×Obj)) (rp p:Nat) (bv:Value) (L:List Int) (w:World) (hb:∀ w,Own B w0 hs w→Row w bv (u8s L)) (hL8:Bytes8 L) (hL:L.length≤2000) (hp:p≤800000) (hw:Own B w0 ((rp,.cells #[bv,.int .i64 (p:Int)] 84 (0,0))::hs) w) :
    Calls Tryd.prog 60 [pt_ rp].toArray w fun en w'=>∃ a:St,∃ p':Nat,en=.returned (vS a)∧((a.Fine∧a.n≤5)∧p'≤p+200)∧Own B w0 (((rp,.cells #[bv,.int .i64 (p':Int)] 84 (0,0))::hs)) w':=by
 refine fnStartC (Own B w0 ((rp,.cells #[bv,.int .i64 (p:Int)] 84 (0,0))::hs)) (n:=8) (e:=[(0,pt_ rp)]) Tryd.func60 Z Z Z Z Ends.both hw (zF (qD (xW Z Z Z Z yQ fun p2 hp2=>?_)))
 show Ll _ _ (Own _ _ (bk_ p2 #[i6_ 0,str ([]),str ([])] 24::_::hs)) _ _ ((2,pt_ p2)::_) _ _ _;refine zL (zC [0,2] [_,_] Z (zF (qD (qQ 2 Z (yS (xs:=[.const (i6_ 3),.const (i6_ 4),.const (i6_ 2),.const (i6_ 1),.const (i6_ 5),.const (i6_ 3)]) (vs:=[i6_ 3,i6_ 4,i6_ 2,i6_ 1,i6_ 5,i6_ 3]) qS Z Z Z Z Z Z (by decide) Z fun p5 hp5=>(yM (rp:=rp) (RT:=84) (p:=p) (bv:=bv) (hs:=hs) (ok:=fun (v:Int) p'=>v∈([3,4,2,1,5,3])∧p'=p+1) (v:=fun (v:Int)=>i6_ v) (new:=fun (v:Int)=>[]) (xs:=[.tmp 4,.tmp 5]) (vs:=[pt_ rp,sl_ p5 6 6]) ([bk_ p5 #[i6_ 3,i6_ 4,i6_ 2,i6_ 1,i6_ 5,i6_ 3] 3,bk_ p2 #[i6_ 0,str ([]),str ([])] 24]:List (Nat×Obj)) Z Z Z Z Tryd.call84 Z (fun w1 hw1=>(num_ok B w0 (([bk_ p5 #[i6_ 3,i6_ 4,i6_ 2,i6_ 1,i6_ 5,i6_ 3] 3,bk_ p2 #[i6_ 0,str ([]),str ([])] 24]:List (Nat×Obj))++hs) rp p bv L (sl_ p5 6 6) ([3,4,2,1,5,3]) w1 (fun w2 hw2=>hb w2 (qE (f:=([bk_ p5 #[i6_ 3,i6_ 4,i6_ 2,i6_ 1,i6_ 5,i6_ 3] 3,bk_ p2 #[i6_ 0,str ([]),str ([])] 24]:List (Nat×Obj))) hw2)) hL8 hL (fun w2 h2=>(yH h2 (i:=0) Z (n:=6) (cap:=6) (vs:=ints [3,4,2,1,5,3]) Z Z (by decide))) (by simp) (by omega) hw1).mono fun en w' ⟨v',p',h1,h2,h3⟩=>⟨v',p',h1,h2,h3⟩) fun v6 p_6 hKp_6=>?_))))))
 show Ll _ _ (Own _ _ (_::_::_::hs)) _ _ ((6,i6_ v6)::_) _ _ _
 obtain ⟨hmv6,hep_6⟩:=hKp_6
 have hvv6:1≤v6∧v6≤5:=by simp at hmv6;omega
 have hv6:1≤v6∧v6≤5:=by simp at hmv6;omega
 refine yM (rp:=rp) (RT:=84) (p:=p_6) (bv:=bv) (hs:=hs) (ok:=fun (a:St) p'=>(a.n=v6∧(a.set.length:Int)=v6∧a.rel.length=v6.toNat*v6.toNat)∧p'≤p_6+100) (v:=fun (a:St)=>vS a) (new:=fun (a:St)=>[]) (xs:=[.tmp 3,.tmp 6]) (vs:=[pt_ rp,i6_ v6]) ([bk_ p5 #[i6_ 3,i6_ 4,i6_ 2,i6_ 1,i6_ 5,i6_ 3] 3,bk_ p2 #[i6_ 0,str ([]),str ([])] 24]:List (Nat×Obj)) Z Z Z Z Tryd.call83 Z (fun w1 hw1=>(l1Draw_ok B w0 (([bk_ p5 #[i6_ 3,i6_ 4,i6_ 2,i6_ 1,i6_ 5,i6_ 3] 3,bk_ p2 #[i6_ 0,str ([]),str ([])] 24]:List (Nat×Obj))++hs) rp p_6 bv L v6 w1 (fun w2 hw2=>hb w2 (qE (f:=([bk_ p5 #[i6_ 3,i6_ 4,i6_ 2,i6_ 1,i6_ 5,i6_ 3] 3,bk_ p2 #[i6_ 0,str ([]),str ([])] 24]:List (Nat×Obj))) hw2)) hL8 hL (by omega) (by omega) (by omega) hw1).mono fun en w' ⟨a',p',h1,h2,h3⟩=>⟨a',p',h1,h2,h3⟩) fun a7 p_7 hKp_7=>?_
 show Ll _ _ (Own _ _ (_::_::_::hs)) _ _ ((7,vS a7)::_) _ _ _
 obtain ⟨⟨hna7,hsa7,hra7⟩,hep_7⟩:=hKp_7;refine yL (cs':=#[i6_ a7.n,str a7.set,str a7.rel]) (hs':=(_::bk_ p2 #[i6_ a7.n,str a7.set,str a7.rel] 24::_::hs)) 1 Z Z Z Z Z (by kernel_rfl:_=some Tryd.t24) Z Z Z Z Z (zL (zC [2] [_] Z (qI (Kt.endBox (cs:=#[i6_ a7.n,str a7.set,str a7.rel]) 1 Z Z Z zP zJ fun w' hw=>?_))))
 exact ⟨a7,p_7,rfl,⟨⟨⟨by omega,by omega,by omega,by rw [hra7,hna7];exact sq_cast (by omega)⟩,by omega⟩,by omega⟩,hw.sub (zW _ (zW _ (zG _ (qJ _))))⟩
set_option maxHeartbeats 400000 in
theorem shuffle_ok (B:Nat) (w0:World) (hs:List (Nat×Obj)) (rp p:Nat) (bv:Value) (L:List Int) (n:Int) (w:World) (hb:∀ w,Own B w0 hs w→Row w bv (u8s L)) (hL8:Bytes8 L) (hL:L.length≤2000) (hn0:0≤n) (hn8:n≤8) (hp:p≤900000) (hw:Own B w0 ((rp,.cells #[bv,.int .i64 (p:Int)] 84 (0,0))::hs) w) :
    Calls Tryd.prog 81 [pt_ rp,i6_ n].toArray w fun en w'=>∃ g:Nat,∃ c:Nat,∃ u:Array Value,∃ xs:List Int,∃ p':Nat,en=.returned (sl_ g xs.length c)∧((u.size=c*1∧xs.length≤c∧u.toList.take xs.length=ints xs)∧(xs.length=n.toNat∧∀ x∈xs,0≤x∧x<n)∧p'≤p+10)∧Own B w0 ([bk_ g u 3]++((rp,.cells #[bv,.int .i64 (p':Int)] 84 (0,0))::hs)) w':=by
 refine fnStartC (Own B w0 ((rp,.cells #[bv,.int .i64 (p:Int)] 84 (0,0))::hs)) (n:=32) (e:=[(0,pt_ rp),(1,i6_ n)]) Tryd.func81 Z Z Z Z Ends.both hw (zF (zB (zA 1 Z (zH (zC [0,1] [_,_] Z (zF (qD (yS (xs:=[]) (vs:=[]) qS Z Z Z Z Z Z (by decide) Z fun p8 hp8=>(qQ 1 Z (zL (zC [0,1,5] [_,_,_] Z (zF (zF (zB (zA 1 Z (zH (zC [0,1,5,6] [_,_,_,_] Z (qT (xF (σ:=Nat×Nat×Nat×Array Value×List Int×Nat) (fun ⟨k,g,c,u,xs,p0⟩=>(k:Int)≤n∧(u.size=c*1∧xs.length≤c∧u.toList.take xs.length=ints xs)∧(xs.length=k∧∀ x∈xs,0≤x∧x<(k:Int))∧p0≤p+k) (fun ⟨k,g,c,u,xs,p0⟩=>[(0,pt_ rp),(1,i6_ n),(5,sl_ g xs.length c),(6,i6_ (k:Int))]) (fun ⟨k,g,c,u,xs,p0⟩=>Own B w0 (bk_ g u 3::bk_ rp #[bv,i6_ (p0:Int)] 84::hs)) (fun ⟨k,g,c,u,xs,p0⟩=>(n - k).toNat) (0,p8,0,#[],[],p) ⟨by omega,⟨rfl,Nat.le_refl 0,rfl⟩,⟨rfl,fun x hx=>by cases hx⟩,by omega⟩ (Sub.sel [0,1,5,6] Z) (fun _ h=>h) ?_)))))))))))))))))))
 rintro ⟨k,g,c,u,xs,p0⟩ ⟨hk,⟨hcg,hlg,htg⟩,⟨hxl,hxr⟩,hp0⟩
 dsimp only;refine zF (zF (zB (zA 3 Z (zH (zC [0,1,5,6,11] [_,_,_,_,_] Z (yA (b:=decide ((k:Int)<n)) Z (fun h11=>?_) (fun h11=>?_)))))))
 ·
  replace h11:=zV h11
  have hxl8:xs.length≤8:=by omega
  refine qR (zC [0,1,5,6] [_,_,_,_] Z (zF (qT (zF (qD (qQ 2 Z (qC Z (jE Z zK Z) (qC Z (qV Z Z Z (by omega) (by omega)) (yM (rp:=rp) (RT:=84) (p:=p0) (bv:=bv) (hs:=hs) (ok:=fun (k:Int) p'=>0≤k∧(1≤((xs.length:Int)+(1:Int))→k<((xs.length:Int)+(1:Int)))∧p'=p0+1) (v:=fun (k:Int)=>i6_ k) (new:=fun (k:Int)=>[]) (xs:=[.tmp 14,.tmp 17]) (vs:=[pt_ rp,i6_ ((xs.length:Int)+(1:Int))]) ([bk_ g u 3]:List (Nat×Obj)) Z Z Z Z xP Z (fun w1 hw1=>(pick_ok B w0 (([bk_ g u 3]:List (Nat×Obj))++hs) rp p0 bv L ((xs.length:Int)+(1:Int)) w1 (fun w2 hw2=>hb w2 (qE (f:=([bk_ g u 3]:List (Nat×Obj))) hw2)) hL8 hL (by omega) hw1).mono fun en w' ⟨k',p',h1,h2,h3⟩=>⟨k',p',h1,h2,h3⟩) fun k18 p_18 hKp_18=>?_)))))))))
  show Ll _ _ (Own _ _ (_::_::hs)) _ _ ((18,i6_ k18)::_) _ _ _
  obtain ⟨h0k18,h1k18,hep_18⟩:=hKp_18
  try have hltk18:=h1k18 (by first | omega | (split <;> omega) | decide);refine qQ 1 Z (zL (zC [0,1,5,6,7] [_,_,_,_,_] Z (jO (S:=Own B w0 [bk_ g u 3,bk_ rp #[bv,i6_ (p_18:Int)] 84]) (.take 1 (.take 2 (.take 3 (.take 5 (.take 8 (.take 9 (.take 10 (.two 0 (.two 4 (.one 6 (.one 7 (.one 11 (.take 12 .done)))) 6 (.one 4 (.one 7 (.one 11 (.take 12 .done))))) 6 (.one 0 (.one 4 (.one 7 (.one 11 (.take 12 .done))))))))))))) yJ (fun _ h=>h.drawn) (by kernel_rfl) (jH 2 Z (pk [0,1] Z Z) (zX (v:=sl_ g ((k18).toNat) c) Z Z Z Z Z (OpQ.takeS (i:=k18) Z zK zY Z Z (by omega) (by omega)) (pk [0,1] Z Z) (jH 3 Z (pk [0,1] Z Z) (zX (v:=.slice (some ⟨g,(dropOff (k18).toNat c),none⟩) (xs.length - (k18).toNat) (c - (k18).toNat)) Z Z Z Z Z (OpQ.dropE Z zK zY Z Z (by omega) (by omega) (by omega)) (pk [0,1] Z Z) (xU Z Z ?_ ?_))))))))
  ·
   refine yS (xs:=[]) (vs:=[]) qS Z Z Z Z Z Z (by decide) Z fun p19 hp19=>(zL (zT (pk [1,2] Z Z) ?_));refine xU Z Z ?_ ?_
   ·
    refine yG (xs:=[]) (ys:=(xs).take ((k18).toNat)) qS 0 Z Z Z Z Z Z Z Z (by decide) Z (fun w1 hw1=>(Own.rowTake hw1 (i:=1) Z htg (by omega) hlg)) (((xs).take ((k18).toNat)).length) (by first | (simp;done) | (simp;omega)) (by first | (simp;done) | (simp;omega) | omega) fun p23 cap23 cur23 hp23 hcp23 hlp23 htp23=>?_
    show Ll _ _ (Own _ _ (_::_::_::hs)) _ _ ((23,sl_ p23 ((((xs).take ((k18).toNat)).length)) cap23)::_) _ _ _;refine zL (zT (pk [1,2] Z Z) ?_);refine qN Z (yS (xs:=[.tmp 24]) (vs:=[i6_ (k:Int)]) qS Z Z Z Z Z Z (by decide) Z fun p25 hp25=>(zL (zT (pk [2,3] Z Z) ?_)));refine qN Z (yG (xs:=(xs).take ((k18).toNat)) (ys:=[(k:Int)]) qS 1 Z Z Z Z Z Z Z hcp23 hlp23 (by simpa using htp23) (fun w1 hw1=>(yH hw1 (i:=0) Z (n:=1) (cap:=1) (vs:=ints [(k:Int)]) Z Z (by decide))) ((((xs).take ((k18).toNat))++([(k:Int)])).length) (by first | (simp;done) | (simp;omega)) (by first | (simp;done) | (simp;omega) | omega) fun p26 cap26 cur26 hp26 hcp26 hlp26 htp26=>?_)
    show Ll _ _ (Own _ _ (_::_::_::_::hs)) _ _ ((26,sl_ p26 (((((xs).take ((k18).toNat))++([(k:Int)])).length)) cap26)::_) _ _ _;refine zL (zT (pk [2,3] Z Z) ?_);refine qN Z (yG (xs:=((xs).take ((k18).toNat))++([(k:Int)])) (ys:=xs.drop (k18).toNat) qS 1 Z Z Z Z Z Z Z hcp26 hlp26 (by simpa using htp26) (fun w1 hw1=>(Own.rowDropE hw1 (i:=2) Z htg (by omega) hlg)) (((((xs).take ((k18).toNat))++([(k:Int)]))++(xs.drop (k18).toNat)).length) (by first | (simp;done) | (simp;omega)) (by first | (simp;done) | (simp;omega) | omega) fun p30 cap30 cur30 hp30 hcp30 hlp30 htp30=>?_)
    show Ll _ _ (Own _ _ (_::_::_::_::hs)) _ _ ((30,sl_ p30 ((((((xs).take ((k18).toNat))++([(k:Int)]))++(xs.drop (k18).toNat)).length)) cap30)::_) _ _ _;refine zL (zT (pk [2,3] Z Z) ?_);refine jH 1 Z (pk [2,3] Z Z) (xB (zC [0,1,5,6] [_,_,_,_] Z (zB (zA 1 Z (zD Z (qV Z Z Z (by omega) (by omega)) (zA 1 Z (zH (qZ ((k+1,p30,cap30,cur30,(((xs).take ((k18).toNat))++([(k:Int)]))++(xs.drop (k18).toNat),p_18)) ⟨by omega,⟨by simpa using hcp30,hlp30,by simpa using (by simpa using htp30)⟩,⟨by (try dsimp only);simp;omega,shuf_all hxr⟩,by (try dsimp only);omega⟩ (by omega) (Sub.sel [0,1,5,6] Z) (fun _ h=>h.sub (zW _ (zG _ (zW _ (zG _ (qJ _))))))))))))))
   refine yS (xs:=[.tmp 24]) (vs:=[i6_ (k:Int)]) qS Z Z Z Z Z Z (by decide) Z fun p25_1 hp25_1=>(zL (zT (pk [2,3] Z Z) ?_));refine qN Z (yG (xs:=[]) (ys:=(xs).take ((k18).toNat)) qS 1 Z Z Z Z Z Z Z Z (by decide) Z (fun w1 hw1=>(Own.rowTake hw1 (i:=2) Z htg (by omega) hlg)) (((xs).take ((k18).toNat)).length) (by first | (simp;done) | (simp;omega)) (by first | (simp;done) | (simp;omega) | omega) fun p23_1 cap23_1 cur23_1 hp23_1 hcp23_1 hlp23_1 htp23_1=>?_)
   show Ll _ _ (Own _ _ (_::_::_::_::hs)) _ _ ((23,sl_ p23_1 ((((xs).take ((k18).toNat)).length)) cap23_1)::_) _ _ _;refine zL (zT (pk [2,3] Z Z) ?_);refine qN Z (yG (xs:=(xs).take ((k18).toNat)) (ys:=[(k:Int)]) qS 1 Z Z Z Z Z Z Z hcp23_1 hlp23_1 (by simpa using htp23_1) (fun w1 hw1=>(yH hw1 (i:=0) Z (n:=1) (cap:=1) (vs:=ints [(k:Int)]) Z Z (by decide))) ((((xs).take ((k18).toNat))++([(k:Int)])).length) (by first | (simp;done) | (simp;omega)) (by first | (simp;done) | (simp;omega) | omega) fun p26_1 cap26_1 cur26_1 hp26_1 hcp26_1 hlp26_1 htp26_1=>?_)
   show Ll _ _ (Own _ _ (_::_::_::_::hs)) _ _ ((26,sl_ p26_1 (((((xs).take ((k18).toNat))++([(k:Int)])).length)) cap26_1)::_) _ _ _;refine zL (zT (pk [2,3] Z Z) ?_);refine qN Z (yG (xs:=((xs).take ((k18).toNat))++([(k:Int)])) (ys:=xs.drop (k18).toNat) qS 1 Z Z Z Z Z Z Z hcp26_1 hlp26_1 (by simpa using htp26_1) (fun w1 hw1=>(Own.rowDropE hw1 (i:=2) Z htg (by omega) hlg)) (((((xs).take ((k18).toNat))++([(k:Int)]))++(xs.drop (k18).toNat)).length) (by first | (simp;done) | (simp;omega)) (by first | (simp;done) | (simp;omega) | omega) fun p30_1 cap30_1 cur30_1 hp30_1 hcp30_1 hlp30_1 htp30_1=>?_)
   show Ll _ _ (Own _ _ (_::_::_::_::hs)) _ _ ((30,sl_ p30_1 ((((((xs).take ((k18).toNat))++([(k:Int)]))++(xs.drop (k18).toNat)).length)) cap30_1)::_) _ _ _;refine zL (zT (pk [2,3] Z Z) ?_);refine jH 1 Z (pk [2,3] Z Z) (xB (zC [0,1,5,6] [_,_,_,_] Z (zB (zA 1 Z (zD Z (qV Z Z Z (by omega) (by omega)) (zA 1 Z (zH (qZ ((k+1,p30_1,cap30_1,cur30_1,(((xs).take ((k18).toNat))++([(k:Int)]))++(xs.drop (k18).toNat),p_18)) ⟨by omega,⟨by simpa using hcp30_1,hlp30_1,by simpa using (by simpa using htp30_1)⟩,⟨by (try dsimp only);simp;omega,shuf_all hxr⟩,by (try dsimp only);omega⟩ (by omega) (Sub.sel [0,1,5,6] Z) (fun _ h=>h.sub (zW _ (zG _ (zW _ (zG _ (qJ _))))))))))))))
  refine yS (xs:=[.tmp 24]) (vs:=[i6_ (k:Int)]) qS Z Z Z Z Z Z (by decide) Z fun p25_2 hp25_2=>(zL (zT (pk [1,2] Z Z) ?_));refine qN Z (yS (xs:=[]) (vs:=[]) qS Z Z Z Z Z Z (by decide) Z fun p19_1 hp19_1=>(zL (zT (pk [2,3] Z Z) ?_)));refine qN Z (yG (xs:=[]) (ys:=(xs).take ((k18).toNat)) qS 0 Z Z Z Z Z Z Z Z (by decide) Z (fun w1 hw1=>(Own.rowTake hw1 (i:=2) Z htg (by omega) hlg)) (((xs).take ((k18).toNat)).length) (by first | (simp;done) | (simp;omega)) (by first | (simp;done) | (simp;omega) | omega) fun p23_2 cap23_2 cur23_2 hp23_2 hcp23_2 hlp23_2 htp23_2=>?_)
  show Ll _ _ (Own _ _ (_::_::_::_::hs)) _ _ ((23,sl_ p23_2 ((((xs).take ((k18).toNat)).length)) cap23_2)::_) _ _ _;refine zL (zT (pk [2,3] Z Z) ?_);refine qN Z (yG (xs:=(xs).take ((k18).toNat)) (ys:=[(k:Int)]) qS 0 Z Z Z Z Z Z Z hcp23_2 hlp23_2 (by simpa using htp23_2) (fun w1 hw1=>(yH hw1 (i:=1) Z (n:=1) (cap:=1) (vs:=ints [(k:Int)]) Z Z (by decide))) ((((xs).take ((k18).toNat))++([(k:Int)])).length) (by first | (simp;done) | (simp;omega)) (by first | (simp;done) | (simp;omega) | omega) fun p26_2 cap26_2 cur26_2 hp26_2 hcp26_2 hlp26_2 htp26_2=>?_)
  show Ll _ _ (Own _ _ (_::_::_::_::hs)) _ _ ((26,sl_ p26_2 (((((xs).take ((k18).toNat))++([(k:Int)])).length)) cap26_2)::_) _ _ _;refine zL (zT (pk [2,3] Z Z) ?_);refine qN Z (yG (xs:=((xs).take ((k18).toNat))++([(k:Int)])) (ys:=xs.drop (k18).toNat) qS 0 Z Z Z Z Z Z Z hcp26_2 hlp26_2 (by simpa using htp26_2) (fun w1 hw1=>(Own.rowDropE hw1 (i:=2) Z htg (by omega) hlg)) (((((xs).take ((k18).toNat))++([(k:Int)]))++(xs.drop (k18).toNat)).length) (by first | (simp;done) | (simp;omega)) (by first | (simp;done) | (simp;omega) | omega) fun p30_2 cap30_2 cur30_2 hp30_2 hcp30_2 hlp30_2 htp30_2=>?_)
  show Ll _ _ (Own _ _ (_::_::_::_::hs)) _ _ ((30,sl_ p30_2 ((((((xs).take ((k18).toNat))++([(k:Int)]))++(xs.drop (k18).toNat)).length)) cap30_2)::_) _ _ _;refine zL (zT (pk [2,3] Z Z) ?_);refine jH 1 Z (pk [2,3] Z Z) (xB (zC [0,1,5,6] [_,_,_,_] Z (zB (zA 1 Z (zD Z (qV Z Z Z (by omega) (by omega)) (zA 1 Z (zH (qZ ((k+1,p30_2,cap30_2,cur30_2,(((xs).take ((k18).toNat))++([(k:Int)]))++(xs.drop (k18).toNat),p_18)) ⟨by omega,⟨by simpa using hcp30_2,hlp30_2,by simpa using (by simpa using htp30_2)⟩,⟨by (try dsimp only);simp;omega,shuf_all hxr⟩,by (try dsimp only);omega⟩ (by omega) (Sub.sel [0,1,5,6] Z) (fun _ h=>h.sub (zG _ (zW _ (zW _ (zG _ (qJ _))))))))))))))
 replace h11:=zR h11;refine yY Z (zC [5] [_] Z (zF (zB (zA 2 Z (zH (zC [4] [_] Z (qI (qK Z Z fun w' hw=>?_))))))))
 exact ⟨g,c,u,xs,p0,rfl,⟨⟨by simpa using hcg,hlg,by simpa using htg⟩,⟨by omega,fun x hx=>by have:=hxr x hx;omega⟩,by omega⟩,hw.sub (zG _ (zG _ (qJ _)))⟩
set_option maxHeartbeats 400000 in
theorem part_ok (a:St) (va:Value) (xs:List Int) (w:World) (ha:a.Fine) (hva:Ints w va xs) (hA:a.Els xs) (h8:xs.length≤8) :
    Calls Tryd.prog 80 [vS a,va].toArray w fun en w'=>∃ b:St,en=.returned (vS b)∧(b.n=xs.length∧(b.set.length:Int)=xs.length∧b.rel.length=xs.length*xs.length)∧Below w.heap.size w w':=by
 refine fnStart (n:=50) (e:=[(0,vS a),(1,va)]) Tryd.func80 Z Z Z Z Ends.both (zF (qD (yT (v:=vS a) Z Z Z Z Z fun p2 hp2=>?_)))
 show Ll _ _ (Own _ _ [_]) _ _ ((2,pt_ p2)::_) _ _ _;refine xW Z Z Z Z yQ fun p4 hp4=>?_
 show Ll _ _ (Own _ _ [bk_ p4 #[i6_ 0,str ([]),str ([])] 24,_]) _ _ ((4,pt_ p4)::_) _ _ _;refine zL (zC [1,2,4] [_,_,_] Z (zF (qD (qQ 1 Z (qC (v:=i6_ (xs.length:Int)) Z (yI Z zK Z (ints_length _) (fun w1 hw1=>Row.own hva hw1)) (qC (v:=.agg #[i6_ (xs.length:Int),str ([]),str ([])]) Z (OpQ.build (xs:=[.tmp 9]) (vs:=[i6_ (xs.length:Int)]) Z Z (by kernel_rfl)) (xW Z Z Z Z yQ fun p5 hp5=>?_)))))))
 show Ll _ _ (Own _ _ [bk_ p5 #[i6_ 0,str ([]),str ([])] 24,_,_]) _ _ ((5,pt_ p5)::_) _ _ _;refine yL (cs':=#[i6_ (xs.length:Int),str ([]),str ([])]) (hs':=[bk_ p5 #[i6_ (xs.length:Int),str ([]),str ([])] 24,_,_]) 0 Z Z Z Z Z (by kernel_rfl:_=some Tryd.t24) Z Z Z Z Z (zL (zC [1,2,4,5] [_,_,_,_] Z (zF (zF (zB (zA 1 Z (zH (zC [1,2,4,5,6] [_,_,_,_,_] Z (qT (xF (σ:=Nat×List UInt8×List UInt8) (fun ⟨k,S,R⟩=>k≤xs.length∧S.length=k∧R.length=k*xs.length) (fun ⟨k,S,R⟩=>[(1,va),(2,pt_ p2),(4,pt_ p4),(5,pt_ p5),(6,i6_ (k:Int))]) (fun ⟨k,S,R⟩=>Own w.heap.size w [bk_ p5 #[i6_ (xs.length:Int),str S,str R] 24,bk_ p4 #[i6_ 0,str ([]),str ([])] 24,bk_ p2 #[i6_ a.n,str a.set,str a.rel] 24]) (fun ⟨k,S,R⟩=>xs.length - k) (0,[],[]) ⟨by omega,rfl,by simp⟩ (Sub.sel [1,2,4,5,6] Z) (fun _ h=>h) ?_))))))))))
 rintro ⟨k,S,R⟩ ⟨hk,hS,hR⟩
 dsimp only
 have hkn:k*xs.length≤8*8:=Nat.mul_le_mul (by omega) (by omega);refine zF (zF (zB (zA 2 Z (zD (v:=i6_ (xs.length:Int)) Z (yI Z zK Z (ints_length _) (fun w1 hw1=>Row.own hva hw1)) (zA 1 Z (zH (zC [1,2,4,5,6,14] [_,_,_,_,_,_] Z (xI Z (fun h14=>?_) (fun h14=>?_)))))))))
 ·
  refine qR (zC [1,2,4,5,6] [_,_,_,_,_] Z (zF (qT (zF (jO (S:=Own w.heap.size w [bk_ p4 #[i6_ 0,str ([]),str ([])] 24,bk_ p2 #[i6_ a.n,str a.set,str a.rel] 24]) (.take 0 (.take 2 (.take 3 (.take 4 (.take 5 (.take 6 (.two 1 (.one 7 (.one 8 (.take 9 (.take 10 (.one 11 .done))))) 7 (.two 1 (.one 8 (.take 9 (.take 10 (.one 11 .done)))) 8 (.one 1 (.take 9 (.take 10 (.one 11 .done)))))))))))) yJ (fun _ h=>h.drawn) (by kernel_rfl) (zX Z Z Z Z Z (zN Z zI Z zQ Z Z) (fun _ h=>h.tail) (zX Z Z Z Z Z (zU (cs:=#[i6_ a.n,str a.set,str a.rel]) 1 Z zP Z Z zJ) (fun _ h=>h.tail) (jH 2 Z (fun _ h=>h.tail) (zX (v:=.pointer (some (sAt va (k:Int)))) Z Z Z Z Z (yE Z zK zY Z Z (by omega) (by rw [ints_length];omega) (fun w1 hw1=>Row.own hva hw1)) (fun _ h=>h.tail) (zX (v:=i6_ (xs.getD ((k:Int).toNat) 0)) Z Z Z Z Z (yC Z qF Z (fun w1 hw1=>Ints.cell (Row.own hva hw1) (by omega) (by omega))) (fun _ h=>h.tail) (xU Z Z ?_ ?_)))))))))))
  ·
   refine qC Z (zS 0 Z qG Z Z Z) (zL (zT (fun _ h=>h.tail) ?_));refine qN Z (qC (v:=bo_ (a.inSet (xs.getD ((k:Int).toNat) 0))) Z (qH Z Tryd.call116 Z zZ (fun w1 hw1=>l1Set_ok a (xs.getD ((k:Int).toNat) 0) w1 ha (by first | assumption | exact St.Els.at (by assumption) (by omega) (by omega)))) (zL (zT (fun _ h=>h.tail) ?_)));refine qN Z (qC (v:=str ((if a.inSet (xs.getD ((k:Int).toNat) 0) then [49] else [48]))) Z (qH Z yX Z zZ (fun w1 hw1=>bitD_ok (a.inSet (xs.getD ((k:Int).toNat) 0)) w1 )) (zL (zT (fun _ h=>h.tail) ?_)));refine zX Z Z Z Z Z (qU Z Z Z (by first | (rw [bit_len];omega) | omega)) (fun _ h=>h.tail) (zX Z Z Z Z Z (zN Z zI Z zQ Z Z) (fun _ h=>h.tail) (qN Z (qY (v:=str (S++((if a.inSet (xs.getD ((k:Int).toNat) 0) then [49] else [48])))) (hs':=[bk_ p5 #[i6_ (xs.length:Int),str (S++((if a.inSet (xs.getD ((k:Int).toNat) 0) then [49] else [48]))),str R] 24,_,_]) 0 Z Z Z Z Z Z zQ Z (by simp) Z (zL (zT (fun _ h=>h.tail) ?_)))));refine xB (zC [1,2,4,5,6] [_,_,_,_,_] Z (zF (zB (zA 1 Z (zH (zC [1,2,4,5,6,7] [_,_,_,_,_,_] Z (qT (xF (σ:=Nat×List UInt8) (fun ⟨j,R1⟩=>j≤xs.length∧R1.length=k*xs.length+j) (fun ⟨j,R1⟩=>[(1,va),(2,pt_ p2),(4,pt_ p4),(5,pt_ p5),(6,i6_ (k:Int)),(7,i6_ (j:Int))]) (fun ⟨j,R1⟩=>Own w.heap.size w [bk_ p5 #[i6_ (xs.length:Int),str (S++((if a.inSet (xs.getD ((k:Int).toNat) 0) then [49] else [48]))),str R1] 24,bk_ p4 #[i6_ 0,str ([]),str ([])] 24,bk_ p2 #[i6_ a.n,str a.set,str a.rel] 24]) (fun ⟨j,R1⟩=>xs.length - j) (0,R) ⟨by omega,by omega⟩ (Sub.sel [1,2,4,5,6,7] Z) (fun _ h=>h) ?_))))))))
   rintro ⟨j,R1⟩ ⟨hj,hR1⟩
   dsimp only;refine zF (zF (zB (zA 2 Z (zD (v:=i6_ (xs.length:Int)) Z (yI Z zK Z (ints_length _) (fun w1 hw1=>Row.own hva hw1)) (zA 1 Z (zH (zC [1,2,4,5,6,7,31] [_,_,_,_,_,_,_] Z (xI Z (fun h31=>?_) (fun h31=>?_)))))))))
   ·
    refine qR (zC [1,2,4,5,6,7] [_,_,_,_,_,_] Z (zF (qT (jO (S:=Own w.heap.size w [bk_ p4 #[i6_ 0,str ([]),str ([])] 24,bk_ p2 #[i6_ a.n,str a.set,str a.rel] 24]) (.take 0 (.take 2 (.take 3 (.take 4 (.take 5 (.take 6 (.take 7 (.take 8 (.take 9 (.take 10 (.two 1 (.one 11 (.one 12 (.take 13 (.take 14 (.one 15 .done))))) 11 (.two 1 (.one 12 (.take 13 (.take 14 (.one 15 .done)))) 12 (.one 1 (.take 13 (.take 14 (.one 15 .done)))))))))))))))) yJ (fun _ h=>h.drawn) (by kernel_rfl) (zX Z Z Z Z Z (zN Z zI Z zQ Z Z) (fun _ h=>h.tail) (zX Z Z Z Z Z (zU (cs:=#[i6_ a.n,str a.set,str a.rel]) 1 Z zP Z Z zJ) (fun _ h=>h.tail) (jH 2 Z (fun _ h=>h.tail) (zX (v:=.pointer (some (sAt va (k:Int)))) Z Z Z Z Z (yE Z zK zY Z Z (by omega) (by rw [ints_length];omega) (fun w1 hw1=>Row.own hva hw1)) (fun _ h=>h.tail) (zX (v:=i6_ (xs.getD ((k:Int).toNat) 0)) Z Z Z Z Z (yC Z qF Z (fun w1 hw1=>Ints.cell (Row.own hva hw1) (by omega) (by omega))) (fun _ h=>h.tail) (jH 2 Z (fun _ h=>h.tail) (zX (v:=.pointer (some (sAt va (j:Int)))) Z Z Z Z Z (yE Z zK zY Z Z (by omega) (by rw [ints_length];omega) (fun w1 hw1=>Row.own hva hw1)) (fun _ h=>h.tail) (zX (v:=i6_ (xs.getD ((j:Int).toNat) 0)) Z Z Z Z Z (yC Z qF Z (fun w1 hw1=>Ints.cell (Row.own hva hw1) (by omega) (by omega))) (fun _ h=>h.tail) (xU Z Z ?_ ?_)))))))))))))
    ·
     refine qC Z (zS 0 Z qG Z Z Z) (zL (zT (fun _ h=>h.tail) ?_));refine qN Z (qC (v:=bo_ (a.inRel (xs.getD ((k:Int).toNat) 0) (xs.getD ((j:Int).toNat) 0))) Z (qH Z xV Z zZ (fun w1 hw1=>l1Rel_ok a (xs.getD ((k:Int).toNat) 0) (xs.getD ((j:Int).toNat) 0) w1 ha (by first | assumption | exact St.Els.at (by assumption) (by omega) (by omega)) (by first | assumption | exact St.Els.at (by assumption) (by omega) (by omega)))) (zL (zT (fun _ h=>h.tail) ?_)));refine qN Z (qC (v:=str ((if a.inRel (xs.getD ((k:Int).toNat) 0) (xs.getD ((j:Int).toNat) 0) then [49] else [48]))) Z (qH Z yX Z zZ (fun w1 hw1=>bitD_ok (a.inRel (xs.getD ((k:Int).toNat) 0) (xs.getD ((j:Int).toNat) 0)) w1 )) (zL (zT (fun _ h=>h.tail) ?_)));refine zX Z Z Z Z Z (qU Z Z Z (by first | (rw [bit_len];omega) | omega)) (fun _ h=>h.tail) (zX Z Z Z Z Z (zN Z zI Z zQ Z Z) (fun _ h=>h.tail) (qN Z (qY (v:=str (R1++((if a.inRel (xs.getD ((k:Int).toNat) 0) (xs.getD ((j:Int).toNat) 0) then [49] else [48])))) (hs':=[bk_ p5 #[i6_ (xs.length:Int),str (S++((if a.inSet (xs.getD ((k:Int).toNat) 0) then [49] else [48]))),str (R1++((if a.inRel (xs.getD ((k:Int).toNat) 0) (xs.getD ((j:Int).toNat) 0) then [49] else [48])))] 24,_,_]) 0 Z Z Z Z Z Z zQ Z (by simp) Z (zL (zT (fun _ h=>h.tail) ?_)))));refine xB (zC [1,2,4,5,6,7] [_,_,_,_,_,_] Z (zB (zA 1 Z (zD Z (qV Z Z Z (by omega) (by omega)) (zA 1 Z (zH (qZ ((j+1,R1++((if a.inRel (xs.getD ((k:Int).toNat) 0) (xs.getD ((j:Int).toNat) 0) then [49] else [48])))) ⟨by omega,by (try dsimp only);rw [zM,bit_len];omega⟩ (by omega) (Sub.sel [1,2,4,5,6,7] Z) (fun _ h=>h))))))))
    refine qC (v:=bo_ (a.inRel (xs.getD ((k:Int).toNat) 0) (xs.getD ((j:Int).toNat) 0))) Z (qH Z xV Z zZ (fun w1 hw1=>l1Rel_ok a (xs.getD ((k:Int).toNat) 0) (xs.getD ((j:Int).toNat) 0) w1 ha (by first | assumption | exact St.Els.at (by assumption) (by omega) (by omega)) (by first | assumption | exact St.Els.at (by assumption) (by omega) (by omega)))) (zL (zT (fun _ h=>h.tail) ?_));refine xU Z Z ?_ ?_
    ·
     refine qC Z (zS 0 Z qG Z Z Z) (zL (zT (fun _ h=>h.tail) ?_));refine qN Z (qC (v:=str ((if a.inRel (xs.getD ((k:Int).toNat) 0) (xs.getD ((j:Int).toNat) 0) then [49] else [48]))) Z (qH Z yX Z zZ (fun w1 hw1=>bitD_ok (a.inRel (xs.getD ((k:Int).toNat) 0) (xs.getD ((j:Int).toNat) 0)) w1 )) (zL (zT (fun _ h=>h.tail) ?_)));refine zX Z Z Z Z Z (qU Z Z Z (by first | (rw [bit_len];omega) | omega)) (fun _ h=>h.tail) (zX Z Z Z Z Z (zN Z zI Z zQ Z Z) (fun _ h=>h.tail) (qN Z (qY (v:=str (R1++((if a.inRel (xs.getD ((k:Int).toNat) 0) (xs.getD ((j:Int).toNat) 0) then [49] else [48])))) (hs':=[bk_ p5 #[i6_ (xs.length:Int),str (S++((if a.inSet (xs.getD ((k:Int).toNat) 0) then [49] else [48]))),str (R1++((if a.inRel (xs.getD ((k:Int).toNat) 0) (xs.getD ((j:Int).toNat) 0) then [49] else [48])))] 24,_,_]) 0 Z Z Z Z Z Z zQ Z (by simp) Z (zL (zT (fun _ h=>h.tail) ?_)))));refine xB (zC [1,2,4,5,6,7] [_,_,_,_,_,_] Z (zB (zA 1 Z (zD Z (qV Z Z Z (by omega) (by omega)) (zA 1 Z (zH (qZ ((j+1,R1++((if a.inRel (xs.getD ((k:Int).toNat) 0) (xs.getD ((j:Int).toNat) 0) then [49] else [48])))) ⟨by omega,by (try dsimp only);rw [zM,bit_len];omega⟩ (by omega) (Sub.sel [1,2,4,5,6,7] Z) (fun _ h=>h))))))))
    refine qC (v:=str ((if a.inRel (xs.getD ((k:Int).toNat) 0) (xs.getD ((j:Int).toNat) 0) then [49] else [48]))) Z (qH Z yX Z zZ (fun w1 hw1=>bitD_ok (a.inRel (xs.getD ((k:Int).toNat) 0) (xs.getD ((j:Int).toNat) 0)) w1 )) (zL (zT (fun _ h=>h.tail) ?_));refine qN Z (qC Z (zS 0 Z qG Z Z Z) (zL (zT (fun _ h=>h.tail) ?_)));refine zX Z Z Z Z Z (qU Z Z Z (by first | (rw [bit_len];omega) | omega)) (fun _ h=>h.tail) (zX Z Z Z Z Z (zN Z zI Z zQ Z Z) (fun _ h=>h.tail) (qN Z (qY (v:=str (R1++((if a.inRel (xs.getD ((k:Int).toNat) 0) (xs.getD ((j:Int).toNat) 0) then [49] else [48])))) (hs':=[bk_ p5 #[i6_ (xs.length:Int),str (S++((if a.inSet (xs.getD ((k:Int).toNat) 0) then [49] else [48]))),str (R1++((if a.inRel (xs.getD ((k:Int).toNat) 0) (xs.getD ((j:Int).toNat) 0) then [49] else [48])))] 24,_,_]) 0 Z Z Z Z Z Z zQ Z (by simp) Z (zL (zT (fun _ h=>h.tail) ?_)))));refine xB (zC [1,2,4,5,6,7] [_,_,_,_,_,_] Z (zB (zA 1 Z (zD Z (qV Z Z Z (by omega) (by omega)) (zA 1 Z (zH (qZ ((j+1,R1++((if a.inRel (xs.getD ((k:Int).toNat) 0) (xs.getD ((j:Int).toNat) 0) then [49] else [48])))) ⟨by omega,by (try dsimp only);rw [zM,bit_len];omega⟩ (by omega) (Sub.sel [1,2,4,5,6,7] Z) (fun _ h=>h))))))))
   refine yY Z (zC [1,2,4,5,6] [_,_,_,_,_] Z (zB (zA 1 Z (zD Z (qV Z Z Z (by omega) (by omega)) (zA 1 Z (zH (qZ ((k+1,S++((if a.inSet (xs.getD ((k:Int).toNat) 0) then [49] else [48])),R1)) ⟨by omega,by (try dsimp only);rw [zM,bit_len];omega,by (try dsimp only);rw [Nat.add_mul,Nat.one_mul];omega⟩ (by omega) (Sub.sel [1,2,4,5,6] Z) (fun _ h=>h))))))))
  refine qC (v:=bo_ (a.inSet (xs.getD ((k:Int).toNat) 0))) Z (qH Z Tryd.call116 Z zZ (fun w1 hw1=>l1Set_ok a (xs.getD ((k:Int).toNat) 0) w1 ha (by first | assumption | exact St.Els.at (by assumption) (by omega) (by omega)))) (zL (zT (fun _ h=>h.tail) ?_));refine xU Z Z ?_ ?_
  ·
   refine qC Z (zS 0 Z qG Z Z Z) (zL (zT (fun _ h=>h.tail) ?_));refine qN Z (qC (v:=str ((if a.inSet (xs.getD ((k:Int).toNat) 0) then [49] else [48]))) Z (qH Z yX Z zZ (fun w1 hw1=>bitD_ok (a.inSet (xs.getD ((k:Int).toNat) 0)) w1 )) (zL (zT (fun _ h=>h.tail) ?_)));refine zX Z Z Z Z Z (qU Z Z Z (by first | (rw [bit_len];omega) | omega)) (fun _ h=>h.tail) (zX Z Z Z Z Z (zN Z zI Z zQ Z Z) (fun _ h=>h.tail) (qN Z (qY (v:=str (S++((if a.inSet (xs.getD ((k:Int).toNat) 0) then [49] else [48])))) (hs':=[bk_ p5 #[i6_ (xs.length:Int),str (S++((if a.inSet (xs.getD ((k:Int).toNat) 0) then [49] else [48]))),str R] 24,_,_]) 0 Z Z Z Z Z Z zQ Z (by simp) Z (zL (zT (fun _ h=>h.tail) ?_)))));refine xB (zC [1,2,4,5,6] [_,_,_,_,_] Z (zF (zB (zA 1 Z (zH (zC [1,2,4,5,6,7] [_,_,_,_,_,_] Z (qT (xF (σ:=Nat×List UInt8) (fun ⟨j,R1⟩=>j≤xs.length∧R1.length=k*xs.length+j) (fun ⟨j,R1⟩=>[(1,va),(2,pt_ p2),(4,pt_ p4),(5,pt_ p5),(6,i6_ (k:Int)),(7,i6_ (j:Int))]) (fun ⟨j,R1⟩=>Own w.heap.size w [bk_ p5 #[i6_ (xs.length:Int),str (S++((if a.inSet (xs.getD ((k:Int).toNat) 0) then [49] else [48]))),str R1] 24,bk_ p4 #[i6_ 0,str ([]),str ([])] 24,bk_ p2 #[i6_ a.n,str a.set,str a.rel] 24]) (fun ⟨j,R1⟩=>xs.length - j) (0,R) ⟨by omega,by omega⟩ (Sub.sel [1,2,4,5,6,7] Z) (fun _ h=>h) ?_))))))))
   rintro ⟨j,R1⟩ ⟨hj,hR1⟩
   dsimp only;refine zF (zF (zB (zA 2 Z (zD (v:=i6_ (xs.length:Int)) Z (yI Z zK Z (ints_length _) (fun w1 hw1=>Row.own hva hw1)) (zA 1 Z (zH (zC [1,2,4,5,6,7,31] [_,_,_,_,_,_,_] Z (xI Z (fun h31_1=>?_) (fun h31_1=>?_)))))))))
   ·
    refine qR (zC [1,2,4,5,6,7] [_,_,_,_,_,_] Z (zF (qT (jO (S:=Own w.heap.size w [bk_ p4 #[i6_ 0,str ([]),str ([])] 24,bk_ p2 #[i6_ a.n,str a.set,str a.rel] 24]) (.take 0 (.take 2 (.take 3 (.take 4 (.take 5 (.take 6 (.take 7 (.take 8 (.take 9 (.take 10 (.two 1 (.one 11 (.one 12 (.take 13 (.take 14 (.one 15 .done))))) 11 (.two 1 (.one 12 (.take 13 (.take 14 (.one 15 .done)))) 12 (.one 1 (.take 13 (.take 14 (.one 15 .done)))))))))))))))) yJ (fun _ h=>h.drawn) (by kernel_rfl) (zX Z Z Z Z Z (zN Z zI Z zQ Z Z) (fun _ h=>h.tail) (zX Z Z Z Z Z (zU (cs:=#[i6_ a.n,str a.set,str a.rel]) 1 Z zP Z Z zJ) (fun _ h=>h.tail) (jH 2 Z (fun _ h=>h.tail) (zX (v:=.pointer (some (sAt va (k:Int)))) Z Z Z Z Z (yE Z zK zY Z Z (by omega) (by rw [ints_length];omega) (fun w1 hw1=>Row.own hva hw1)) (fun _ h=>h.tail) (zX (v:=i6_ (xs.getD ((k:Int).toNat) 0)) Z Z Z Z Z (yC Z qF Z (fun w1 hw1=>Ints.cell (Row.own hva hw1) (by omega) (by omega))) (fun _ h=>h.tail) (jH 2 Z (fun _ h=>h.tail) (zX (v:=.pointer (some (sAt va (j:Int)))) Z Z Z Z Z (yE Z zK zY Z Z (by omega) (by rw [ints_length];omega) (fun w1 hw1=>Row.own hva hw1)) (fun _ h=>h.tail) (zX (v:=i6_ (xs.getD ((j:Int).toNat) 0)) Z Z Z Z Z (yC Z qF Z (fun w1 hw1=>Ints.cell (Row.own hva hw1) (by omega) (by omega))) (fun _ h=>h.tail) (xU Z Z ?_ ?_)))))))))))))
    ·
     refine qC Z (zS 0 Z qG Z Z Z) (zL (zT (fun _ h=>h.tail) ?_));refine qN Z (qC (v:=bo_ (a.inRel (xs.getD ((k:Int).toNat) 0) (xs.getD ((j:Int).toNat) 0))) Z (qH Z xV Z zZ (fun w1 hw1=>l1Rel_ok a (xs.getD ((k:Int).toNat) 0) (xs.getD ((j:Int).toNat) 0) w1 ha (by first | assumption | exact St.Els.at (by assumption) (by omega) (by omega)) (by first | assumption | exact St.Els.at (by assumption) (by omega) (by omega)))) (zL (zT (fun _ h=>h.tail) ?_)));refine qN Z (qC (v:=str ((if a.inRel (xs.getD ((k:Int).toNat) 0) (xs.getD ((j:Int).toNat) 0) then [49] else [48]))) Z (qH Z yX Z zZ (fun w1 hw1=>bitD_ok (a.inRel (xs.getD ((k:Int).toNat) 0) (xs.getD ((j:Int).toNat) 0)) w1 )) (zL (zT (fun _ h=>h.tail) ?_)));refine zX Z Z Z Z Z (qU Z Z Z (by first | (rw [bit_len];omega) | omega)) (fun _ h=>h.tail) (zX Z Z Z Z Z (zN Z zI Z zQ Z Z) (fun _ h=>h.tail) (qN Z (qY (v:=str (R1++((if a.inRel (xs.getD ((k:Int).toNat) 0) (xs.getD ((j:Int).toNat) 0) then [49] else [48])))) (hs':=[bk_ p5 #[i6_ (xs.length:Int),str (S++((if a.inSet (xs.getD ((k:Int).toNat) 0) then [49] else [48]))),str (R1++((if a.inRel (xs.getD ((k:Int).toNat) 0) (xs.getD ((j:Int).toNat) 0) then [49] else [48])))] 24,_,_]) 0 Z Z Z Z Z Z zQ Z (by simp) Z (zL (zT (fun _ h=>h.tail) ?_)))));refine xB (zC [1,2,4,5,6,7] [_,_,_,_,_,_] Z (zB (zA 1 Z (zD Z (qV Z Z Z (by omega) (by omega)) (zA 1 Z (zH (qZ ((j+1,R1++((if a.inRel (xs.getD ((k:Int).toNat) 0) (xs.getD ((j:Int).toNat) 0) then [49] else [48])))) ⟨by omega,by (try dsimp only);rw [zM,bit_len];omega⟩ (by omega) (Sub.sel [1,2,4,5,6,7] Z) (fun _ h=>h))))))))
    refine qC (v:=bo_ (a.inRel (xs.getD ((k:Int).toNat) 0) (xs.getD ((j:Int).toNat) 0))) Z (qH Z xV Z zZ (fun w1 hw1=>l1Rel_ok a (xs.getD ((k:Int).toNat) 0) (xs.getD ((j:Int).toNat) 0) w1 ha (by first | assumption | exact St.Els.at (by assumption) (by omega) (by omega)) (by first | assumption | exact St.Els.at (by assumption) (by omega) (by omega)))) (zL (zT (fun _ h=>h.tail) ?_));refine xU Z Z ?_ ?_
    ·
     refine qC Z (zS 0 Z qG Z Z Z) (zL (zT (fun _ h=>h.tail) ?_));refine qN Z (qC (v:=str ((if a.inRel (xs.getD ((k:Int).toNat) 0) (xs.getD ((j:Int).toNat) 0) then [49] else [48]))) Z (qH Z yX Z zZ (fun w1 hw1=>bitD_ok (a.inRel (xs.getD ((k:Int).toNat) 0) (xs.getD ((j:Int).toNat) 0)) w1 )) (zL (zT (fun _ h=>h.tail) ?_)));refine zX Z Z Z Z Z (qU Z Z Z (by first | (rw [bit_len];omega) | omega)) (fun _ h=>h.tail) (zX Z Z Z Z Z (zN Z zI Z zQ Z Z) (fun _ h=>h.tail) (qN Z (qY (v:=str (R1++((if a.inRel (xs.getD ((k:Int).toNat) 0) (xs.getD ((j:Int).toNat) 0) then [49] else [48])))) (hs':=[bk_ p5 #[i6_ (xs.length:Int),str (S++((if a.inSet (xs.getD ((k:Int).toNat) 0) then [49] else [48]))),str (R1++((if a.inRel (xs.getD ((k:Int).toNat) 0) (xs.getD ((j:Int).toNat) 0) then [49] else [48])))] 24,_,_]) 0 Z Z Z Z Z Z zQ Z (by simp) Z (zL (zT (fun _ h=>h.tail) ?_)))));refine xB (zC [1,2,4,5,6,7] [_,_,_,_,_,_] Z (zB (zA 1 Z (zD Z (qV Z Z Z (by omega) (by omega)) (zA 1 Z (zH (qZ ((j+1,R1++((if a.inRel (xs.getD ((k:Int).toNat) 0) (xs.getD ((j:Int).toNat) 0) then [49] else [48])))) ⟨by omega,by (try dsimp only);rw [zM,bit_len];omega⟩ (by omega) (Sub.sel [1,2,4,5,6,7] Z) (fun _ h=>h))))))))
    refine qC (v:=str ((if a.inRel (xs.getD ((k:Int).toNat) 0) (xs.getD ((j:Int).toNat) 0) then [49] else [48]))) Z (qH Z yX Z zZ (fun w1 hw1=>bitD_ok (a.inRel (xs.getD ((k:Int).toNat) 0) (xs.getD ((j:Int).toNat) 0)) w1 )) (zL (zT (fun _ h=>h.tail) ?_));refine qN Z (qC Z (zS 0 Z qG Z Z Z) (zL (zT (fun _ h=>h.tail) ?_)));refine zX Z Z Z Z Z (qU Z Z Z (by first | (rw [bit_len];omega) | omega)) (fun _ h=>h.tail) (zX Z Z Z Z Z (zN Z zI Z zQ Z Z) (fun _ h=>h.tail) (qN Z (qY (v:=str (R1++((if a.inRel (xs.getD ((k:Int).toNat) 0) (xs.getD ((j:Int).toNat) 0) then [49] else [48])))) (hs':=[bk_ p5 #[i6_ (xs.length:Int),str (S++((if a.inSet (xs.getD ((k:Int).toNat) 0) then [49] else [48]))),str (R1++((if a.inRel (xs.getD ((k:Int).toNat) 0) (xs.getD ((j:Int).toNat) 0) then [49] else [48])))] 24,_,_]) 0 Z Z Z Z Z Z zQ Z (by simp) Z (zL (zT (fun _ h=>h.tail) ?_)))));refine xB (zC [1,2,4,5,6,7] [_,_,_,_,_,_] Z (zB (zA 1 Z (zD Z (qV Z Z Z (by omega) (by omega)) (zA 1 Z (zH (qZ ((j+1,R1++((if a.inRel (xs.getD ((k:Int).toNat) 0) (xs.getD ((j:Int).toNat) 0) then [49] else [48])))) ⟨by omega,by (try dsimp only);rw [zM,bit_len];omega⟩ (by omega) (Sub.sel [1,2,4,5,6,7] Z) (fun _ h=>h))))))))
   refine yY Z (zC [1,2,4,5,6] [_,_,_,_,_] Z (zB (zA 1 Z (zD Z (qV Z Z Z (by omega) (by omega)) (zA 1 Z (zH (qZ ((k+1,S++((if a.inSet (xs.getD ((k:Int).toNat) 0) then [49] else [48])),R1)) ⟨by omega,by (try dsimp only);rw [zM,bit_len];omega,by (try dsimp only);rw [Nat.add_mul,Nat.one_mul];omega⟩ (by omega) (Sub.sel [1,2,4,5,6] Z) (fun _ h=>h))))))))
  refine qC (v:=str ((if a.inSet (xs.getD ((k:Int).toNat) 0) then [49] else [48]))) Z (qH Z yX Z zZ (fun w1 hw1=>bitD_ok (a.inSet (xs.getD ((k:Int).toNat) 0)) w1 )) (zL (zT (fun _ h=>h.tail) ?_));refine qN Z (qC Z (zS 0 Z qG Z Z Z) (zL (zT (fun _ h=>h.tail) ?_)));refine zX Z Z Z Z Z (qU Z Z Z (by first | (rw [bit_len];omega) | omega)) (fun _ h=>h.tail) (zX Z Z Z Z Z (zN Z zI Z zQ Z Z) (fun _ h=>h.tail) (qN Z (qY (v:=str (S++((if a.inSet (xs.getD ((k:Int).toNat) 0) then [49] else [48])))) (hs':=[bk_ p5 #[i6_ (xs.length:Int),str (S++((if a.inSet (xs.getD ((k:Int).toNat) 0) then [49] else [48]))),str R] 24,_,_]) 0 Z Z Z Z Z Z zQ Z (by simp) Z (zL (zT (fun _ h=>h.tail) ?_)))));refine xB (zC [1,2,4,5,6] [_,_,_,_,_] Z (zF (zB (zA 1 Z (zH (zC [1,2,4,5,6,7] [_,_,_,_,_,_] Z (qT (xF (σ:=Nat×List UInt8) (fun ⟨j,R1⟩=>j≤xs.length∧R1.length=k*xs.length+j) (fun ⟨j,R1⟩=>[(1,va),(2,pt_ p2),(4,pt_ p4),(5,pt_ p5),(6,i6_ (k:Int)),(7,i6_ (j:Int))]) (fun ⟨j,R1⟩=>Own w.heap.size w [bk_ p5 #[i6_ (xs.length:Int),str (S++((if a.inSet (xs.getD ((k:Int).toNat) 0) then [49] else [48]))),str R1] 24,bk_ p4 #[i6_ 0,str ([]),str ([])] 24,bk_ p2 #[i6_ a.n,str a.set,str a.rel] 24]) (fun ⟨j,R1⟩=>xs.length - j) (0,R) ⟨by omega,by omega⟩ (Sub.sel [1,2,4,5,6,7] Z) (fun _ h=>h) ?_))))))))
  rintro ⟨j,R1⟩ ⟨hj,hR1⟩
  dsimp only;refine zF (zF (zB (zA 2 Z (zD (v:=i6_ (xs.length:Int)) Z (yI Z zK Z (ints_length _) (fun w1 hw1=>Row.own hva hw1)) (zA 1 Z (zH (zC [1,2,4,5,6,7,31] [_,_,_,_,_,_,_] Z (xI Z (fun h31_2=>?_) (fun h31_2=>?_)))))))))
  ·
   refine qR (zC [1,2,4,5,6,7] [_,_,_,_,_,_] Z (zF (qT (jO (S:=Own w.heap.size w [bk_ p4 #[i6_ 0,str ([]),str ([])] 24,bk_ p2 #[i6_ a.n,str a.set,str a.rel] 24]) (.take 0 (.take 2 (.take 3 (.take 4 (.take 5 (.take 6 (.take 7 (.take 8 (.take 9 (.take 10 (.two 1 (.one 11 (.one 12 (.take 13 (.take 14 (.one 15 .done))))) 11 (.two 1 (.one 12 (.take 13 (.take 14 (.one 15 .done)))) 12 (.one 1 (.take 13 (.take 14 (.one 15 .done)))))))))))))))) yJ (fun _ h=>h.drawn) (by kernel_rfl) (zX Z Z Z Z Z (zN Z zI Z zQ Z Z) (fun _ h=>h.tail) (zX Z Z Z Z Z (zU (cs:=#[i6_ a.n,str a.set,str a.rel]) 1 Z zP Z Z zJ) (fun _ h=>h.tail) (jH 2 Z (fun _ h=>h.tail) (zX (v:=.pointer (some (sAt va (k:Int)))) Z Z Z Z Z (yE Z zK zY Z Z (by omega) (by rw [ints_length];omega) (fun w1 hw1=>Row.own hva hw1)) (fun _ h=>h.tail) (zX (v:=i6_ (xs.getD ((k:Int).toNat) 0)) Z Z Z Z Z (yC Z qF Z (fun w1 hw1=>Ints.cell (Row.own hva hw1) (by omega) (by omega))) (fun _ h=>h.tail) (jH 2 Z (fun _ h=>h.tail) (zX (v:=.pointer (some (sAt va (j:Int)))) Z Z Z Z Z (yE Z zK zY Z Z (by omega) (by rw [ints_length];omega) (fun w1 hw1=>Row.own hva hw1)) (fun _ h=>h.tail) (zX (v:=i6_ (xs.getD ((j:Int).toNat) 0)) Z Z Z Z Z (yC Z qF Z (fun w1 hw1=>Ints.cell (Row.own hva hw1) (by omega) (by omega))) (fun _ h=>h.tail) (xU Z Z ?_ ?_)))))))))))))
   ·
    refine qC Z (zS 0 Z qG Z Z Z) (zL (zT (fun _ h=>h.tail) ?_));refine qN Z (qC (v:=bo_ (a.inRel (xs.getD ((k:Int).toNat) 0) (xs.getD ((j:Int).toNat) 0))) Z (qH Z xV Z zZ (fun w1 hw1=>l1Rel_ok a (xs.getD ((k:Int).toNat) 0) (xs.getD ((j:Int).toNat) 0) w1 ha (by first | assumption | exact St.Els.at (by assumption) (by omega) (by omega)) (by first | assumption | exact St.Els.at (by assumption) (by omega) (by omega)))) (zL (zT (fun _ h=>h.tail) ?_)));refine qN Z (qC (v:=str ((if a.inRel (xs.getD ((k:Int).toNat) 0) (xs.getD ((j:Int).toNat) 0) then [49] else [48]))) Z (qH Z yX Z zZ (fun w1 hw1=>bitD_ok (a.inRel (xs.getD ((k:Int).toNat) 0) (xs.getD ((j:Int).toNat) 0)) w1 )) (zL (zT (fun _ h=>h.tail) ?_)));refine zX Z Z Z Z Z (qU Z Z Z (by first | (rw [bit_len];omega) | omega)) (fun _ h=>h.tail) (zX Z Z Z Z Z (zN Z zI Z zQ Z Z) (fun _ h=>h.tail) (qN Z (qY (v:=str (R1++((if a.inRel (xs.getD ((k:Int).toNat) 0) (xs.getD ((j:Int).toNat) 0) then [49] else [48])))) (hs':=[bk_ p5 #[i6_ (xs.length:Int),str (S++((if a.inSet (xs.getD ((k:Int).toNat) 0) then [49] else [48]))),str (R1++((if a.inRel (xs.getD ((k:Int).toNat) 0) (xs.getD ((j:Int).toNat) 0) then [49] else [48])))] 24,_,_]) 0 Z Z Z Z Z Z zQ Z (by simp) Z (zL (zT (fun _ h=>h.tail) ?_)))));refine xB (zC [1,2,4,5,6,7] [_,_,_,_,_,_] Z (zB (zA 1 Z (zD Z (qV Z Z Z (by omega) (by omega)) (zA 1 Z (zH (qZ ((j+1,R1++((if a.inRel (xs.getD ((k:Int).toNat) 0) (xs.getD ((j:Int).toNat) 0) then [49] else [48])))) ⟨by omega,by (try dsimp only);rw [zM,bit_len];omega⟩ (by omega) (Sub.sel [1,2,4,5,6,7] Z) (fun _ h=>h))))))))
   refine qC (v:=bo_ (a.inRel (xs.getD ((k:Int).toNat) 0) (xs.getD ((j:Int).toNat) 0))) Z (qH Z xV Z zZ (fun w1 hw1=>l1Rel_ok a (xs.getD ((k:Int).toNat) 0) (xs.getD ((j:Int).toNat) 0) w1 ha (by first | assumption | exact St.Els.at (by assumption) (by omega) (by omega)) (by first | assumption | exact St.Els.at (by assumption) (by omega) (by omega)))) (zL (zT (fun _ h=>h.tail) ?_));refine xU Z Z ?_ ?_
   ·
    refine qC Z (zS 0 Z qG Z Z Z) (zL (zT (fun _ h=>h.tail) ?_));refine qN Z (qC (v:=str ((if a.inRel (xs.getD ((k:Int).toNat) 0) (xs.getD ((j:Int).toNat) 0) then [49] else [48]))) Z (qH Z yX Z zZ (fun w1 hw1=>bitD_ok (a.inRel (xs.getD ((k:Int).toNat) 0) (xs.getD ((j:Int).toNat) 0)) w1 )) (zL (zT (fun _ h=>h.tail) ?_)));refine zX Z Z Z Z Z (qU Z Z Z (by first | (rw [bit_len];omega) | omega)) (fun _ h=>h.tail) (zX Z Z Z Z Z (zN Z zI Z zQ Z Z) (fun _ h=>h.tail) (qN Z (qY (v:=str (R1++((if a.inRel (xs.getD ((k:Int).toNat) 0) (xs.getD ((j:Int).toNat) 0) then [49] else [48])))) (hs':=[bk_ p5 #[i6_ (xs.length:Int),str (S++((if a.inSet (xs.getD ((k:Int).toNat) 0) then [49] else [48]))),str (R1++((if a.inRel (xs.getD ((k:Int).toNat) 0) (xs.getD ((j:Int).toNat) 0) then [49] else [48])))] 24,_,_]) 0 Z Z Z Z Z Z zQ Z (by simp) Z (zL (zT (fun _ h=>h.tail) ?_)))));refine xB (zC [1,2,4,5,6,7] [_,_,_,_,_,_] Z (zB (zA 1 Z (zD Z (qV Z Z Z (by omega) (by omega)) (zA 1 Z (zH (qZ ((j+1,R1++((if a.inRel (xs.getD ((k:Int).toNat) 0) (xs.getD ((j:Int).toNat) 0) then [49] else [48])))) ⟨by omega,by (try dsimp only);rw [zM,bit_len];omega⟩ (by omega) (Sub.sel [1,2,4,5,6,7] Z) (fun _ h=>h))))))))
   refine qC (v:=str ((if a.inRel (xs.getD ((k:Int).toNat) 0) (xs.getD ((j:Int).toNat) 0) then [49] else [48]))) Z (qH Z yX Z zZ (fun w1 hw1=>bitD_ok (a.inRel (xs.getD ((k:Int).toNat) 0) (xs.getD ((j:Int).toNat) 0)) w1 )) (zL (zT (fun _ h=>h.tail) ?_));refine qN Z (qC Z (zS 0 Z qG Z Z Z) (zL (zT (fun _ h=>h.tail) ?_)));refine zX Z Z Z Z Z (qU Z Z Z (by first | (rw [bit_len];omega) | omega)) (fun _ h=>h.tail) (zX Z Z Z Z Z (zN Z zI Z zQ Z Z) (fun _ h=>h.tail) (qN Z (qY (v:=str (R1++((if a.inRel (xs.getD ((k:Int).toNat) 0) (xs.getD ((j:Int).toNat) 0) then [49] else [48])))) (hs':=[bk_ p5 #[i6_ (xs.length:Int),str (S++((if a.inSet (xs.getD ((k:Int).toNat) 0) then [49] else [48]))),str (R1++((if a.inRel (xs.getD ((k:Int).toNat) 0) (xs.getD ((j:Int).toNat) 0) then [49] else [48])))] 24,_,_]) 0 Z Z Z Z Z Z zQ Z (by simp) Z (zL (zT (fun _ h=>h.tail) ?_)))));refine xB (zC [1,2,4,5,6,7] [_,_,_,_,_,_] Z (zB (zA 1 Z (zD Z (qV Z Z Z (by omega) (by omega)) (zA 1 Z (zH (qZ ((j+1,R1++((if a.inRel (xs.getD ((k:Int).toNat) 0) (xs.getD ((j:Int).toNat) 0) then [49] else [48])))) ⟨by omega,by (try dsimp only);rw [zM,bit_len];omega⟩ (by omega) (Sub.sel [1,2,4,5,6,7] Z) (fun _ h=>h))))))))
  refine yY Z (zC [1,2,4,5,6] [_,_,_,_,_] Z (zB (zA 1 Z (zD Z (qV Z Z Z (by omega) (by omega)) (zA 1 Z (zH (qZ ((k+1,S++((if a.inSet (xs.getD ((k:Int).toNat) 0) then [49] else [48])),R1)) ⟨by omega,by (try dsimp only);rw [zM,bit_len];omega,by (try dsimp only);rw [Nat.add_mul,Nat.one_mul];omega⟩ (by omega) (Sub.sel [1,2,4,5,6] Z) (fun _ h=>h))))))))
 refine yY Z (zC [4,5] [_,_] Z (zF (qD (qC Z (zU (cs:=#[i6_ (xs.length:Int),str S,str R]) 0 Z zP Z Z zJ) (yL (cs':=#[i6_ (xs.length:Int),str S,str R]) (hs':=[_,bk_ p4 #[i6_ (xs.length:Int),str S,str R] 24,_]) 1 Z Z Z Z Z (by kernel_rfl:_=some Tryd.t24) Z Z Z Z Z (zL (zC [4] [_] Z (qI (Kt.endBox (cs:=#[i6_ (xs.length:Int),str S,str R]) 1 Z Z Z zP zJ fun w' hw=>?_)))))))))
 exact ⟨⟨(xs.length:Int),S,R⟩,rfl,⟨rfl,by dsimp only;omega,by dsimp only;rw [hR,show k=xs.length from by omega]⟩,hw.below⟩
end Go.Proofs.YteccfipfimbdgaaDoor
namespace Go.Proofs.YteccfipfimbdgaaDoor
open Go.RowKit Go.Wk
set_option linter.unusedSimpArgs false
set_option maxHeartbeats 400000 in
theorem flip_ok (s:List UInt8) (w:World) (hs:s.length≤1000000) :
    Calls Tryd.prog 82 [str s].toArray w fun en w'=>∃ t:List UInt8,en=.returned (str t)∧(t.length=s.length)∧Below w.heap.size w w':=by
 refine fnStart (n:=23) (e:=[(0,str s)]) Tryd.func82 Z Z Z Z Ends.both (zF (zB (zD (v:=str ([])) Z (yV Z Z) (zH (zC [0] [_] Z (zF (qD (qQ 1 Z (Ll.strBytes (s:=s) Z Z Z Z qO Tryd.underlying22 yO Z fun g cap cur hg hc ht=>?_)))))))))
 show Ll _ _ (Own _ _ [_]) _ _ ((6,sl_ g s.length cap)::_) _ _ _;refine qQ 1 Z (zL (zC [3] [_] Z (zF (zF (zB (zA 1 Z (zH (zC [3,4] [_,_] Z (qT (xF (σ:=Nat×Array Value×List Int) (fun ⟨i,cu,V⟩=>i≤s.length∧cu.size=cur.size∧V.length=s.length∧Bytes8 V∧cu.toList.take s.length=u8s V) (fun ⟨i,cu,V⟩=>[(3,sl_ g s.length cap),(4,i6_ (i:Int))]) (fun ⟨i,cu,V⟩=>Own w.heap.size w [(g,.cells cu 5 (cur.size,cur.size+1))]) (fun ⟨i,cu,V⟩=>s.length - i) (0,cur,byts s) ⟨by omega,rfl,by simp,byts_8 s,ht⟩ (Sub.sel [3,4] Z) (fun _ h=>h) ?_))))))))))
 rintro ⟨i,cu,V⟩ ⟨hi,hsz,hVl,hV8,hV⟩
 dsimp only;refine zF (zF (zB (zA 2 Z (zD Z (jE Z yN Z) (zA 1 Z (zH (zC [3,4,10] [_,_,_] Z (xI Z (fun h10=>?_) (fun h10=>?_)))))))))
 ·
  refine qR (zC [3,4] [_,_] Z (zF (qT (qD (qQ 4 Z (qC (v:=pf_ g (0+(i:Int).toNat)) Z (yK Z yN Tryd.sizeOf5 Z Z (by omega) (by omega)) (qC (v:=.int .u8 (V.getD ((i:Int).toNat) 0)) Z (xN 0 Z Tryd.isAgg5 Z Z (by rw [Nat.zero_add];exact cur_at hV (u8s_at (by omega)))) (qC (v:=.int .u8 (IntKind.u8.wrap (97 - V.getD ((i:Int).toNat) 0))) Z (OpQ.subU8 Z Z Z) (qC (v:=pf_ g (0+(i:Int).toNat)) Z (yK Z yN Tryd.sizeOf5 Z Z (by omega) (by omega)) (Ll.storeFr (v:=.int .u8 (IntKind.u8.wrap (97 - V.getD ((i:Int).toNat) 0))) 0 Z Z Z Z Z Z Tryd.sizeOf5 Z (by omega) (by dsimp only;omega) ?_))))))))))
  show Ll _ _ (Own _ _ [_]) _ _ _ _ _ _;refine zL (zC [3,4] [_,_] Z (zB (zA 1 Z (zD Z (qV Z Z Z (by omega) (by omega)) (zA 1 Z (zH (qZ ((i+1,(cu.setIfInBounds (0+(i:Int).toNat) (.int .u8 (IntKind.u8.wrap (97 - V.getD ((i:Int).toNat) 0)))),V.set (0+(i:Int).toNat) (IntKind.u8.wrap (97 - V.getD ((i:Int).toNat) 0)))) ⟨by omega,by simpa using hsz,by simpa using hVl,hV8.set (wrap8 _).1 (wrap8 _).2,(set_takeU hV)⟩ (by omega) (Sub.sel [3,4] Z) (fun _ h=>h))))))))
 refine yY Z (zC [3] [_] Z (zF (zB (zA 1 Z (zD (v:=str (u8of V)) Z (OpQ.bytesStr (V:=V) 0 Z Tryd.underlying22 yO qO (by first | rfl | (rw [hVl];rfl)) Z (by rw [hVl];exact hV) hV8) (zA 1 Z (zH (zC [2] [_] Z (qI (qK Z Z fun w' hw=>?_))))))))))
 exact ⟨_,rfl,by simp [hVl],hw.below⟩
set_option maxHeartbeats 400000 in
theorem l1Pair_ok (B:Nat) (w0:World) (hs:List (Nat×Obj)) (rp p:Nat) (bv:Value) (L:List Int) (w:World) (hb:∀ w,Own B w0 hs w→Row w bv (u8s L)) (hL8:Bytes8 L) (hL:L.length≤2000) (hp:p≤700000) (hw:Own B w0 ((rp,.cells #[bv,.int .i64 (p:Int)] 84 (0,0))::hs) w) :
    Calls Tryd.prog 45 [pt_ rp].toArray w fun en w'=>∃ a:St,∃ b:St,∃ p':Nat,en=.returned (.tuple #[vS a,vS b])∧(((a.Fine∧a.n≤5)∧(b.Fine∧b.n≤5))∧p'≤p+1000)∧Own B w0 (((rp,.cells #[bv,.int .i64 (p':Int)] 84 (0,0))::hs)) w':=by
 refine fnStartC (Own B w0 ((rp,.cells #[bv,.int .i64 (p:Int)] 84 (0,0))::hs)) (n:=64) (e:=[(0,pt_ rp)]) Tryd.func45 Z Z Z Z Ends.both hw (zF (qD (xW Z Z Z Z yQ fun p2 hp2=>?_)))
 show Ll _ _ (Own _ _ (bk_ p2 #[i6_ 0,str ([]),str ([])] 24::_::hs)) _ _ ((2,pt_ p2)::_) _ _ _;refine xW Z Z Z Z yQ fun p3 hp3=>?_
 show Ll _ _ (Own _ _ (bk_ p3 #[i6_ 0,str ([]),str ([])] 24::_::_::hs)) _ _ ((3,pt_ p3)::_) _ _ _;refine zL (zC [0,2,3] [_,_,_] Z (zF (qD (qQ 1 Z (yM (rp:=rp) (RT:=84) (p:=p) (bv:=bv) (hs:=hs) (ok:=fun (a:St) p'=>(a.Fine∧a.n≤5)∧p'≤p+200) (v:=fun (a:St)=>vS a) (new:=fun (a:St)=>[]) (xs:=[.tmp 7]) (vs:=[pt_ rp]) ([bk_ p3 #[i6_ 0,str ([]),str ([])] 24,bk_ p2 #[i6_ 0,str ([]),str ([])] 24]:List (Nat×Obj)) Z Z Z Z Tryd.call60 Z (fun w1 hw1=>(l1Some_ok B w0 (([bk_ p3 #[i6_ 0,str ([]),str ([])] 24,bk_ p2 #[i6_ 0,str ([]),str ([])] 24]:List (Nat×Obj))++hs) rp p bv L w1 (fun w2 hw2=>hb w2 (qE (f:=([bk_ p3 #[i6_ 0,str ([]),str ([])] 24,bk_ p2 #[i6_ 0,str ([]),str ([])] 24]:List (Nat×Obj))) hw2)) hL8 hL (by omega) hw1).mono fun en w' ⟨a',p',h1,h2,h3⟩=>⟨a',p',h1,h2,h3⟩) fun a8 p_8 hKp_8=>?_)))))
 show Ll _ _ (Own _ _ (_::_::_::hs)) _ _ ((8,vS a8)::_) _ _ _
 obtain ⟨⟨hfa8,h5a8⟩,hep_8⟩:=hKp_8
 have hloa8:=hfa8.lo;refine xW Z Z Z Z yQ fun p4 hp4=>?_
 show Ll _ _ (Own _ _ (bk_ p4 #[i6_ 0,str ([]),str ([])] 24::_::_::_::hs)) _ _ ((4,pt_ p4)::_) _ _ _;refine yL (cs':=#[i6_ a8.n,str a8.set,str a8.rel]) (hs':=(bk_ p4 #[i6_ a8.n,str a8.set,str a8.rel] 24::_::_::_::hs)) 0 Z Z Z Z Z (by kernel_rfl:_=some Tryd.t24) Z Z Z Z Z (zL (zC [0,2,3,4] [_,_,_,_] Z (zF (zF (qD (qQ 1 Z (yM (rp:=rp) (RT:=84) (p:=p_8) (bv:=bv) (hs:=hs) (ok:=fun (k:Int) p'=>0≤k∧(1≤(4:Int)→k<4)∧p'=p_8+1) (v:=fun (k:Int)=>i6_ k) (new:=fun (k:Int)=>[]) (xs:=[.tmp 9,.const (i6_ 4)]) (vs:=[pt_ rp,i6_ 4]) ([bk_ p4 #[i6_ a8.n,str a8.set,str a8.rel] 24,bk_ p3 #[i6_ 0,str ([]),str ([])] 24,bk_ p2 #[i6_ 0,str ([]),str ([])] 24]:List (Nat×Obj)) Z Z Z Z xP Z (fun w1 hw1=>(pick_ok B w0 (([bk_ p4 #[i6_ a8.n,str a8.set,str a8.rel] 24,bk_ p3 #[i6_ 0,str ([]),str ([])] 24,bk_ p2 #[i6_ 0,str ([]),str ([])] 24]:List (Nat×Obj))++hs) rp p_8 bv L 4 w1 (fun w2 hw2=>hb w2 (qE (f:=([bk_ p4 #[i6_ a8.n,str a8.set,str a8.rel] 24,bk_ p3 #[i6_ 0,str ([]),str ([])] 24,bk_ p2 #[i6_ 0,str ([]),str ([])] 24]:List (Nat×Obj))) hw2)) hL8 hL (by omega) hw1).mono fun en w' ⟨k',p',h1,h2,h3⟩=>⟨k',p',h1,h2,h3⟩) fun k10 p_10 hKp_10=>?_)))))))
 show Ll _ _ (Own _ _ (_::_::_::_::hs)) _ _ ((10,i6_ k10)::_) _ _ _
 obtain ⟨h0k10,h1k10,hep_10⟩:=hKp_10
 try have hltk10:=h1k10 (by first | omega | (split <;> omega) | decide);refine zL (zC [0,2,3,4,10] [_,_,_,_,_] Z (qT (zF (zB (zA 2 Z (zH (zC [0,2,3,4,10,11] [_,_,_,_,_,_] Z (xI Z (fun h11=>?_) (fun h11=>?_)))))))))
 ·
  refine zF (jG (S:=Own B w0 [bk_ p4 #[i6_ a8.n,str a8.set,str a8.rel] 24]) [(0,true),(1,true),(2,true),(3,true),(4,true),(5,false),(6,false),(7,false),(8,false)] yJ (fun _ h=>h.drawn) (by kernel_rfl) (xE Z Z Z Z Z (zU (cs:=#[i6_ a8.n,str a8.set,str a8.rel]) 0 Z zP Z Z zJ) (pk [0] Z Z) (xE Z Z Z Z Z (zU (cs:=#[i6_ a8.n,str a8.set,str a8.rel]) 0 Z zP Z Z zJ) (pk [0] Z Z) (xT 1 Z (pk [0] Z Z) (xE Z Z Z Z Z (zN Z zI Z zY Z Z) (pk [0] Z Z) (xE Z Z Z Z Z (zS 0 Z qF Z Z Z) (pk [0] Z Z) (yZ Z (yM (rp:=rp) (RT:=84) (p:=p_10) (bv:=bv) (hs:=hs) (ok:=fun ((g,c,u,xs):Nat×Nat×Array Value×List Int) p'=>(u.size=c*1∧xs.length≤c∧u.toList.take xs.length=ints xs)∧(xs.length=a8.n.toNat∧∀ x∈xs,0≤x∧x<a8.n)∧p'≤p_10+10) (v:=fun ((g,c,u,xs):Nat×Nat×Array Value×List Int)=>sl_ g xs.length c) (new:=fun ((g,c,u,xs):Nat×Nat×Array Value×List Int)=>[bk_ g u 3]) (xs:=[.tmp 15,.tmp 17]) (vs:=[pt_ rp,i6_ a8.n]) ([bk_ p4 #[i6_ a8.n,str a8.set,str a8.rel] 24,bk_ p3 #[i6_ 0,str ([]),str ([])] 24,bk_ p2 #[i6_ 0,str ([]),str ([])] 24]:List (Nat×Obj)) Z Z Z Z Tryd.call81 Z (fun w1 hw1=>(shuffle_ok B w0 (([bk_ p4 #[i6_ a8.n,str a8.set,str a8.rel] 24,bk_ p3 #[i6_ 0,str ([]),str ([])] 24,bk_ p2 #[i6_ 0,str ([]),str ([])] 24]:List (Nat×Obj))++hs) rp p_10 bv L a8.n w1 (fun w2 hw2=>hb w2 (qE (f:=([bk_ p4 #[i6_ a8.n,str a8.set,str a8.rel] 24,bk_ p3 #[i6_ 0,str ([]),str ([])] 24,bk_ p2 #[i6_ 0,str ([]),str ([])] 24]:List (Nat×Obj))) hw2)) hL8 hL (by omega) (by omega) (by omega) hw1).mono fun en w' ⟨g',c',u',xs',p',h1,h2,h3⟩=>⟨(g',c',u',xs'),p',h1,h2,h3⟩) fun ⟨g18,c18,u18,xs18⟩ p_18 hKp_18=>?_))))))))
  show Ll _ _ (Own _ _ (_::_::_::_::_::hs)) _ _ ((18,sl_ g18 xs18.length c18)::_) _ _ _
  obtain ⟨⟨hcg18,hlg18,htg18⟩,⟨hng18,hrg18⟩,hep_18⟩:=hKp_18;refine zL (yP (pk [1] Z Z) ?_);refine yZ Z (xM (ok:=fun (b:St)=>b.n=xs18.length∧(b.set.length:Int)=xs18.length∧b.rel.length=xs18.length*xs18.length) (v:=fun (b:St)=>vS b) (xs:=[.tmp 14,.tmp 18]) (vs:=[vS a8,sl_ g18 xs18.length c18]) Z Z Z Z Tryd.call80 Z (fun w1 hw1=>(part_ok a8 (sl_ g18 xs18.length c18) xs18 w1 hfa8 (yH hw1 (i:=0) Z htg18 (by simp) hlg18) hrg18 (by omega)).mono fun en w' ⟨b,h1,h2,h3⟩=>⟨b,h1,h2,h3⟩) fun b19 hS19=>?_)
  show Ll _ _ (Own _ _ (_::_::_::_::_::hs)) _ _ ((19,vS b19)::_) _ _ _
  obtain ⟨hnb19,hsb19,hrb19⟩:=hS19;refine zL (yP (pk [1] Z Z) ?_);refine yZ Z (yL (cs':=#[i6_ a8.n,str a8.set,str a8.rel]) (hs':=(_::_::_::bk_ p2 #[i6_ a8.n,str a8.set,str a8.rel] 24::_::hs)) 3 Z Z Z Z Z (by kernel_rfl:_=some Tryd.t24) Z Z Z Z Z (zL (yP (pk [1] Z Z) ?_)));refine yZ Z (yL (cs':=#[i6_ b19.n,str b19.set,str b19.rel]) (hs':=(_::_::bk_ p3 #[i6_ b19.n,str b19.set,str b19.rel] 24::_::_::hs)) 2 Z Z Z Z Z (by kernel_rfl:_=some Tryd.t24) Z Z Z Z Z (zL (yP (pk [1] Z Z) ?_)));refine Ld.nil (zC [2,3] [_,_] Z (qI (Kt.endMany Z (.cell (cs:=#[i6_ a8.n,str a8.set,str a8.rel]) Z (fun w1 hw1=>hw1.loadBox 3 Z zP zJ) (.cell (cs:=#[i6_ b19.n,str b19.set,str b19.rel]) Z (fun w1 hw1=>hw1.loadBox 2 Z zP zJ) ResAt.nil)) (by simp) fun w' hw=>?_)))
  exact ⟨a8,b19,p_18,rfl,⟨⟨⟨hfa8,h5a8⟩,part_fine hnb19 hsb19 hrb19 hng18 (by omega) (by omega)⟩,by omega⟩,hw.sub (zW _ (zW _ (zW _ (zW _ (zG _ (qJ _))))))⟩
 refine zF (zB (zA 2 Z (zH (zC [0,2,3,4,10,20] [_,_,_,_,_,_] Z (xI Z (fun h20=>?_) (fun h20=>?_))))))
 ·
  refine zF (Wk.join (σ:=Nat×St×Nat) (fun ⟨q,b,p6⟩=>(b.Fine∧b.n≤5)∧p6≤p+300) (fun ⟨q,b,p6⟩=>[(0,pt_ rp),(2,pt_ p2),(3,pt_ p3),(4,pt_ p4),(5,pt_ q)]) (fun ⟨q,b,p6⟩=>Own B w0 (bk_ q #[i6_ b.n,str b.set,str b.rel] 24::bk_ p4 #[i6_ a8.n,str a8.set,str a8.rel] 24::bk_ p3 #[i6_ 0,str ([]),str ([])] 24::bk_ p2 #[i6_ 0,str ([]),str ([])] 24::bk_ rp #[bv,i6_ (p6:Int)] 84::hs)) ?_ ?_)
  ·
   refine jO (S:=Own B w0 [bk_ p4 #[i6_ a8.n,str a8.set,str a8.rel] 24,bk_ p3 #[i6_ 0,str ([]),str ([])] 24,bk_ p2 #[i6_ 0,str ([]),str ([])] 24]) (.take 0 (.take 1 (.take 2 (.take 3 (.two 4 (.two 5 (.one 6 (.one 7 .done)) 6 (.one 5 (.one 7 .done))) 6 (.one 4 (.one 5 (.one 7 .done)))))))) yJ (fun _ h=>h.drawn) (by kernel_rfl) (zX Z Z Z Z Z (zU (cs:=#[i6_ a8.n,str a8.set,str a8.rel]) 0 Z zP Z Z zJ) (pk [0,1,2] Z Z) (jH 1 Z (pk [0,1,2] Z Z) (zX Z Z Z Z Z (zN Z zI Z zY Z Z) (pk [0,1,2] Z Z) (zX Z Z Z Z Z (zS 0 Z qF Z Z Z) (pk [0,1,2] Z Z) (xU Z Z ?_ ?_)))))
   ·
    refine yM (rp:=rp) (RT:=84) (p:=p_10) (bv:=bv) (hs:=hs) (ok:=fun ((g,c,u,xs):Nat×Nat×Array Value×List Int) p'=>(u.size=c*1∧xs.length≤c∧u.toList.take xs.length=ints xs)∧(xs.length=a8.n.toNat∧∀ x∈xs,0≤x∧x<a8.n)∧p'≤p_10+10) (v:=fun ((g,c,u,xs):Nat×Nat×Array Value×List Int)=>sl_ g xs.length c) (new:=fun ((g,c,u,xs):Nat×Nat×Array Value×List Int)=>[bk_ g u 3]) (xs:=[.tmp 23,.tmp 25]) (vs:=[pt_ rp,i6_ a8.n]) ([bk_ p4 #[i6_ a8.n,str a8.set,str a8.rel] 24,bk_ p3 #[i6_ 0,str ([]),str ([])] 24,bk_ p2 #[i6_ 0,str ([]),str ([])] 24]:List (Nat×Obj)) Z Z Z Z Tryd.call81 Z (fun w1 hw1=>(shuffle_ok B w0 (([bk_ p4 #[i6_ a8.n,str a8.set,str a8.rel] 24,bk_ p3 #[i6_ 0,str ([]),str ([])] 24,bk_ p2 #[i6_ 0,str ([]),str ([])] 24]:List (Nat×Obj))++hs) rp p_10 bv L a8.n w1 (fun w2 hw2=>hb w2 (qE (f:=([bk_ p4 #[i6_ a8.n,str a8.set,str a8.rel] 24,bk_ p3 #[i6_ 0,str ([]),str ([])] 24,bk_ p2 #[i6_ 0,str ([]),str ([])] 24]:List (Nat×Obj))) hw2)) hL8 hL (by omega) (by omega) (by omega) hw1).mono fun en w' ⟨g',c',u',xs',p',h1,h2,h3⟩=>⟨(g',c',u',xs'),p',h1,h2,h3⟩) fun ⟨g26,c26,u26,xs26⟩ p_26 hKp_26=>?_
    show Ll _ _ (Own _ _ (_::_::_::_::_::hs)) _ _ ((26,sl_ g26 xs26.length c26)::_) _ _ _
    obtain ⟨⟨hcg26,hlg26,htg26⟩,⟨hng26,hrg26⟩,hep_26⟩:=hKp_26;refine zL (zT (pk [1,2,3] Z Z) ?_);refine xU Z Z ?_ ?_
    ·
     refine xM (ok:=fun (b:St)=>b.n=xs26.length∧(b.set.length:Int)=xs26.length∧b.rel.length=xs26.length*xs26.length) (v:=fun (b:St)=>vS b) (xs:=[.tmp 22,.tmp 26]) (vs:=[vS a8,sl_ g26 xs26.length c26]) Z Z Z Z Tryd.call80 Z (fun w1 hw1=>(part_ok a8 (sl_ g26 xs26.length c26) xs26 w1 hfa8 (yH hw1 (i:=0) Z htg26 (by simp) hlg26) hrg26 (by omega)).mono fun en w' ⟨b,h1,h2,h3⟩=>⟨b,h1,h2,h3⟩) fun b27 hS27=>?_
     show Ll _ _ (Own _ _ (_::_::_::_::_::hs)) _ _ ((27,vS b27)::_) _ _ _
     obtain ⟨hnb27,hsb27,hrb27⟩:=hS27;refine zL (zT (pk [1,2,3] Z Z) ?_);refine qN Z (xW Z Z Z Z yQ fun p5 hp5=>?_)
     show Ll _ _ (Own _ _ (bk_ p5 #[i6_ 0,str ([]),str ([])] 24::_::_::_::_::_::hs)) _ _ ((5,pt_ p5)::_) _ _ _;refine zL (zT (pk [2,3,4] Z Z) ?_);refine qN Z (yL (cs':=#[i6_ b27.n,str b27.set,str b27.rel]) (hs':=(bk_ p5 #[i6_ b27.n,str b27.set,str b27.rel] 24::_::_::_::_::_::hs)) 0 Z Z Z Z Z (by kernel_rfl:_=some Tryd.t24) Z Z Z Z Z (zL (zT (pk [2,3,4] Z Z) ?_)));refine xB (qX (p5,b27,p_26) ⟨part_fine hnb27 hsb27 hrb27 hng26 (by omega) (by omega),by (try dsimp only);omega⟩ (Sub.sel [0,2,3,4,5] Z) (fun _ h=>h.sub (zG _ (zW _ (zG _ (zG _ (zG _ (zG _ (qJ _)))))))))
    refine xW Z Z Z Z yQ fun p5_1 hp5_1=>?_
    show Ll _ _ (Own _ _ (bk_ p5_1 #[i6_ 0,str ([]),str ([])] 24::_::_::_::_::_::hs)) _ _ ((5,pt_ p5_1)::_) _ _ _;refine zL (zT (pk [2,3,4] Z Z) ?_);refine qN Z (xM (ok:=fun (b:St)=>b.n=xs26.length∧(b.set.length:Int)=xs26.length∧b.rel.length=xs26.length*xs26.length) (v:=fun (b:St)=>vS b) (xs:=[.tmp 22,.tmp 26]) (vs:=[vS a8,sl_ g26 xs26.length c26]) Z Z Z Z Tryd.call80 Z (fun w1 hw1=>(part_ok a8 (sl_ g26 xs26.length c26) xs26 w1 hfa8 (yH hw1 (i:=1) Z htg26 (by simp) hlg26) hrg26 (by omega)).mono fun en w' ⟨b,h1,h2,h3⟩=>⟨b,h1,h2,h3⟩) fun b27_1 hS27_1=>?_)
    show Ll _ _ (Own _ _ (_::_::_::_::_::_::hs)) _ _ ((27,vS b27_1)::_) _ _ _
    obtain ⟨hnb27_1,hsb27_1,hrb27_1⟩:=hS27_1;refine zL (zT (pk [2,3,4] Z Z) ?_);refine qN Z (yL (cs':=#[i6_ b27_1.n,str b27_1.set,str b27_1.rel]) (hs':=(bk_ p5_1 #[i6_ b27_1.n,str b27_1.set,str b27_1.rel] 24::_::_::_::_::_::hs)) 0 Z Z Z Z Z (by kernel_rfl:_=some Tryd.t24) Z Z Z Z Z (zL (zT (pk [2,3,4] Z Z) ?_)));refine xB (qX (p5_1,b27_1,p_26) ⟨part_fine hnb27_1 hsb27_1 hrb27_1 hng26 (by omega) (by omega),by (try dsimp only);omega⟩ (Sub.sel [0,2,3,4,5] Z) (fun _ h=>h.sub (zG _ (zW _ (zG _ (zG _ (zG _ (zG _ (qJ _)))))))))
   refine xW Z Z Z Z yQ fun p5_2 hp5_2=>?_
   show Ll _ _ (Own _ _ (bk_ p5_2 #[i6_ 0,str ([]),str ([])] 24::_::_::_::_::hs)) _ _ ((5,pt_ p5_2)::_) _ _ _;refine zL (zT (pk [1,2,3] Z Z) ?_);refine qN Z (yM (rp:=rp) (RT:=84) (p:=p_10) (bv:=bv) (hs:=hs) (ok:=fun ((g,c,u,xs):Nat×Nat×Array Value×List Int) p'=>(u.size=c*1∧xs.length≤c∧u.toList.take xs.length=ints xs)∧(xs.length=a8.n.toNat∧∀ x∈xs,0≤x∧x<a8.n)∧p'≤p_10+10) (v:=fun ((g,c,u,xs):Nat×Nat×Array Value×List Int)=>sl_ g xs.length c) (new:=fun ((g,c,u,xs):Nat×Nat×Array Value×List Int)=>[bk_ g u 3]) (xs:=[.tmp 23,.tmp 25]) (vs:=[pt_ rp,i6_ a8.n]) ([bk_ p5_2 #[i6_ 0,str ([]),str ([])] 24,bk_ p4 #[i6_ a8.n,str a8.set,str a8.rel] 24,bk_ p3 #[i6_ 0,str ([]),str ([])] 24,bk_ p2 #[i6_ 0,str ([]),str ([])] 24]:List (Nat×Obj)) Z Z Z Z Tryd.call81 Z (fun w1 hw1=>(shuffle_ok B w0 (([bk_ p5_2 #[i6_ 0,str ([]),str ([])] 24,bk_ p4 #[i6_ a8.n,str a8.set,str a8.rel] 24,bk_ p3 #[i6_ 0,str ([]),str ([])] 24,bk_ p2 #[i6_ 0,str ([]),str ([])] 24]:List (Nat×Obj))++hs) rp p_10 bv L a8.n w1 (fun w2 hw2=>hb w2 (qE (f:=([bk_ p5_2 #[i6_ 0,str ([]),str ([])] 24,bk_ p4 #[i6_ a8.n,str a8.set,str a8.rel] 24,bk_ p3 #[i6_ 0,str ([]),str ([])] 24,bk_ p2 #[i6_ 0,str ([]),str ([])] 24]:List (Nat×Obj))) hw2)) hL8 hL (by omega) (by omega) (by omega) hw1).mono fun en w' ⟨g',c',u',xs',p',h1,h2,h3⟩=>⟨(g',c',u',xs'),p',h1,h2,h3⟩) fun ⟨g26_1,c26_1,u26_1,xs26_1⟩ p_26_1 hKp_26_1=>?_)
   show Ll _ _ (Own _ _ (_::_::_::_::_::_::hs)) _ _ ((26,sl_ g26_1 xs26_1.length c26_1)::_) _ _ _
   obtain ⟨⟨hcg26_1,hlg26_1,htg26_1⟩,⟨hng26_1,hrg26_1⟩,hep_26_1⟩:=hKp_26_1;refine zL (zT (pk [2,3,4] Z Z) ?_);refine qN Z (xM (ok:=fun (b:St)=>b.n=xs26_1.length∧(b.set.length:Int)=xs26_1.length∧b.rel.length=xs26_1.length*xs26_1.length) (v:=fun (b:St)=>vS b) (xs:=[.tmp 22,.tmp 26]) (vs:=[vS a8,sl_ g26_1 xs26_1.length c26_1]) Z Z Z Z Tryd.call80 Z (fun w1 hw1=>(part_ok a8 (sl_ g26_1 xs26_1.length c26_1) xs26_1 w1 hfa8 (yH hw1 (i:=0) Z htg26_1 (by simp) hlg26_1) hrg26_1 (by omega)).mono fun en w' ⟨b,h1,h2,h3⟩=>⟨b,h1,h2,h3⟩) fun b27_2 hS27_2=>?_)
   show Ll _ _ (Own _ _ (_::_::_::_::_::_::hs)) _ _ ((27,vS b27_2)::_) _ _ _
   obtain ⟨hnb27_2,hsb27_2,hrb27_2⟩:=hS27_2;refine zL (zT (pk [2,3,4] Z Z) ?_);refine qN Z (yL (cs':=#[i6_ b27_2.n,str b27_2.set,str b27_2.rel]) (hs':=(_::bk_ p5_2 #[i6_ b27_2.n,str b27_2.set,str b27_2.rel] 24::_::_::_::_::hs)) 1 Z Z Z Z Z (by kernel_rfl:_=some Tryd.t24) Z Z Z Z Z (zL (zT (pk [2,3,4] Z Z) ?_)));refine xB (qX (p5_2,b27_2,p_26_1) ⟨part_fine hnb27_2 hsb27_2 hrb27_2 hng26_1 (by omega) (by omega),by (try dsimp only);omega⟩ (Sub.sel [0,2,3,4,5] Z) (fun _ h=>h.sub (zW _ (zG _ (zG _ (zG _ (zG _ (zG _ (qJ _)))))))))
  rintro ⟨q,b,p6⟩ ⟨⟨hfb,h5b⟩,hp6⟩
  dsimp only
  obtain ⟨hl1,hl25⟩:=fine_len hfb h5b;refine zC [0,2,3,4,5] [_,_,_,_,_] Z (zF (qD (qQ 1 Z (qC Z (zN Z zI Z zQ Z Z) (qC Z (zS 0 Z qG Z Z Z) (qC (v:=i6_ (b.rel.length:Int)) Z (xK Z qA Z) (yM (rp:=rp) (RT:=84) (p:=p6) (bv:=bv) (hs:=hs) (ok:=fun (k:Int) p'=>0≤k∧(1≤(b.rel.length:Int)→k<(b.rel.length:Int))∧p'=p6+1) (v:=fun (k:Int)=>i6_ k) (new:=fun (k:Int)=>[]) (xs:=[.tmp 28,.tmp 31]) (vs:=[pt_ rp,i6_ (b.rel.length:Int)]) ([bk_ q #[i6_ b.n,str b.set,str b.rel] 24,bk_ p4 #[i6_ a8.n,str a8.set,str a8.rel] 24,bk_ p3 #[i6_ 0,str ([]),str ([])] 24,bk_ p2 #[i6_ 0,str ([]),str ([])] 24]:List (Nat×Obj)) Z Z Z Z xP Z (fun w1 hw1=>(pick_ok B w0 (([bk_ q #[i6_ b.n,str b.set,str b.rel] 24,bk_ p4 #[i6_ a8.n,str a8.set,str a8.rel] 24,bk_ p3 #[i6_ 0,str ([]),str ([])] 24,bk_ p2 #[i6_ 0,str ([]),str ([])] 24]:List (Nat×Obj))++hs) rp p6 bv L (b.rel.length:Int) w1 (fun w2 hw2=>hb w2 (qE (f:=([bk_ q #[i6_ b.n,str b.set,str b.rel] 24,bk_ p4 #[i6_ a8.n,str a8.set,str a8.rel] 24,bk_ p3 #[i6_ 0,str ([]),str ([])] 24,bk_ p2 #[i6_ 0,str ([]),str ([])] 24]:List (Nat×Obj))) hw2)) hL8 hL (by omega) hw1).mono fun en w' ⟨k',p',h1,h2,h3⟩=>⟨k',p',h1,h2,h3⟩) fun k32 p_32 hKp_32=>?_)))))))
  show Ll _ _ (Own _ _ (_::_::_::_::_::hs)) _ _ ((32,i6_ k32)::_) _ _ _
  obtain ⟨h0k32,h1k32,hep_32⟩:=hKp_32
  try have hltk32:=h1k32 (by first | omega | (split <;> omega) | decide);refine qQ 1 Z (zL (zC [2,3,4,5,6] [_,_,_,_,_] Z (zF (Wk.join (σ:=List UInt8) (fun R=>R.length=b.rel.length) (fun R=>[(2,pt_ p2),(3,pt_ p3),(4,pt_ p4),(5,pt_ q)]) (fun R=>Own B w0 (bk_ q #[i6_ b.n,str b.set,str R] 24::bk_ p4 #[i6_ a8.n,str a8.set,str a8.rel] 24::bk_ p3 #[i6_ 0,str ([]),str ([])] 24::bk_ p2 #[i6_ 0,str ([]),str ([])] 24::bk_ rp #[bv,i6_ (p_32:Int)] 84::hs)) ?_ ?_))))
  ·
   refine jO (S:=Own B w0 [bk_ p4 #[i6_ a8.n,str a8.set,str a8.rel] 24,bk_ p3 #[i6_ 0,str ([]),str ([])] 24,bk_ p2 #[i6_ 0,str ([]),str ([])] 24,bk_ rp #[bv,i6_ (p_32:Int)] 84]) (.take 0 (.take 2 (.take 4 (.take 6 (.take 7 (.take 8 (.take 12 (.take 14 (.take 15 (.three 1 (.take 3 (.two 5 (.take 9 (.two 10 (.take 11 (.one 13 (.take 16 (.take 17 (.take 18 (.one 19 .done)))))) 13 (.take 16 (.one 10 (.take 11 (.take 17 (.take 18 (.one 19 .done)))))))) 13 (.take 16 (.one 5 (.take 9 (.one 10 (.take 11 (.take 17 (.take 18 (.one 19 .done)))))))))) 5 (.take 9 (.three 1 (.take 3 (.two 10 (.take 11 (.one 13 (.take 16 (.take 17 (.take 18 (.one 19 .done)))))) 13 (.take 16 (.one 10 (.take 11 (.take 17 (.take 18 (.one 19 .done)))))))) 10 (.two 1 (.take 3 (.take 11 (.one 13 (.take 16 (.take 17 (.take 18 (.one 19 .done))))))) 13 (.take 16 (.one 1 (.take 3 (.take 11 (.take 17 (.take 18 (.one 19 .done)))))))) 13 (.take 16 (.two 1 (.take 3 (.one 10 (.take 11 (.take 17 (.take 18 (.one 19 .done)))))) 10 (.one 1 (.take 3 (.take 11 (.take 17 (.take 18 (.one 19 .done)))))))))) 13 (.take 16 (.two 1 (.take 3 (.one 5 (.take 9 (.one 10 (.take 11 (.take 17 (.take 18 (.one 19 .done)))))))) 5 (.take 9 (.two 1 (.take 3 (.one 10 (.take 11 (.take 17 (.take 18 (.one 19 .done)))))) 10 (.one 1 (.take 3 (.take 11 (.take 17 (.take 18 (.one 19 .done)))))))))))))))))))) yJ (fun _ h=>h.drawn) (by kernel_rfl) (zX Z Z Z Z Z (zN Z zI Z zQ Z Z) (pk [1,2,3,4] Z Z) (jH 1 Z (pk [1,2,3,4] Z Z) (zX Z Z Z Z Z (zN Z zI Z zQ Z Z) (pk [1,2,3,4] Z Z) (jH 2 Z (pk [1,2,3,4] Z Z) (zX Z Z Z Z Z (qV Z Z Z (by omega) (by omega)) (pk [1,2,3,4] Z Z) (zX Z Z Z Z Z (zN Z zI Z zQ Z Z) (pk [1,2,3,4] Z Z) (jH 1 Z (pk [1,2,3,4] Z Z) (zX Z Z Z Z Z (qV Z Z Z (by omega) (by omega)) (pk [1,2,3,4] Z Z) (Lu.three Z Z Z ?_ ?_ ?_)))))))))
   ·
    refine qC Z (zS 0 Z qG Z Z Z) (zL (zT (pk [1,2,3,4] Z Z) ?_));refine zX (v:=str (b.rel.take ((k32).toNat))) Z Z Z Z Z (yR Z qO Z Z (by omega) (by omega)) (pk [1,2,3,4] Z Z) (xU Z Z ?_ ?_)
    ·
     refine qC Z (zS 0 Z qG Z Z Z) (zL (zT (pk [1,2,3,4] Z Z) ?_));refine zX (v:=str ((b.rel.drop ((k32).toNat)).take ((k32+(1:Int)).toNat - (k32).toNat))) Z Z Z Z Z (OpQ.sliceStr Z qO Z Z Z (by omega) (by omega) (by first | omega | (simp;omega))) (pk [1,2,3,4] Z Z) (xU Z Z ?_ ?_)
     ·
      refine xM (ok:=fun (t:List UInt8)=>t.length=((b.rel.drop ((k32).toNat)).take ((k32+(1:Int)).toNat - (k32).toNat)).length) (v:=fun (t:List UInt8)=>str t) (xs:=[.tmp 42]) (vs:=[str ((b.rel.drop ((k32).toNat)).take ((k32+(1:Int)).toNat - (k32).toNat))]) Z Z Z Z jD Z (fun w1 hw1=>(flip_ok ((b.rel.drop ((k32).toNat)).take ((k32+(1:Int)).toNat - (k32).toNat)) w1 (by rw [zO,qB];omega)).mono fun en w' ⟨t,h1,h2,h3⟩=>⟨t,h1,h2,h3⟩) fun t43 hS43=>?_
      show Ll _ _ (Own _ _ (_::_::_::_::_::hs)) _ _ ((43,str t43)::_) _ _ _
      have hlt43:=hS43;refine zL (zT (pk [1,2,3,4] Z Z) ?_);refine zX Z Z Z Z Z (qU Z Z Z (by (try simp only [zM]);rw [zO,hlt43,zO,qB];omega)) (pk [1,2,3,4] Z Z) (qN Z (qC Z (zS 0 Z qG Z Z Z) (zL (zT (pk [1,2,3,4] Z Z) ?_))));refine zX (v:=str (b.rel.drop ((k32+(1:Int)).toNat))) Z Z Z Z Z (xS Z qO Z Z (by omega) (by omega)) (pk [1,2,3,4] Z Z) (zX Z Z Z Z Z (qU Z Z Z (by (try simp only [zM]);rw [zO,hlt43,zO,qB,qB];omega)) (pk [1,2,3,4] Z Z) (zX Z Z Z Z Z (zN Z zI Z zQ Z Z) (pk [1,2,3,4] Z Z) (qN Z (qY (v:=str (((b.rel.take ((k32).toNat))++t43)++(b.rel.drop ((k32+(1:Int)).toNat)))) (hs':=(bk_ q #[i6_ b.n,str b.set,str (((b.rel.take ((k32).toNat))++t43)++(b.rel.drop ((k32+(1:Int)).toNat)))] 24::_::_::_::_::hs)) 0 Z Z Z Z Z Z zQ Z (by simp) Z (zL (zT (pk [1,2,3,4] Z Z) ?_))))));refine xB (qX (((b.rel.take ((k32).toNat))++t43)++(b.rel.drop ((k32+(1:Int)).toNat))) (turned_fine h0k32 hltk32 hlt43) (Sub.sel [2,3,4,5] Z) (fun _ h=>h))
     refine qC Z (zS 0 Z qG Z Z Z) (zL (zT (pk [1,2,3,4] Z Z) ?_));refine zX (v:=str (b.rel.drop ((k32+(1:Int)).toNat))) Z Z Z Z Z (xS Z qO Z Z (by omega) (by omega)) (pk [1,2,3,4] Z Z) (qN Z (xM (ok:=fun (t:List UInt8)=>t.length=((b.rel.drop ((k32).toNat)).take ((k32+(1:Int)).toNat - (k32).toNat)).length) (v:=fun (t:List UInt8)=>str t) (xs:=[.tmp 42]) (vs:=[str ((b.rel.drop ((k32).toNat)).take ((k32+(1:Int)).toNat - (k32).toNat))]) Z Z Z Z jD Z (fun w1 hw1=>(flip_ok ((b.rel.drop ((k32).toNat)).take ((k32+(1:Int)).toNat - (k32).toNat)) w1 (by rw [zO,qB];omega)).mono fun en w' ⟨t,h1,h2,h3⟩=>⟨t,h1,h2,h3⟩) fun t43_1 hS43_1=>?_))
     show Ll _ _ (Own _ _ (_::_::_::_::_::hs)) _ _ ((43,str t43_1)::_) _ _ _
     have hlt43_1:=hS43_1;refine zL (zT (pk [1,2,3,4] Z Z) ?_);refine zX Z Z Z Z Z (qU Z Z Z (by (try simp only [zM]);rw [zO,hlt43_1,zO,qB];omega)) (pk [1,2,3,4] Z Z) (zX Z Z Z Z Z (qU Z Z Z (by (try simp only [zM]);rw [zO,hlt43_1,zO,qB,qB];omega)) (pk [1,2,3,4] Z Z) (zX Z Z Z Z Z (zN Z zI Z zQ Z Z) (pk [1,2,3,4] Z Z) (qN Z (qY (v:=str (((b.rel.take ((k32).toNat))++t43_1)++(b.rel.drop ((k32+(1:Int)).toNat)))) (hs':=(bk_ q #[i6_ b.n,str b.set,str (((b.rel.take ((k32).toNat))++t43_1)++(b.rel.drop ((k32+(1:Int)).toNat)))] 24::_::_::_::_::hs)) 0 Z Z Z Z Z Z zQ Z (by simp) Z (zL (zT (pk [1,2,3,4] Z Z) ?_))))));refine xB (qX (((b.rel.take ((k32).toNat))++t43_1)++(b.rel.drop ((k32+(1:Int)).toNat))) (turned_fine h0k32 hltk32 hlt43_1) (Sub.sel [2,3,4,5] Z) (fun _ h=>h))
    refine qC Z (zS 0 Z qG Z Z Z) (zL (zT (pk [1,2,3,4] Z Z) ?_));refine zX (v:=str (b.rel.drop ((k32+(1:Int)).toNat))) Z Z Z Z Z (xS Z qO Z Z (by omega) (by omega)) (pk [1,2,3,4] Z Z) (qN Z (qC Z (zS 0 Z qG Z Z Z) (zL (zT (pk [1,2,3,4] Z Z) ?_))));refine zX (v:=str ((b.rel.drop ((k32).toNat)).take ((k32+(1:Int)).toNat - (k32).toNat))) Z Z Z Z Z (OpQ.sliceStr Z qO Z Z Z (by omega) (by omega) (by first | omega | (simp;omega))) (pk [1,2,3,4] Z Z) (qN Z (xM (ok:=fun (t:List UInt8)=>t.length=((b.rel.drop ((k32).toNat)).take ((k32+(1:Int)).toNat - (k32).toNat)).length) (v:=fun (t:List UInt8)=>str t) (xs:=[.tmp 42]) (vs:=[str ((b.rel.drop ((k32).toNat)).take ((k32+(1:Int)).toNat - (k32).toNat))]) Z Z Z Z jD Z (fun w1 hw1=>(flip_ok ((b.rel.drop ((k32).toNat)).take ((k32+(1:Int)).toNat - (k32).toNat)) w1 (by rw [zO,qB];omega)).mono fun en w' ⟨t,h1,h2,h3⟩=>⟨t,h1,h2,h3⟩) fun t43_2 hS43_2=>?_))
    show Ll _ _ (Own _ _ (_::_::_::_::_::hs)) _ _ ((43,str t43_2)::_) _ _ _
    have hlt43_2:=hS43_2;refine zL (zT (pk [1,2,3,4] Z Z) ?_);refine zX Z Z Z Z Z (qU Z Z Z (by (try simp only [zM]);rw [zO,hlt43_2,zO,qB];omega)) (pk [1,2,3,4] Z Z) (zX Z Z Z Z Z (qU Z Z Z (by (try simp only [zM]);rw [zO,hlt43_2,zO,qB,qB];omega)) (pk [1,2,3,4] Z Z) (zX Z Z Z Z Z (zN Z zI Z zQ Z Z) (pk [1,2,3,4] Z Z) (qN Z (qY (v:=str (((b.rel.take ((k32).toNat))++t43_2)++(b.rel.drop ((k32+(1:Int)).toNat)))) (hs':=(bk_ q #[i6_ b.n,str b.set,str (((b.rel.take ((k32).toNat))++t43_2)++(b.rel.drop ((k32+(1:Int)).toNat)))] 24::_::_::_::_::hs)) 0 Z Z Z Z Z Z zQ Z (by simp) Z (zL (zT (pk [1,2,3,4] Z Z) ?_))))));refine xB (qX (((b.rel.take ((k32).toNat))++t43_2)++(b.rel.drop ((k32+(1:Int)).toNat))) (turned_fine h0k32 hltk32 hlt43_2) (Sub.sel [2,3,4,5] Z) (fun _ h=>h))
   ·
    refine qC Z (zS 0 Z qG Z Z Z) (zL (zT (pk [1,2,3,4] Z Z) ?_));refine zX (v:=str ((b.rel.drop ((k32).toNat)).take ((k32+(1:Int)).toNat - (k32).toNat))) Z Z Z Z Z (OpQ.sliceStr Z qO Z Z Z (by omega) (by omega) (by first | omega | (simp;omega))) (pk [1,2,3,4] Z Z) (Lu.three Z Z Z ?_ ?_ ?_)
    ·
     refine qC Z (zS 0 Z qG Z Z Z) (zL (zT (pk [1,2,3,4] Z Z) ?_));refine zX (v:=str (b.rel.take ((k32).toNat))) Z Z Z Z Z (yR Z qO Z Z (by omega) (by omega)) (pk [1,2,3,4] Z Z) (xU Z Z ?_ ?_)
     ·
      refine xM (ok:=fun (t:List UInt8)=>t.length=((b.rel.drop ((k32).toNat)).take ((k32+(1:Int)).toNat - (k32).toNat)).length) (v:=fun (t:List UInt8)=>str t) (xs:=[.tmp 42]) (vs:=[str ((b.rel.drop ((k32).toNat)).take ((k32+(1:Int)).toNat - (k32).toNat))]) Z Z Z Z jD Z (fun w1 hw1=>(flip_ok ((b.rel.drop ((k32).toNat)).take ((k32+(1:Int)).toNat - (k32).toNat)) w1 (by rw [zO,qB];omega)).mono fun en w' ⟨t,h1,h2,h3⟩=>⟨t,h1,h2,h3⟩) fun t43_3 hS43_3=>?_
      show Ll _ _ (Own _ _ (_::_::_::_::_::hs)) _ _ ((43,str t43_3)::_) _ _ _
      have hlt43_3:=hS43_3;refine zL (zT (pk [1,2,3,4] Z Z) ?_);refine zX Z Z Z Z Z (qU Z Z Z (by (try simp only [zM]);rw [zO,hlt43_3,zO,qB];omega)) (pk [1,2,3,4] Z Z) (qN Z (qC Z (zS 0 Z qG Z Z Z) (zL (zT (pk [1,2,3,4] Z Z) ?_))));refine zX (v:=str (b.rel.drop ((k32+(1:Int)).toNat))) Z Z Z Z Z (xS Z qO Z Z (by omega) (by omega)) (pk [1,2,3,4] Z Z) (zX Z Z Z Z Z (qU Z Z Z (by (try simp only [zM]);rw [zO,hlt43_3,zO,qB,qB];omega)) (pk [1,2,3,4] Z Z) (zX Z Z Z Z Z (zN Z zI Z zQ Z Z) (pk [1,2,3,4] Z Z) (qN Z (qY (v:=str (((b.rel.take ((k32).toNat))++t43_3)++(b.rel.drop ((k32+(1:Int)).toNat)))) (hs':=(bk_ q #[i6_ b.n,str b.set,str (((b.rel.take ((k32).toNat))++t43_3)++(b.rel.drop ((k32+(1:Int)).toNat)))] 24::_::_::_::_::hs)) 0 Z Z Z Z Z Z zQ Z (by simp) Z (zL (zT (pk [1,2,3,4] Z Z) ?_))))));refine xB (qX (((b.rel.take ((k32).toNat))++t43_3)++(b.rel.drop ((k32+(1:Int)).toNat))) (turned_fine h0k32 hltk32 hlt43_3) (Sub.sel [2,3,4,5] Z) (fun _ h=>h))
     refine qC Z (zS 0 Z qG Z Z Z) (zL (zT (pk [1,2,3,4] Z Z) ?_));refine zX (v:=str (b.rel.drop ((k32+(1:Int)).toNat))) Z Z Z Z Z (xS Z qO Z Z (by omega) (by omega)) (pk [1,2,3,4] Z Z) (qN Z (xM (ok:=fun (t:List UInt8)=>t.length=((b.rel.drop ((k32).toNat)).take ((k32+(1:Int)).toNat - (k32).toNat)).length) (v:=fun (t:List UInt8)=>str t) (xs:=[.tmp 42]) (vs:=[str ((b.rel.drop ((k32).toNat)).take ((k32+(1:Int)).toNat - (k32).toNat))]) Z Z Z Z jD Z (fun w1 hw1=>(flip_ok ((b.rel.drop ((k32).toNat)).take ((k32+(1:Int)).toNat - (k32).toNat)) w1 (by rw [zO,qB];omega)).mono fun en w' ⟨t,h1,h2,h3⟩=>⟨t,h1,h2,h3⟩) fun t43_4 hS43_4=>?_))
     show Ll _ _ (Own _ _ (_::_::_::_::_::hs)) _ _ ((43,str t43_4)::_) _ _ _
     have hlt43_4:=hS43_4;refine zL (zT (pk [1,2,3,4] Z Z) ?_);refine zX Z Z Z Z Z (qU Z Z Z (by (try simp only [zM]);rw [zO,hlt43_4,zO,qB];omega)) (pk [1,2,3,4] Z Z) (zX Z Z Z Z Z (qU Z Z Z (by (try simp only [zM]);rw [zO,hlt43_4,zO,qB,qB];omega)) (pk [1,2,3,4] Z Z) (zX Z Z Z Z Z (zN Z zI Z zQ Z Z) (pk [1,2,3,4] Z Z) (qN Z (qY (v:=str (((b.rel.take ((k32).toNat))++t43_4)++(b.rel.drop ((k32+(1:Int)).toNat)))) (hs':=(bk_ q #[i6_ b.n,str b.set,str (((b.rel.take ((k32).toNat))++t43_4)++(b.rel.drop ((k32+(1:Int)).toNat)))] 24::_::_::_::_::hs)) 0 Z Z Z Z Z Z zQ Z (by simp) Z (zL (zT (pk [1,2,3,4] Z Z) ?_))))));refine xB (qX (((b.rel.take ((k32).toNat))++t43_4)++(b.rel.drop ((k32+(1:Int)).toNat))) (turned_fine h0k32 hltk32 hlt43_4) (Sub.sel [2,3,4,5] Z) (fun _ h=>h))
    ·
     refine xM (ok:=fun (t:List UInt8)=>t.length=((b.rel.drop ((k32).toNat)).take ((k32+(1:Int)).toNat - (k32).toNat)).length) (v:=fun (t:List UInt8)=>str t) (xs:=[.tmp 42]) (vs:=[str ((b.rel.drop ((k32).toNat)).take ((k32+(1:Int)).toNat - (k32).toNat))]) Z Z Z Z jD Z (fun w1 hw1=>(flip_ok ((b.rel.drop ((k32).toNat)).take ((k32+(1:Int)).toNat - (k32).toNat)) w1 (by rw [zO,qB];omega)).mono fun en w' ⟨t,h1,h2,h3⟩=>⟨t,h1,h2,h3⟩) fun t43_5 hS43_5=>?_
     show Ll _ _ (Own _ _ (_::_::_::_::_::hs)) _ _ ((43,str t43_5)::_) _ _ _
     have hlt43_5:=hS43_5;refine zL (zT (pk [1,2,3,4] Z Z) ?_);refine xU Z Z ?_ ?_
     ·
      refine qC Z (zS 0 Z qG Z Z Z) (zL (zT (pk [1,2,3,4] Z Z) ?_));refine zX (v:=str (b.rel.take ((k32).toNat))) Z Z Z Z Z (yR Z qO Z Z (by omega) (by omega)) (pk [1,2,3,4] Z Z) (zX Z Z Z Z Z (qU Z Z Z (by (try simp only [zM]);rw [zO,hlt43_5,zO,qB];omega)) (pk [1,2,3,4] Z Z) (qN Z (qC Z (zS 0 Z qG Z Z Z) (zL (zT (pk [1,2,3,4] Z Z) ?_)))));refine zX (v:=str (b.rel.drop ((k32+(1:Int)).toNat))) Z Z Z Z Z (xS Z qO Z Z (by omega) (by omega)) (pk [1,2,3,4] Z Z) (zX Z Z Z Z Z (qU Z Z Z (by (try simp only [zM]);rw [zO,hlt43_5,zO,qB,qB];omega)) (pk [1,2,3,4] Z Z) (zX Z Z Z Z Z (zN Z zI Z zQ Z Z) (pk [1,2,3,4] Z Z) (qN Z (qY (v:=str (((b.rel.take ((k32).toNat))++t43_5)++(b.rel.drop ((k32+(1:Int)).toNat)))) (hs':=(bk_ q #[i6_ b.n,str b.set,str (((b.rel.take ((k32).toNat))++t43_5)++(b.rel.drop ((k32+(1:Int)).toNat)))] 24::_::_::_::_::hs)) 0 Z Z Z Z Z Z zQ Z (by simp) Z (zL (zT (pk [1,2,3,4] Z Z) ?_))))));refine xB (qX (((b.rel.take ((k32).toNat))++t43_5)++(b.rel.drop ((k32+(1:Int)).toNat))) (turned_fine h0k32 hltk32 hlt43_5) (Sub.sel [2,3,4,5] Z) (fun _ h=>h))
     refine qC Z (zS 0 Z qG Z Z Z) (zL (zT (pk [1,2,3,4] Z Z) ?_));refine zX (v:=str (b.rel.drop ((k32+(1:Int)).toNat))) Z Z Z Z Z (xS Z qO Z Z (by omega) (by omega)) (pk [1,2,3,4] Z Z) (qN Z (qC Z (zS 0 Z qG Z Z Z) (zL (zT (pk [1,2,3,4] Z Z) ?_))));refine zX (v:=str (b.rel.take ((k32).toNat))) Z Z Z Z Z (yR Z qO Z Z (by omega) (by omega)) (pk [1,2,3,4] Z Z) (zX Z Z Z Z Z (qU Z Z Z (by (try simp only [zM]);rw [zO,hlt43_5,zO,qB];omega)) (pk [1,2,3,4] Z Z) (zX Z Z Z Z Z (qU Z Z Z (by (try simp only [zM]);rw [zO,hlt43_5,zO,qB,qB];omega)) (pk [1,2,3,4] Z Z) (zX Z Z Z Z Z (zN Z zI Z zQ Z Z) (pk [1,2,3,4] Z Z) (qN Z (qY (v:=str (((b.rel.take ((k32).toNat))++t43_5)++(b.rel.drop ((k32+(1:Int)).toNat)))) (hs':=(bk_ q #[i6_ b.n,str b.set,str (((b.rel.take ((k32).toNat))++t43_5)++(b.rel.drop ((k32+(1:Int)).toNat)))] 24::_::_::_::_::hs)) 0 Z Z Z Z Z Z zQ Z (by simp) Z (zL (zT (pk [1,2,3,4] Z Z) ?_)))))));refine xB (qX (((b.rel.take ((k32).toNat))++t43_5)++(b.rel.drop ((k32+(1:Int)).toNat))) (turned_fine h0k32 hltk32 hlt43_5) (Sub.sel [2,3,4,5] Z) (fun _ h=>h))
    refine qC Z (zS 0 Z qG Z Z Z) (zL (zT (pk [1,2,3,4] Z Z) ?_));refine zX (v:=str (b.rel.drop ((k32+(1:Int)).toNat))) Z Z Z Z Z (xS Z qO Z Z (by omega) (by omega)) (pk [1,2,3,4] Z Z) (xU Z Z ?_ ?_)
    ·
     refine qC Z (zS 0 Z qG Z Z Z) (zL (zT (pk [1,2,3,4] Z Z) ?_));refine zX (v:=str (b.rel.take ((k32).toNat))) Z Z Z Z Z (yR Z qO Z Z (by omega) (by omega)) (pk [1,2,3,4] Z Z) (qN Z (xM (ok:=fun (t:List UInt8)=>t.length=((b.rel.drop ((k32).toNat)).take ((k32+(1:Int)).toNat - (k32).toNat)).length) (v:=fun (t:List UInt8)=>str t) (xs:=[.tmp 42]) (vs:=[str ((b.rel.drop ((k32).toNat)).take ((k32+(1:Int)).toNat - (k32).toNat))]) Z Z Z Z jD Z (fun w1 hw1=>(flip_ok ((b.rel.drop ((k32).toNat)).take ((k32+(1:Int)).toNat - (k32).toNat)) w1 (by rw [zO,qB];omega)).mono fun en w' ⟨t,h1,h2,h3⟩=>⟨t,h1,h2,h3⟩) fun t43_6 hS43_6=>?_))
     show Ll _ _ (Own _ _ (_::_::_::_::_::hs)) _ _ ((43,str t43_6)::_) _ _ _
     have hlt43_6:=hS43_6;refine zL (zT (pk [1,2,3,4] Z Z) ?_);refine zX Z Z Z Z Z (qU Z Z Z (by (try simp only [zM]);rw [zO,hlt43_6,zO,qB];omega)) (pk [1,2,3,4] Z Z) (zX Z Z Z Z Z (qU Z Z Z (by (try simp only [zM]);rw [zO,hlt43_6,zO,qB,qB];omega)) (pk [1,2,3,4] Z Z) (zX Z Z Z Z Z (zN Z zI Z zQ Z Z) (pk [1,2,3,4] Z Z) (qN Z (qY (v:=str (((b.rel.take ((k32).toNat))++t43_6)++(b.rel.drop ((k32+(1:Int)).toNat)))) (hs':=(bk_ q #[i6_ b.n,str b.set,str (((b.rel.take ((k32).toNat))++t43_6)++(b.rel.drop ((k32+(1:Int)).toNat)))] 24::_::_::_::_::hs)) 0 Z Z Z Z Z Z zQ Z (by simp) Z (zL (zT (pk [1,2,3,4] Z Z) ?_))))));refine xB (qX (((b.rel.take ((k32).toNat))++t43_6)++(b.rel.drop ((k32+(1:Int)).toNat))) (turned_fine h0k32 hltk32 hlt43_6) (Sub.sel [2,3,4,5] Z) (fun _ h=>h))
    refine xM (ok:=fun (t:List UInt8)=>t.length=((b.rel.drop ((k32).toNat)).take ((k32+(1:Int)).toNat - (k32).toNat)).length) (v:=fun (t:List UInt8)=>str t) (xs:=[.tmp 42]) (vs:=[str ((b.rel.drop ((k32).toNat)).take ((k32+(1:Int)).toNat - (k32).toNat))]) Z Z Z Z jD Z (fun w1 hw1=>(flip_ok ((b.rel.drop ((k32).toNat)).take ((k32+(1:Int)).toNat - (k32).toNat)) w1 (by rw [zO,qB];omega)).mono fun en w' ⟨t,h1,h2,h3⟩=>⟨t,h1,h2,h3⟩) fun t43_7 hS43_7=>?_
    show Ll _ _ (Own _ _ (_::_::_::_::_::hs)) _ _ ((43,str t43_7)::_) _ _ _
    have hlt43_7:=hS43_7;refine zL (zT (pk [1,2,3,4] Z Z) ?_);refine qN Z (qC Z (zS 0 Z qG Z Z Z) (zL (zT (pk [1,2,3,4] Z Z) ?_)));refine zX (v:=str (b.rel.take ((k32).toNat))) Z Z Z Z Z (yR Z qO Z Z (by omega) (by omega)) (pk [1,2,3,4] Z Z) (zX Z Z Z Z Z (qU Z Z Z (by (try simp only [zM]);rw [zO,hlt43_7,zO,qB];omega)) (pk [1,2,3,4] Z Z) (zX Z Z Z Z Z (qU Z Z Z (by (try simp only [zM]);rw [zO,hlt43_7,zO,qB,qB];omega)) (pk [1,2,3,4] Z Z) (zX Z Z Z Z Z (zN Z zI Z zQ Z Z) (pk [1,2,3,4] Z Z) (qN Z (qY (v:=str (((b.rel.take ((k32).toNat))++t43_7)++(b.rel.drop ((k32+(1:Int)).toNat)))) (hs':=(bk_ q #[i6_ b.n,str b.set,str (((b.rel.take ((k32).toNat))++t43_7)++(b.rel.drop ((k32+(1:Int)).toNat)))] 24::_::_::_::_::hs)) 0 Z Z Z Z Z Z zQ Z (by simp) Z (zL (zT (pk [1,2,3,4] Z Z) ?_)))))));refine xB (qX (((b.rel.take ((k32).toNat))++t43_7)++(b.rel.drop ((k32+(1:Int)).toNat))) (turned_fine h0k32 hltk32 hlt43_7) (Sub.sel [2,3,4,5] Z) (fun _ h=>h))
   refine qC Z (zS 0 Z qG Z Z Z) (zL (zT (pk [1,2,3,4] Z Z) ?_));refine zX (v:=str (b.rel.drop ((k32+(1:Int)).toNat))) Z Z Z Z Z (xS Z qO Z Z (by omega) (by omega)) (pk [1,2,3,4] Z Z) (xU Z Z ?_ ?_)
   ·
    refine qC Z (zS 0 Z qG Z Z Z) (zL (zT (pk [1,2,3,4] Z Z) ?_));refine zX (v:=str (b.rel.take ((k32).toNat))) Z Z Z Z Z (yR Z qO Z Z (by omega) (by omega)) (pk [1,2,3,4] Z Z) (qN Z (qC Z (zS 0 Z qG Z Z Z) (zL (zT (pk [1,2,3,4] Z Z) ?_))));refine zX (v:=str ((b.rel.drop ((k32).toNat)).take ((k32+(1:Int)).toNat - (k32).toNat))) Z Z Z Z Z (OpQ.sliceStr Z qO Z Z Z (by omega) (by omega) (by first | omega | (simp;omega))) (pk [1,2,3,4] Z Z) (qN Z (xM (ok:=fun (t:List UInt8)=>t.length=((b.rel.drop ((k32).toNat)).take ((k32+(1:Int)).toNat - (k32).toNat)).length) (v:=fun (t:List UInt8)=>str t) (xs:=[.tmp 42]) (vs:=[str ((b.rel.drop ((k32).toNat)).take ((k32+(1:Int)).toNat - (k32).toNat))]) Z Z Z Z jD Z (fun w1 hw1=>(flip_ok ((b.rel.drop ((k32).toNat)).take ((k32+(1:Int)).toNat - (k32).toNat)) w1 (by rw [zO,qB];omega)).mono fun en w' ⟨t,h1,h2,h3⟩=>⟨t,h1,h2,h3⟩) fun t43_8 hS43_8=>?_))
    show Ll _ _ (Own _ _ (_::_::_::_::_::hs)) _ _ ((43,str t43_8)::_) _ _ _
    have hlt43_8:=hS43_8;refine zL (zT (pk [1,2,3,4] Z Z) ?_);refine zX Z Z Z Z Z (qU Z Z Z (by (try simp only [zM]);rw [zO,hlt43_8,zO,qB];omega)) (pk [1,2,3,4] Z Z) (zX Z Z Z Z Z (qU Z Z Z (by (try simp only [zM]);rw [zO,hlt43_8,zO,qB,qB];omega)) (pk [1,2,3,4] Z Z) (zX Z Z Z Z Z (zN Z zI Z zQ Z Z) (pk [1,2,3,4] Z Z) (qN Z (qY (v:=str (((b.rel.take ((k32).toNat))++t43_8)++(b.rel.drop ((k32+(1:Int)).toNat)))) (hs':=(bk_ q #[i6_ b.n,str b.set,str (((b.rel.take ((k32).toNat))++t43_8)++(b.rel.drop ((k32+(1:Int)).toNat)))] 24::_::_::_::_::hs)) 0 Z Z Z Z Z Z zQ Z (by simp) Z (zL (zT (pk [1,2,3,4] Z Z) ?_))))));refine xB (qX (((b.rel.take ((k32).toNat))++t43_8)++(b.rel.drop ((k32+(1:Int)).toNat))) (turned_fine h0k32 hltk32 hlt43_8) (Sub.sel [2,3,4,5] Z) (fun _ h=>h))
   refine qC Z (zS 0 Z qG Z Z Z) (zL (zT (pk [1,2,3,4] Z Z) ?_));refine zX (v:=str ((b.rel.drop ((k32).toNat)).take ((k32+(1:Int)).toNat - (k32).toNat))) Z Z Z Z Z (OpQ.sliceStr Z qO Z Z Z (by omega) (by omega) (by first | omega | (simp;omega))) (pk [1,2,3,4] Z Z) (xU Z Z ?_ ?_)
   ·
    refine qC Z (zS 0 Z qG Z Z Z) (zL (zT (pk [1,2,3,4] Z Z) ?_));refine zX (v:=str (b.rel.take ((k32).toNat))) Z Z Z Z Z (yR Z qO Z Z (by omega) (by omega)) (pk [1,2,3,4] Z Z) (qN Z (xM (ok:=fun (t:List UInt8)=>t.length=((b.rel.drop ((k32).toNat)).take ((k32+(1:Int)).toNat - (k32).toNat)).length) (v:=fun (t:List UInt8)=>str t) (xs:=[.tmp 42]) (vs:=[str ((b.rel.drop ((k32).toNat)).take ((k32+(1:Int)).toNat - (k32).toNat))]) Z Z Z Z jD Z (fun w1 hw1=>(flip_ok ((b.rel.drop ((k32).toNat)).take ((k32+(1:Int)).toNat - (k32).toNat)) w1 (by rw [zO,qB];omega)).mono fun en w' ⟨t,h1,h2,h3⟩=>⟨t,h1,h2,h3⟩) fun t43_9 hS43_9=>?_))
    show Ll _ _ (Own _ _ (_::_::_::_::_::hs)) _ _ ((43,str t43_9)::_) _ _ _
    have hlt43_9:=hS43_9;refine zL (zT (pk [1,2,3,4] Z Z) ?_);refine zX Z Z Z Z Z (qU Z Z Z (by (try simp only [zM]);rw [zO,hlt43_9,zO,qB];omega)) (pk [1,2,3,4] Z Z) (zX Z Z Z Z Z (qU Z Z Z (by (try simp only [zM]);rw [zO,hlt43_9,zO,qB,qB];omega)) (pk [1,2,3,4] Z Z) (zX Z Z Z Z Z (zN Z zI Z zQ Z Z) (pk [1,2,3,4] Z Z) (qN Z (qY (v:=str (((b.rel.take ((k32).toNat))++t43_9)++(b.rel.drop ((k32+(1:Int)).toNat)))) (hs':=(bk_ q #[i6_ b.n,str b.set,str (((b.rel.take ((k32).toNat))++t43_9)++(b.rel.drop ((k32+(1:Int)).toNat)))] 24::_::_::_::_::hs)) 0 Z Z Z Z Z Z zQ Z (by simp) Z (zL (zT (pk [1,2,3,4] Z Z) ?_))))));refine xB (qX (((b.rel.take ((k32).toNat))++t43_9)++(b.rel.drop ((k32+(1:Int)).toNat))) (turned_fine h0k32 hltk32 hlt43_9) (Sub.sel [2,3,4,5] Z) (fun _ h=>h))
   refine xM (ok:=fun (t:List UInt8)=>t.length=((b.rel.drop ((k32).toNat)).take ((k32+(1:Int)).toNat - (k32).toNat)).length) (v:=fun (t:List UInt8)=>str t) (xs:=[.tmp 42]) (vs:=[str ((b.rel.drop ((k32).toNat)).take ((k32+(1:Int)).toNat - (k32).toNat))]) Z Z Z Z jD Z (fun w1 hw1=>(flip_ok ((b.rel.drop ((k32).toNat)).take ((k32+(1:Int)).toNat - (k32).toNat)) w1 (by rw [zO,qB];omega)).mono fun en w' ⟨t,h1,h2,h3⟩=>⟨t,h1,h2,h3⟩) fun t43_10 hS43_10=>?_
   show Ll _ _ (Own _ _ (_::_::_::_::_::hs)) _ _ ((43,str t43_10)::_) _ _ _
   have hlt43_10:=hS43_10;refine zL (zT (pk [1,2,3,4] Z Z) ?_);refine qN Z (qC Z (zS 0 Z qG Z Z Z) (zL (zT (pk [1,2,3,4] Z Z) ?_)));refine zX (v:=str (b.rel.take ((k32).toNat))) Z Z Z Z Z (yR Z qO Z Z (by omega) (by omega)) (pk [1,2,3,4] Z Z) (zX Z Z Z Z Z (qU Z Z Z (by (try simp only [zM]);rw [zO,hlt43_10,zO,qB];omega)) (pk [1,2,3,4] Z Z) (zX Z Z Z Z Z (qU Z Z Z (by (try simp only [zM]);rw [zO,hlt43_10,zO,qB,qB];omega)) (pk [1,2,3,4] Z Z) (zX Z Z Z Z Z (zN Z zI Z zQ Z Z) (pk [1,2,3,4] Z Z) (qN Z (qY (v:=str (((b.rel.take ((k32).toNat))++t43_10)++(b.rel.drop ((k32+(1:Int)).toNat)))) (hs':=(bk_ q #[i6_ b.n,str b.set,str (((b.rel.take ((k32).toNat))++t43_10)++(b.rel.drop ((k32+(1:Int)).toNat)))] 24::_::_::_::_::hs)) 0 Z Z Z Z Z Z zQ Z (by simp) Z (zL (zT (pk [1,2,3,4] Z Z) ?_)))))));refine xB (qX (((b.rel.take ((k32).toNat))++t43_10)++(b.rel.drop ((k32+(1:Int)).toNat))) (turned_fine h0k32 hltk32 hlt43_10) (Sub.sel [2,3,4,5] Z) (fun _ h=>h))
  rintro R hRl;refine zC [2,3,4,5] [_,_,_,_] Z (zF (jG (S:=Own B w0 [bk_ q #[i6_ b.n,str b.set,str R] 24,bk_ p4 #[i6_ a8.n,str a8.set,str a8.rel] 24,bk_ rp #[bv,i6_ (p_32:Int)] 84]) [(0,true),(1,true),(2,false),(3,false)] yJ (fun _ h=>h.drawn) (by kernel_rfl) (xE Z Z Z Z Z (zU (cs:=#[i6_ a8.n,str a8.set,str a8.rel]) 1 Z zP Z Z zJ) (pk [0,1,4] Z Z) (xE Z Z Z Z Z (zU (cs:=#[i6_ b.n,str b.set,str R]) 0 Z zP Z Z zJ) (pk [0,1,4] Z Z) (yZ Z (yL (cs':=#[i6_ a8.n,str a8.set,str a8.rel]) (hs':=(_::_::_::bk_ p2 #[i6_ a8.n,str a8.set,str a8.rel] 24::_::hs)) 3 Z Z Z Z Z (by kernel_rfl:_=some Tryd.t24) Z Z Z Z Z (zL (yP (pk [0,1,4] Z Z) ?_))))))));refine yZ Z (yL (cs':=#[i6_ b.n,str b.set,str R]) (hs':=(_::_::bk_ p3 #[i6_ b.n,str b.set,str R] 24::_::_::hs)) 2 Z Z Z Z Z (by kernel_rfl:_=some Tryd.t24) Z Z Z Z Z (zL (yP (pk [0,1,4] Z Z) ?_)));refine Ld.nil (zC [2,3] [_,_] Z (qI (Kt.endMany Z (.cell (cs:=#[i6_ a8.n,str a8.set,str a8.rel]) Z (fun w1 hw1=>hw1.loadBox 3 Z zP zJ) (.cell (cs:=#[i6_ b.n,str b.set,str R]) Z (fun w1 hw1=>hw1.loadBox 2 Z zP zJ) ResAt.nil)) (by simp) fun w' hw=>?_)))
  exact ⟨a8,⟨b.n,b.set,R⟩,p_32,rfl,⟨⟨⟨hfa8,h5a8⟩,⟨⟨hfb.lo,hfb.hi,hfb.set,by rw [show (_:List UInt8).length=b.rel.length from hRl];exact hfb.rel⟩,h5b⟩⟩,by omega⟩,hw.sub (zW _ (zW _ (zW _ (zW _ (zG _ (qJ _))))))⟩
 refine zF (zB (zA 2 Z (zH (zC [0,2,3,4,54] [_,_,_,_,_] Z (xI Z (fun h54=>?_) (fun h54=>?_))))))
 ·
  refine zF (jG (S:=Own B w0 [bk_ p4 #[i6_ a8.n,str a8.set,str a8.rel] 24]) [(0,true),(1,true),(2,true),(3,true),(4,false),(5,false),(6,false)] yJ (fun _ h=>h.drawn) (by kernel_rfl) (xE Z Z Z Z Z (zU (cs:=#[i6_ a8.n,str a8.set,str a8.rel]) 0 Z zP Z Z zJ) (pk [0] Z Z) (xT 1 Z (pk [0] Z Z) (xE Z Z Z Z Z (zN Z zI Z zY Z Z) (pk [0] Z Z) (xE Z Z Z Z Z (zS 0 Z qF Z Z Z) (pk [0] Z Z) (yZ Z (yM (rp:=rp) (RT:=84) (p:=p_10) (bv:=bv) (hs:=hs) (ok:=fun (a:St) p'=>(a.n=a8.n∧(a.set.length:Int)=a8.n∧a.rel.length=a8.n.toNat*a8.n.toNat)∧p'≤p_10+100) (v:=fun (a:St)=>vS a) (new:=fun (a:St)=>[]) (xs:=[.tmp 57,.tmp 59]) (vs:=[pt_ rp,i6_ a8.n]) ([bk_ p4 #[i6_ a8.n,str a8.set,str a8.rel] 24,bk_ p3 #[i6_ 0,str ([]),str ([])] 24,bk_ p2 #[i6_ 0,str ([]),str ([])] 24]:List (Nat×Obj)) Z Z Z Z Tryd.call83 Z (fun w1 hw1=>(l1Draw_ok B w0 (([bk_ p4 #[i6_ a8.n,str a8.set,str a8.rel] 24,bk_ p3 #[i6_ 0,str ([]),str ([])] 24,bk_ p2 #[i6_ 0,str ([]),str ([])] 24]:List (Nat×Obj))++hs) rp p_10 bv L a8.n w1 (fun w2 hw2=>hb w2 (qE (f:=([bk_ p4 #[i6_ a8.n,str a8.set,str a8.rel] 24,bk_ p3 #[i6_ 0,str ([]),str ([])] 24,bk_ p2 #[i6_ 0,str ([]),str ([])] 24]:List (Nat×Obj))) hw2)) hL8 hL (by omega) (by omega) (by omega) hw1).mono fun en w' ⟨a',p',h1,h2,h3⟩=>⟨a',p',h1,h2,h3⟩) fun a60 p_60 hKp_60=>?_)))))))
  show Ll _ _ (Own _ _ (_::_::_::_::hs)) _ _ ((60,vS a60)::_) _ _ _
  obtain ⟨⟨hna60,hsa60,hra60⟩,hep_60⟩:=hKp_60;refine zL (yP (pk [0] Z Z) ?_);refine yZ Z (yL (cs':=#[i6_ a8.n,str a8.set,str a8.rel]) (hs':=(_::_::bk_ p2 #[i6_ a8.n,str a8.set,str a8.rel] 24::_::hs)) 2 Z Z Z Z Z (by kernel_rfl:_=some Tryd.t24) Z Z Z Z Z (zL (yP (pk [0] Z Z) ?_)));refine yZ Z (yL (cs':=#[i6_ a60.n,str a60.set,str a60.rel]) (hs':=(_::bk_ p3 #[i6_ a60.n,str a60.set,str a60.rel] 24::_::_::hs)) 1 Z Z Z Z Z (by kernel_rfl:_=some Tryd.t24) Z Z Z Z Z (zL (yP (pk [0] Z Z) ?_)));refine Ld.nil (zC [2,3] [_,_] Z (qI (Kt.endMany Z (.cell (cs:=#[i6_ a8.n,str a8.set,str a8.rel]) Z (fun w1 hw1=>hw1.loadBox 2 Z zP zJ) (.cell (cs:=#[i6_ a60.n,str a60.set,str a60.rel]) Z (fun w1 hw1=>hw1.loadBox 1 Z zP zJ) ResAt.nil)) (by simp) fun w' hw=>?_)))
  exact ⟨a8,a60,p_60,rfl,⟨⟨⟨hfa8,h5a8⟩,draw_fine hna60 hsa60 hra60 (by omega) (by omega)⟩,by omega⟩,hw.sub (zW _ (zW _ (zW _ (zG _ (qJ _)))))⟩
 refine qR (zC [0,2,3,4] [_,_,_,_] Z (zF (jG (S:=Own B w0 [bk_ p4 #[i6_ a8.n,str a8.set,str a8.rel] 24]) [(0,true),(1,true),(2,false),(3,false),(4,false)] yJ (fun _ h=>h.drawn) (by kernel_rfl) (xE Z Z Z Z Z (zU (cs:=#[i6_ a8.n,str a8.set,str a8.rel]) 0 Z zP Z Z zJ) (pk [0] Z Z) (xT 1 Z (pk [0] Z Z) (yZ Z (yM (rp:=rp) (RT:=84) (p:=p_10) (bv:=bv) (hs:=hs) (ok:=fun (a:St) p'=>(a.Fine∧a.n≤5)∧p'≤p_10+200) (v:=fun (a:St)=>vS a) (new:=fun (a:St)=>[]) (xs:=[.tmp 62]) (vs:=[pt_ rp]) ([bk_ p4 #[i6_ a8.n,str a8.set,str a8.rel] 24,bk_ p3 #[i6_ 0,str ([]),str ([])] 24,bk_ p2 #[i6_ 0,str ([]),str ([])] 24]:List (Nat×Obj)) Z Z Z Z Tryd.call60 Z (fun w1 hw1=>(l1Some_ok B w0 (([bk_ p4 #[i6_ a8.n,str a8.set,str a8.rel] 24,bk_ p3 #[i6_ 0,str ([]),str ([])] 24,bk_ p2 #[i6_ 0,str ([]),str ([])] 24]:List (Nat×Obj))++hs) rp p_10 bv L w1 (fun w2 hw2=>hb w2 (qE (f:=([bk_ p4 #[i6_ a8.n,str a8.set,str a8.rel] 24,bk_ p3 #[i6_ 0,str ([]),str ([])] 24,bk_ p2 #[i6_ 0,str ([]),str ([])] 24]:List (Nat×Obj))) hw2)) hL8 hL (by omega) hw1).mono fun en w' ⟨a',p',h1,h2,h3⟩=>⟨a',p',h1,h2,h3⟩) fun a63 p_63 hKp_63=>?_)))))))
 show Ll _ _ (Own _ _ (_::_::_::_::hs)) _ _ ((63,vS a63)::_) _ _ _
 obtain ⟨⟨hfa63,h5a63⟩,hep_63⟩:=hKp_63
 have hloa63:=hfa63.lo;refine zL (yP (pk [0] Z Z) ?_);refine yZ Z (yL (cs':=#[i6_ a8.n,str a8.set,str a8.rel]) (hs':=(_::_::bk_ p2 #[i6_ a8.n,str a8.set,str a8.rel] 24::_::hs)) 2 Z Z Z Z Z (by kernel_rfl:_=some Tryd.t24) Z Z Z Z Z (zL (yP (pk [0] Z Z) ?_)));refine yZ Z (yL (cs':=#[i6_ a63.n,str a63.set,str a63.rel]) (hs':=(_::bk_ p3 #[i6_ a63.n,str a63.set,str a63.rel] 24::_::_::hs)) 1 Z Z Z Z Z (by kernel_rfl:_=some Tryd.t24) Z Z Z Z Z (zL (yP (pk [0] Z Z) ?_)));refine Ld.nil (zC [2,3] [_,_] Z (qI (Kt.endMany Z (.cell (cs:=#[i6_ a8.n,str a8.set,str a8.rel]) Z (fun w1 hw1=>hw1.loadBox 2 Z zP zJ) (.cell (cs:=#[i6_ a63.n,str a63.set,str a63.rel]) Z (fun w1 hw1=>hw1.loadBox 1 Z zP zJ) ResAt.nil)) (by simp) fun w' hw=>?_)))
 exact ⟨a8,a63,p_63,rfl,⟨⟨⟨hfa8,h5a8⟩,⟨hfa63,h5a63⟩⟩,by omega⟩,hw.sub (zW _ (zW _ (zW _ (zG _ (qJ _)))))⟩
set_option maxHeartbeats 400000 in
theorem open_ok (B:Nat) (w0:World) (fr hs:List (Nat×Obj)) (bv:Value) (L:List Int) (w:World) (hb:∀ w,Own B w0 hs w→Row w bv (u8s L)) (hL8:Bytes8 L) (hLs:L.length≤1048576) (hw:Own B w0 (fr++hs) w) :
    Calls Tryd.prog 29 [bv].toArray w fun en w'=>∃ (rp:Nat) (v:Value) (M:List Int),en=.returned (.pointer (some ⟨rp,0,none⟩))∧(M.length≤2000∧Bytes8 M∧∀ w,Own B w0 hs w→Row w v (u8s M))∧Own B w0 ([(rp,.cells #[v,.int .i64 ((0:Nat):Int)] 84 (0,0))]++(fr++hs)) w':=by
 refine fnStartC (Own B w0 (fr++hs)) (n:=11) (e:=[(0,bv)]) Tryd.func29 Z Z Z Z Ends.both hw ?_
 obtain ⟨ad,cap,hbv,-⟩:=hb w (qE (f:=fr) hw);refine zF (zB (zA 1 Z (zH (zC [0] [_] Z (zF (zF (zB (zA 1 Z (zD (v:=i6_ (L.length:Int)) Z (yI Z yN Z (u8s_length _) (fun w1 hw1=>hb _ (qE (f:=fr) hw1))) (zA 1 Z (zH (zC [0,5] [_,_] Z (xI Z (fun h5=>?_) (fun h5=>?_))))))))))))))
 ·
  refine zB (zA 1 Z (zD (v:=sTake bv ((2000:Int).toNat)) Z (OpQ.takeRow (i:=2000) Z yN Tryd.sizeOf5 Z Z (by omega) (by rw [u8s_length];omega) (fun w1 hw1=>hb _ (qE (f:=fr) hw1))) (zA 1 Z (zH (zC [0] [_] Z (zF (qD (qQ 1 Z (qC (v:=.agg #[sTake bv ((2000:Int).toNat),i6_ ((0:Nat):Int)]) Z (OpQ.build (xs:=[.tmp 8]) (vs:=[sTake bv ((2000:Int).toNat)]) Z Z (by rw [hbv];kernel_rfl)) (yT (v:=.agg #[sTake bv ((2000:Int).toNat),i6_ ((0:Nat):Int)]) Z Z Z Z Z fun p10 hp10=>?_))))))))))
  show Ll _ _ (Own _ _ (_::(fr++hs))) _ _ ((10,pt_ p10)::_) _ _ _;refine qQ 1 Z (zL (zC [2] [_] Z (qI (qK Z Z fun w' hw=>?_))))
  exact ⟨p10,_,L.take 2000,rfl,⟨by rw [zO];omega,hL8.take _,fun w1 h1=>by rw [u8s_take];exact Row.take (hb _ h1) 2000 (by rw [u8s_length];omega)⟩,hw⟩
 refine qR (zC [0] [_] Z (zF (qD (qQ 1 Z (qC (v:=.agg #[bv,i6_ ((0:Nat):Int)]) Z (OpQ.build (xs:=[.tmp 8]) (vs:=[bv]) Z Z (by rw [hbv];kernel_rfl)) (yT (v:=.agg #[bv,i6_ ((0:Nat):Int)]) Z Z Z Z Z fun p10_1 hp10_1=>?_))))))
 show Ll _ _ (Own _ _ (_::(fr++hs))) _ _ ((10,pt_ p10_1)::_) _ _ _;refine qQ 1 Z (zL (zC [2] [_] Z (qI (qK Z Z fun w' hw=>?_))))
 exact ⟨p10_1,bv,L,rfl,⟨by omega,hL8,hb⟩,hw⟩
end Go.Proofs.YteccfipfimbdgaaDoor
