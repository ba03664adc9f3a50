/-
  FnExactCountingWins: all that its proof names (part 2)
-/
import Derived.Test.YteccfipfimbdgaaDoorKFnExactCountingWinsa
import Derived.MapKept
import Derived.Laws.Cover3
namespace Go.Wk
open Go.RowKit
theorem Means.lt {T:List (List UInt8)}:∀ {n:Nat} {a:St} {xs:List Int} {i:Nat},Means T n a xs i→i<T.length:=by
 have key:∀ {i:Nat} {s:List UInt8},T[i]?=some s→i<T.length:=fun h=>(List.getElem?_eq_some_iff.1 h).1
 intro n a xs i h
 cases n with
 | zero=>exact key h
 | succ n=>obtain ⟨L,_,_,_,h⟩:=h;exact key h
structure FoundL (T:List (List UInt8)) (n:Nat) (a:St) (xs L:List Int) (k:Nat):Prop where
  sorted:L.Pairwise (·<·)
  len:L.length≤k
  all:∀ x:Nat,x<k→∃ i:Nat,(i:Int)∈L∧Means T n a (xs++[(x:Int)]) i
  only:∀ m∈L,∃ i x:Nat,m=i∧x<k∧Means T n a (xs++[(x:Int)]) i
theorem FoundL.zero {T:List (List UInt8)} {n:Nat} {a:St} {xs:List Int}:FoundL T n a xs [] 0:=⟨List.Pairwise.nil,Nat.le_refl _,fun x hx=>absurd hx (by omega),fun m hm=>by cases hm⟩
theorem FoundL.step {T T':List (List UInt8)} {n:Nat} {a:St} {xs L:List Int} {k i:Nat} (h:FoundL T n a xs L k) (hp:T <+: T') (hm:Means T' n a (xs++[(k:Int)]) i):FoundL T' n a xs (insS L (i:Int)) (k+1):=by
  refine ⟨sorted_insS h.sorted,Nat.le_trans insS_length (by have:=h.len;omega),fun x hx=>?_,fun m hmem=>?_⟩
  · rcases Nat.lt_or_ge x k with h1 | h1
    · obtain ⟨j,hj,hM⟩:=h.all x h1
      exact ⟨j,mem_insS.2 (.inr hj),hM.mono hp _ _ _ _⟩
    · obtain rfl:x=k:=by omega
      exact ⟨i,mem_insS.2 (.inl rfl),hm⟩
  · rcases mem_insS.1 hmem with h1 | h1
    · exact ⟨i,k,h1,by omega,hm⟩
    · obtain ⟨j,x,e,hx,hM⟩:=h.only m h1
      exact ⟨j,x,e,by omega,hM.mono hp _ _ _ _⟩
theorem TabTo.trans {T T1 T2:List (List UInt8)} {b1 b2:List Bkt} {m n k:Nat} (h:TabTo T b1 T1 m) (h2:TabTo T1 b2 T2 n) (hk:m+n≤k):TabTo T b2 T2 k:=⟨h2.ok,h.pre.trans h2.pre,by have:=h.len;have:=h2.len;omega⟩
theorem at_small {L:List Int} (h:∀ m∈L,0≤m∧m<1000000000000) {i:Nat} (hi:i<L.length):0≤L.getD i 0∧L.getD i 0<1000000000000:=by
 rw [getD_at hi];exact h _ (List.getElem_mem _)
end Go.Wk
namespace Go.Wk
open Go.RowKit
section
variable {n:Nat} {a b:St} {xs ys:List Int}
end
section
variable {P:Program} {n:Nat} {C:World→Prop} {e:Env}
end
end Go.Wk
namespace Go.Wk
open Go.RowKit
def clsN (q:Nat→Nat→Bool):Nat→List Int×Nat
 | 0=>([],0)
 | x+1=>match (List.range x).find? (fun y=>q y x) with
  | some y=>((clsN q x).1++[(clsN q x).1.getD y 0],(clsN q x).2)
  | none=>((clsN q x).1++[((clsN q x).2:Int)],(clsN q x).2+1)
section
variable {q:Nat→Nat→Bool}
theorem cls_old {x y:Nat} (hy:y<x) (hall:∀ i,i<y→q i x=false) (h:q y x=true):clsN q (x+1)=((clsN q x).1++[(clsN q x).1.getD y 0],(clsN q x).2):=by
 rw [clsN,find_at (f:=fun y=>q y x) hy hall h]
theorem cls_new {x:Nat} (hall:∀ i,i<x→q i x=false):clsN q (x+1)=((clsN q x).1++[((clsN q x).2:Int)],(clsN q x).2+1):=by
 have:(List.range x).find? (fun y=>q y x)=none:=by rw [List.find?_eq_none];intro i hi;rw [hall i (List.mem_range.1 hi)];simp
 rw [clsN,this]
theorem cls_cases (q:Nat→Nat→Bool) (x:Nat):(∃ y,y<x∧(∀ i,i<y→q i x=false)∧q y x=true)∨∀ i,i<x→q i x=false:=by
 cases h:(List.range x).find? (fun y=>q y x) with
 | none=>exact .inr fun i hi=>by simpa using List.find?_eq_none.1 h i (List.mem_range.2 hi)
 | some y =>
  rw [List.find?_range_eq_some] at h
  exact .inl ⟨y,List.mem_range.1 h.2.1,fun i hi=>by simpa using h.2.2 i hi,h.1⟩
theorem cls_length (q:Nat→Nat→Bool):∀ x,(clsN q x).1.length=x
  | 0=>rfl
  | x+1=>by
    rcases cls_cases q x with ⟨y,h1,h2,h3⟩ | h
    · rw [cls_old h1 h2 h3];simp [cls_length q x]
    · rw [cls_new h];simp [cls_length q x]
theorem cls_small (q:Nat→Nat→Bool):∀ x,(clsN q x).2≤x∧∀ m∈(clsN q x).1,0≤m∧m<((clsN q x).2:Int)
  | 0=>⟨Nat.le_refl _,fun m hm=>by cases hm⟩
  | x+1=>by
    obtain ⟨i1,i2⟩:=cls_small q x
    rcases cls_cases q x with ⟨y,h1,h2,h3⟩ | h
    · rw [cls_old h1 h2 h3]
      refine ⟨by dsimp only;omega,fun m hm=>?_⟩
      rcases List.mem_append.1 hm with h4 | h4
      · exact i2 m h4
      · rw [List.mem_singleton.1 h4]
        have hl:=cls_length q x
        rw [getD_at (by omega)];exact i2 _ (List.getElem_mem _)
    · rw [cls_new h]
      refine ⟨by dsimp only;omega,fun m hm=>?_⟩
      rcases List.mem_append.1 hm with h4 | h4
      · have:=i2 m h4;dsimp only;omega
      · rw [List.mem_singleton.1 h4];dsimp only;omega
end
structure SeenL (T:List (List UInt8)) (n:Nat) (a:St) (x:Nat) (S O:List Int):Prop where
 cls:clsN (fun y x=>winB n a [(y:Int)] a [(x:Int)]) x=(O,S.length)
 nodup:S.Nodup
 out:∀ y:Nat,y<x→∃ m k:Nat,Means T n a [(y:Int)] m∧O.getD y 0=(k:Int)∧S[k]?=some (m:Int)
 seen:∀ s∈S,∃ m y:Nat,s=(m:Int)∧y<x∧Means T n a [(y:Int)] m
theorem SeenL.zero {T:List (List UInt8)} {n:Nat} {a:St}:SeenL T n a 0 [] []:=⟨rfl,List.nodup_nil,fun y hy=>absurd hy (by omega),fun s hs=>by cases hs⟩
theorem SeenL.len {T:List (List UInt8)} {n:Nat} {a:St} {x:Nat} {S O:List Int} (h:SeenL T n a x S O):O.length=x∧S.length≤x:=by
 have h1:=cls_length (fun y x=>winB n a [(y:Int)] a [(x:Int)]) x
 have h2:=(cls_small (fun y x=>winB n a [(y:Int)] a [(x:Int)]) x).1
 rw [h.cls] at h1 h2
 exact ⟨h1,h2⟩
theorem getD_app1 {l r:List Int} {i:Nat} (h:i<l.length):(l++r).getD i 0=l.getD i 0:=by
 rw [List.getD_eq_getElem?_getD,List.getElem?_append_left h,← List.getD_eq_getElem?_getD]
theorem getD_app2 {l:List Int} {z:Int}:(l++[z]).getD l.length 0=z:=by
 rw [List.getD_eq_getElem?_getD];simp
theorem SeenL.new {T T':List (List UInt8)} {n:Nat} {a:St} {x:Nat} {S O:List Int} (h:SeenL T n a x S O) (hp:T <+: T') (hT:T'.Nodup) {m:Nat} (hm:Means T' n a [(x:Int)] m) (hk:¬ (m:Int)∈S):SeenL T' n a (x+1) (S++[(m:Int)]) (O++[(S.length:Int)]):=by
  obtain ⟨hOl,hSl⟩:=h.len
  have heq:∀ (y:Nat) (m':Nat),Means T' n a [(y:Int)] m'→(m'=m↔winB n a [(y:Int)] a [(x:Int)]=true):=fun y m' hm'=>by
    rw [means_win hT n a [(y:Int)] a [(x:Int)] m' m rfl hm' hm,win_iff n a [(y:Int)] a [(x:Int)] rfl]
  refine ⟨?_,?_,fun y hy=>?_,fun s hs=>?_⟩
  · rw [cls_new fun y hy=>?_,h.cls]
    · simp
    · obtain ⟨m',k',e1,e2,e3⟩:=h.out y hy
      cases hq:winB n a [(y:Int)] a [(x:Int)] with
      | false=>rfl
      | true =>
        have e4:=(heq y m' (e1.mono hp _ _ _ _)).2 hq
        subst e4
        exact absurd (List.mem_of_getElem? e3) hk
  · rw [List.nodup_append]
    exact ⟨h.nodup,by simp,fun z hz y hy e=>hk (by rw [List.mem_singleton.1 hy] at e;exact e ▸ hz)⟩
  · rcases Nat.lt_or_ge y x with h1 | h1
    · obtain ⟨m',k',e1,e2,e3⟩:=h.out y h1
      refine ⟨m',k',e1.mono hp _ _ _ _,by rw [getD_app1 (by omega)];exact e2,?_⟩
      rw [List.getElem?_append_left (List.getElem?_eq_some_iff.1 e3).1];exact e3
    · obtain rfl:y=x:=by omega
      exact ⟨m,S.length,hm,by rw [← hOl,getD_app2],by simp⟩
  · rcases List.mem_append.1 hs with h1 | h1
    · obtain ⟨m',y,e1,e2,e3⟩:=h.seen s h1
      exact ⟨m',y,e1,by omega,e3.mono hp _ _ _ _⟩
    · exact ⟨m,x,List.mem_singleton.1 h1,by omega,hm⟩
end Go.Wk
namespace Go.Wk
open Go.RowKit
section
variable {P:Program} {n:Nat} {C:World→Prop} {B:Nat} {w0:World} {hs hs':List (Nat×Obj)} {N R:Act→World→Prop} {X:List (Nat×(Act→World→Prop))} {e:Env} {ops:Array Oper} {l:List Oper} {o:Oper}
theorem OpQ.max2 {x y:Operand} {ts:Array TypeId} {i j:Int} (h:o.op=.call ⟨.builtin .max,#[x,y],ts⟩) (hx:opd e x=some (.int .i64 i)) (hy:opd e y=some (.int .i64 j)):OpQ P n C e o (.int .i64 (if j > i then j else i)):=OpQ.val fun A hF w=>by
  unfold execOp;rw [h]
  simp only [resolve,invoke,BigFrame.builtin_max,List.map_toArray,List.map_cons,List.map_nil,hF.opd hx,hF.opd hy,Sem.run_bind,Sem.run_pure,Result.andThen,Builtin.max_,List.foldlM_cons,List.foldlM_nil,Builtin.max2]
end
structure RR where
 g:Nat
 cap:Nat
 cur:Array Value
 xs:List Int
def rd:RR:=⟨0,0,#[],[]⟩
def rv (r:RR):Value:=.slice (some ⟨r.g,0,none⟩) r.xs.length r.cap
structure RR.Ok (r:RR):Prop where
 size:r.cur.size=r.cap*1
 len:r.xs.length≤r.cap
 vals:r.cur.toList.take r.xs.length=ints r.xs
def rvs (rr:List RR):List Value:=rr.map rv
@[simp] theorem rvs_length (rr:List RR):(rvs rr).length=rr.length:=by simp [rvs]
theorem rvs_at {rr:List RR} {i:Nat} (h:i<rr.length):(rvs rr)[i]?=some (rv (rr.getD i rd)):=by
 rw [rvs,List.getElem?_map,List.getElem?_eq_getElem h,getD_at h];rfl
section
variable {B:Nat} {w0:World} {hs:List (Nat×Obj)}
end
structure RowsOk (rr:List RR) (u:Array Value) (c:Nat):Prop where
 size:u.size=c*1
 len:rr.length≤c
 vals:u.toList.take rr.length=rvs rr
 ok:∀ r∈rr,r.Ok
theorem RowsOk.nil:RowsOk [] #[] 0:=⟨rfl,Nat.le_refl 0,rfl,fun r hr=>by cases hr⟩
theorem RowsOk.one (p:Nat):RowsOk [⟨p,0,#[],[]⟩] #[.slice (some ⟨p,0,none⟩) 0 0] 1:=⟨rfl,Nat.le_refl 1,rfl,fun r hr=>by rw [List.mem_singleton.1 hr];exact ⟨rfl,Nat.le_refl 0,rfl⟩⟩
theorem RowsOk.add {rr:List RR} {u u':Array Value} {c c':Nat} {r:RR} (h:RowsOk rr u c) (hr:r.Ok) (hs:u'.size=c'*1) (hl:rr.length+1≤c') (hv:u'.toList.take ((rr.length+1)*1)=u.toList.take (rr.length*1)++[rv r]):RowsOk (rr++[r]) u' c':=by
  refine ⟨hs,by simpa using hl,?_,fun x hx=>?_⟩
  · have h1:=h.vals
    rw [Nat.mul_one,Nat.mul_one,h1] at hv
    rw [List.length_append,List.length_singleton,hv];simp [rvs]
  · rcases List.mem_append.1 hx with h1 | h1
    · exact h.ok x h1
    · rw [List.mem_singleton.1 h1];exact hr
def pointL (size:Nat):Nat→Nat→List Int
 | 0,_=>[]
 | w+1,k=>pointL size w (k / size)++[((k % size:Nat):Int)]
@[simp] theorem pointL_length (size:Nat):∀ w k,(pointL size w k).length=w
 | 0,_=>rfl
 | w+1,k=>by simp [pointL,pointL_length size w]
end Go.Wk
namespace Go.Wk
open Go.RowKit
theorem rep_set2 {j:Nat} {T:List Int} {v:Int} (h:0<j):(List.replicate j 0++T).set (j - 1) v=List.replicate (j - 1) 0++(v::T):=by
 obtain ⟨i,rfl⟩:∃ i,j=i+1:=⟨j - 1,by omega⟩
 rw [Nat.add_sub_cancel,List.replicate_succ',List.append_assoc,List.set_append_right _ _ (by simp)]
 simp
end Go.Wk
namespace Go.Wk
open Go.RowKit
theorem insS_mem {l:List Int} {n:Int} (h:l.Pairwise (·<·)) (hn:n∈l):insS l n=l :=
  sorted_ext (sorted_insS h) h fun x=>by rw [mem_insS];constructor;rintro (rfl | h1);exact hn;exact h1;exact .inr
theorem insS_new {n:Int}:∀ {l:List Int},n ∉ l→(insS l n).length=l.length+1
  | [],_=>rfl
  | x::l,h=>by
    have h1:x ≠ n:=fun e=>h (by simp [e])
    have h2:n ∉ l:=fun e=>h (by simp [e])
    unfold insS
    rw [if_neg h1]
    split
    · rfl
    · rw [List.length_cons,insS_new h2,List.length_cons]
theorem cls_same {q:Nat→Nat→Bool} {k y:Nat} (hy:y<k) (h:q y k=true):(clsN q (k+1)).2=(clsN q k).2:=by
  rcases cls_cases q k with ⟨z,h1,h2,h3⟩ | hno
  · rw [cls_old h1 h2 h3]
  · rw [hno y hy] at h;cases h
theorem cls_more {q:Nat→Nat→Bool} {k:Nat} (h:∀ y,y<k→q y k=false):(clsN q (k+1)).2=(clsN q k).2+1:=by rw [cls_new h]
def qP (a:St) (r w:Nat) (y x:Nat):Bool:=winB r a (pointL a.n.toNat w y) a (pointL a.n.toNat w x)
structure CountL (T:List (List UInt8)) (r:Nat) (a:St) (w k:Nat) (S:List Int):Prop where
  cls:(clsN (qP a r w) k).2=S.length
  sorted:S.Pairwise (·<·)
  all:∀ y:Nat,y<k→∃ i:Nat,(i:Int)∈S∧Means T r a (pointL a.n.toNat w y) i
  only:∀ m∈S,∃ i y:Nat,m=i∧y<k∧Means T r a (pointL a.n.toNat w y) i
theorem CountL.zero {T:List (List UInt8)} {r:Nat} {a:St} {w:Nat}:CountL T r a w 0 []:=⟨rfl,List.Pairwise.nil,fun y hy=>absurd hy (by omega),fun m hm=>by cases hm⟩
theorem CountL.len {T:List (List UInt8)} {r:Nat} {a:St} {w k:Nat} {S:List Int} (h:CountL T r a w k S):S.length≤k:=by rw [← h.cls];exact (cls_small _ k).1
theorem CountL.step {T T':List (List UInt8)} {r:Nat} {a:St} {w k i:Nat} {S:List Int} (h:CountL T r a w k S) (hp:T <+: T') (hT:T'.Nodup) (hm:Means T' r a (pointL a.n.toNat w k) i):CountL T' r a w (k+1) (insS S (i:Int)):=by
  have heq:∀ (y j:Nat),Means T' r a (pointL a.n.toNat w y) j→(j=i↔qP a r w y k=true):=fun y j hj=>by
    unfold qP
    rw [means_win hT r a (pointL a.n.toNat w y) a (pointL a.n.toNat w k) j i (by simp) hj hm,win_iff r a (pointL a.n.toNat w y) a (pointL a.n.toNat w k) (by simp)]
  refine ⟨?_,sorted_insS h.sorted,fun y hy=>?_,fun m hmem=>?_⟩
  · by_cases hi:(i:Int)∈S
    · rw [insS_mem h.sorted hi,← h.cls]
      obtain ⟨j,y,e,hy,hM⟩:=h.only _ hi
      obtain rfl:i=j:=by omega
      exact cls_same hy ((heq y i (hM.mono hp _ _ _ _)).1 rfl)
    · rw [insS_new hi,← h.cls]
      refine cls_more fun y hy=>?_
      cases hq:qP a r w y k with
      | false=>rfl
      | true =>
        obtain ⟨j,hj,hM⟩:=h.all y hy
        have:=(heq y j (hM.mono hp _ _ _ _)).2 hq
        subst this
        exact absurd hj hi
  · rcases Nat.lt_or_ge y k with h1 | h1
    · obtain ⟨j,hj,hM⟩:=h.all y h1
      exact ⟨j,mem_insS.2 (.inr hj),hM.mono hp _ _ _ _⟩
    · obtain rfl:y=k:=by omega
      exact ⟨i,mem_insS.2 (.inl rfl),hm⟩
  · rcases mem_insS.1 hmem with h1 | h1
    · exact ⟨i,k,h1,by omega,hm⟩
    · obtain ⟨j,y,e,hy,hM⟩:=h.only m h1
      exact ⟨j,y,e,by omega,hM.mono hp _ _ _ _⟩
end Go.Wk
namespace Go.Wk
open Go.RowKit
theorem peb_el {a:St} {xs:List Int} (h:pebB a xs=true):∀ x∈xs,-1≤x:=fun x hx=>by
 unfold pebB at h
 simp only [Bool.and_eq_true,List.all_eq_true] at h
 have:=h.2 x hx
 unfold inB at this
 simp only [Bool.and_eq_true,decide_eq_true_eq] at this
 exact this.1
end Go.Wk
namespace Go.Wk
open Go.RowKit
section
variable {τ:Type}
end
section
variable {P:Program} {n:Nat} {B:Nat} {w0:World} {hs:List (Nat×Obj)} {N R:Act→World→Prop} {X:List (Nat×(Act→World→Prop))} {e:Env} {ops:Array Oper} {l:List Oper} {o:Oper}
theorem Ll.callFnGet {σ:Type} {ok:σ→Prop} {v:σ→Value} {hs':σ→List (Nat×Obj)} {d:Nat} {f:FuncId} {c:Operand} {captured:Array Value} {xs:List Operand} {ts:Array TypeId} {vs:List Value} (hd:Nat.blt d n=true) (hdst:o.dst=some d) (hg:wantE ops e o.guard=some true) (h:o.op=.call ⟨.value c,xs.toArray,ts⟩)
  (hcl:opd e c=some (.func (.func f) #[] captured)) (hcf:∀ args w,(callFunc f args).run P w=.ok (.enter f args) w) (hx:opds e xs=some vs)
  (hc:∀ w,Own B w0 hs w→Calls P f (vs.toArray++captured) w fun en w'=>∃ s,en=.returned (v s)∧ok s∧Own B w0 (hs' s) w')
  (k:∀ s,ok s→Ll P n (Own B w0 (hs' s)) ops l ((d,v s)::e) N R X):Ll P n (Own B w0 hs) ops (o::l) e N R X :=
 Ll.callFn hd hdst hg h hcl hcf hx fun w hw=>(hc w hw).mono fun en w' ⟨s,h1,h2,h3⟩=>⟨v s,h1,fun a' ha=>by
  have:=k s h2
  unfold Ll at this
  exact this a' w' ha h3⟩
end
section
variable {P:Program} {n:Nat} {C:World→Prop} {e:Env} {o:Oper}
end
theorem nodup_le:∀ (m:Nat) (l:List Int),l.Nodup→(∀ x∈l,0≤x∧x<(m:Int))→l.length≤m
  | 0,l,_,h=>by
    cases l with
    | nil=>exact Nat.le_refl _
    | cons x l=>have:=h x (by simp);omega
  | m+1,l,hd,h=>by
    by_cases hm:(m:Int)∈l
    · have h1:=nodup_le m (l.erase (m:Int)) (hd.erase _) fun x hx=>by
        obtain ⟨h2,h3⟩:=(hd.mem_erase_iff).1 hx
        have:=h x h3
        omega
      rw [List.length_erase_of_mem hm] at h1
      omega
    · have:=nodup_le m l hd fun x hx=>by
        have h1:=h x hx
        have h2:x ≠ (m:Int):=fun e=>hm (e ▸ hx)
        omega
      omega
end Go.Wk
namespace Go.Wk
open Go.RowKit
theorem nodup_sub {α:Type} [DecidableEq α]:∀ {S T:List α},S.Nodup→(∀ x∈S,x∈T)→S.length≤T.length
 | [],_,_,_=>Nat.zero_le _
 | x::S,T,hd,h=>by
  obtain ⟨h1,h2⟩:=List.nodup_cons.1 hd
  have hx:=h x (by simp)
  have:=nodup_sub (T:=T.erase x) h2 fun y hy=>(List.mem_erase_of_ne (fun e=>h1 (by rw [← e];exact hy))).2 (h y (by simp [hy]))
  rw [List.length_erase_of_mem hx] at this
  have:=List.length_pos_of_mem hx
  rw [List.length_cons];omega
theorem nodup_map_inj {α β:Type} {f:α→β}:∀ {l:List α},(∀ x∈l,∀ y∈l,f x=f y→x=y)→l.Nodup→(l.map f).Nodup
 | [],_,_=>List.nodup_nil
 | x::l,h,hd=>by
  obtain ⟨h1,h2⟩:=List.nodup_cons.1 hd
  rw [List.map_cons]
  refine List.nodup_cons.2 ⟨fun hm=>?_,nodup_map_inj (fun y hy z hz=>h y (by simp [hy]) z (by simp [hz])) h2⟩
  obtain ⟨y,hy,e⟩:=List.mem_map.1 hm
  exact h1 ((h y (by simp [hy]) x (by simp) e) ▸ hy)
end Go.Wk
namespace Go.Wk
open Go.RowKit
def pW:Nat→St→List Int→St→List Int→Prop
 | 0,a,xs,b,ys=>(∀ i:Nat,i<xs.length→(xs.getD i 0<0↔ys.getD i 0<0))∧sameB a (placed xs xs.length) b (placed ys ys.length)=true
 | n+1,a,xs,b,ys=>pW n a xs b ys∧∀ i:Nat,i<xs.length→(∀ x:Nat,x<a.n.toNat→∃ y:Nat,y<b.n.toNat∧pW n a (xs.set i (x:Int)) b (ys.set i (y:Int))) ∧
   (∀ y:Nat,y<b.n.toNat→∃ x:Nat,x<a.n.toNat∧pW n a (xs.set i (x:Int)) b (ys.set i (y:Int)))
def idxP (size:Nat) (xs:List Int):Nat:=xs.foldl (fun n x=>n*(size+1)+(x+1).toNat) 0
def atP (size:Nat):Nat→Nat→List Int
 | 0,_=>[]
 | k+1,n=>atP size k (n / (size+1))++[((n % (size+1):Nat):Int) - 1]
def Peb (size k:Nat) (xs:List Int):Prop:=xs.length=k∧∀ x∈xs,-1≤x∧x<(size:Int)
@[simp] theorem atP_len (size:Nat):∀ k n,(atP size k n).length=k
 | 0,_=>rfl
 | k+1,n=>by simp [atP,atP_len size k]
theorem atP_peb (size:Nat):∀ k n,Peb size k (atP size k n)
  | 0,n=>⟨rfl,fun x hx=>by cases hx⟩
  | k+1,n=>by
    refine ⟨atP_len _ _ _,fun x hx=>?_⟩
    unfold atP at hx
    rcases List.mem_append.1 hx with h | h
    · exact (atP_peb size k _).2 x h
    · rw [List.mem_singleton.1 h]
      have:=Nat.mod_lt n (show 0<size+1 by omega)
      omega
theorem idxP_snoc (size:Nat) (xs:List Int) (x:Int):idxP size (xs++[x])=idxP size xs*(size+1)+(x+1).toNat:=by simp [idxP]
theorem idx_at (size:Nat):∀ k n,n<(size+1) ^ k→idxP size (atP size k n)=n
 | 0,n,h=>by simp at h;subst h;rfl
 | k+1,n,h=>by
  unfold atP
  have h1:n / (size+1)<(size+1) ^ k:=Nat.div_lt_of_lt_mul (by rw [Nat.mul_comm,← Nat.pow_succ];exact h)
  rw [idxP_snoc,idx_at size k _ h1,show (((n % (size+1):Nat):Int) - 1+1).toNat=n % (size+1) from by omega]
  exact Nat.div_add_mod' n (size+1)
theorem peb_snoc {size k:Nat} {xs:List Int} (h:Peb size (k+1) xs):∃ ys x,xs=ys++[x]∧Peb size k ys ∧ -1≤x∧x<(size:Int):=by
  rcases xs.eq_nil_or_concat with rfl | ⟨ys,x,rfl⟩
  · have:=h.1;simp at this
  · rw [List.concat_eq_append] at h ⊢
    have hl:=h.1
    rw [List.length_append,List.length_singleton] at hl
    exact ⟨ys,x,rfl,⟨by omega,fun y hy=>h.2 y (List.mem_append_left _ hy)⟩,h.2 x (by simp)⟩
theorem idxP_lt {size:Nat}:∀ {k:Nat} {xs:List Int},Peb size k xs→idxP size xs<(size+1) ^ k
 | 0,xs,h=>by
  have:xs=[]:=List.length_eq_zero_iff.1 h.1
  subst this;exact Nat.one_pos
 | k+1,xs,h=>by
  obtain ⟨ys,x,rfl,h1,h2,h3⟩:=peb_snoc h
  have:=idxP_lt h1
  rw [idxP_snoc,Nat.pow_succ]
  have h4:(idxP size ys+1)*(size+1)≤(size+1) ^ k*(size+1):=Nat.mul_le_mul_right _ this
  rw [Nat.add_mul,Nat.one_mul] at h4
  omega
theorem at_idx {size:Nat}:∀ {k:Nat} {xs:List Int},Peb size k xs→atP size k (idxP size xs)=xs
 | 0,xs,h=>by
  have:xs=[]:=List.length_eq_zero_iff.1 h.1
  subst this;rfl
 | k+1,xs,h=>by
  obtain ⟨ys,x,rfl,h1,h2,h3⟩:=peb_snoc h
  unfold atP
  have h4:(x+1).toNat<size+1:=by omega
  have e1:(idxP size ys*(size+1)+(x+1).toNat) / (size+1)=idxP size ys:=by
   rw [Nat.add_comm,Nat.add_mul_div_right _ _ (by omega),Nat.div_eq_of_lt h4,Nat.zero_add]
  have e2:(idxP size ys*(size+1)+(x+1).toNat) % (size+1)=(x+1).toNat:=by
   rw [Nat.add_comm,Nat.add_mul_mod_self_right,Nat.mod_eq_of_lt h4]
  rw [idxP_snoc,e1,e2,at_idx h1,show (((x+1).toNat:Nat):Int) - 1=x from by omega]
theorem peb_set {size k i:Nat} {xs:List Int} (h:Peb size k xs) {x:Nat} (hx:x<size):Peb size k (xs.set i (x:Int)):=by
  refine ⟨by rw [List.length_set];exact h.1,fun y hy=>?_⟩
  rcases List.mem_or_eq_of_mem_set hy with h1 | h1
  · exact h.2 y h1
  · rw [h1];omega
def numP (size:Nat) (R:List Int) (xs:List Int):Int:=R.getD (idxP size xs) 0
structure GoodP (n k:Nat) (a b:St) (Ra Rb:List Int):Prop where
 aa:∀ xs ys,Peb a.n.toNat k xs→Peb a.n.toNat k ys→(numP a.n.toNat Ra xs=numP a.n.toNat Ra ys↔pW n a xs a ys)
 ab:∀ xs ys,Peb a.n.toNat k xs→Peb b.n.toNat k ys→(numP a.n.toNat Ra xs=numP b.n.toNat Rb ys↔pW n a xs b ys)
 bb:∀ xs ys,Peb b.n.toNat k xs→Peb b.n.toNat k ys→(numP b.n.toNat Rb xs=numP b.n.toNat Rb ys↔pW n b xs b ys)
theorem pW_comm:∀ (n:Nat) (a:St) (xs:List Int) (b:St) (ys:List Int),xs.length=ys.length→pW n a xs b ys→pW n b ys a xs
 | 0,a,xs,b,ys,hl,h=>by
  have e:=placed_len (xs:=xs) (ys:=ys) xs.length fun i hi=>h.1 i hi
  refine ⟨fun i hi=>(h.1 i (by omega)).symm,?_⟩
  have h2:=h.2
  rwa [sameB_comm (by rw [e,hl])] at h2
 | n+1,a,xs,b,ys,hl,h=>by
  refine ⟨pW_comm n _ _ _ _ hl h.1,fun i hi=>?_⟩
  obtain ⟨h1,h2⟩:=h.2 i (by omega)
  exact ⟨fun y hy=>(h2 y hy).elim fun x hx=>⟨x,hx.1,pW_comm n _ _ _ _ (by simp [hl]) hx.2⟩,fun x hx=>(h1 x hx).elim fun y hy=>⟨y,hy.1,pW_comm n _ _ _ _ (by simp [hl]) hy.2⟩⟩
def movesTo (size:Nat) (R:List Int) (xs:List Int) (i:Nat):Nat→List Int
 | 0=>[]
 | x+1=>insS (movesTo size R xs i x) (numP size R (xs.set i (x:Int)))
theorem moves_sorted (size:Nat) (R:List Int) (xs:List Int) (i:Nat):∀ m,(movesTo size R xs i m).Pairwise (·<·)
  | 0=>List.Pairwise.nil
  | m+1=>sorted_insS (moves_sorted size R xs i m)
theorem moves_mem {size:Nat} {R:List Int} {xs:List Int} {i:Nat} {z:Int}:∀ {m:Nat},z∈movesTo size R xs i m↔∃ x:Nat,x<m∧z=numP size R (xs.set i (x:Int))
  | 0=>by simp [movesTo]
  | m+1=>by
    rw [movesTo,mem_insS,moves_mem]
    constructor
    · rintro (h | ⟨x,h1,h2⟩)
      · exact ⟨m,by omega,h⟩
      · exact ⟨x,by omega,h2⟩
    · rintro ⟨x,h1,h2⟩
      rcases Nat.lt_or_ge x m with h3 | h3
      · exact .inr ⟨x,h3,h2⟩
      · rw [show x=m from by omega] at h2;exact .inl h2
theorem moves_le (size:Nat) (R:List Int) (xs:List Int) (i:Nat):∀ m,(movesTo size R xs i m).length≤m
 | 0=>Nat.le_refl _
 | m+1=>by
  have:=moves_le size R xs i m
  exact Nat.le_trans insS_length (by omega)
theorem moves_eq {s t:Nat} {R Q:List Int} {xs ys:List Int} {i:Nat}:movesTo s R xs i s=movesTo t Q ys i t ↔
    (∀ x:Nat,x<s→∃ y:Nat,y<t∧numP s R (xs.set i (x:Int))=numP t Q (ys.set i (y:Int)))∧(∀ y:Nat,y<t→∃ x:Nat,x<s∧numP s R (xs.set i (x:Int))=numP t Q (ys.set i (y:Int))):=by
  constructor
  · intro h
    refine ⟨fun x hx=>?_,fun y hy=>?_⟩
    · have h1:numP s R (xs.set i (x:Int))∈movesTo t Q ys i t:=by rw [← h];exact moves_mem.2 ⟨x,hx,rfl⟩
      exact moves_mem.1 h1
    · have h1:numP t Q (ys.set i (y:Int))∈movesTo s R xs i s:=by rw [h];exact moves_mem.2 ⟨y,hy,rfl⟩
      obtain ⟨x,h2,h3⟩:=moves_mem.1 h1
      exact ⟨x,h2,h3.symm⟩
  · rintro ⟨h1,h2⟩
    refine sorted_ext (moves_sorted _ _ _ _ _) (moves_sorted _ _ _ _ _) fun z=>?_
    rw [moves_mem,moves_mem]
    constructor
    · rintro ⟨x,hx,rfl⟩
      obtain ⟨y,hy,e⟩:=h1 x hx
      exact ⟨y,hy,e⟩
    · rintro ⟨y,hy,rfl⟩
      obtain ⟨x,hx,e⟩:=h2 y hy
      exact ⟨x,hx,e.symm⟩
def descM (size:Nat) (R:List Int) (xs:List Int):Nat→List UInt8
 | 0=>[]
 | i+1=>(descM size R xs i++commas (movesTo size R xs i size))++[59]
def descP (size:Nat) (R:List Int) (xs:List Int) (k:Nat):List UInt8:=([114]++decS (numP size R xs).toNat)++descM size R xs k
def NonNeg (R:List Int):Prop:=∀ i:Nat,0≤R.getD i 0
theorem moves_nn {s:Nat} {R:List Int} (h:NonNeg R) {xs:List Int} {i m:Nat}:∀ z∈movesTo s R xs i m,0≤z:=fun z hz=>by
 obtain ⟨x,_,rfl⟩:=moves_mem.1 hz
 exact h _
theorem commas_dig (L:List Int):∀ c∈commas L,c ≠ 59:=fun c hc=>by
  obtain ⟨m,_,h⟩:=List.mem_flatMap.1 hc
  rcases List.mem_append.1 h with h1 | h1
  · rw [List.mem_singleton.1 h1];decide
  · have key:∀ n:Nat,∀ c∈decS n,c ≠ 59:=fun n=>by
      induction n using Nat.strongRecOn with
      | _ n ih =>
        have dig:∀ k,k≤9→UInt8.ofNat (48+k) ≠ 59:=fun k hk e=>by
          have h2:=congrArg UInt8.toNat e
          rw [toNat_dig hk] at h2
          simp at h2;omega
        rw [decS]
        split
        · intro c hc;rw [List.mem_singleton.1 hc];exact dig _ (by omega)
        · intro c hc
          rcases List.mem_append.1 hc with h | h
          · exact ih _ (by omega) c h
          · rw [List.mem_singleton.1 h];exact dig _ (by omega)
    exact key _ c h1
def descT (size:Nat) (R:List Int) (xs:List Int) (i:Nat):Nat→List UInt8
 | 0=>[]
 | m+1=>(commas (movesTo size R xs i size)++[59])++descT size R xs (i+1) m
theorem descM_tail (size:Nat) (R:List Int) (xs:List Int):∀ i m,descM size R xs i++descT size R xs i m=descM size R xs (i+m)
 | i,0=>by simp [descT]
 | i,m+1=>by
  have:=descM_tail size R xs (i+1) m
  rw [show i+(m+1)=i+1+m from by omega,← this,descM,descT]
  simp
theorem descT_head (size:Nat) (R:List Int) (xs:List Int) (i m:Nat):(descT size R xs i m=[]∨∃ t,descT size R xs i m=44::t)∨∃ t,descT size R xs i m=59::t:=by
  cases m with
  | zero=>exact .inl (.inl rfl)
  | succ m =>
    unfold descT
    rcases commas_head (movesTo size R xs i size) with h | ⟨t,h⟩
    · rw [h];exact .inr ⟨_,rfl⟩
    · rw [h];exact .inl (.inr ⟨_,rfl⟩)
theorem descT_inj {s t:Nat} {R Q:List Int} {xs ys:List Int} (hR:NonNeg R) (hQ:NonNeg Q):∀ {m i:Nat},descT s R xs i m=descT t Q ys i m↔∀ j:Nat,i≤j→j<i+m→movesTo s R xs j s=movesTo t Q ys j t
  | 0,i=>by
    refine ⟨fun _ j h1 h2=>by omega,fun _=>rfl⟩
  | m+1,i=>by
    have ih:=descT_inj (s:=s) (t:=t) (xs:=xs) (ys:=ys) hR hQ (m:=m) (i:=i+1)
    unfold descT
    constructor
    · intro h
      rw [List.append_assoc,List.append_assoc] at h
      obtain ⟨h1,h2⟩:=cut (c:=59) (commas_dig _) (commas_dig _) (.inr ⟨_,rfl⟩) (.inr ⟨_,rfl⟩) h
      have h3:=commas_inj (moves_nn hR) (moves_nn hQ) h1
      have h4:=ih.1 (List.append_cancel_left (show [59]++descT s R xs (i+1) m=[59]++descT t Q ys (i+1) m from h2))
      intro j h5 h6
      rcases Nat.lt_or_ge i j with h7 | h7
      · exact h4 j (by omega) (by omega)
      · rw [show j=i from by omega];exact h3
    · intro h
      rw [h i (Nat.le_refl _) (by omega),ih.2 fun j h1 h2=>h j (by omega) (by omega)]
theorem cut2 {u v r s:List UInt8} (hu:∀ x∈u,x ≠ 44∧x ≠ 59) (hv:∀ x∈v,x ≠ 44∧x ≠ 59) (hr:(r=[]∨∃ t,r=44::t)∨∃ t,r=59::t) (hs:(s=[]∨∃ t,s=44::t)∨∃ t,s=59::t) (h:u++r=v++s):u=v∧r=s:=by
 have key:∀ (u r:List UInt8),(∀ x∈u,x ≠ 44∧x ≠ 59)→((r=[]∨∃ t,r=44::t)∨∃ t,r=59::t)→(u++r).takeWhile (fun x=>decide (x ≠ 44)&&decide (x ≠ 59))=u:=fun u r hu hr=>by
  rw [List.takeWhile_append_of_pos (fun x hx=>by simpa using hu x hx)]
  rcases hr with (rfl | ⟨t,rfl⟩) | ⟨t,rfl⟩ <;> simp
 have e1:u=v:=by rw [← key u r hu hr,h,key v s hv hs]
 subst e1
 exact ⟨rfl,List.append_cancel_left h⟩
theorem decS_dig2 (n:Nat):∀ c∈decS n,c ≠ 44∧c ≠ 59:=fun c hc=>by
 refine ⟨(decS_dig n c hc).1,?_⟩
 have:=commas_dig [(n:Int)] c (by unfold commas;simp [hc])
 exact this
theorem descP_inj {s t k:Nat} {R Q:List Int} {xs ys:List Int} (hR:NonNeg R) (hQ:NonNeg Q):descP s R xs k=descP t Q ys k↔numP s R xs=numP t Q ys∧∀ i:Nat,i<k→movesTo s R xs i s=movesTo t Q ys i t:=by
  have e:∀ (s:Nat) (R xs:List Int),descM s R xs k=descT s R xs 0 k:=fun s R xs=>by
    have:=descM_tail s R xs 0 k
    rw [Nat.zero_add] at this
    rw [← this];rfl
  unfold descP
  rw [e,e]
  constructor
  · intro h
    rw [List.append_assoc,List.append_assoc] at h
    obtain ⟨h1,h2⟩:=cut2 (decS_dig2 _) (decS_dig2 _) (descT_head _ _ _ _ _) (descT_head _ _ _ _ _) (List.append_cancel_left h)
    have h3:=decS_inj h1
    have h4:0≤numP s R xs:=hR _
    have h5:0≤numP t Q ys:=hQ _
    exact ⟨by omega,fun i hi=>(descT_inj hR hQ).1 h2 i (by omega) (by omega)⟩
  · rintro ⟨h1,h2⟩
    rw [h1,(descT_inj hR hQ).2 fun j _ hj=>h2 j (by omega)]
def NumOf (T:List (List UInt8)) (text:Nat→List UInt8) (R:List Int) (N:Nat):Prop:=R.length=N∧∀ i:Nat,i<N→∃ m:Nat,R.getD i 0=(m:Int)∧T[m]?=some (text i)
theorem NumOf.nn {T:List (List UInt8)} {text:Nat→List UInt8} {R:List Int} {N:Nat} (h:NumOf T text R N):NonNeg R:=fun i=>by
  rcases Nat.lt_or_ge i N with h1 | h1
  · obtain ⟨m,e,_⟩:=h.2 i h1
    rw [e];omega
  · rw [List.getD_eq_getElem?_getD,List.getElem?_eq_none (by rw [h.1];exact h1)];exact Int.le_refl 0
theorem NumOf.mono {T T':List (List UInt8)} {text:Nat→List UInt8} {R:List Int} {N:Nat} (h:NumOf T text R N) (hp:T <+: T'):NumOf T' text R N :=
 ⟨h.1,fun i hi=>(h.2 i hi).elim fun m hm=>⟨m,hm.1,prefix_get hp hm.2⟩⟩
theorem NumOf.eq {T:List (List UInt8)} (hT:T.Nodup) {text text':Nat→List UInt8} {R Q:List Int} {N M:Nat} (h:NumOf T text R N) (h':NumOf T text' Q M) {i j:Nat} (hi:i<N) (hj:j<M):R.getD i 0=Q.getD j 0↔text i=text' j:=by
  obtain ⟨m,e1,e2⟩:=h.2 i hi
  obtain ⟨p,e3,e4⟩:=h'.2 j hj
  rw [e1,e3]
  constructor
  · intro e
    rw [show m=p from by omega,e4] at e2
    exact (Option.some.inj e2).symm
  · intro e
    rw [← e] at e4
    have:=nodup_get hT e2 e4
    omega
where nodup_get {T:List (List UInt8)} (hT:T.Nodup) {m p:Nat} {s:List UInt8} (h1:T[m]?=some s) (h2:T[p]?=some s):m=p :=
 (List.getElem?_inj (List.getElem?_eq_some_iff.1 h1).1 hT).1 (h1.trans h2.symm)
def text0 (a:St) (k:Nat) (i:Nat):List UInt8:=(fun xs:List Int=>signT xs xs.length++atomBits a (placed xs xs.length)) (atP a.n.toNat k i)
def textS (a:St) (R:List Int) (k:Nat) (i:Nat):List UInt8:=descP a.n.toNat R (atP a.n.toNat k i) k
theorem text0_eq {a b:St} {xs ys:List Int} (hl:xs.length=ys.length):(signT xs xs.length++atomBits a (placed xs xs.length))=(signT ys ys.length++atomBits b (placed ys ys.length))↔pW 0 a xs b ys:=by
  have sg:signT xs xs.length=signT ys ys.length↔∀ i:Nat,i<xs.length→(xs.getD i 0<0↔ys.getD i 0<0):=by
    rw [← hl]
    have key:∀ k:Nat,signT xs k=signT ys k↔∀ i:Nat,i<k→(xs.getD i 0<0↔ys.getD i 0<0):=fun k=>by
      induction k with
      | zero=>simp [signT]
      | succ k ih =>
        unfold signT
        constructor
        · intro h
          obtain ⟨h1,h2⟩:=List.append_inj h (by simp)
          intro i hi
          rcases Nat.lt_or_ge i k with h3 | h3
          · exact ih.1 h1 i h3
          · rw [show i=k from by omega]
            by_cases e1:xs.getD k 0<0
            · by_cases e2:ys.getD k 0<0
              · exact ⟨fun _=>e2,fun _=>e1⟩
              · rw [if_pos e1,if_neg e2] at h2;exact absurd h2 (by decide)
            · by_cases e2:ys.getD k 0<0
              · rw [if_neg e1,if_pos e2] at h2;exact absurd h2 (by decide)
              · exact ⟨fun h=>absurd h e1,fun h=>absurd h e2⟩
        · intro h
          rw [ih.2 fun i hi=>h i (by omega)]
          have:=h k (by omega)
          by_cases e1:xs.getD k 0<0
          · rw [if_pos e1,if_pos (this.1 e1)]
          · rw [if_neg e1,if_neg (fun e=>e1 (this.2 e))]
    exact key _
  constructor
  · intro h
    obtain ⟨h1,h2⟩:=List.append_inj h (by simp [hl])
    have h3:=sg.1 h1
    refine ⟨h3,?_⟩
    have hp:=placed_len (xs:=xs) (ys:=ys) xs.length fun i hi=>h3 i hi
    rw [← atomBits_same (by rw [hp,hl]),h2];exact beq_self_eq_true _
  · rintro ⟨h1,h2⟩
    have hp:=placed_len (xs:=xs) (ys:=ys) xs.length fun i hi=>h1 i hi
    rw [← atomBits_same (by rw [hp,hl]),beq_iff_eq] at h2
    rw [sg.2 h1,h2]
theorem good_zero {a b:St} {k:Nat} {T:List (List UInt8)} (hT:T.Nodup) {Ra Rb:List Int} (ha:NumOf T (text0 a k) Ra ((a.n.toNat+1) ^ k)) (hb:NumOf T (text0 b k) Rb ((b.n.toNat+1) ^ k)):GoodP 0 k a b Ra Rb:=by
 have key:∀ {c d:St} {R Q:List Int},NumOf T (text0 c k) R ((c.n.toNat+1) ^ k)→NumOf T (text0 d k) Q ((d.n.toNat+1) ^ k)→∀ xs ys,Peb c.n.toNat k xs→Peb d.n.toNat k ys→(numP c.n.toNat R xs=numP d.n.toNat Q ys↔pW 0 c xs d ys):=fun {c d R Q} hc hd xs ys hx hy=>by
  unfold numP
  rw [NumOf.eq hT hc hd (idxP_lt hx) (idxP_lt hy)]
  unfold text0
  rw [at_idx hx,at_idx hy]
  exact text0_eq (hx.1.trans hy.1.symm)
 exact ⟨key ha ha,key ha hb,key hb hb⟩
theorem good_step {n k:Nat} {a b:St} {T:List (List UInt8)} (hT:T.Nodup) {Ra Rb Ra' Rb':List Int} (hR:NonNeg Ra) (hQ:NonNeg Rb) (h:GoodP n k a b Ra Rb) (ha:NumOf T (textS a Ra k) Ra' ((a.n.toNat+1) ^ k)) (hb:NumOf T (textS b Rb k) Rb' ((b.n.toNat+1) ^ k)):GoodP (n+1) k a b Ra' Rb':=by
  have key:∀ {c d:St} {R Q R' Q':List Int},NonNeg R→NonNeg Q→(∀ xs ys,Peb c.n.toNat k xs→Peb d.n.toNat k ys→(numP c.n.toNat R xs=numP d.n.toNat Q ys↔pW n c xs d ys)) →
      NumOf T (textS c R k) R' ((c.n.toNat+1) ^ k)→NumOf T (textS d Q k) Q' ((d.n.toNat+1) ^ k)→∀ xs ys,Peb c.n.toNat k xs→Peb d.n.toNat k ys→(numP c.n.toNat R' xs=numP d.n.toNat Q' ys↔pW (n+1) c xs d ys):=fun {c d R Q R' Q'} nR nQ hg hc hd xs ys hx hy=>by
    show R'.getD _ 0=Q'.getD _ 0↔_
    rw [NumOf.eq hT hc hd (idxP_lt hx) (idxP_lt hy)]
    unfold textS
    rw [at_idx hx,at_idx hy,descP_inj nR nQ,hg xs ys hx hy]
    show _↔pW n c xs d ys∧_
    refine and_congr_right fun _=>?_
    rw [hx.1]
    refine forall_congr' fun i=>imp_congr_right fun hi=>?_
    rw [moves_eq]
    refine and_congr ?_ ?_
    · exact forall_congr' fun x=>imp_congr_right fun hx'=>exists_congr fun y=>and_congr_right fun hy'=>hg _ _ (peb_set hx hx') (peb_set hy hy')
    · exact forall_congr' fun y=>imp_congr_right fun hy'=>exists_congr fun x=>and_congr_right fun hx'=>hg _ _ (peb_set hx hx') (peb_set hy hy')
  exact ⟨key hR hR h.aa ha ha,key hR hQ h.ab ha hb,key hQ hQ h.bb hb hb⟩
end Go.Wk
namespace Go.Wk
open Go.RowKit
theorem idx_take {size:Nat} {xs:List Int} {k:Nat} (hk:k<xs.length) (h : -1≤xs.getD k 0):((idxP size (xs.take (k+1)):Nat):Int)=(((idxP size (xs.take k):Nat):Int)*((size:Int)+1)+xs.getD k 0)+1:=by
 rw [List.take_succ_eq_append_getElem hk,show xs[k]=xs.getD k 0 from (getD_at hk).symm,idxP_snoc,Int.natCast_add,Int.natCast_mul,Int.toNat_of_nonneg (by omega),show ((size+1:Nat):Int)=(size:Int)+1 from by omega]
 omega
theorem peb_take {size k m:Nat} {xs:List Int} (h:Peb size k xs) (hm:m≤k):Peb size m (xs.take m):=⟨by rw [List.length_take,h.1];omega,fun x hx=>h.2 x (List.mem_of_mem_take hx)⟩
theorem peb_at {size k i:Nat} {xs:List Int} (h:Peb size k xs) (hi:i<k) : -1≤xs.getD i 0∧xs.getD i 0<(size:Int):=by
 have hl:=h.1
 rw [getD_at (by omega)];exact h.2 _ (List.getElem_mem _)
theorem pow9 {size k:Nat} (h:size≤8) (hk:k≤3):(size+1) ^ k≤729:=Nat.le_trans (Nat.pow_le_pow_left (show size+1≤9 by omega) k) (Nat.le_trans (Nat.pow_le_pow_right (by decide) hk) (by decide))
theorem idx_small {size k:Nat} {xs:List Int} (h:Peb size k xs) (h8:size≤8) (hk:k≤3):idxP size xs<729:=Nat.lt_of_lt_of_le (idxP_lt h) (pow9 h8 hk)
theorem mul9 {n:Nat} {x:Int} (hn:n≤729) (h0:0≤x) (h9:x≤9):0≤(n:Int)*x∧(n:Int)*x≤6561 :=
 ⟨Int.mul_nonneg (by omega) h0,Int.le_trans (Int.mul_le_mul_of_nonneg_right (show (n:Int)≤729 by omega) h0) (by omega)⟩
theorem pow_cast1 {a:Int} (h:0≤a) {k:Nat}:(((a.toNat+1) ^ (k+1):Nat):Int)=(((a.toNat+1) ^ k:Nat):Int)*(a+1):=by
 rw [Nat.pow_succ,Int.natCast_mul,show (((a.toNat+1:Nat)):Int)=a+1 from by omega]
theorem atP_step {size j N:Nat} (h:0<j):atP size j N=atP size (j - 1) (N / (size+1))++[((N % (size+1):Nat):Int) - 1]:=by
 obtain ⟨i,rfl⟩:∃ i,j=i+1:=⟨j - 1,by omega⟩
 rfl
theorem row_full {T:List Int} {k:Nat} (h:T.length=k):((ints (List.replicate 0 0++T)).toArray).toList.take (k*1)=ints T:=by
 show (ints T).take (k*1)=ints T
 exact List.take_of_length_le (by rw [ints_length];omega)
theorem row_full_size {T:List Int} {k:Nat} (h:T.length=k):((ints (List.replicate 0 0++T)).toArray).size=k*1:=by
 show (ints T).length=_
 rw [ints_length];omega
end Go.Wk
namespace Go.Wk
open Go.RowKit
def NumTo (T:List (List UInt8)) (text:Nat→List UInt8) (R:List Int) (N k:Nat):Prop:=R.length=N∧∀ i:Nat,i<k→∃ m:Nat,R.getD i 0=(m:Int)∧T[m]?=some (text i)
theorem NumTo.zero (T:List (List UInt8)) (text:Nat→List UInt8) (N:Nat):NumTo T text (List.replicate N 0) N 0:=⟨by simp,fun i hi=>absurd hi (by omega)⟩
theorem NumTo.step {T T':List (List UInt8)} {text:Nat→List UInt8} {R:List Int} {N k m:Nat} (h:NumTo T text R N k) (hp:T <+: T') (hm:T'[m]?=some (text k)) (hk:k<N):NumTo T' text (R.set k (m:Int)) N (k+1):=by
  refine ⟨by rw [List.length_set];exact h.1,fun i hi=>?_⟩
  by_cases e:i=k
  · subst e
    exact ⟨m,by rw [List.getD_eq_getElem?_getD,List.getElem?_set_self (by rw [h.1];exact hk)];rfl,hm⟩
  · obtain ⟨p,h1,h2⟩:=h.2 i (by omega)
    exact ⟨p,by rw [List.getD_eq_getElem?_getD,List.getElem?_set_ne (fun e'=>e e'.symm),← List.getD_eq_getElem?_getD];exact h1,prefix_get hp h2⟩
theorem NumTo.all {T:List (List UInt8)} {text:Nat→List UInt8} {R:List Int} {N:Nat} (h:NumTo T text R N N):NumOf T text R N:=h
theorem peb_pebbles {a:St} (hv:validB a=true) {k:Nat} (h1:1≤k) (h3:k≤3) (n:Nat):Pebbles a (atP a.n.toNat k n):=by
 have ha:=validB_fine hv
 refine ⟨hv,ha,fun x hx=>?_,by rw [atP_len];exact h1,by rw [atP_len];exact h3⟩
 have:=((atP_peb a.n.toNat k n).2 x hx).2
 have:=ha.lo
 omega
theorem num_at {size k n:Nat} {R:List Int} (h:n<(size+1) ^ k):numP size R (atP size k n)=R.getD n 0:=by unfold numP;rw [idx_at _ _ _ h]
theorem descM_len {size:Nat} {R xs:List Int} (h8:size≤8) (hR:∀ i:Nat,0≤R.getD i 0∧R.getD i 0<1000000):∀ i:Nat,(descM size R xs i).length≤105*i
 | 0=>Nat.le_refl _
 | i+1=>by
  have ih:=descM_len (xs:=xs) h8 hR i
  have h1:=moves_le size R xs i size
  have h2:=commas_len (L:=movesTo size R xs i size) fun m hm=>by
   obtain ⟨x,_,rfl⟩:=moves_mem.1 hm
   have:=hR (idxP size (xs.set i (x:Int)))
   unfold numP;omega
  simp only [descM,List.length_append,List.length_cons,List.length_nil]
  omega
theorem moves_small {size:Nat} {R xs:List Int} {i m:Nat} (hR:∀ i:Nat,0≤R.getD i 0∧R.getD i 0<1000000):∀ z∈movesTo size R xs i m,0≤z∧z<1000000000000:=fun z hz=>by
 obtain ⟨x,_,rfl⟩:=moves_mem.1 hz
 have:=hR (idxP size (xs.set i (x:Int)))
 unfold numP;omega
end Go.Wk
namespace Go.Wk
open Go.RowKit
def Onto (T0 T:List (List UInt8)) (R:List Int) (k:Nat):Prop:=∀ m:Nat,T0.length≤m→m<T.length→∃ i:Nat,i<k∧R.getD i 0=(m:Int)
theorem Onto.zero (T:List (List UInt8)) (R:List Int):Onto T T R 0:=fun m h1 h2=>absurd h1 (by omega)
theorem Onto.step {T0 T T':List (List UInt8)} {R:List Int} {k m:Nat} {s:List UInt8} (h:Onto T0 T R k) (hd:T'=T∨T'=T++[s]∧m=T.length) (hk:k<R.length):Onto T0 T' (R.set k (m:Int)) (k+1):=fun p h1 h2=>by
  have old:∀ i:Nat,i<k→(R.set k (m:Int)).getD i 0=R.getD i 0:=fun i hi=>by
    rw [List.getD_eq_getElem?_getD,List.getElem?_set_ne (by omega),← List.getD_eq_getElem?_getD]
  have new:(R.set k (m:Int)).getD k 0=(m:Int):=by rw [List.getD_eq_getElem?_getD,List.getElem?_set_self hk];rfl
  rcases hd with e | ⟨e,e2⟩
  · subst e
    obtain ⟨i,hi,h3⟩:=h p h1 h2
    exact ⟨i,by omega,(old i hi).trans h3⟩
  · rw [e,List.length_append,List.length_singleton] at h2
    rcases Nat.lt_or_ge p T.length with h4 | h4
    · obtain ⟨i,hi,h3⟩:=h p h1 h4
      exact ⟨i,by omega,(old i hi).trans h3⟩
    · exact ⟨k,by omega,by rw [new,e2,show p=T.length from by omega]⟩
structure LevP (n k:Nat) (a b:St) (Ra Rb:List Int) (K:Nat):Prop where
 good:GoodP n k a b Ra Rb
 la:Ra.length=(a.n.toNat+1) ^ k
 lb:Rb.length=(b.n.toNat+1) ^ k
 sa:∀ i:Nat,i<Ra.length→0≤Ra.getD i 0∧Ra.getD i 0<(K:Int)
 sb:∀ i:Nat,i<Rb.length→0≤Rb.getD i 0∧Rb.getD i 0<(K:Int)
 onto:∀ m:Nat,m<K→(∃ i:Nat,i<Ra.length∧Ra.getD i 0=(m:Int))∨∃ i:Nat,i<Rb.length∧Rb.getD i 0=(m:Int)
theorem num_small {T:List (List UInt8)} {text:Nat→List UInt8} {R:List Int} {N:Nat} (h:NumOf T text R N) {i:Nat} (hi:i<R.length):0≤R.getD i 0∧R.getD i 0<(T.length:Int):=by
 obtain ⟨m,e,h2⟩:=h.2 i (by rw [← h.1];exact hi)
 have:=(List.getElem?_eq_some_iff.1 h2).1
 rw [e];omega
theorem lev_of {n k:Nat} {a b:St} {ta tb:Nat→List UInt8} {T1 T2:List (List UInt8)} {Ra Rb:List Int} (hp:T1 <+: T2) (ha:NumOf T1 ta Ra ((a.n.toNat+1) ^ k)) (hb:NumOf T2 tb Rb ((b.n.toNat+1) ^ k)) (oa:Onto [] T1 Ra ((a.n.toNat+1) ^ k)) (ob:Onto T1 T2 Rb ((b.n.toNat+1) ^ k)) (hg:GoodP n k a b Ra Rb):LevP n k a b Ra Rb T2.length:=by
  refine ⟨hg,ha.1,hb.1,fun i hi=>num_small (ha.mono hp) hi,fun i hi=>num_small hb hi,fun m hm=>?_⟩
  rcases Nat.lt_or_ge m T1.length with h1 | h1
  · obtain ⟨i,h2,h3⟩:=oa m (Nat.zero_le _) h1
    exact .inl ⟨i,by rw [ha.1];exact h2,h3⟩
  · obtain ⟨i,h2,h3⟩:=ob m h1 hm
    exact .inr ⟨i,by rw [hb.1];exact h2,h3⟩
theorem lev_zero {k:Nat} {a b:St} {T1 T2:List (List UInt8)} {Ra Rb:List Int} (hT:T2.Nodup) (hp:T1 <+: T2) (ha:NumOf T1 (text0 a k) Ra ((a.n.toNat+1) ^ k)) (hb:NumOf T2 (text0 b k) Rb ((b.n.toNat+1) ^ k)) (oa:Onto [] T1 Ra ((a.n.toNat+1) ^ k)) (ob:Onto T1 T2 Rb ((b.n.toNat+1) ^ k)):LevP 0 k a b Ra Rb T2.length :=
 lev_of hp ha hb oa ob (good_zero hT (ha.mono hp) hb)
theorem LevP.na {n k:Nat} {a b:St} {Ra Rb:List Int} {K:Nat} (h:LevP n k a b Ra Rb K):NonNeg Ra:=fun i=>by
  rcases Nat.lt_or_ge i Ra.length with h1 | h1
  · exact (h.sa i h1).1
  · rw [List.getD_eq_getElem?_getD,List.getElem?_eq_none h1];exact Int.le_refl 0
theorem LevP.nb {n k:Nat} {a b:St} {Ra Rb:List Int} {K:Nat} (h:LevP n k a b Ra Rb K):NonNeg Rb:=fun i=>by
  rcases Nat.lt_or_ge i Rb.length with h1 | h1
  · exact (h.sb i h1).1
  · rw [List.getD_eq_getElem?_getD,List.getElem?_eq_none h1];exact Int.le_refl 0
theorem LevP.ma {n k:Nat} {a b:St} {Ra Rb:List Int} {K:Nat} (h:LevP n k a b Ra Rb K) (hK:K≤1000000):∀ i:Nat,0≤Ra.getD i 0∧Ra.getD i 0<1000000:=fun i=>by
  rcases Nat.lt_or_ge i Ra.length with h1 | h1
  · have:=h.sa i h1;omega
  · rw [List.getD_eq_getElem?_getD,List.getElem?_eq_none h1];exact ⟨Int.le_refl 0,by decide⟩
theorem LevP.mb {n k:Nat} {a b:St} {Ra Rb:List Int} {K:Nat} (h:LevP n k a b Ra Rb K) (hK:K≤1000000):∀ i:Nat,0≤Rb.getD i 0∧Rb.getD i 0<1000000:=fun i=>by
  rcases Nat.lt_or_ge i Rb.length with h1 | h1
  · have:=h.sb i h1;omega
  · rw [List.getD_eq_getElem?_getD,List.getElem?_eq_none h1];exact ⟨Int.le_refl 0,by decide⟩
theorem lev_step {n k K:Nat} {a b:St} {T1 T2:List (List UInt8)} {Ra Rb Ra' Rb':List Int} (h:LevP n k a b Ra Rb K) (hT:T2.Nodup) (hp:T1 <+: T2) (ha:NumOf T1 (textS a Ra k) Ra' ((a.n.toNat+1) ^ k)) (hb:NumOf T2 (textS b Rb k) Rb' ((b.n.toNat+1) ^ k)) (oa:Onto [] T1 Ra' ((a.n.toNat+1) ^ k)) (ob:Onto T1 T2 Rb' ((b.n.toNat+1) ^ k)):LevP (n+1) k a b Ra' Rb' T2.length :=
 lev_of hp ha hb oa ob (good_step hT h.na h.nb h.good (ha.mono hp) hb)
def sS (a b:St) (s:Bool×List Int):St:=if s.1 then b else a
def sV (a b:St) (Ra Rb:List Int) (s:Bool×List Int):Int:=numP (sS a b s).n.toNat (if s.1 then Rb else Ra) s.2
def sP (a b:St) (k:Nat) (s:Bool×List Int):Prop:=Peb (sS a b s).n.toNat k s.2
theorem sV_iff {n k:Nat} {a b:St} {Ra Rb:List Int} (h:GoodP n k a b Ra Rb) {s t:Bool×List Int} (hs:sP a b k s) (ht:sP a b k t):sV a b Ra Rb s=sV a b Ra Rb t↔pW n (sS a b s) s.2 (sS a b t) t.2:=by
  obtain ⟨u,xs⟩:=s
  obtain ⟨v,ys⟩:=t
  cases u <;> cases v
  · exact h.aa xs ys hs ht
  · exact h.ab xs ys hs ht
  · have hl:xs.length=ys.length:=hs.1.trans ht.1.symm
    exact ⟨fun e=>pW_comm _ _ _ _ _ hl.symm ((h.ab ys xs ht hs).1 e.symm),fun e=>((h.ab ys xs ht hs).2 (pW_comm _ _ _ _ _ hl e)).symm⟩
  · exact h.bb xs ys hs ht
theorem lev_rep {n k K:Nat} {a b:St} {Ra Rb:List Int} (h:LevP n k a b Ra Rb K) {m:Nat} (hm:m<K):∃ s,sP a b k s∧sV a b Ra Rb s=(m:Int):=by
  rcases h.onto m hm with ⟨i,h1,h2⟩ | ⟨i,h1,h2⟩
  · refine ⟨(false,atP a.n.toNat k i),atP_peb _ _ _,?_⟩
    show numP a.n.toNat Ra (atP a.n.toNat k i)=_
    rw [num_at (by rw [← h.la];exact h1)];exact h2
  · refine ⟨(true,atP b.n.toNat k i),atP_peb _ _ _,?_⟩
    show numP b.n.toNat Rb (atP b.n.toNat k i)=_
    rw [num_at (by rw [← h.lb];exact h1)];exact h2
theorem lev_sV {n k K:Nat} {a b:St} {Ra Rb:List Int} (h:LevP n k a b Ra Rb K) {s:Bool×List Int} (hs:sP a b k s):0≤sV a b Ra Rb s∧sV a b Ra Rb s<(K:Int):=by
  obtain ⟨u,xs⟩:=s
  cases u
  · exact h.sa _ (by rw [h.la];exact idxP_lt hs)
  · exact h.sb _ (by rw [h.lb];exact idxP_lt hs)
theorem lev_reps {n k K:Nat} {a b:St} {Ra Rb:List Int} (h:LevP n k a b Ra Rb K):∀ m:Nat,m≤K→∃ L:List (Bool×List Int),L.length=m∧(∀ s∈L,sP a b k s)∧L.map (sV a b Ra Rb)=(List.range m).map fun i:Nat=>(i:Int)
  | 0,_=>⟨[],rfl,(fun s h=>by cases h),rfl⟩
  | m+1,hm=>by
    obtain ⟨L,h1,h2,h3⟩:=lev_reps h m (by omega)
    obtain ⟨s,h4,h5⟩:=lev_rep h (m:=m) (by omega)
    refine ⟨L++[s],by simp [h1],fun t ht=>?_,by rw [List.map_append,h3,List.range_succ,List.map_append];simp [h5]⟩
    rcases List.mem_append.1 ht with h | h
    · exact h2 t h
    · rw [List.mem_singleton.1 h];exact h4
theorem lev_fine {n k K K':Nat} {a b:St} {Ra Rb Ra' Rb':List Int} (h:LevP n k a b Ra Rb K) (h':LevP (n+1) k a b Ra' Rb' K') {s t:Bool×List Int} (hs:sP a b k s) (ht:sP a b k t) (e:sV a b Ra' Rb' s=sV a b Ra' Rb' t):sV a b Ra Rb s=sV a b Ra Rb t :=
 (sV_iff h.good hs ht).2 ((sV_iff h'.good hs ht).1 e).1
theorem reps_nodup' {n k K K':Nat} {a b:St} {Ra Rb Ra' Rb':List Int} (h:LevP n k a b Ra Rb K) (h':LevP (n+1) k a b Ra' Rb' K') {L:List (Bool×List Int)} {m:Nat} (h2:∀ s∈L,sP a b k s) (h3:L.map (sV a b Ra Rb)=(List.range m).map fun i:Nat=>(i:Int)):(L.map (sV a b Ra' Rb')).Nodup:=by
 have hn:(L.map (sV a b Ra Rb)).Nodup:=by
  rw [h3];exact nodup_map_inj (fun x _ y _ e=>Int.ofNat.inj e) List.nodup_range
 clear h3
 induction L with
 | nil=>exact List.nodup_nil
 | cons s L ih =>
  rw [List.map_cons,List.nodup_cons] at hn ⊢
  refine ⟨fun hm=>hn.1 ?_,ih (fun t ht=>h2 t (List.mem_cons_of_mem _ ht)) hn.2⟩
  obtain ⟨t,ht,e⟩:=List.mem_map.1 hm
  exact List.mem_map.2 ⟨t,ht,lev_fine h h' (h2 t (List.mem_cons_of_mem _ ht)) (h2 s List.mem_cons_self) e⟩
theorem lev_le {n k K K':Nat} {a b:St} {Ra Rb Ra' Rb':List Int} (h:LevP n k a b Ra Rb K) (h':LevP (n+1) k a b Ra' Rb' K'):K≤K':=by
 obtain ⟨L,h1,h2,h3⟩:=lev_reps h K (Nat.le_refl _)
 have:=nodup_le K' (L.map (sV a b Ra' Rb')) (reps_nodup' h h' h2 h3) fun x hx=>by
  obtain ⟨s,hs,rfl⟩:=List.mem_map.1 hx
  exact lev_sV h' (h2 s hs)
 rw [List.length_map,h1] at this
 exact this
theorem lev_still {n k K:Nat} {a b:St} {Ra Rb Ra' Rb':List Int} (h:LevP n k a b Ra Rb K) (h':LevP (n+1) k a b Ra' Rb' K) {s t:Bool×List Int} (hs:sP a b k s) (ht:sP a b k t) (e:sV a b Ra Rb s=sV a b Ra Rb t):sV a b Ra' Rb' s=sV a b Ra' Rb' t:=by
  obtain ⟨L,h1,h2,h3⟩:=lev_reps h K (Nat.le_refl _)
  have hn:=reps_nodup' h h' h2 h3
  obtain ⟨hz,hK⟩:=lev_sV h hs
  obtain ⟨r,hr,er⟩:∃ r∈L,sV a b Ra Rb r=sV a b Ra Rb s:=by
    have hm:sV a b Ra Rb s∈L.map (sV a b Ra Rb):=by
      rw [h3];exact List.mem_map.2 ⟨(sV a b Ra Rb s).toNat,List.mem_range.2 (by omega),by omega⟩
    exact List.mem_map.1 hm
  have key:∀ u,sP a b k u→sV a b Ra Rb u=sV a b Ra Rb s→sV a b Ra' Rb' u=sV a b Ra' Rb' r:=fun u hu eu=>by
    by_cases hc:sV a b Ra' Rb' u∈L.map (sV a b Ra' Rb')
    · obtain ⟨v,hv,ev⟩:=List.mem_map.1 hc
      have e1:=lev_fine h h' (h2 v hv) hu ev
      have e2:sV a b Ra Rb v=sV a b Ra Rb r:=e1.trans (eu.trans er.symm)
      have inj:∀ {L:List (Bool×List Int)},(L.map (sV a b Ra Rb)).Nodup→∀ v∈L,∀ r∈L,sV a b Ra Rb v=sV a b Ra Rb r→v=r:=fun {L} hL=>by
        induction L with
        | nil=>intro v hv;cases hv
        | cons x L ih =>
          rw [List.map_cons,List.nodup_cons] at hL
          intro v hv r hr e
          rcases List.mem_cons.1 hv with e1 | hv'
          · rcases List.mem_cons.1 hr with e2 | hr'
            · rw [e1,e2]
            · exact absurd (List.mem_map.2 ⟨r,hr',by rw [← e,e1]⟩) hL.1
          · rcases List.mem_cons.1 hr with e2 | hr'
            · exact absurd (List.mem_map.2 ⟨v,hv',by rw [e,e2]⟩) hL.1
            · exact ih hL.2 v hv' r hr' e
      have hn2:(L.map (sV a b Ra Rb)).Nodup:=by
        rw [h3];exact nodup_map_inj (fun x _ y _ e=>Int.ofNat.inj e) List.nodup_range
      rw [← inj hn2 v hv r hr e2];exact ev.symm
    · exfalso
      have:=nodup_le K (sV a b Ra' Rb' u::L.map (sV a b Ra' Rb')) (List.nodup_cons.2 ⟨hc,hn⟩) fun x hx=>by
        rcases List.mem_cons.1 hx with rfl | hx
        · exact lev_sV h' hu
        · obtain ⟨s,hs,rfl⟩:=List.mem_map.1 hx
          exact lev_sV h' (h2 s hs)
      rw [List.length_cons,List.length_map,h1] at this
      omega
  exact (key s hs rfl).trans (key t ht e.symm).symm
def pF (a:St) (xs:List Int) (b:St) (ys:List Int):Prop:=∀ n,pW n a xs b ys
def Still (n k:Nat) (a b:St):Prop:=∀ s t,sP a b k s→sP a b k t→pW n (sS a b s) s.2 (sS a b t) t.2→pW (n+1) (sS a b s) s.2 (sS a b t) t.2
theorem still_of {n k K:Nat} {a b:St} {Ra Rb Ra' Rb':List Int} (h:LevP n k a b Ra Rb K) (h':LevP (n+1) k a b Ra' Rb' K):Still n k a b:=fun _ _ hs ht e =>
 (sV_iff h'.good hs ht).1 (lev_still h h' hs ht ((sV_iff h.good hs ht).2 e))
theorem Still.next {n k:Nat} {a b:St} (h:Still n k a b):Still (n+1) k a b:=fun s t hs ht e=>by
  refine ⟨e,fun i hi=>?_⟩
  obtain ⟨h1,h2⟩:=e.2 i hi
  have put:∀ {u:Bool×List Int} {x:Nat},sP a b k u→x<(sS a b u).n.toNat→sP a b k (u.1,u.2.set i (x:Int)):=fun hu hx=>peb_set hu hx
  refine ⟨fun x hx=>?_,fun y hy=>?_⟩
  · obtain ⟨y,hy,e2⟩:=h1 x hx
    exact ⟨y,hy,h (s.1,s.2.set i (x:Int)) (t.1,t.2.set i (y:Int)) (put hs hx) (put ht hy) e2⟩
  · obtain ⟨x,hx,e2⟩:=h2 y hy
    exact ⟨x,hx,h (s.1,s.2.set i (x:Int)) (t.1,t.2.set i (y:Int)) (put hs hx) (put ht hy) e2⟩
theorem Still.all {n k:Nat} {a b:St} (h:Still n k a b):∀ m:Nat,Still (n+m) k a b
 | 0=>h
 | m+1=>(h.all m).next
theorem pW_less:∀ {n:Nat} {a:St} {xs:List Int} {b:St} {ys:List Int},∀ m:Nat,pW (n+m) a xs b ys→pW n a xs b ys
 | _,_,_,_,_,0,h=>h
 | _,_,_,_,_,m+1,h=>pW_less m (show pW (_+m) _ _ _ _ from h.1)
theorem Still.up {n k:Nat} {a b:St} (h:Still n k a b) {s t:Bool×List Int} (hs:sP a b k s) (ht:sP a b k t) (e:pW n (sS a b s) s.2 (sS a b t) t.2):∀ m:Nat,pW (n+m) (sS a b s) s.2 (sS a b t) t.2
 | 0=>e
 | m+1=>h.all m s t hs ht (h.up hs ht e m)
theorem Still.forever {n k:Nat} {a b:St} (h:Still n k a b) {xs ys:List Int} (hx:Peb a.n.toNat k xs) (hy:Peb b.n.toNat k ys):pW n a xs b ys↔pF a xs b ys:=by
 refine ⟨fun e m=>?_,fun e=>e n⟩
 have hh:=h.up (s:=(false,xs)) (t:=(true,ys)) hx hy e m
 rw [Nat.add_comm] at hh
 exact pW_less n hh
def kindsP (L:List Int):Int:=L.foldl (fun n x=>max n (x+1)) 0
theorem kinds_take {L:List Int} {k:Nat} (h:k<L.length):kindsP (L.take (k+1))=max (kindsP (L.take k)) (L.getD k 0+1):=by
 unfold kindsP
 rw [List.take_succ_eq_append_getElem h,List.foldl_append,getD_at h];rfl
theorem kinds_ge {L:List Int} {K:Int} (h:∀ x∈L,x<K) (h0:0≤K):kindsP L≤K∧(∀ x∈L,x<kindsP L):=by
  have key:∀ (L:List Int) (c:Int),c≤K→(∀ x∈L,x<K)→L.foldl (fun n x=>max n (x+1)) c≤K∧c≤L.foldl (fun n x=>max n (x+1)) c∧∀ x∈L,x<L.foldl (fun n x=>max n (x+1)) c:=fun L=>by
    induction L with
    | nil=>intro c hc _;exact ⟨hc,Int.le_refl _,fun x hx=>by cases hx⟩
    | cons y L ih =>
      intro c hc hL
      have hy:=hL y List.mem_cons_self
      obtain ⟨h1,h2,h3⟩:=ih (max c (y+1)) (by omega) fun x hx=>hL x (List.mem_cons_of_mem _ hx)
      rw [List.foldl_cons]
      refine ⟨h1,by omega,fun x hx=>?_⟩
      rcases List.mem_cons.1 hx with rfl | hx
      · omega
      · exact h3 x hx
  obtain ⟨h1,_,h3⟩:=key L 0 h0 h
  exact ⟨h1,h3⟩
theorem kinds_lev {n k K:Nat} {a b:St} {Ra Rb:List Int} (h:LevP n k a b Ra Rb K):kindsP (Ra++Rb)=(K:Int):=by
  have hs:∀ x∈Ra++Rb,x<(K:Int):=fun x hx=>by
    rcases List.mem_append.1 hx with hx | hx
    · obtain ⟨i,hi,rfl⟩:=List.mem_iff_getElem.1 hx
      have:=(h.sa i hi).2
      rwa [getD_at hi] at this
    · obtain ⟨i,hi,rfl⟩:=List.mem_iff_getElem.1 hx
      have:=(h.sb i hi).2
      rwa [getD_at hi] at this
  obtain ⟨h1,h2⟩:=kinds_ge hs (by omega)
  cases K with
  | zero =>
    have hlt:0<Ra.length:=by rw [h.la];exact Nat.pow_pos (by omega)
    have:=h.sa 0 hlt
    omega
  | succ K =>
    have:((K:Nat):Int)∈Ra++Rb:=by
      rcases h.onto K (by omega) with ⟨i,hi,e⟩ | ⟨i,hi,e⟩
      · rw [← e,getD_at hi];exact List.mem_append_left _ (List.getElem_mem _)
      · rw [← e,getD_at hi];exact List.mem_append_right _ (List.getElem_mem _)
    have:=h2 _ this
    omega
end Go.Wk
namespace Go.Wk
open Go.RowKit
structure Levs (k M:Nat) (a b:St) (A B:List (List Int)) (m g:Nat):Prop where
 la:A.length=m+1
 lb:B.length=m+1
 lev:∃ Ks:Nat→Nat,(∀ i:Nat,i≤m→Ks i≤1458∧LevP i k a b (A.getD i []) (B.getD i []) (Ks i))∧(4<M→∀ i:Nat,i<g→Ks i<Ks (i+1))
theorem Levs.at {k M m g:Nat} {a b:St} {A B:List (List Int)} (h:Levs k M a b A B m g) {i:Nat} (hi:i≤m):∃ K,K≤1458∧LevP i k a b (A.getD i []) (B.getD i []) K:=by
 obtain ⟨_,_,Ks,h1,_⟩:=h
 exact ⟨Ks i,h1 i hi⟩
open Classical in
noncomputable def pWinB (M:Nat) (a:St) (xs:List Int) (b:St) (ys:List Int):Bool:=if M≤4 then decide (pW M a xs b ys) else decide (pF a xs b ys)
end Go.Wk
namespace Go.Wk
open Go.RowKit
theorem RowsOk.cell {rr:List RR} {u:Array Value} {c i:Nat} (h:RowsOk rr u c) (hi:i<rr.length):u.toList[i]?=some (rv (rr.getD i rd)):=by
 have:=rvs_at hi
 rw [← h.vals,List.getElem?_take,if_pos hi] at this
 exact this
end Go.Wk
namespace Go.Wk
open Go.RowKit
end Go.Wk
namespace Go.Wk
open Go.RowKit
theorem LevP.sm {n k K:Nat} {a b:St} {Ra Rb:List Int} (h:LevP n k a b Ra Rb K) (hK:K≤1000000):∀ i:Nat,i<(Ra++Rb).length→0≤(Ra++Rb).getD i 0∧(Ra++Rb).getD i 0<1000000:=fun i hi=>by
  rw [List.getD_eq_getElem?_getD]
  rcases Nat.lt_or_ge i Ra.length with h1 | h1
  · rw [List.getElem?_append_left h1,← List.getD_eq_getElem?_getD];exact h.ma hK i
  · rw [List.getElem?_append_right h1,← List.getD_eq_getElem?_getD];exact h.mb hK _
end Go.Wk
namespace Go.Wk
open Go.RowKit
theorem ready_peb {a b:St} {xs ys:List Int} (h:readyB a xs b ys=true):validB a=true∧validB b=true∧1≤xs.length∧xs.length≤3∧xs.length=ys.length∧Peb a.n.toNat xs.length xs∧Peb b.n.toNat xs.length ys:=by
  obtain ⟨Pa,Pb,hl,_⟩:=readyB_true h
  unfold readyB at h
  simp only [Bool.and_eq_true,decide_eq_true_eq] at h
  have ea:=peb_el h.1.1.1
  have eb:=peb_el h.1.1.2
  have la:=Pa.fine.lo
  have lb:=Pb.fine.lo
  refine ⟨Pa.valid,Pb.valid,Pa.lo,Pa.hi,hl,⟨rfl,fun x hx=>?_⟩,⟨hl.symm,fun x hx=>?_⟩⟩
  · have:=ea x hx;have:=Pa.top x hx;omega
  · have:=eb x hx;have:=Pb.top x hx;omega
noncomputable def pebWinB (a:St) (xs:List Int) (b:St) (ys:List Int) (t:Int):Bool:=readyB a xs b ys&&inB t 0 4&&pWinB t.toNat a xs b ys
end Go.Wk
namespace Go.Wk
open Go.RowKit
def dig (pr s i:Nat):Nat:=s / pr ^ i % pr
def zer (pr s i:Nat):Nat:=s - pr ^ i*dig pr s i
theorem dig_lt {pr s i:Nat} (h:0<pr):dig pr s i<pr:=Nat.mod_lt _ h
theorem dig_first {pr s c:Nat} (hc:c<pr):dig pr (s*pr+c) 0=c:=by
 unfold dig
 rw [Nat.pow_zero,Nat.div_one,Nat.add_comm,Nat.add_mul_mod_self_right,Nat.mod_eq_of_lt hc]
theorem dig_next {pr s c i:Nat} (hc:c<pr):dig pr (s*pr+c) (i+1)=dig pr s i:=by
 unfold dig
 rw [Nat.pow_succ',← Nat.div_div_eq_div_mul,Nat.add_comm (s*pr),Nat.add_mul_div_right _ _ (by omega),Nat.div_eq_of_lt hc,Nat.zero_add]
theorem dig_le {pr s i:Nat}:pr ^ i*dig pr s i≤s:=by
 unfold dig
 exact Nat.le_trans (Nat.mul_le_mul_left _ (Nat.mod_le _ _)) (Nat.mul_div_le _ _)
theorem zer_add {pr s i:Nat}:zer pr s i+pr ^ i*dig pr s i=s:=by
 have:=dig_le (pr:=pr) (s:=s) (i:=i)
 unfold zer;omega
theorem dig_cut (pr s i:Nat):s=(s / pr ^ (i+1))*pr ^ (i+1)+pr ^ i*dig pr s i+s % pr ^ i:=by
 have h1:=Nat.div_add_mod s (pr ^ i)
 have h2:=Nat.div_add_mod (s / pr ^ i) pr
 rw [Nat.div_div_eq_div_mul,← Nat.pow_succ] at h2
 have h3:pr ^ i*(s / pr ^ i)=pr ^ i*(pr*(s / pr ^ (i+1))+s / pr ^ i % pr):=by rw [h2]
 rw [Nat.mul_add,← Nat.mul_assoc,← Nat.pow_succ,Nat.mul_comm (pr ^ (i+1))] at h3
 unfold dig
 omega
theorem dig_of_cut {pr h q l i:Nat} (hq:q<pr) (hl:l<pr ^ i):dig pr (h*pr ^ (i+1)+pr ^ i*q+l) i=q:=by
 have hp:0<pr ^ i:=by omega
 unfold dig
 have e:h*pr ^ (i+1)+pr ^ i*q+l=l+pr ^ i*(h*pr+q):=by
  rw [Nat.mul_add,Nat.pow_succ,show pr ^ i*(h*pr)=h*(pr ^ i*pr) from by rw [Nat.mul_left_comm]];omega
 rw [e,Nat.add_mul_div_left _ _ hp,Nat.div_eq_of_lt hl,Nat.zero_add,Nat.add_comm,Nat.add_mul_mod_self_right,Nat.mod_eq_of_lt hq]
theorem dig_below {pr h q l i j:Nat} (hj:j<i):dig pr (h*pr ^ (i+1)+pr ^ i*q+l) j=dig pr l j:=by
 have key:∀ s,dig pr s j=s % pr ^ (j+1) / pr ^ j:=fun s=>by
  unfold dig
  rw [Nat.pow_succ,Nat.mod_mul_right_div_self]
 have e:h*pr ^ (i+1)+pr ^ i*q+l=l+pr ^ (j+1)*(pr ^ (i - j - 1)*(h*pr+q)):=by
  rw [← Nat.mul_assoc,← Nat.pow_add,show j+1+(i - j - 1)=i from by omega,Nat.mul_add,Nat.pow_succ,show pr ^ i*(h*pr)=h*(pr ^ i*pr) from by rw [Nat.mul_left_comm]];omega
 rw [key,key,e,Nat.add_mul_mod_self_left]
theorem cut_hi {pr h q l i:Nat} (hq:q<pr) (hl:l<pr ^ i):(h*pr ^ (i+1)+pr ^ i*q+l) / pr ^ (i+1)=h:=by
 have hp:0<pr ^ (i+1):=Nat.pow_pos (by omega)
 have hs:pr ^ i*q+l<pr ^ (i+1):=by
  have:pr ^ i*(q+1)≤pr ^ i*pr:=Nat.mul_le_mul_left _ hq
  rw [Nat.mul_add,Nat.mul_one] at this
  rw [Nat.pow_succ];omega
 rw [Nat.add_assoc,Nat.add_comm,Nat.add_mul_div_right _ _ hp,Nat.div_eq_of_lt hs,Nat.zero_add]
theorem dig_above {pr h q l i j:Nat} (hq:q<pr) (hl:l<pr ^ i) (hj:i<j):dig pr (h*pr ^ (i+1)+pr ^ i*q+l) j=dig pr h (j - (i+1)):=by
 obtain ⟨m,rfl⟩:∃ m,j=i+1+m:=⟨j - (i+1),by omega⟩
 unfold dig
 rw [show i+1+m - (i+1)=m from by omega,Nat.pow_add pr (i+1) m,← Nat.div_div_eq_div_mul,cut_hi hq hl]
theorem dig_put {pr s i q:Nat} (hp:0<pr) (h0:dig pr s i=0) (hq:q<pr):dig pr (s+pr ^ i*q) i=q∧∀ j,j ≠ i→dig pr (s+pr ^ i*q) j=dig pr s j:=by
  have hl:s % pr ^ i<pr ^ i:=Nat.mod_lt _ (Nat.pow_pos hp)
  have e:=dig_cut pr s i
  rw [h0,Nat.mul_zero,Nat.add_zero] at e
  have e2:s+pr ^ i*q=(s / pr ^ (i+1))*pr ^ (i+1)+pr ^ i*q+s % pr ^ i:=by omega
  have e0:s=(s / pr ^ (i+1))*pr ^ (i+1)+pr ^ i*0+s % pr ^ i:=by omega
  refine ⟨by rw [e2,dig_of_cut hq hl],fun j hj=>?_⟩
  rcases Nat.lt_or_ge j i with h1 | h1
  · rw [e2,dig_below h1]
    conv=>rhs;rw [e0,dig_below h1]
  · rw [e2,dig_above hq hl (by omega)]
    conv=>rhs;rw [e0,dig_above hp hl (by omega)]
theorem put_lt {pr s i q k:Nat} (hp:0<pr) (h0:dig pr s i=0) (hq:q<pr) (hi:i<k) (hs:s<pr ^ k):s+pr ^ i*q<pr ^ k:=by
 have hl:s % pr ^ i<pr ^ i:=Nat.mod_lt _ (Nat.pow_pos hp)
 have e:=dig_cut pr s i
 rw [h0,Nat.mul_zero,Nat.add_zero] at e
 have hh:s / pr ^ (i+1)<pr ^ (k - (i+1)):=Nat.div_lt_of_lt_mul (by rw [← Nat.pow_add,show i+1+(k - (i+1))=k from by omega];exact hs)
 have h1:(s / pr ^ (i+1)+1)*pr ^ (i+1)≤pr ^ (k - (i+1))*pr ^ (i+1):=Nat.mul_le_mul_right _ hh
 rw [← Nat.pow_add,show k - (i+1)+(i+1)=k from by omega,Nat.add_mul,Nat.one_mul] at h1
 have h2:pr ^ i*(q+1)≤pr ^ i*pr:=Nat.mul_le_mul_left _ hq
 rw [Nat.mul_add,Nat.mul_one,← Nat.pow_succ] at h2
 have h3:pr ^ i.succ=pr ^ (i+1):=rfl
 omega
theorem dig_zer {pr s i:Nat} (hp:0<pr):dig pr (zer pr s i) i=0∧∀ j,j ≠ i→dig pr (zer pr s i) j=dig pr s j:=by
 have hl:s % pr ^ i<pr ^ i:=Nat.mod_lt _ (Nat.pow_pos hp)
 have e:=dig_cut pr s i
 have hz:zer pr s i=(s / pr ^ (i+1))*pr ^ (i+1)+pr ^ i*0+s % pr ^ i:=by
  unfold zer
  rw [Nat.mul_zero,Nat.add_zero]
  have h9:=dig_le (pr:=pr) (s:=s) (i:=i)
  omega
 have h0:dig pr (zer pr s i) i=0:=by rw [hz,dig_of_cut hp hl]
 refine ⟨h0,fun j hj=>?_⟩
 have:=(dig_put (q:=dig pr s i) hp h0 (dig_lt hp)).2 j hj
 rw [zer_add] at this
 exact this.symm
theorem zer_iff {pr s t i:Nat} (hp:0<pr) (h0:dig pr t i=0):zer pr s i=t↔∃ q,q<pr∧s=t+pr ^ i*q:=by
  constructor
  · intro e
    exact ⟨dig pr s i,dig_lt hp,by rw [← e,zer_add]⟩
  · rintro ⟨q,hq,rfl⟩
    unfold zer
    rw [(dig_put hp h0 hq).1];omega
theorem zer_lt {pr s i k:Nat} (h:s<pr ^ k):zer pr s i<pr ^ k:=by unfold zer;omega
def xOf (nb d:Nat):Int:=if d=0 then -1 else (((d - 1) / nb:Nat):Int)
def yOf (nb d:Nat):Int:=if d=0 then -1 else (((d - 1) % nb:Nat):Int)
def pX (nb pr k s:Nat):List Int:=(List.range k).map fun i=>xOf nb (dig pr s i)
def pY (nb pr k s:Nat):List Int:=(List.range k).map fun i=>yOf nb (dig pr s i)
@[simp] theorem pX_len (nb pr k s:Nat):(pX nb pr k s).length=k:=by simp [pX]
@[simp] theorem pY_len (nb pr k s:Nat):(pY nb pr k s).length=k:=by simp [pY]
theorem pX_at {nb pr k s i:Nat} (h:i<k):(pX nb pr k s).getD i 0=xOf nb (dig pr s i):=by
 rw [getD_at (by rw [pX_len];exact h)];simp [pX]
theorem pY_at {nb pr k s i:Nat} (h:i<k):(pY nb pr k s).getD i 0=yOf nb (dig pr s i):=by
 rw [getD_at (by rw [pY_len];exact h)];simp [pY]
theorem set_ext {l m:List Int} {i:Nat} {x:Int} (hl:m.length=l.length) (hx:i<l.length→m.getD i 0=x) (hr:∀ j,j<l.length→j ≠ i→m.getD j 0=l.getD j 0):m=l.set i x:=by
  refine List.ext_getElem (by rw [List.length_set,hl]) fun j h1 h2=>?_
  rw [List.length_set] at h2
  rw [List.getElem_set]
  split
  · rename_i e
    subst e
    rw [← hx h2,getD_at h1]
  · rename_i e
    have:=hr j h2 (fun h=>e h.symm)
    rw [getD_at h1,getD_at h2] at this
    exact this
theorem pX_put {nb pr k s i x y:Nat} (hp:0<pr) (hi:i<k) (h0:dig pr s i=0) (hq:1+x*nb+y<pr) (hy:y<nb):pX nb pr k (s+pr ^ i*(1+x*nb+y))=(pX nb pr k s).set i (x:Int):=by
  obtain ⟨h1,h2⟩:=dig_put hp h0 hq
  refine set_ext (by simp) (fun _=>?_) fun j hj hne=>?_
  · rw [pX_at hi,h1]
    unfold xOf
    rw [if_neg (by omega),show 1+x*nb+y - 1=y+x*nb from by omega,Nat.add_mul_div_right _ _ (by omega),Nat.div_eq_of_lt hy,Nat.zero_add]
  · rw [pX_len] at hj
    rw [pX_at hj,pX_at hj,h2 j hne]
theorem pY_put {nb pr k s i x y:Nat} (hp:0<pr) (hi:i<k) (h0:dig pr s i=0) (hq:1+x*nb+y<pr) (hy:y<nb):pY nb pr k (s+pr ^ i*(1+x*nb+y))=(pY nb pr k s).set i (y:Int):=by
  obtain ⟨h1,h2⟩:=dig_put hp h0 hq
  refine set_ext (by simp) (fun _=>?_) fun j hj hne=>?_
  · rw [pY_at hi,h1]
    unfold yOf
    rw [if_neg (by omega),show 1+x*nb+y - 1=y+x*nb from by omega,Nat.add_mul_mod_self_right,Nat.mod_eq_of_lt hy]
  · rw [pY_len] at hj
    rw [pY_at hj,pY_at hj,h2 j hne]
theorem pX_zer {nb pr k s i:Nat} (hp:0<pr) {x:Int}:(pX nb pr k (zer pr s i)).set i x=(pX nb pr k s).set i x:=by
  obtain ⟨_,h2⟩:=dig_zer (s:=s) (i:=i) hp
  refine set_ext (by simp) (fun h=>?_) fun j hj hne=>?_
  · rw [pX_len] at h
    rw [List.getD_eq_getElem?_getD,List.getElem?_set_self (by rw [pX_len];exact h)];rfl
  · rw [pX_len] at hj
    rw [List.getD_eq_getElem?_getD,List.getElem?_set_ne (fun e=>hne e.symm),← List.getD_eq_getElem?_getD,pX_at hj,pX_at hj,h2 j hne]
theorem pY_zer {nb pr k s i:Nat} (hp:0<pr) {x:Int}:(pY nb pr k (zer pr s i)).set i x=(pY nb pr k s).set i x:=by
  obtain ⟨_,h2⟩:=dig_zer (s:=s) (i:=i) hp
  refine set_ext (by simp) (fun h=>?_) fun j hj hne=>?_
  · rw [pY_len] at h
    rw [List.getD_eq_getElem?_getD,List.getElem?_set_self (by rw [pY_len];exact h)];rfl
  · rw [pY_len] at hj
    rw [List.getD_eq_getElem?_getD,List.getElem?_set_ne (fun e=>hne e.symm),← List.getD_eq_getElem?_getD,pY_at hj,pY_at hj,h2 j hne]
def code (nb:Nat) (x y:Int):Nat:=if 0≤x then 1+x.toNat*nb+y.toNat else 0
def stU (nb pr:Nat) (xs ys:List Int) (k:Nat):Nat→Nat
 | 0=>0
 | j+1=>stU nb pr xs ys k j*pr+code nb (xs.getD (k - 1 - j) 0) (ys.getD (k - 1 - j) 0)
theorem stU_dig {nb pr k:Nat} {xs ys:List Int} (hc:∀ i:Nat,i<k→code nb (xs.getD i 0) (ys.getD i 0)<pr):∀ j:Nat,j≤k→∀ i:Nat,i<j→dig pr (stU nb pr xs ys k j) i=code nb (xs.getD (k - j+i) 0) (ys.getD (k - j+i) 0)
 | 0,_,i,hi=>absurd hi (by omega)
 | j+1,hj,i,hi=>by
  have hcj:=hc (k - 1 - j) (by omega)
  unfold stU
  cases i with
  | zero=>rw [dig_first hcj,show k - (j+1)+0=k - 1 - j from by omega]
  | succ i=>rw [dig_next hcj,stU_dig hc j (by omega) i (by omega),show k - (j+1)+(i+1)=k - j+i from by omega]
theorem stU_lt {nb pr k:Nat} {xs ys:List Int} (hc:∀ i:Nat,i<k→code nb (xs.getD i 0) (ys.getD i 0)<pr):∀ j:Nat,j≤k→stU nb pr xs ys k j<pr ^ j
 | 0,_=>Nat.one_pos
 | j+1,hj=>by
  have h1:=stU_lt hc j (by omega)
  have hcj:=hc (k - 1 - j) (by omega)
  have h2:(stU nb pr xs ys k j+1)*pr≤pr ^ j*pr:=Nat.mul_le_mul_right _ h1
  rw [Nat.add_mul,Nat.one_mul] at h2
  unfold stU
  rw [Nat.pow_succ];omega
end Go.Wk
namespace Go.Wk
open Go.RowKit
def prN (a b:St):Nat:=a.n.toNat*b.n.toNat+1
theorem prN_pos (a b:St):0<prN a b:=Nat.succ_pos _
theorem pair_lt {a b:St} {x y:Nat} (hx:x<a.n.toNat) (hy:y<b.n.toNat):1+x*b.n.toNat+y<prN a b:=by
 have:(x+1)*b.n.toNat≤a.n.toNat*b.n.toNat:=Nat.mul_le_mul_right _ hx
 rw [Nat.add_mul,Nat.one_mul] at this
 unfold prN;omega
theorem prN_le {a b:St} (ha:a.n.toNat≤8) (hb:b.n.toNat≤8):prN a b≤65:=by
 have:=Nat.mul_le_mul ha hb
 unfold prN;omega
theorem pow65 {p k:Nat} (h:p≤65) (hk:k≤3):p ^ k≤274625:=Nat.le_trans (Nat.pow_le_pow_left h k) (Nat.le_trans (Nat.pow_le_pow_right (by decide) hk) (by decide))
def stX (a b:St) (k s:Nat):List Int:=pX b.n.toNat (prN a b) k s
def stY (a b:St) (k s:Nat):List Int:=pY b.n.toNat (prN a b) k s
theorem dig_x {a b:St} {k s i:Nat} (h:i<k) : -1≤(stX a b k s).getD i 0∧(stX a b k s).getD i 0<(a.n.toNat:Int)∧((stX a b k s).getD i 0<0↔dig (prN a b) s i=0):=by
  have hd:=dig_lt (s:=s) (i:=i) (prN_pos a b)
  unfold stX
  rw [pX_at h]
  unfold xOf
  by_cases e:dig (prN a b) s i=0
  · rw [if_pos e];omega
  · rw [if_neg e]
    have h1:(dig (prN a b) s i - 1) / b.n.toNat<a.n.toNat:=Nat.div_lt_of_lt_mul (by rw [Nat.mul_comm];have hq:prN a b=a.n.toNat*b.n.toNat+1:=rfl;omega)
    generalize (dig (prN a b) s i - 1) / b.n.toNat=z at h1 ⊢
    omega
theorem dig_y {a b:St} {k s i:Nat} (hb:1≤b.n.toNat) (h:i<k) : -1≤(stY a b k s).getD i 0∧(stY a b k s).getD i 0<(b.n.toNat:Int)∧((stY a b k s).getD i 0<0↔dig (prN a b) s i=0):=by
  unfold stY
  rw [pY_at h]
  unfold yOf
  by_cases e:dig (prN a b) s i=0
  · rw [if_pos e];omega
  · rw [if_neg e]
    have h1:(dig (prN a b) s i - 1) % b.n.toNat<b.n.toNat:=Nat.mod_lt _ (by omega)
    omega
theorem stX_peb {a b:St} {k s:Nat}:Peb a.n.toNat k (stX a b k s):=by
 refine ⟨by unfold stX;simp,fun x hx=>?_⟩
 obtain ⟨i,hi,rfl⟩:=List.mem_iff_getElem.1 hx
 have:=dig_x (a:=a) (b:=b) (s:=s) (k:=k) (i:=i) (by unfold stX at hi;simpa using hi)
 rw [getD_at hi] at this
 omega
theorem stY_peb {a b:St} {k s:Nat} (hb:1≤b.n.toNat):Peb b.n.toNat k (stY a b k s):=by
 refine ⟨by unfold stY;simp,fun x hx=>?_⟩
 obtain ⟨i,hi,rfl⟩:=List.mem_iff_getElem.1 hx
 have:=dig_y (a:=a) (s:=s) hb (k:=k) (i:=i) (by unfold stY at hi;simpa using hi)
 rw [getD_at hi] at this
 omega
@[simp] theorem stX_len (a b:St) (k s:Nat):(stX a b k s).length=k:=by unfold stX;simp
@[simp] theorem stY_len (a b:St) (k s:Nat):(stY a b k s).length=k:=by unfold stY;simp
theorem st_signs {a b:St} {k s:Nat} (hb:1≤b.n.toNat):∀ i:Nat,i<k→((stX a b k s).getD i 0<0↔(stY a b k s).getD i 0<0):=fun _ hi =>
 (dig_x hi).2.2.trans (dig_y hb hi).2.2.symm
open Classical in
noncomputable def winAt (n:Nat) (a b:St) (k s:Nat):Bool:=decide (pW n a (stX a b k s) b (stY a b k s))
open Classical in
theorem winAt_true {n:Nat} {a b:St} {k s:Nat}:winAt n a b k s=true↔pW n a (stX a b k s) b (stY a b k s):=by
 unfold winAt;exact decide_eq_true_iff
noncomputable def WL (n:Nat) (a b:St) (k:Nat):List Bool:=(List.range (prN a b ^ k)).map (winAt n a b k)
@[simp] theorem WL_len (n:Nat) (a b:St) (k:Nat):(WL n a b k).length=prN a b ^ k:=by simp [WL]
theorem WL_at {n:Nat} {a b:St} {k s:Nat} (h:s<prN a b ^ k):(WL n a b k).getD s false=winAt n a b k s:=by
 rw [getD_at (by rw [WL_len];exact h)];simp [WL]
theorem win_zero {a b:St} {k s:Nat} (hb:1≤b.n.toNat):winAt 0 a b k s=sameB a (placed (stX a b k s) k) b (placed (stY a b k s) k):=by
 rw [Bool.eq_iff_iff,winAt_true]
 unfold pW
 rw [stX_len,stY_len]
 exact ⟨fun h=>h.2,fun h=>⟨st_signs hb,h⟩⟩
def Ans (W:Nat→Bool) (na nb rest step:Nat):Prop:=(∀ x:Nat,x<na→∃ y:Nat,y<nb∧W (rest+step*(1+x*nb+y))=true)∧∀ y:Nat,y<nb→∃ x:Nat,x<na∧W (rest+step*(1+x*nb+y))=true
theorem ans_iff {n:Nat} {a b:St} {k s i:Nat} (hi:i<k):Ans (winAt n a b k) a.n.toNat b.n.toNat (zer (prN a b) s i) (prN a b ^ i) ↔
    (∀ x:Nat,x<a.n.toNat→∃ y:Nat,y<b.n.toNat∧pW n a ((stX a b k s).set i (x:Int)) b ((stY a b k s).set i (y:Int)))∧(∀ y:Nat,y<b.n.toNat→∃ x:Nat,x<a.n.toNat∧pW n a ((stX a b k s).set i (x:Int)) b ((stY a b k s).set i (y:Int))):=by
  have hp:=prN_pos a b
  have key:∀ x y:Nat,x<a.n.toNat→y<b.n.toNat→(winAt n a b k (zer (prN a b) s i+prN a b ^ i*(1+x*b.n.toNat+y))=true↔pW n a ((stX a b k s).set i (x:Int)) b ((stY a b k s).set i (y:Int))):=fun x y hx hy=>by
    have h0:=(dig_zer (s:=s) (i:=i) hp).1
    rw [winAt_true]
    unfold stX stY
    rw [pX_put hp hi h0 (pair_lt hx hy) hy,pY_put hp hi h0 (pair_lt hx hy) hy,pX_zer hp,pY_zer hp]
  unfold Ans
  refine and_congr ?_ ?_
  · exact forall_congr' fun x=>imp_congr_right fun hx=>exists_congr fun y=>and_congr_right fun hy=>key x y hx hy
  · exact forall_congr' fun y=>imp_congr_right fun hy=>exists_congr fun x=>and_congr_right fun hx=>key x y hx hy
theorem pW_moves:∀ {n:Nat} {a:St} {xs:List Int} {b:St} {ys:List Int},pW 0 a xs b ys→(∀ i:Nat,i<xs.length→(∀ x:Nat,x<a.n.toNat→∃ y:Nat,y<b.n.toNat∧pW n a (xs.set i (x:Int)) b (ys.set i (y:Int)))∧(∀ y:Nat,y<b.n.toNat→∃ x:Nat,x<a.n.toNat∧pW n a (xs.set i (x:Int)) b (ys.set i (y:Int))))→pW n a xs b ys
 | 0,_,_,_,_,h,_=>h
 | n+1,a,xs,b,ys,h,hm=>by
  have hm':∀ i:Nat,i<xs.length→(∀ x:Nat,x<a.n.toNat→∃ y:Nat,y<b.n.toNat∧pW n a (xs.set i (x:Int)) b (ys.set i (y:Int)))∧(∀ y:Nat,y<b.n.toNat→∃ x:Nat,x<a.n.toNat∧pW n a (xs.set i (x:Int)) b (ys.set i (y:Int))):=fun i hi =>
   ⟨fun x hx=>((hm i hi).1 x hx).elim fun y hy=>⟨y,hy.1,hy.2.1⟩,fun y hy=>((hm i hi).2 y hy).elim fun x hx=>⟨x,hx.1,hx.2.1⟩⟩
  exact ⟨pW_moves h hm',hm'⟩
theorem win_step {n:Nat} {a b:St} {k s:Nat}:winAt (n+1) a b k s=true↔winAt 0 a b k s=true∧∀ i:Nat,i<k→Ans (winAt n a b k) a.n.toNat b.n.toNat (zer (prN a b) s i) (prN a b ^ i):=by
  rw [winAt_true,winAt_true]
  constructor
  · intro h
    refine ⟨?_,fun i hi=>(ans_iff hi).2 (h.2 i (by rw [stX_len];exact hi))⟩
    have:=pW_less (n:=0) (n+1) (by rw [Nat.zero_add];exact h)
    exact this
  · rintro ⟨h1,h2⟩
    have hm:∀ i:Nat,i<(stX a b k s).length→_:=fun i hi=>(ans_iff (n:=n) (s:=s) (by rw [stX_len] at hi;exact hi)).1 (h2 i (by rw [stX_len] at hi;exact hi))
    exact ⟨pW_moves h1 hm,hm⟩
theorem code_lt {a b:St} {k:Nat} {xs ys:List Int} (hx:Peb a.n.toNat k xs) (hy:Peb b.n.toNat k ys) (hs:∀ i:Nat,i<k→(xs.getD i 0<0↔ys.getD i 0<0)):∀ i:Nat,i<k→code b.n.toNat (xs.getD i 0) (ys.getD i 0)<prN a b:=fun i hi=>by
  obtain ⟨x1,x2⟩:=peb_at hx hi
  obtain ⟨y1,y2⟩:=peb_at hy hi
  have:=hs i hi
  unfold code
  split
  · exact pair_lt (by omega) (by omega)
  · exact prN_pos a b
theorem code_x {nb:Nat} {x y:Int} (h1 : -1≤x) (hs:x<0↔y<0) (hy:y<(nb:Int)):xOf nb (code nb x y)=x:=by
  unfold code
  split
  · unfold xOf
    rw [if_neg (by omega),show 1+x.toNat*nb+y.toNat - 1=y.toNat+x.toNat*nb from by omega,Nat.add_mul_div_right _ _ (by omega),Nat.div_eq_of_lt (by omega)]
    omega
  · unfold xOf;rw [if_pos rfl];omega
theorem code_y {nb:Nat} {x y:Int} (h1 : -1≤y) (hs:x<0↔y<0) (hy:y<(nb:Int)):yOf nb (code nb x y)=y:=by
  unfold code
  split
  · unfold yOf
    rw [if_neg (by omega),show 1+x.toNat*nb+y.toNat - 1=y.toNat+x.toNat*nb from by omega,Nat.add_mul_mod_self_right,Nat.mod_eq_of_lt (by omega)]
    omega
  · unfold yOf;rw [if_pos rfl];omega
def stN (a b:St) (xs ys:List Int):Nat:=stU b.n.toNat (prN a b) xs ys xs.length xs.length
theorem list_ext0 {l m:List Int} (hl:l.length=m.length) (h:∀ i:Nat,i<l.length→l.getD i 0=m.getD i 0):l=m:=by
 refine List.ext_getElem hl fun i h1 h2=>?_
 have:=h i h1
 rwa [getD_at h1,getD_at h2] at this
theorem stN_ok {a b:St} {xs ys:List Int} (hx:Peb a.n.toNat xs.length xs) (hy:Peb b.n.toNat xs.length ys) (hs:∀ i:Nat,i<xs.length→(xs.getD i 0<0↔ys.getD i 0<0)):stN a b xs ys<prN a b ^ xs.length∧stX a b xs.length (stN a b xs ys)=xs∧stY a b xs.length (stN a b xs ys)=ys:=by
  have hc:=code_lt hx hy hs
  refine ⟨stU_lt hc _ (Nat.le_refl _),list_ext0 (by simp) fun i hi=>?_,list_ext0 (by simp [hy.1]) fun i hi=>?_⟩
  · rw [stX_len] at hi
    unfold stX stN
    rw [pX_at hi,stU_dig hc _ (Nat.le_refl _) i hi,Nat.sub_self,Nat.zero_add]
    obtain ⟨x1,x2⟩:=peb_at hx hi
    obtain ⟨y1,y2⟩:=peb_at hy hi
    exact code_x x1 (hs i hi) y2
  · rw [stY_len] at hi
    unfold stY stN
    rw [pY_at hi,stU_dig hc _ (Nat.le_refl _) i hi,Nat.sub_self,Nat.zero_add]
    obtain ⟨x1,x2⟩:=peb_at hx hi
    obtain ⟨y1,y2⟩:=peb_at hy hi
    exact code_y y1 (hs i hi) y2
end Go.Wk
namespace Go.Wk
open Go.RowKit
theorem bools_same {xs ys:List Bool} (hl:xs.length=ys.length) (h:∀ i:Nat,i<xs.length→xs.getD i false=ys.getD i false):xs=ys:=by
 refine List.ext_getElem hl fun i h1 h2=>?_
 have:=h i h1
 rwa [getD_at h1,getD_at h2] at this
theorem set_at {l:List Bool} {i j:Nat} {b:Bool} (hi:i<l.length):(l.set i b).getD j false=if i=j then b else l.getD j false:=by
  rw [List.getD_eq_getElem?_getD,List.getElem?_set,List.getD_eq_getElem?_getD]
  by_cases e:i=j
  · subst e;simp [hi]
  · simp [e]
structure Marks (f:Nat→Nat→Bool) (na nb x y:Nat) (R C:List Bool):Prop where
 rl:R.length=na
 cl:C.length=nb
 rows:∀ i:Nat,i<na→(R.getD i false=true↔∃ j:Nat,j<nb∧(i<x∨i=x∧j<y)∧f i j=true)
 cols:∀ j:Nat,j<nb→(C.getD j false=true↔∃ i:Nat,i<na∧(i<x∨i=x∧j<y)∧f i j=true)
open Classical in
noncomputable def ansB (W:Nat→Bool) (na nb rest step:Nat):Bool:=decide (Ans W na nb rest step)
open Classical in
theorem ansB_true {W:Nat→Bool} {na nb rest step:Nat}:ansB W na nb rest step=true↔Ans W na nb rest step:=by
 unfold ansB;exact decide_eq_true_iff
end Go.Wk
namespace Go.Wk
open Go.RowKit
theorem mul65 {x p:Nat} (hx:x≤274625) (hp:p≤65):0≤(x:Int)*(p:Int)∧(x:Int)*(p:Int)≤17850625:=by
 have:=Nat.mul_le_mul hx hp
 rw [← Int.natCast_mul];omega
theorem mul8 {x y:Int} (hx:0≤x) (hx8:x<8) (hy:0≤y) (hy8:y≤8):0≤x*y∧x*y≤64 :=
 ⟨Int.mul_nonneg hx hy,Int.le_trans (Int.mul_le_mul_of_nonneg_right (show x≤8 by omega) hy) (by omega)⟩
theorem stU_pos {b:St} {pr k j:Nat} {xs ys:List Int} (h:0≤xs.getD (k - 1 - j) 0) (hy:0≤ys.getD (k - 1 - j) 0) (hb:0≤b.n):((stU b.n.toNat pr xs ys k (j+1):Nat):Int)=((stU b.n.toNat pr xs ys k j:Nat):Int)*(pr:Int)+((1+xs.getD (k - 1 - j) 0*b.n)+ys.getD (k - 1 - j) 0):=by
 rw [stU,code,if_pos h,Int.natCast_add,Int.natCast_mul,Int.natCast_add,Int.natCast_add,Int.natCast_mul,Int.toNat_of_nonneg h,Int.toNat_of_nonneg hy,Int.toNat_of_nonneg hb]
 rfl
theorem stU_neg {nb pr k j:Nat} {xs ys:List Int} (h:¬ 0≤xs.getD (k - 1 - j) 0):((stU nb pr xs ys k (j+1):Nat):Int)=((stU nb pr xs ys k j:Nat):Int)*(pr:Int):=by
 rw [stU,code,if_neg h,Nat.add_zero,Int.natCast_mul]
end Go.Wk
namespace Go.Wk
theorem beq_no {xs ys:List Bool} (h:xs ≠ ys):(xs==ys)=false:=by simpa using h
end Go.Wk
namespace Go.Wk
open Go.RowKit
structure TurnAt (fit W:Nat→Bool) (a b:St) (k i S:Nat) (X:List Bool):Prop where
 len:X.length=prN a b ^ k
 at_:∀ s:Nat,s<prN a b ^ k→(X.getD s false=true↔fit s=true∧(∀ j:Nat,j<i→Ans W a.n.toNat b.n.toNat (zer (prN a b) s j) (prN a b ^ j))∧(zer (prN a b) s i<S→Ans W a.n.toNat b.n.toNat (zer (prN a b) s i) (prN a b ^ i)))
theorem turn_zero {W:Nat→Bool} {a b:St} {k:Nat} {X:List Bool} (h:X.length=prN a b ^ k):TurnAt (fun s=>X.getD s false) W a b k 0 0 X :=
 ⟨h,fun s _=>⟨fun e=>⟨e,fun j hj=>absurd hj (by omega),fun h=>absurd h (by omega)⟩,fun e=>e.1⟩⟩
theorem turn_round {fit W:Nat→Bool} {a b:St} {k i:Nat} {X:List Bool} (h:TurnAt fit W a b k i (prN a b ^ k) X):TurnAt fit W a b k (i+1) 0 X :=
  ⟨h.len,fun s hs=>(h.at_ s hs).trans (and_congr_right fun _=>⟨fun e=>⟨fun j hj=>by
    rcases Nat.lt_or_ge j i with h1 | h1
    · exact e.1 j h1
    · rw [show j=i from by omega];exact e.2 (zer_lt hs),fun h=>absurd h (by omega)⟩,fun e=>⟨fun j hj=>e.1 j (by omega),fun _=>e.1 i (by omega)⟩⟩)⟩
theorem turn_skip {fit W:Nat→Bool} {a b:St} {k i S:Nat} {X:List Bool} (h:TurnAt fit W a b k i S X) (hd:dig (prN a b) S i ≠ 0):TurnAt fit W a b k i (S+1) X :=
 ⟨h.len,fun s hs=>(h.at_ s hs).trans (and_congr_right fun _=>and_congr_right fun _=>by
  have hne:zer (prN a b) s i ≠ S:=fun e=>hd (by rw [← e];exact (dig_zer (prN_pos a b)).1)
  exact ⟨fun e h1=>e (by omega),fun e h1=>e (by omega)⟩)⟩
theorem turn_yes {fit W:Nat→Bool} {a b:St} {k i S:Nat} {X:List Bool} (h:TurnAt fit W a b k i S X) (hA:Ans W a.n.toNat b.n.toNat S (prN a b ^ i)):TurnAt fit W a b k i (S+1) X :=
  ⟨h.len,fun s hs=>(h.at_ s hs).trans (and_congr_right fun _=>and_congr_right fun _=>by
    refine ⟨fun e h1=>?_,fun e h1=>e (by omega)⟩
    by_cases hz:zer (prN a b) s i=S
    · rw [hz];exact hA
    · exact e (by omega))⟩
structure Cleared (X0 X:List Bool) (S step Q:Nat):Prop where
 len:X.length=X0.length
 at_:∀ s:Nat,s<X0.length→(X.getD s false=true↔X0.getD s false=true∧¬ ∃ q,q<Q∧s=S+step*q)
theorem clear_zero (X:List Bool) (S step:Nat):Cleared X X S step 0:=⟨rfl,fun s _=>⟨fun e=>⟨e,fun ⟨q,hq,_⟩=>absurd hq (by omega)⟩,fun e=>e.1⟩⟩
theorem clear_next {X0 X:List Bool} {S step Q:Nat} (h:Cleared X0 X S step Q) (hl:S+step*Q<X0.length):Cleared X0 (X.set (S+step*Q) false) S step (Q+1):=by
  refine ⟨by rw [List.length_set];exact h.len,fun s hs=>?_⟩
  rw [set_at (by rw [h.len];exact hl)]
  by_cases e:S+step*Q=s
  · rw [if_pos e]
    exact ⟨(fun h=>by cases h),fun h=>absurd ⟨Q,by omega,e.symm⟩ h.2⟩
  · rw [if_neg e,h.at_ s hs]
    refine and_congr_right fun _=>not_congr ⟨fun ⟨q,h1,h2⟩=>⟨q,by omega,h2⟩,fun ⟨q,h1,h2⟩=>⟨q,?_,h2⟩⟩
    rcases Nat.lt_or_ge q Q with h3 | h3
    · exact h3
    · exact absurd (by rw [h2,show q=Q from by omega]) e
theorem turn_no {fit W:Nat→Bool} {a b:St} {k i S:Nat} {X X':List Bool} (h:TurnAt fit W a b k i S X) (hd:dig (prN a b) S i=0) (hA:¬ Ans W a.n.toNat b.n.toNat S (prN a b ^ i)) (hc:Cleared X X' S (prN a b ^ i) (prN a b)):TurnAt fit W a b k i (S+1) X':=by
  refine ⟨hc.len.trans h.len,fun s hs=>?_⟩
  rw [hc.at_ s (by rw [h.len];exact hs),h.at_ s hs,← zer_iff (prN_pos a b) hd]
  constructor
  · rintro ⟨⟨h1,h2,h3⟩,h4⟩
    exact ⟨h1,h2,fun h5=>h3 (by omega)⟩
  · rintro ⟨h1,h2,h3⟩
    refine ⟨⟨h1,h2,fun h5=>h3 (by omega)⟩,fun e=>hA ?_⟩
    have:=h3 (by omega)
    rwa [e] at this
theorem ans_wl {n:Nat} {a b:St} {k s j:Nat} (hj:j<k) (hs:s<prN a b ^ k):Ans (fun s=>(WL n a b k).getD s false) a.n.toNat b.n.toNat (zer (prN a b) s j) (prN a b ^ j)↔Ans (winAt n a b k) a.n.toNat b.n.toNat (zer (prN a b) s j) (prN a b ^ j):=by
 have key:∀ x y:Nat,x<a.n.toNat→y<b.n.toNat→((WL n a b k).getD (zer (prN a b) s j+prN a b ^ j*(1+x*b.n.toNat+y)) false=true↔winAt n a b k (zer (prN a b) s j+prN a b ^ j*(1+x*b.n.toNat+y))=true):=fun x y hx hy=>by
  rw [WL_at (put_lt (prN_pos a b) (dig_zer (prN_pos a b)).1 (pair_lt hx hy) hj (zer_lt hs))]
 unfold Ans
 exact and_congr (forall_congr' fun x=>imp_congr_right fun hx=>exists_congr fun y=>and_congr_right fun hy=>key x y hx hy) (forall_congr' fun y=>imp_congr_right fun hy=>exists_congr fun x=>and_congr_right fun hx=>key x y hx hy)
theorem turn_end {n:Nat} {a b:St} {k:Nat} {X:List Bool} (h:TurnAt (fun s=>(WL 0 a b k).getD s false) (fun s=>(WL n a b k).getD s false) a b k k 0 X):X=WL (n+1) a b k:=by
 refine bools_same (by rw [h.len,WL_len]) fun s hs=>?_
 rw [h.len] at hs
 rw [WL_at hs,Bool.eq_iff_iff,h.at_ s hs,win_step,WL_at hs]
 exact and_congr_right fun _=>⟨fun e i hi=>(ans_wl hi hs).1 (e.1 i hi),fun e=>⟨fun i hi=>(ans_wl hi hs).2 (e i hi),fun h=>absurd h (by omega)⟩⟩
end Go.Wk
namespace Go.Wk
open Go.RowKit
theorem dig_down {p s i:Nat}:s / p ^ (i+1)=s / p ^ i / p:=by rw [Nat.pow_succ,Nat.div_div_eq_div_mul]
theorem dig_xv {a b:St} {k s i:Nat} (h:i<k) (hd:0<dig (prN a b) s i) {n:Int} (hn:n=b.n) (hb:0≤b.n):Value.int .i64 ((((dig (prN a b) s i:Nat):Int) - 1) / n)=Value.int .i64 ((stX a b k s).getD i 0):=by
 unfold stX
 rw [pX_at h,xOf,if_neg (by omega),hn,Int.natCast_ediv,show (((dig (prN a b) s i - 1:Nat):Int))=(dig (prN a b) s i:Int) - 1 from by omega,Int.toNat_of_nonneg hb]
theorem dig_yv {a b:St} {k s i:Nat} (h:i<k) (hd:0<dig (prN a b) s i) {n:Int} (hn:n=b.n) (hb:0≤b.n):Value.int .i64 ((((dig (prN a b) s i:Nat):Int) - 1) % n)=Value.int .i64 ((stY a b k s).getD i 0):=by
 unfold stY
 rw [pY_at h,yOf,if_neg (by omega),hn,Int.natCast_emod,show (((dig (prN a b) s i - 1:Nat):Int))=(dig (prN a b) s i:Int) - 1 from by omega,Int.toNat_of_nonneg hb]
end Go.Wk
namespace Go.Wk
open Go.RowKit
theorem row_put {u:Array Value} {L off:Nat} {X:List Bool} {b:Bool} (h:u.toList.take L=bools X):(u.setIfInBounds off (.bool b)).toList.take L=bools (X.set off b):=by
 rw [Array.toList_setIfInBounds,List.take_set,h]
 simp [bools,List.map_set]
end Go.Wk
namespace Go.Wk
open Go.RowKit
theorem ready_state {a b:St} {xs ys:List Int} (hr:readyB a xs b ys=true):stN a b xs ys<prN a b ^ xs.length∧stX a b xs.length (stN a b xs ys)=xs∧stY a b xs.length (stN a b xs ys)=ys:=by
 obtain ⟨_,_,_,_,_,hx,hy⟩:=ready_peb hr
 obtain ⟨_,_,_,hsg⟩:=readyB_true hr
 exact stN_ok hx hy (signsB_true hsg)
open Classical in
theorem win_code {t:Int} {a b:St} {xs ys:List Int} (hr:readyB a xs b ys=true) (h0:0≤t) (h4:t≤4):(WL t.toNat a b xs.length).getD (stN a b xs ys) false=pebWinB a xs b ys t:=by
 obtain ⟨hs,ex,ey⟩:=ready_state hr
 unfold pebWinB pWinB
 rw [hr,show inB t 0 4=true from by unfold inB;simp;omega,if_pos (by omega),Bool.true_and,Bool.true_and,WL_at hs,Bool.eq_iff_iff,winAt_true,decide_eq_true_eq,ex,ey]
def bes (k:Nat):List Int:=List.replicate k (-1)
@[simp] theorem bes_len (k:Nat):(bes k).length=k:=List.length_replicate
end Go.Wk
namespace Go.Wk
open Go.RowKit
theorem bes_snoc (k:Nat):bes (k+1)=bes k++[-1]:=by unfold bes;rw [List.replicate_succ']
end Go.Wk
namespace Go.Wk.C
open Go.RowKit
def BijR (na nb:Nat) (R:Nat→Nat→Prop):Prop:=∃ f:List Nat,f.Perm (List.range nb)∧f.length=na∧∀ x:Nat,x<na→R x (f.getD x 0)
theorem perm_map_inv {α β:Type} (v:β→α) {l l':List α} (h:l.Perm l'):∀ m:List β,l'=m.map v→∃ m':List β,m'.Perm m∧m'.map v=l:=by
 induction h with
 | nil =>
  intro m hm
  cases m with
  | nil=>exact ⟨[],.nil,rfl⟩
  | cons _ _=>cases hm
 | cons x h ih =>
  intro m hm
  cases m with
  | nil=>cases hm
  | cons y m =>
   injection hm with h1 h2
   obtain ⟨m',h3,h4⟩:=ih m h2
   exact ⟨y::m',h3.cons y,by rw [List.map_cons,h4,h1]⟩
 | swap x y t =>
  intro m hm
  match m,hm with
  | p::q::m2,hm =>
   injection hm with h1 h2
   injection h2 with h2 h3
   exact ⟨q::p::m2,.swap _ _ _,by simp [h1,h2,h3]⟩
 | trans h1 h2 ih1 ih2 =>
  intro m hm
  obtain ⟨m2,h3,h4⟩:=ih2 m hm
  obtain ⟨m1,h5,h6⟩:=ih1 m2 h4.symm
  exact ⟨m1,h5.trans h3,h6⟩
theorem getD_here {α:Type} {l:List α} {i:Nat} {d:α} (h:i<l.length):l.getD i d=l[i]:=by rw [List.getD_eq_getElem?_getD,List.getElem?_eq_getElem h];rfl
theorem bij_perm {na nb:Nat} {R:Nat→Nat→Prop} {u v:Nat→Int} (h:∀ x y:Nat,x<na→y<nb→(R x y↔u x=v y)):BijR na nb R↔((List.range na).map u).Perm ((List.range nb).map v):=by
  constructor
  · rintro ⟨f,h1,h2,h3⟩
    have e:(List.range na).map u=f.map v:=by
      refine List.ext_getElem (by simp [h2]) fun i h4 h5=>?_
      rw [List.length_map,List.length_range] at h4
      have h6:i<f.length:=by omega
      have hm:f[i]<nb:=List.mem_range.1 (h1.mem_iff.1 (List.getElem_mem h6))
      have:=(h i f[i] h4 hm).1 (by have:=h3 i h4;rwa [getD_here h6] at this)
      simp [this]
    rw [e]
    exact h1.map v
  · intro hp
    obtain ⟨f,h1,h2⟩:=perm_map_inv v hp (List.range nb) rfl
    have hl:f.length=na:=by have:=congrArg List.length h2;simpa using this
    refine ⟨f,h1,hl,fun x hx=>?_⟩
    have h6:x<f.length:=by omega
    rw [getD_here h6]
    have hm:f[x]<nb:=List.mem_range.1 (h1.mem_iff.1 (List.getElem_mem h6))
    refine (h x f[x] hx hm).2 ?_
    have e:(f.map v)[x]?=((List.range na).map u)[x]?:=by rw [h2]
    rw [List.getElem?_map,List.getElem?_map,List.getElem?_eq_getElem h6,List.getElem?_range hx] at e
    simpa using e.symm
theorem nodup_sub:∀ {l1 l2:List Nat},l1.Nodup→(∀ x∈l1,x∈l2)→l1.length≤l2.length
 | [],_,_,_=>Nat.zero_le _
 | a::t,l2,hn,hs=>by
  rw [List.nodup_cons] at hn
  have ha:=hs a (List.mem_cons_self ..)
  have:=nodup_sub (l1:=t) (l2:=l2.erase a) hn.2 fun x hx=>(List.mem_erase_of_ne (fun e=>hn.1 (by rw [← e];exact hx))).2 (hs x (List.mem_cons_of_mem _ hx))
  have h2:=List.length_erase_of_mem ha
  have h3:=List.length_pos_of_mem ha
  rw [List.length_cons];omega
theorem nodup_perm:∀ {l1 l2:List Nat},l1.Nodup→(∀ x∈l1,x∈l2)→l2.length≤l1.length→l1.Perm l2
 | [],l2,_,_,h=>by
  cases l2 with
  | nil=>exact .nil
  | cons _ _=>simp at h
 | a::t,l2,hn,hs,hl=>by
  rw [List.nodup_cons] at hn
  have ha:=hs a (List.mem_cons_self ..)
  have h2:=List.length_erase_of_mem ha
  have h3:=List.length_pos_of_mem ha
  have:=nodup_perm (l1:=t) (l2:=l2.erase a) hn.2 (fun x hx=>(List.mem_erase_of_ne (fun e=>hn.1 (by rw [← e];exact hx))).2 (hs x (List.mem_cons_of_mem _ hx))) (by rw [List.length_cons] at hl;omega)
  exact (this.cons a).trans (List.perm_cons_erase ha).symm
structure Partners (u v:Nat→Int) (na nb:Nat) (Pt:List Int):Prop where
 len:Pt.length=nb
 fit:∀ y:Nat,y<nb→Pt.getD y 0 = -1∨∃ x:Nat,Pt.getD y 0=(x:Int)∧x<na∧u x=v y
structure Placed (u v:Nat→Int) (na nb x:Nat) (T:List Bool) (Pt:List Int) (res:Bool) (T':List Bool) (Pt':List Int):Prop where
 len:T'.length=T.length
 inv:Partners u v na nb Pt'
 more:∀ y:Nat,T.getD y false=true→T'.getD y false=true
 no:res=false→Pt'=Pt∧(∀ y:Nat,y<nb→v y=u x→T'.getD y false=true)∧∀ y:Nat,y<nb→v y=u x→T.getD y false=false→0≤Pt.getD y 0
 yes:res=true→∃ z:Nat,z<nb∧v z=u x∧Pt.getD z 0<0∧∀ y:Nat,y<nb→(0≤Pt'.getD y 0↔0≤Pt.getD y 0∨y=z)
structure Looks (u v:Nat→Int) (nb x:Nat) (T T':List Bool) (Pt:List Int) (k:Nat):Prop where
 len:T'.length=T.length
 more:∀ y:Nat,T.getD y false=true→T'.getD y false=true
 past:∀ y:Nat,y<k→v y=u x→T'.getD y false=true
 new:∀ y:Nat,y<nb→v y=u x→T.getD y false=false→T'.getD y false=true→0≤Pt.getD y 0
section
variable {u v:Nat→Int} {na nb x:Nat} {T T':List Bool} {Pt:List Int} {k:Nat}
theorem Looks.start:Looks u v nb x T T Pt 0:=⟨rfl,fun _ h=>h,fun y h=>absurd h (by omega),fun y _ _ h1 h2=>by rw [h1] at h2;cases h2⟩
theorem Looks.pass (h:Looks u v nb x T T' Pt k) (hp:T'.getD k false=true∨¬ u x=v k):Looks u v nb x T T' Pt (k+1) :=
  ⟨h.len,h.more,fun y hy e=>by
    rcases Nat.lt_or_ge y k with h1 | h1
    · exact h.past y h1 e
    · obtain rfl:y=k:=by omega
      rcases hp with h2 | h2
      · exact h2
      · exact absurd e.symm h2,h.new⟩
theorem Looks.done (h:Looks u v nb x T T' Pt nb) (hP:Partners u v na nb Pt):Placed u v na nb x T Pt false T' Pt :=
 ⟨h.len,hP,h.more,fun _=>⟨rfl,h.past,fun y hy e ht=>h.new y hy e ht (h.past y hy e)⟩,fun h=>by cases h⟩
theorem set_getD {α:Type} {l:List α} {i j:Nat} {a d:α} (h:i<l.length):(l.set i a).getD j d=if i=j then a else l.getD j d:=by
  rw [List.getD_eq_getElem?_getD,List.getElem?_set]
  by_cases e:i=j
  · subst e;rw [if_pos rfl,if_pos rfl,if_pos h];rfl
  · rw [if_neg e,if_neg e,← List.getD_eq_getElem?_getD]
theorem Partners.put (hP:Partners u v na nb Pt) (hk:k<nb) (hx:x<na) (e:u x=v k):Partners u v na nb (Pt.set k (x:Int)) :=
  ⟨by rw [List.length_set];exact hP.len,fun y hy=>by
    rw [set_getD (by rw [hP.len];exact hk)]
    by_cases h:k=y
    · subst h;rw [if_pos rfl];exact .inr ⟨x,rfl,hx,e⟩
    · rw [if_neg h];exact hP.fit y hy⟩
theorem Looks.free (h:Looks u v nb x T T' Pt k) (hP:Partners u v na nb Pt) (hk:k<nb) (hT:T'.length=nb) (hx:x<na) (e:u x=v k) (hf:Pt.getD k 0<0):Placed u v na nb x T Pt true (T'.set k true) (Pt.set k (x:Int)) :=
  ⟨by rw [List.length_set];exact h.len,hP.put hk hx e,fun y hy=>by
    rw [set_getD (by omega)]
    split
    · rfl
    · exact h.more y hy,(fun h=>by cases h),fun _=>⟨k,hk,e.symm,hf,fun y hy=>by
      rw [set_getD (by rw [hP.len];exact hk)]
      by_cases h1:k=y
      · subst h1;rw [if_pos rfl];exact ⟨fun _=>.inr rfl,fun _=>by omega⟩
      · rw [if_neg h1]
        exact ⟨fun h=>.inl h,fun h=>h.elim id (fun e=>absurd e.symm h1)⟩⟩⟩
theorem Looks.moved {x':Nat} {T2:List Bool} {Pt2:List Int} (h:Looks u v nb x T T' Pt k) (hk:k<nb) (hT:T'.length=nb) (hx:x<na) (e:u x=v k) (e':u x'=v k) (h0:0≤Pt.getD k 0) (hr:Placed u v na nb x' (T'.set k true) Pt true T2 Pt2):Placed u v na nb x T Pt true T2 (Pt2.set k (x:Int)):=by
  obtain ⟨z,h1,h2,h3,h4⟩:=hr.yes rfl
  refine ⟨by rw [hr.len,List.length_set];exact h.len,hr.inv.put hk hx e,fun y hy=>hr.more y ?_,fun h=>(by cases h),fun _=>⟨z,h1,by rw [h2,e',e],h3,fun y hy=>?_⟩⟩
  · rw [set_getD (by omega)]
    split
    · rfl
    · exact h.more y hy
  · rw [set_getD (by rw [hr.inv.len];exact hk)]
    by_cases h5:k=y
    · subst h5;rw [if_pos rfl];exact ⟨fun _=>.inl h0,fun _=>by omega⟩
    · rw [if_neg h5];exact h4 y hy
theorem Looks.stuck {x':Nat} {T2:List Bool} {Pt2:List Int} (h:Looks u v nb x T T' Pt k) (hk:k<nb) (hT:T'.length=nb) (e:u x=v k) (e':u x'=v k) (h0:0≤Pt.getD k 0) (hr:Placed u v na nb x' (T'.set k true) Pt false T2 Pt2):Pt2=Pt∧Looks u v nb x T T2 Pt (k+1):=by
  obtain ⟨h1,h2,h3⟩:=hr.no rfl
  have hm:∀ y:Nat,T'.getD y false=true→(T'.set k true).getD y false=true:=fun y hy=>by
    rw [set_getD (by omega)]
    split
    · rfl
    · exact hy
  refine ⟨h1,by rw [hr.len,List.length_set];exact h.len,fun y hy=>hr.more y (hm y (h.more y hy)),fun y hy ey=>?_,fun y hy ey ht ht2=>?_⟩
  · rcases Nat.lt_or_ge y nb with h5 | h5
    · exact h2 y h5 (by rw [ey,e',e])
    · omega
  · by_cases h6:k=y
    · subst h6;exact h0
    · cases h7:T'.getD y false with
      | true=>exact h.new y hy ey ht h7
      | false=>exact h3 y hy (by rw [ey,e',e]) (by rw [set_getD (by omega),if_neg h6];exact h7)
end
structure Pairs (u v:Nat→Int) (na nb:Nat) (Pt:List Int) (k:Nat):Prop where
 inv:Partners u v na nb Pt
 some:∃ f:List Nat,f.length=k∧f.Nodup∧(∀ i:Nat,i<k→u i=v (f.getD i 0))∧(∀ y∈f,y<nb)∧∀ y:Nat,y<nb→(0≤Pt.getD y 0↔y∈f)
section
variable {u v:Nat→Int} {na nb:Nat} {Pt Pt':List Int} {k:Nat} {T T':List Bool}
theorem Pairs.start:Pairs u v na nb (List.replicate nb (-1)) 0:=by
 have key:∀ y:Nat,y<nb→(List.replicate nb (-1:Int)).getD y 0 = -1:=fun y hy=>by rw [getD_here (by simpa using hy)];simp
 exact ⟨⟨by simp,fun y hy=>.inl (key y hy)⟩,[],rfl,List.nodup_nil,fun i hi=>absurd hi (by omega),(fun y hy=>by cases hy),fun y hy=>by rw [key y hy];simp⟩
theorem Pairs.more (h:Pairs u v na nb Pt k) (hr:Placed u v na nb k T Pt true T' Pt'):Pairs u v na nb Pt' (k+1):=by
  obtain ⟨hi,f,h1,h2,h3,h4,h5⟩:=h
  obtain ⟨z,h6,h7,h8,h9⟩:=hr.yes rfl
  have hz:z ∉ f:=fun hm=>by have:=(h5 z h6).2 hm;omega
  refine ⟨hr.inv,f++[z],by simp [h1],?_,fun i hi=>?_,fun y hy=>?_,fun y hy=>?_⟩
  · rw [List.nodup_append]
    refine ⟨h2,by simp,fun a ha b hb e=>?_⟩
    rw [List.mem_singleton.1 hb] at e
    rw [e] at ha;exact hz ha
  · rcases Nat.lt_or_ge i k with h10 | h10
    · rw [List.getD_eq_getElem?_getD,List.getElem?_append_left (by omega),← List.getD_eq_getElem?_getD];exact h3 i h10
    · obtain rfl:i=k:=by omega
      rw [List.getD_eq_getElem?_getD,List.getElem?_append_right (by omega),h1,Nat.sub_self];exact h7.symm
  · rcases List.mem_append.1 hy with h | h
    · exact h4 y h
    · rw [List.mem_singleton.1 h];exact h6
  · rw [h9 y hy,h5 y hy,List.mem_append,List.mem_singleton]
theorem Pairs.all (h:Pairs u v na nb Pt k) (hk:k=na) (hn:na=nb) {R:Nat→Nat→Prop} (hR:∀ x y:Nat,x<na→y<nb→(R x y↔u x=v y)):BijR na nb R:=by
 obtain ⟨hi,f,h1,h2,h3,h4,h5⟩:=h
 refine ⟨f,nodup_perm h2 (fun x hx=>List.mem_range.2 (h4 x hx)) (by rw [List.length_range];omega),by omega,fun x hx=>?_⟩
 have h6:x<f.length:=by omega
 have hm:f.getD x 0<nb:=h4 _ (by rw [getD_here h6];exact List.getElem_mem h6)
 exact (hR x _ hx hm).2 (h3 x (by omega))
theorem Pairs.fail (h:Pairs u v na nb Pt k) (hk:k<na) (hT:∀ y:Nat,T.getD y false=false) (hr:Placed u v na nb k T Pt false T' Pt') {R:Nat→Nat→Prop} (hR:∀ x y:Nat,x<na→y<nb→(R x y↔u x=v y)):¬ BijR na nb R:=by
 obtain ⟨hi,f,h1,h2,h3,h4,h5⟩:=h
 obtain ⟨_,_,h6⟩:=hr.no rfl
 rintro ⟨g,g1,g2,g3⟩
 have hall:∀ y:Nat,y<nb→v y=u k→y∈f:=fun y hy e=>(h5 y hy).1 (h6 y hy e (hT y))
 have hg:∀ i:Nat,i<na→g.getD i 0<nb:=fun i hi=>by
  have h7:i<g.length:=by omega
  rw [getD_here h7]
  exact List.mem_range.1 (g1.mem_iff.1 (List.getElem_mem h7))
 have gn:g.Nodup:=g1.nodup_iff.2 List.nodup_range
 let I:=(List.range (k+1)).filter fun i=>decide (u i=u k)
 let J:=(List.range k).filter fun i=>decide (u i=u k)
 have e1:(I.map fun i=>g.getD i 0).length=J.length+1:=by
  simp only [I,J,List.length_map,List.range_succ,List.filter_append,List.length_append]
  simp
 have n1:(I.map fun i=>g.getD i 0).Nodup:=by
  have hin:I.Nodup:=List.nodup_range.filter _
  have hlt:∀ i∈I,i<g.length:=fun i hi=>by
   have:=List.mem_range.1 (List.mem_filter.1 hi).1
   omega
  clear e1
  generalize I=I' at hin hlt
  induction I' with
  | nil=>exact List.nodup_nil
  | cons a t ih =>
   rw [List.nodup_cons] at hin
   rw [List.map_cons,List.nodup_cons]
   refine ⟨fun hm=>?_,ih hin.2 fun i hi=>hlt i (List.mem_cons_of_mem _ hi)⟩
   obtain ⟨b,hb,e⟩:=List.mem_map.1 hm
   have ha:=hlt a (List.mem_cons_self ..)
   have hb':=hlt b (List.mem_cons_of_mem _ hb)
   rw [getD_here ha,getD_here hb'] at e
   have:=(List.getElem_inj gn).1 e
   subst this
   exact hin.1 hb
 have s1:∀ y∈I.map (fun i=>g.getD i 0),y∈J.map (fun i=>f.getD i 0):=fun y hy=>by
  obtain ⟨i,hi,rfl⟩:=List.mem_map.1 hy
  obtain ⟨m1,m2⟩:=List.mem_filter.1 hi
  have m1:=List.mem_range.1 m1
  have m2:=of_decide_eq_true m2
  have hlt:=hg i (by omega)
  have e:=(hR i _ (by omega) hlt).1 (g3 i (by omega))
  have hf:=hall _ hlt (by rw [← e,m2])
  obtain ⟨j,hj,ej⟩:=List.getElem_of_mem hf
  refine List.mem_map.2 ⟨j,List.mem_filter.2 ⟨List.mem_range.2 (by omega),decide_eq_true ?_⟩,by rw [getD_here hj];exact ej⟩
  rw [h3 j (by omega),getD_here hj,ej,← e,m2]
 have:=nodup_sub n1 s1
 rw [e1,List.length_map] at this
 omega
end
end Go.Wk.C
namespace Go.Wk.C
open Go.RowKit Go.Wk
section
variable {na nb:Nat} {R Q:Nat→Nat→Prop}
theorem BijR.mono (h:BijR na nb R) (hm:∀ x y:Nat,x<na→y<nb→R x y→Q x y):BijR na nb Q:=by
 obtain ⟨f,h1,h2,h3⟩:=h
 refine ⟨f,h1,h2,fun x hx=>hm x _ hx ?_ (h3 x hx)⟩
 have h6:x<f.length:=by omega
 rw [getD_here h6]
 exact List.mem_range.1 (h1.mem_iff.1 (List.getElem_mem h6))
theorem BijR.congr (hm:∀ x y:Nat,x<na→y<nb→(R x y↔Q x y)):BijR na nb R↔BijR na nb Q :=
 ⟨fun h=>h.mono fun x y hx hy=>(hm x y hx hy).1,fun h=>h.mono fun x y hx hy=>(hm x y hx hy).2⟩
theorem BijR.len (h:BijR na nb R):na=nb:=by
 obtain ⟨f,h1,h2,_⟩:=h
 have:=h1.length_eq
 rw [List.length_range] at this
 omega
end
def pW:Nat→St→List Int→St→List Int→Prop
 | 0,a,xs,b,ys=>Go.Wk.pW 0 a xs b ys
 | n+1,a,xs,b,ys=>pW n a xs b ys∧∀ i:Nat,i<xs.length→BijR a.n.toNat b.n.toNat fun x y=>pW n a (xs.set i (x:Int)) b (ys.set i (y:Int))
def insG (l:List Int) (n:Int):List Int:=l.filter (fun z=>decide (z≤n))++n::l.filter (fun z=>!decide (z≤n))
theorem insG_perm (l:List Int) (n:Int):(insG l n).Perm (n::l):=by
 unfold insG
 refine List.perm_middle.trans (List.Perm.cons _ ?_)
 exact List.filter_append_perm (fun z=>decide (z≤n)) l
theorem insG_sorted {l:List Int} (h:l.Pairwise (·≤·)) (n:Int):(insG l n).Pairwise (·≤·):=by
  unfold insG
  rw [List.pairwise_append,List.pairwise_cons]
  refine ⟨h.filter _,⟨fun z hz=>?_,h.filter _⟩,fun y hy z hz=>?_⟩
  · have:=(List.mem_filter.1 hz).2
    simp at this;omega
  · have h1:=(List.mem_filter.1 hy).2
    simp only [decide_eq_true_eq] at h1
    rcases List.mem_cons.1 hz with rfl | hz
    · exact h1
    · have:=(List.mem_filter.1 hz).2
      simp at this;omega
theorem insG_at {l:List Int} {n:Int} {k:Nat} (hk:k≤l.length) (hs:l.Pairwise (·≤·)) (h1:∀ j:Nat,k≤j→j<l.length→n<l.getD j 0) (h2:k=0∨l.getD (k - 1) 0≤n):insG l n=l.take k++n::l.drop k:=by
  have e1:∀ z∈l.take k,z≤n:=fun z hz=>by
    obtain ⟨i,hi,rfl⟩:=List.getElem_of_mem hz
    rw [List.length_take] at hi
    rw [List.getElem_take]
    rcases h2 with h2 | h2
    · omega
    · rw [getD_here (by omega)] at h2
      by_cases e:i=k - 1
      · subst e;exact h2
      · exact Int.le_trans (List.pairwise_iff_getElem.1 hs i (k - 1) (by omega) (by omega) (by omega)) h2
  have e2:∀ z∈l.drop k,n<z:=fun z hz=>by
    obtain ⟨i,hi,rfl⟩:=List.getElem_of_mem hz
    rw [List.length_drop] at hi
    rw [List.getElem_drop]
    have:=h1 (k+i) (by omega) (by omega)
    rwa [getD_here (by omega)] at this
  have f1:l.filter (fun z=>decide (z≤n))=l.take k:=by
    conv=>lhs;rw [← List.take_append_drop k l]
    rw [List.filter_append,List.filter_eq_self.2 fun z hz=>decide_eq_true (e1 z hz),List.filter_eq_nil_iff.2 fun z hz=>?_,List.append_nil]
    have:=e2 z hz
    simp;omega
  have f2:l.filter (fun z=>!decide (z≤n))=l.drop k:=by
    conv=>lhs;rw [← List.take_append_drop k l]
    rw [List.filter_append,List.filter_eq_nil_iff.2 fun z hz=>?_,List.nil_append,List.filter_eq_self.2 fun z hz=>?_]
    · have:=e2 z hz
      simp;omega
    · have:=e1 z hz
      simp;omega
  unfold insG
  rw [f1,f2]
theorem sorted_perm:∀ {l m:List Int},l.Pairwise (·≤·)→m.Pairwise (·≤·)→l.Perm m→l=m
  | [],m,_,_,hp=>hp.nil_eq
  | x::l,[],_,_,hp=>(absurd hp.length_eq (by simp))
  | x::l,y::m,hl,hm,hp=>by
    rw [List.pairwise_cons] at hl hm
    have e:x=y:=by
      rcases List.mem_cons.1 (hp.mem_iff.1 (List.mem_cons_self ..)) with h | h
      · exact h
      · rcases List.mem_cons.1 (hp.mem_iff.2 (List.mem_cons_self ..)) with h' | h'
        · exact h'.symm
        · have:=hm.1 x h
          have:=hl.1 y h'
          omega
    subst e
    rw [sorted_perm hl.2 hm.2 hp.cons_inv]
def movesTo (size:Nat) (R:List Int) (xs:List Int) (i:Nat):Nat→List Int
 | 0=>[]
 | x+1=>insG (movesTo size R xs i x) (numP size R (xs.set i (x:Int)))
theorem moves_sorted (size:Nat) (R:List Int) (xs:List Int) (i:Nat):∀ m,(movesTo size R xs i m).Pairwise (·≤·)
  | 0=>List.Pairwise.nil
  | m+1=>insG_sorted (moves_sorted size R xs i m) _
theorem moves_perm (size:Nat) (R:List Int) (xs:List Int) (i:Nat):∀ m,(movesTo size R xs i m).Perm ((List.range m).map fun x:Nat=>numP size R (xs.set i (x:Int)))
 | 0=>.nil
 | m+1=>by
  rw [List.range_succ,List.map_append]
  exact (insG_perm _ _).trans (((moves_perm size R xs i m).cons _).trans (List.perm_append_singleton _ _).symm)
theorem moves_mem {size:Nat} {R:List Int} {xs:List Int} {i:Nat} {z:Int} {m:Nat}:z∈movesTo size R xs i m↔∃ x:Nat,x<m∧z=numP size R (xs.set i (x:Int)):=by
 rw [(moves_perm size R xs i m).mem_iff,List.mem_map]
 exact ⟨fun ⟨x,h1,h2⟩=>⟨x,List.mem_range.1 h1,h2.symm⟩,fun ⟨x,h1,h2⟩=>⟨x,List.mem_range.2 h1,h2.symm⟩⟩
theorem moves_le (size:Nat) (R:List Int) (xs:List Int) (i:Nat) (m:Nat):(movesTo size R xs i m).length=m:=by
 rw [(moves_perm size R xs i m).length_eq];simp
theorem moves_eq {s t:Nat} {R Q:List Int} {xs ys:List Int} {i:Nat}:movesTo s R xs i s=movesTo t Q ys i t↔BijR s t fun x y=>numP s R (xs.set i (x:Int))=numP t Q (ys.set i (y:Int)):=by
  rw [bij_perm (u:=fun x:Nat=>numP s R (xs.set i (x:Int))) (v:=fun y:Nat=>numP t Q (ys.set i (y:Int))) (fun _ _ _ _=>Iff.rfl)]
  constructor
  · intro h
    exact (moves_perm s R xs i s).symm.trans ((List.Perm.of_eq h).trans (moves_perm t Q ys i t))
  · intro h
    exact sorted_perm (moves_sorted _ _ _ _ _) (moves_sorted _ _ _ _ _) ((moves_perm s R xs i s).trans (h.trans (moves_perm t Q ys i t).symm))
def descM (size:Nat) (R:List Int) (xs:List Int):Nat→List UInt8
 | 0=>[]
 | i+1=>(descM size R xs i++commas (movesTo size R xs i size))++[59]
def descP (size:Nat) (R:List Int) (xs:List Int) (k:Nat):List UInt8:=([99]++decS (numP size R xs).toNat)++descM size R xs k
theorem moves_nn {s:Nat} {R:List Int} (h:NonNeg R) {xs:List Int} {i m:Nat}:∀ z∈movesTo s R xs i m,0≤z:=fun z hz=>by
 obtain ⟨x,_,rfl⟩:=moves_mem.1 hz
 exact h _
def descT (size:Nat) (R:List Int) (xs:List Int) (i:Nat):Nat→List UInt8
 | 0=>[]
 | m+1=>(commas (movesTo size R xs i size)++[59])++descT size R xs (i+1) m
theorem descM_tail (size:Nat) (R:List Int) (xs:List Int):∀ i m,descM size R xs i++descT size R xs i m=descM size R xs (i+m)
 | i,0=>by simp [descT]
 | i,m+1=>by
  have:=descM_tail size R xs (i+1) m
  rw [show i+(m+1)=i+1+m from by omega,← this,descM,descT]
  simp
theorem descT_head (size:Nat) (R:List Int) (xs:List Int) (i m:Nat):(descT size R xs i m=[]∨∃ t,descT size R xs i m=44::t)∨∃ t,descT size R xs i m=59::t:=by
  cases m with
  | zero=>exact .inl (.inl rfl)
  | succ m =>
    unfold descT
    rcases commas_head (movesTo size R xs i size) with h | ⟨t,h⟩
    · rw [h];exact .inr ⟨_,rfl⟩
    · rw [h];exact .inl (.inr ⟨_,rfl⟩)
theorem descT_inj {s t:Nat} {R Q:List Int} {xs ys:List Int} (hR:NonNeg R) (hQ:NonNeg Q):∀ {m i:Nat},descT s R xs i m=descT t Q ys i m↔∀ j:Nat,i≤j→j<i+m→movesTo s R xs j s=movesTo t Q ys j t
  | 0,i=>by
    refine ⟨fun _ j h1 h2=>by omega,fun _=>rfl⟩
  | m+1,i=>by
    have ih:=descT_inj (s:=s) (t:=t) (xs:=xs) (ys:=ys) hR hQ (m:=m) (i:=i+1)
    unfold descT
    constructor
    · intro h
      rw [List.append_assoc,List.append_assoc] at h
      obtain ⟨h1,h2⟩:=cut (c:=59) (commas_dig _) (commas_dig _) (.inr ⟨_,rfl⟩) (.inr ⟨_,rfl⟩) h
      have h3:=commas_inj (moves_nn hR) (moves_nn hQ) h1
      have h4:=ih.1 (List.append_cancel_left (show [59]++descT s R xs (i+1) m=[59]++descT t Q ys (i+1) m from h2))
      intro j h5 h6
      rcases Nat.lt_or_ge i j with h7 | h7
      · exact h4 j (by omega) (by omega)
      · rw [show j=i from by omega];exact h3
    · intro h
      rw [h i (Nat.le_refl _) (by omega),ih.2 fun j h1 h2=>h j (by omega) (by omega)]
theorem descP_inj {s t k:Nat} {R Q:List Int} {xs ys:List Int} (hR:NonNeg R) (hQ:NonNeg Q):descP s R xs k=descP t Q ys k↔numP s R xs=numP t Q ys∧∀ i:Nat,i<k→movesTo s R xs i s=movesTo t Q ys i t:=by
  have e:∀ (s:Nat) (R xs:List Int),descM s R xs k=descT s R xs 0 k:=fun s R xs=>by
    have:=descM_tail s R xs 0 k
    rw [Nat.zero_add] at this
    rw [← this];rfl
  unfold descP
  rw [e,e]
  constructor
  · intro h
    rw [List.append_assoc,List.append_assoc] at h
    obtain ⟨h1,h2⟩:=cut2 (decS_dig2 _) (decS_dig2 _) (descT_head _ _ _ _ _) (descT_head _ _ _ _ _) (List.append_cancel_left h)
    have h3:=decS_inj h1
    have h4:0≤numP s R xs:=hR _
    have h5:0≤numP t Q ys:=hQ _
    exact ⟨by omega,fun i hi=>(descT_inj hR hQ).1 h2 i (by omega) (by omega)⟩
  · rintro ⟨h1,h2⟩
    rw [h1,(descT_inj hR hQ).2 fun j _ hj=>h2 j (by omega)]
def textS (a:St) (R:List Int) (k:Nat) (i:Nat):List UInt8:=descP a.n.toNat R (atP a.n.toNat k i) k
structure GoodP (n k:Nat) (a b:St) (Ra Rb:List Int):Prop where
 aa:∀ xs ys,Peb a.n.toNat k xs→Peb a.n.toNat k ys→(numP a.n.toNat Ra xs=numP a.n.toNat Ra ys↔pW n a xs a ys)
 ab:∀ xs ys,Peb a.n.toNat k xs→Peb b.n.toNat k ys→(numP a.n.toNat Ra xs=numP b.n.toNat Rb ys↔pW n a xs b ys)
 ba:∀ xs ys,Peb b.n.toNat k xs→Peb a.n.toNat k ys→(numP b.n.toNat Rb xs=numP a.n.toNat Ra ys↔pW n b xs a ys)
 bb:∀ xs ys,Peb b.n.toNat k xs→Peb b.n.toNat k ys→(numP b.n.toNat Rb xs=numP b.n.toNat Rb ys↔pW n b xs b ys)
theorem good_zero {a b:St} {k:Nat} {T:List (List UInt8)} (hT:T.Nodup) {Ra Rb:List Int} (ha:NumOf T (text0 a k) Ra ((a.n.toNat+1) ^ k)) (hb:NumOf T (text0 b k) Rb ((b.n.toNat+1) ^ k)):GoodP 0 k a b Ra Rb:=by
 have key:∀ {c d:St} {R Q:List Int},NumOf T (text0 c k) R ((c.n.toNat+1) ^ k)→NumOf T (text0 d k) Q ((d.n.toNat+1) ^ k)→∀ xs ys,Peb c.n.toNat k xs→Peb d.n.toNat k ys→(numP c.n.toNat R xs=numP d.n.toNat Q ys↔pW 0 c xs d ys):=fun {c d R Q} hc hd xs ys hx hy=>by
  unfold numP
  rw [NumOf.eq hT hc hd (idxP_lt hx) (idxP_lt hy)]
  unfold text0
  rw [at_idx hx,at_idx hy]
  exact text0_eq (hx.1.trans hy.1.symm)
 exact ⟨key ha ha,key ha hb,key hb ha,key hb hb⟩
theorem good_step {n k:Nat} {a b:St} {T:List (List UInt8)} (hT:T.Nodup) {Ra Rb Ra' Rb':List Int} (hR:NonNeg Ra) (hQ:NonNeg Rb) (h:GoodP n k a b Ra Rb) (ha:NumOf T (textS a Ra k) Ra' ((a.n.toNat+1) ^ k)) (hb:NumOf T (textS b Rb k) Rb' ((b.n.toNat+1) ^ k)):GoodP (n+1) k a b Ra' Rb':=by
 have key:∀ {c d:St} {R Q R' Q':List Int},NonNeg R→NonNeg Q→(∀ xs ys,Peb c.n.toNat k xs→Peb d.n.toNat k ys→(numP c.n.toNat R xs=numP d.n.toNat Q ys↔pW n c xs d ys)) →
   NumOf T (textS c R k) R' ((c.n.toNat+1) ^ k)→NumOf T (textS d Q k) Q' ((d.n.toNat+1) ^ k)→∀ xs ys,Peb c.n.toNat k xs→Peb d.n.toNat k ys→(numP c.n.toNat R' xs=numP d.n.toNat Q' ys↔pW (n+1) c xs d ys):=fun {c d R Q R' Q'} nR nQ hg hc hd xs ys hx hy=>by
  show R'.getD _ 0=Q'.getD _ 0↔_
  rw [NumOf.eq hT hc hd (idxP_lt hx) (idxP_lt hy)]
  unfold textS
  rw [at_idx hx,at_idx hy,descP_inj nR nQ,hg xs ys hx hy]
  show _↔pW n c xs d ys∧_
  refine and_congr_right fun _=>?_
  rw [hx.1]
  refine forall_congr' fun i=>imp_congr_right fun hi=>?_
  rw [moves_eq]
  exact BijR.congr fun x y hx' hy'=>hg _ _ (peb_set hx hx') (peb_set hy hy')
 exact ⟨key hR hR h.aa ha ha,key hR hQ h.ab ha hb,key hQ hR h.ba hb ha,key hQ hQ h.bb hb hb⟩
end Go.Wk.C
namespace Go.Wk.C
open Go.RowKit Go.Wk
structure LevP (n k:Nat) (a b:St) (Ra Rb:List Int) (K:Nat):Prop where
 good:GoodP n k a b Ra Rb
 la:Ra.length=(a.n.toNat+1) ^ k
 lb:Rb.length=(b.n.toNat+1) ^ k
 sa:∀ i:Nat,i<Ra.length→0≤Ra.getD i 0∧Ra.getD i 0<(K:Int)
 sb:∀ i:Nat,i<Rb.length→0≤Rb.getD i 0∧Rb.getD i 0<(K:Int)
 onto:∀ m:Nat,m<K→(∃ i:Nat,i<Ra.length∧Ra.getD i 0=(m:Int))∨∃ i:Nat,i<Rb.length∧Rb.getD i 0=(m:Int)
theorem lev_of {n k:Nat} {a b:St} {ta tb:Nat→List UInt8} {T1 T2:List (List UInt8)} {Ra Rb:List Int} (hp:T1 <+: T2) (ha:NumOf T1 ta Ra ((a.n.toNat+1) ^ k)) (hb:NumOf T2 tb Rb ((b.n.toNat+1) ^ k)) (oa:Onto [] T1 Ra ((a.n.toNat+1) ^ k)) (ob:Onto T1 T2 Rb ((b.n.toNat+1) ^ k)) (hg:GoodP n k a b Ra Rb):LevP n k a b Ra Rb T2.length:=by
  refine ⟨hg,ha.1,hb.1,fun i hi=>num_small (ha.mono hp) hi,fun i hi=>num_small hb hi,fun m hm=>?_⟩
  rcases Nat.lt_or_ge m T1.length with h1 | h1
  · obtain ⟨i,h2,h3⟩:=oa m (Nat.zero_le _) h1
    exact .inl ⟨i,by rw [ha.1];exact h2,h3⟩
  · obtain ⟨i,h2,h3⟩:=ob m h1 hm
    exact .inr ⟨i,by rw [hb.1];exact h2,h3⟩
theorem lev_zero {k:Nat} {a b:St} {T1 T2:List (List UInt8)} {Ra Rb:List Int} (hT:T2.Nodup) (hp:T1 <+: T2) (ha:NumOf T1 (text0 a k) Ra ((a.n.toNat+1) ^ k)) (hb:NumOf T2 (text0 b k) Rb ((b.n.toNat+1) ^ k)) (oa:Onto [] T1 Ra ((a.n.toNat+1) ^ k)) (ob:Onto T1 T2 Rb ((b.n.toNat+1) ^ k)):LevP 0 k a b Ra Rb T2.length :=
 lev_of hp ha hb oa ob (good_zero hT (ha.mono hp) hb)
theorem LevP.na {n k:Nat} {a b:St} {Ra Rb:List Int} {K:Nat} (h:LevP n k a b Ra Rb K):NonNeg Ra:=fun i=>by
  rcases Nat.lt_or_ge i Ra.length with h1 | h1
  · exact (h.sa i h1).1
  · rw [List.getD_eq_getElem?_getD,List.getElem?_eq_none h1];exact Int.le_refl 0
theorem LevP.nb {n k:Nat} {a b:St} {Ra Rb:List Int} {K:Nat} (h:LevP n k a b Ra Rb K):NonNeg Rb:=fun i=>by
  rcases Nat.lt_or_ge i Rb.length with h1 | h1
  · exact (h.sb i h1).1
  · rw [List.getD_eq_getElem?_getD,List.getElem?_eq_none h1];exact Int.le_refl 0
theorem LevP.ma {n k:Nat} {a b:St} {Ra Rb:List Int} {K:Nat} (h:LevP n k a b Ra Rb K) (hK:K≤1000000):∀ i:Nat,0≤Ra.getD i 0∧Ra.getD i 0<1000000:=fun i=>by
  rcases Nat.lt_or_ge i Ra.length with h1 | h1
  · have:=h.sa i h1;omega
  · rw [List.getD_eq_getElem?_getD,List.getElem?_eq_none h1];exact ⟨Int.le_refl 0,by decide⟩
theorem LevP.mb {n k:Nat} {a b:St} {Ra Rb:List Int} {K:Nat} (h:LevP n k a b Ra Rb K) (hK:K≤1000000):∀ i:Nat,0≤Rb.getD i 0∧Rb.getD i 0<1000000:=fun i=>by
  rcases Nat.lt_or_ge i Rb.length with h1 | h1
  · have:=h.sb i h1;omega
  · rw [List.getD_eq_getElem?_getD,List.getElem?_eq_none h1];exact ⟨Int.le_refl 0,by decide⟩
theorem lev_step {n k K:Nat} {a b:St} {T1 T2:List (List UInt8)} {Ra Rb Ra' Rb':List Int} (h:LevP n k a b Ra Rb K) (hT:T2.Nodup) (hp:T1 <+: T2) (ha:NumOf T1 (textS a Ra k) Ra' ((a.n.toNat+1) ^ k)) (hb:NumOf T2 (textS b Rb k) Rb' ((b.n.toNat+1) ^ k)) (oa:Onto [] T1 Ra' ((a.n.toNat+1) ^ k)) (ob:Onto T1 T2 Rb' ((b.n.toNat+1) ^ k)):LevP (n+1) k a b Ra' Rb' T2.length :=
 lev_of hp ha hb oa ob (good_step hT h.na h.nb h.good (ha.mono hp) hb)
theorem sV_iff {n k:Nat} {a b:St} {Ra Rb:List Int} (h:GoodP n k a b Ra Rb) {s t:Bool×List Int} (hs:sP a b k s) (ht:sP a b k t):sV a b Ra Rb s=sV a b Ra Rb t↔pW n (sS a b s) s.2 (sS a b t) t.2:=by
  obtain ⟨u,xs⟩:=s
  obtain ⟨v,ys⟩:=t
  cases u <;> cases v
  · exact h.aa xs ys hs ht
  · exact h.ab xs ys hs ht
  · exact h.ba xs ys hs ht
  · exact h.bb xs ys hs ht
theorem lev_rep {n k K:Nat} {a b:St} {Ra Rb:List Int} (h:LevP n k a b Ra Rb K) {m:Nat} (hm:m<K):∃ s,sP a b k s∧sV a b Ra Rb s=(m:Int):=by
  rcases h.onto m hm with ⟨i,h1,h2⟩ | ⟨i,h1,h2⟩
  · refine ⟨(false,atP a.n.toNat k i),atP_peb _ _ _,?_⟩
    show numP a.n.toNat Ra (atP a.n.toNat k i)=_
    rw [num_at (by rw [← h.la];exact h1)];exact h2
  · refine ⟨(true,atP b.n.toNat k i),atP_peb _ _ _,?_⟩
    show numP b.n.toNat Rb (atP b.n.toNat k i)=_
    rw [num_at (by rw [← h.lb];exact h1)];exact h2
theorem lev_sV {n k K:Nat} {a b:St} {Ra Rb:List Int} (h:LevP n k a b Ra Rb K) {s:Bool×List Int} (hs:sP a b k s):0≤sV a b Ra Rb s∧sV a b Ra Rb s<(K:Int):=by
  obtain ⟨u,xs⟩:=s
  cases u
  · exact h.sa _ (by rw [h.la];exact idxP_lt hs)
  · exact h.sb _ (by rw [h.lb];exact idxP_lt hs)
theorem lev_reps {n k K:Nat} {a b:St} {Ra Rb:List Int} (h:LevP n k a b Ra Rb K):∀ m:Nat,m≤K→∃ L:List (Bool×List Int),L.length=m∧(∀ s∈L,sP a b k s)∧L.map (sV a b Ra Rb)=(List.range m).map fun i:Nat=>(i:Int)
  | 0,_=>⟨[],rfl,(fun s h=>by cases h),rfl⟩
  | m+1,hm=>by
    obtain ⟨L,h1,h2,h3⟩:=lev_reps h m (by omega)
    obtain ⟨s,h4,h5⟩:=lev_rep h (m:=m) (by omega)
    refine ⟨L++[s],by simp [h1],fun t ht=>?_,by rw [List.map_append,h3,List.range_succ,List.map_append];simp [h5]⟩
    rcases List.mem_append.1 ht with h | h
    · exact h2 t h
    · rw [List.mem_singleton.1 h];exact h4
theorem lev_fine {n k K K':Nat} {a b:St} {Ra Rb Ra' Rb':List Int} (h:LevP n k a b Ra Rb K) (h':LevP (n+1) k a b Ra' Rb' K') {s t:Bool×List Int} (hs:sP a b k s) (ht:sP a b k t) (e:sV a b Ra' Rb' s=sV a b Ra' Rb' t):sV a b Ra Rb s=sV a b Ra Rb t :=
 (sV_iff h.good hs ht).2 ((sV_iff h'.good hs ht).1 e).1
theorem reps_nodup' {n k K K':Nat} {a b:St} {Ra Rb Ra' Rb':List Int} (h:LevP n k a b Ra Rb K) (h':LevP (n+1) k a b Ra' Rb' K') {L:List (Bool×List Int)} {m:Nat} (h2:∀ s∈L,sP a b k s) (h3:L.map (sV a b Ra Rb)=(List.range m).map fun i:Nat=>(i:Int)):(L.map (sV a b Ra' Rb')).Nodup:=by
 have hn:(L.map (sV a b Ra Rb)).Nodup:=by
  rw [h3];exact nodup_map_inj (fun x _ y _ e=>Int.ofNat.inj e) List.nodup_range
 clear h3
 induction L with
 | nil=>exact List.nodup_nil
 | cons s L ih =>
  rw [List.map_cons,List.nodup_cons] at hn ⊢
  refine ⟨fun hm=>hn.1 ?_,ih (fun t ht=>h2 t (List.mem_cons_of_mem _ ht)) hn.2⟩
  obtain ⟨t,ht,e⟩:=List.mem_map.1 hm
  exact List.mem_map.2 ⟨t,ht,lev_fine h h' (h2 t (List.mem_cons_of_mem _ ht)) (h2 s List.mem_cons_self) e⟩
theorem lev_le {n k K K':Nat} {a b:St} {Ra Rb Ra' Rb':List Int} (h:LevP n k a b Ra Rb K) (h':LevP (n+1) k a b Ra' Rb' K'):K≤K':=by
 obtain ⟨L,h1,h2,h3⟩:=lev_reps h K (Nat.le_refl _)
 have:=nodup_le K' (L.map (sV a b Ra' Rb')) (reps_nodup' h h' h2 h3) fun x hx=>by
  obtain ⟨s,hs,rfl⟩:=List.mem_map.1 hx
  exact lev_sV h' (h2 s hs)
 rw [List.length_map,h1] at this
 exact this
theorem lev_still {n k K:Nat} {a b:St} {Ra Rb Ra' Rb':List Int} (h:LevP n k a b Ra Rb K) (h':LevP (n+1) k a b Ra' Rb' K) {s t:Bool×List Int} (hs:sP a b k s) (ht:sP a b k t) (e:sV a b Ra Rb s=sV a b Ra Rb t):sV a b Ra' Rb' s=sV a b Ra' Rb' t:=by
  obtain ⟨L,h1,h2,h3⟩:=lev_reps h K (Nat.le_refl _)
  have hn:=reps_nodup' h h' h2 h3
  obtain ⟨hz,hK⟩:=lev_sV h hs
  obtain ⟨r,hr,er⟩:∃ r∈L,sV a b Ra Rb r=sV a b Ra Rb s:=by
    have hm:sV a b Ra Rb s∈L.map (sV a b Ra Rb):=by
      rw [h3];exact List.mem_map.2 ⟨(sV a b Ra Rb s).toNat,List.mem_range.2 (by omega),by omega⟩
    exact List.mem_map.1 hm
  have key:∀ u,sP a b k u→sV a b Ra Rb u=sV a b Ra Rb s→sV a b Ra' Rb' u=sV a b Ra' Rb' r:=fun u hu eu=>by
    by_cases hc:sV a b Ra' Rb' u∈L.map (sV a b Ra' Rb')
    · obtain ⟨v,hv,ev⟩:=List.mem_map.1 hc
      have e1:=lev_fine h h' (h2 v hv) hu ev
      have e2:sV a b Ra Rb v=sV a b Ra Rb r:=e1.trans (eu.trans er.symm)
      have inj:∀ {L:List (Bool×List Int)},(L.map (sV a b Ra Rb)).Nodup→∀ v∈L,∀ r∈L,sV a b Ra Rb v=sV a b Ra Rb r→v=r:=fun {L} hL=>by
        induction L with
        | nil=>intro v hv;cases hv
        | cons x L ih =>
          rw [List.map_cons,List.nodup_cons] at hL
          intro v hv r hr e
          rcases List.mem_cons.1 hv with e1 | hv'
          · rcases List.mem_cons.1 hr with e2 | hr'
            · rw [e1,e2]
            · exact absurd (List.mem_map.2 ⟨r,hr',by rw [← e,e1]⟩) hL.1
          · rcases List.mem_cons.1 hr with e2 | hr'
            · exact absurd (List.mem_map.2 ⟨v,hv',by rw [e,e2]⟩) hL.1
            · exact ih hL.2 v hv' r hr' e
      have hn2:(L.map (sV a b Ra Rb)).Nodup:=by
        rw [h3];exact nodup_map_inj (fun x _ y _ e=>Int.ofNat.inj e) List.nodup_range
      rw [← inj hn2 v hv r hr e2];exact ev.symm
    · exfalso
      have:=nodup_le K (sV a b Ra' Rb' u::L.map (sV a b Ra' Rb')) (List.nodup_cons.2 ⟨hc,hn⟩) fun x hx=>by
        rcases List.mem_cons.1 hx with rfl | hx
        · exact lev_sV h' hu
        · obtain ⟨s,hs,rfl⟩:=List.mem_map.1 hx
          exact lev_sV h' (h2 s hs)
      rw [List.length_cons,List.length_map,h1] at this
      omega
  exact (key s hs rfl).trans (key t ht e.symm).symm
def pF (a:St) (xs:List Int) (b:St) (ys:List Int):Prop:=∀ n,pW n a xs b ys
def Still (n k:Nat) (a b:St):Prop:=∀ s t,sP a b k s→sP a b k t→pW n (sS a b s) s.2 (sS a b t) t.2→pW (n+1) (sS a b s) s.2 (sS a b t) t.2
theorem still_of {n k K:Nat} {a b:St} {Ra Rb Ra' Rb':List Int} (h:LevP n k a b Ra Rb K) (h':LevP (n+1) k a b Ra' Rb' K):Still n k a b:=fun _ _ hs ht e =>
 (sV_iff h'.good hs ht).1 (lev_still h h' hs ht ((sV_iff h.good hs ht).2 e))
theorem Still.next {n k:Nat} {a b:St} (h:Still n k a b):Still (n+1) k a b:=fun s t hs ht e=>by
 refine ⟨e,fun i hi=>?_⟩
 have put:∀ {u:Bool×List Int} {x:Nat},sP a b k u→x<(sS a b u).n.toNat→sP a b k (u.1,u.2.set i (x:Int)):=fun hu hx=>peb_set hu hx
 exact (e.2 i hi).mono fun x y hx hy e2=>h (s.1,s.2.set i (x:Int)) (t.1,t.2.set i (y:Int)) (put hs hx) (put ht hy) e2
theorem Still.all {n k:Nat} {a b:St} (h:Still n k a b):∀ m:Nat,Still (n+m) k a b
 | 0=>h
 | m+1=>(h.all m).next
theorem pW_less:∀ {n:Nat} {a:St} {xs:List Int} {b:St} {ys:List Int},∀ m:Nat,pW (n+m) a xs b ys→pW n a xs b ys
 | _,_,_,_,_,0,h=>h
 | _,_,_,_,_,m+1,h=>pW_less m (show pW (_+m) _ _ _ _ from h.1)
theorem Still.up {n k:Nat} {a b:St} (h:Still n k a b) {s t:Bool×List Int} (hs:sP a b k s) (ht:sP a b k t) (e:pW n (sS a b s) s.2 (sS a b t) t.2):∀ m:Nat,pW (n+m) (sS a b s) s.2 (sS a b t) t.2
 | 0=>e
 | m+1=>h.all m s t hs ht (h.up hs ht e m)
theorem Still.forever {n k:Nat} {a b:St} (h:Still n k a b) {xs ys:List Int} (hx:Peb a.n.toNat k xs) (hy:Peb b.n.toNat k ys):pW n a xs b ys↔pF a xs b ys:=by
 refine ⟨fun e m=>?_,fun e=>e n⟩
 have hh:=h.up (s:=(false,xs)) (t:=(true,ys)) hx hy e m
 rw [Nat.add_comm] at hh
 exact pW_less n hh
theorem kinds_lev {n k K:Nat} {a b:St} {Ra Rb:List Int} (h:LevP n k a b Ra Rb K):kindsP (Ra++Rb)=(K:Int):=by
  have hs:∀ x∈Ra++Rb,x<(K:Int):=fun x hx=>by
    rcases List.mem_append.1 hx with hx | hx
    · obtain ⟨i,hi,rfl⟩:=List.mem_iff_getElem.1 hx
      have:=(h.sa i hi).2
      rwa [getD_at hi] at this
    · obtain ⟨i,hi,rfl⟩:=List.mem_iff_getElem.1 hx
      have:=(h.sb i hi).2
      rwa [getD_at hi] at this
  obtain ⟨h1,h2⟩:=kinds_ge hs (by omega)
  cases K with
  | zero =>
    have hlt:0<Ra.length:=by rw [h.la];exact Nat.pow_pos (by omega)
    have:=h.sa 0 hlt
    omega
  | succ K =>
    have:((K:Nat):Int)∈Ra++Rb:=by
      rcases h.onto K (by omega) with ⟨i,hi,e⟩ | ⟨i,hi,e⟩
      · rw [← e,getD_at hi];exact List.mem_append_left _ (List.getElem_mem _)
      · rw [← e,getD_at hi];exact List.mem_append_right _ (List.getElem_mem _)
    have:=h2 _ this
    omega
open Classical in
noncomputable def pWinB (M:Nat) (a:St) (xs:List Int) (b:St) (ys:List Int):Bool:=if M≤4 then decide (pW M a xs b ys) else decide (pF a xs b ys)
noncomputable def pebWinB (a:St) (xs:List Int) (b:St) (ys:List Int) (t:Int):Bool:=readyB a xs b ys&&inB t 0 4&&pWinB t.toNat a xs b ys
open Classical in
noncomputable def winAt (n:Nat) (a b:St) (k s:Nat):Bool:=decide (pW n a (stX a b k s) b (stY a b k s))
open Classical in
theorem winAt_true {n:Nat} {a b:St} {k s:Nat}:winAt n a b k s=true↔pW n a (stX a b k s) b (stY a b k s):=by
 unfold winAt;exact decide_eq_true_iff
noncomputable def WL (n:Nat) (a b:St) (k:Nat):List Bool:=(List.range (prN a b ^ k)).map (winAt n a b k)
@[simp] theorem WL_len (n:Nat) (a b:St) (k:Nat):(WL n a b k).length=prN a b ^ k:=by simp [WL]
theorem WL_at {n:Nat} {a b:St} {k s:Nat} (h:s<prN a b ^ k):(WL n a b k).getD s false=winAt n a b k s:=by
 rw [getD_at (by rw [WL_len];exact h)];simp [WL]
theorem win_zero {a b:St} {k s:Nat} (hb:1≤b.n.toNat):winAt 0 a b k s=sameB a (placed (stX a b k s) k) b (placed (stY a b k s) k):=by
 rw [Bool.eq_iff_iff,winAt_true]
 unfold pW Go.Wk.pW
 rw [stX_len,stY_len]
 exact ⟨fun h=>h.2,fun h=>⟨st_signs hb,h⟩⟩
def Ans (W:Nat→Bool) (na nb rest step:Nat):Prop:=BijR na nb fun x y=>W (rest+step*(1+x*nb+y))=true
theorem ans_iff {n:Nat} {a b:St} {k s i:Nat} (hi:i<k):Ans (winAt n a b k) a.n.toNat b.n.toNat (zer (prN a b) s i) (prN a b ^ i) ↔
  BijR a.n.toNat b.n.toNat fun x y=>pW n a ((stX a b k s).set i (x:Int)) b ((stY a b k s).set i (y:Int)):=by
 have hp:=prN_pos a b
 refine BijR.congr fun x y hx hy=>?_
 have h0:=(dig_zer (s:=s) (i:=i) hp).1
 rw [winAt_true]
 unfold stX stY
 rw [pX_put hp hi h0 (pair_lt hx hy) hy,pY_put hp hi h0 (pair_lt hx hy) hy,pX_zer hp,pY_zer hp]
theorem pW_moves:∀ {n:Nat} {a:St} {xs:List Int} {b:St} {ys:List Int},pW 0 a xs b ys→(∀ i:Nat,i<xs.length→BijR a.n.toNat b.n.toNat fun x y=>pW n a (xs.set i (x:Int)) b (ys.set i (y:Int)))→pW n a xs b ys
 | 0,_,_,_,_,h,_=>h
 | _+1,_,_,_,_,h,hm=>⟨pW_moves h fun i hi=>(hm i hi).mono fun _ _ _ _ e=>e.1,fun i hi=>(hm i hi).mono fun _ _ _ _ e=>e.1⟩
theorem win_step {n:Nat} {a b:St} {k s:Nat}:winAt (n+1) a b k s=true↔winAt 0 a b k s=true∧∀ i:Nat,i<k→Ans (winAt n a b k) a.n.toNat b.n.toNat (zer (prN a b) s i) (prN a b ^ i):=by
  rw [winAt_true,winAt_true]
  constructor
  · intro h
    refine ⟨?_,fun i hi=>(ans_iff hi).2 (h.2 i (by rw [stX_len];exact hi))⟩
    have:=pW_less (n:=0) (n+1) (by rw [Nat.zero_add];exact h)
    exact this
  · rintro ⟨h1,h2⟩
    have hm:∀ i:Nat,i<(stX a b k s).length→_:=fun i hi=>(ans_iff (n:=n) (s:=s) (by rw [stX_len] at hi;exact hi)).1 (h2 i (by rw [stX_len] at hi;exact hi))
    exact ⟨pW_moves h1 hm,hm⟩
open Classical in
noncomputable def ansB (W:Nat→Bool) (na nb rest step:Nat):Bool:=decide (Ans W na nb rest step)
open Classical in
theorem ansB_true {W:Nat→Bool} {na nb rest step:Nat}:ansB W na nb rest step=true↔Ans W na nb rest step:=by
 unfold ansB;exact decide_eq_true_iff
structure TurnAt (fit W:Nat→Bool) (a b:St) (k i S:Nat) (X:List Bool):Prop where
 len:X.length=prN a b ^ k
 at_:∀ s:Nat,s<prN a b ^ k→(X.getD s false=true↔fit s=true∧(∀ j:Nat,j<i→Ans W a.n.toNat b.n.toNat (zer (prN a b) s j) (prN a b ^ j))∧(zer (prN a b) s i<S→Ans W a.n.toNat b.n.toNat (zer (prN a b) s i) (prN a b ^ i)))
theorem turn_zero {W:Nat→Bool} {a b:St} {k:Nat} {X:List Bool} (h:X.length=prN a b ^ k):TurnAt (fun s=>X.getD s false) W a b k 0 0 X :=
 ⟨h,fun s _=>⟨fun e=>⟨e,fun j hj=>absurd hj (by omega),fun h=>absurd h (by omega)⟩,fun e=>e.1⟩⟩
theorem turn_round {fit W:Nat→Bool} {a b:St} {k i:Nat} {X:List Bool} (h:TurnAt fit W a b k i (prN a b ^ k) X):TurnAt fit W a b k (i+1) 0 X :=
  ⟨h.len,fun s hs=>(h.at_ s hs).trans (and_congr_right fun _=>⟨fun e=>⟨fun j hj=>by
    rcases Nat.lt_or_ge j i with h1 | h1
    · exact e.1 j h1
    · rw [show j=i from by omega];exact e.2 (zer_lt hs),fun h=>absurd h (by omega)⟩,fun e=>⟨fun j hj=>e.1 j (by omega),fun _=>e.1 i (by omega)⟩⟩)⟩
theorem turn_skip {fit W:Nat→Bool} {a b:St} {k i S:Nat} {X:List Bool} (h:TurnAt fit W a b k i S X) (hd:dig (prN a b) S i ≠ 0):TurnAt fit W a b k i (S+1) X :=
 ⟨h.len,fun s hs=>(h.at_ s hs).trans (and_congr_right fun _=>and_congr_right fun _=>by
  have hne:zer (prN a b) s i ≠ S:=fun e=>hd (by rw [← e];exact (dig_zer (prN_pos a b)).1)
  exact ⟨fun e h1=>e (by omega),fun e h1=>e (by omega)⟩)⟩
theorem turn_yes {fit W:Nat→Bool} {a b:St} {k i S:Nat} {X:List Bool} (h:TurnAt fit W a b k i S X) (hA:Ans W a.n.toNat b.n.toNat S (prN a b ^ i)):TurnAt fit W a b k i (S+1) X :=
  ⟨h.len,fun s hs=>(h.at_ s hs).trans (and_congr_right fun _=>and_congr_right fun _=>by
    refine ⟨fun e h1=>?_,fun e h1=>e (by omega)⟩
    by_cases hz:zer (prN a b) s i=S
    · rw [hz];exact hA
    · exact e (by omega))⟩
theorem turn_no {fit W:Nat→Bool} {a b:St} {k i S:Nat} {X X':List Bool} (h:TurnAt fit W a b k i S X) (hd:dig (prN a b) S i=0) (hA:¬ Ans W a.n.toNat b.n.toNat S (prN a b ^ i)) (hc:Cleared X X' S (prN a b ^ i) (prN a b)):TurnAt fit W a b k i (S+1) X':=by
  refine ⟨hc.len.trans h.len,fun s hs=>?_⟩
  rw [hc.at_ s (by rw [h.len];exact hs),h.at_ s hs,← zer_iff (prN_pos a b) hd]
  constructor
  · rintro ⟨⟨h1,h2,h3⟩,h4⟩
    exact ⟨h1,h2,fun h5=>h3 (by omega)⟩
  · rintro ⟨h1,h2,h3⟩
    refine ⟨⟨h1,h2,fun h5=>h3 (by omega)⟩,fun e=>hA ?_⟩
    have:=h3 (by omega)
    rwa [e] at this
theorem ans_wl {n:Nat} {a b:St} {k s j:Nat} (hj:j<k) (hs:s<prN a b ^ k):Ans (fun s=>(WL n a b k).getD s false) a.n.toNat b.n.toNat (zer (prN a b) s j) (prN a b ^ j)↔Ans (winAt n a b k) a.n.toNat b.n.toNat (zer (prN a b) s j) (prN a b ^ j):=by
 refine BijR.congr fun x y hx hy=>?_
 dsimp only
 rw [WL_at (put_lt (prN_pos a b) (dig_zer (prN_pos a b)).1 (pair_lt hx hy) hj (zer_lt hs))]
theorem turn_end {n:Nat} {a b:St} {k:Nat} {X:List Bool} (h:TurnAt (fun s=>(WL 0 a b k).getD s false) (fun s=>(WL n a b k).getD s false) a b k k 0 X):X=WL (n+1) a b k:=by
 refine bools_same (by rw [h.len,WL_len]) fun s hs=>?_
 rw [h.len] at hs
 rw [WL_at hs,Bool.eq_iff_iff,h.at_ s hs,win_step,WL_at hs]
 exact and_congr_right fun _=>⟨fun e i hi=>(ans_wl hi hs).1 (e.1 i hi),fun e=>⟨fun i hi=>(ans_wl hi hs).2 (e i hi),fun h=>absurd h (by omega)⟩⟩
open Classical in
theorem win_code {t:Int} {a b:St} {xs ys:List Int} (hr:readyB a xs b ys=true) (h0:0≤t) (h4:t≤4):(WL t.toNat a b xs.length).getD (stN a b xs ys) false=pebWinB a xs b ys t:=by
 obtain ⟨hs,ex,ey⟩:=ready_state hr
 unfold pebWinB pWinB
 rw [hr,show inB t 0 4=true from by unfold inB;simp;omega,if_pos (by omega),Bool.true_and,Bool.true_and,WL_at hs,Bool.eq_iff_iff,winAt_true,decide_eq_true_eq,ex,ey]
theorem num_there (ta tb:Nat→List UInt8) (N M:Nat):∃ T:List (List UInt8),T.Nodup∧(∃ R,NumOf T ta R N)∧∃ Q,NumOf T tb Q M:=by
  have key:∀ (l:List (List UInt8)),∃ T:List (List UInt8),T.Nodup∧∀ s∈l,s∈T:=fun l=>by
    induction l with
    | nil=>exact ⟨[],List.nodup_nil,(fun s h=>by cases h)⟩
    | cons s l ih =>
      obtain ⟨T,h1,h2⟩:=ih
      by_cases h:s∈T
      · exact ⟨T,h1,fun t ht=>(List.mem_cons.1 ht).elim (fun e=>e ▸ h) (h2 t)⟩
      · exact ⟨s::T,List.nodup_cons.2 ⟨h,h1⟩,fun t ht=>(List.mem_cons.1 ht).elim (fun e=>e ▸ List.mem_cons_self ..) (fun e=>List.mem_cons_of_mem _ (h2 t e))⟩
  obtain ⟨T,hT,hm⟩:=key ((List.range N).map ta++(List.range M).map tb)
  have row:∀ (t:Nat→List UInt8) (N:Nat),(∀ i:Nat,i<N→t i∈T)→∃ R,NumOf T t R N:=fun t N h=>by
    refine ⟨(List.range N).map fun i:Nat=>((T.idxOf (t i):Nat):Int),by simp,fun i hi=>⟨T.idxOf (t i),by rw [getD_here (by simpa using hi)];simp,?_⟩⟩
    have h1:=List.idxOf_lt_length_of_mem (h i hi)
    rw [List.getElem?_eq_getElem h1,List.getElem_idxOf h1]
  exact ⟨T,hT,row ta N fun i hi=>hm _ (List.mem_append_left _ (List.mem_map.2 ⟨i,List.mem_range.2 hi,rfl⟩)),row tb M fun i hi=>hm _ (List.mem_append_right _ (List.mem_map.2 ⟨i,List.mem_range.2 hi,rfl⟩))⟩
theorem good_there (k:Nat) (a b:St):∀ n:Nat,∃ Ra Rb,NonNeg Ra∧NonNeg Rb∧GoodP n k a b Ra Rb
 | 0=>by
  obtain ⟨T,hT,⟨R,hR⟩,Q,hQ⟩:=num_there (text0 a k) (text0 b k) ((a.n.toNat+1) ^ k) ((b.n.toNat+1) ^ k)
  exact ⟨R,Q,hR.nn,hQ.nn,good_zero hT hR hQ⟩
 | n+1=>by
  obtain ⟨Ra,Rb,h1,h2,h3⟩:=good_there k a b n
  obtain ⟨T,hT,⟨R,hR⟩,Q,hQ⟩:=num_there (textS a Ra k) (textS b Rb k) ((a.n.toNat+1) ^ k) ((b.n.toNat+1) ^ k)
  exact ⟨R,Q,hR.nn,hQ.nn,good_step hT h1 h2 h3 hR hQ⟩
theorem wl_numbers {n k i s:Nat} {a b:St} (hi:i<k) (hs:s<prN a b ^ k) (hd:dig (prN a b) s i=0) (hb:1≤b.n.toNat):∃ u v:Nat→Int,∀ x y:Nat,x<a.n.toNat→y<b.n.toNat→((WL n a b k).getD (s+prN a b ^ i*(1+x*b.n.toNat+y)) false=true↔u x=v y):=by
 obtain ⟨Ra,Rb,_,_,hG⟩:=good_there k a b n
 have hp:=prN_pos a b
 refine ⟨fun x=>numP a.n.toNat Ra ((stX a b k s).set i (x:Int)),fun y=>numP b.n.toNat Rb ((stY a b k s).set i (y:Int)),fun x y hx hy=>?_⟩
 have hz:zer (prN a b) s i=s:=by unfold zer;rw [hd];simp
 have h0:=(dig_zer (s:=s) (i:=i) hp).1
 rw [hz] at h0
 rw [WL_at (put_lt hp h0 (pair_lt hx hy) hi hs),winAt_true,hG.ab _ _ (peb_set stX_peb hx) (peb_set (stY_peb hb) hy)]
 unfold stX stY
 rw [pX_put hp hi h0 (pair_lt hx hy) hy,pY_put hp hi h0 (pair_lt hx hy) hy]
end Go.Wk.C
namespace Go.Wk.C
open Go.RowKit Go.Wk
theorem game_go {n k M K K':Nat} {a b:St} {Ra Rb Ra' Rb':List Int} (h:LevP n k a b Ra Rb K) (h':LevP (n+1) k a b Ra' Rb' K') (hg:4<M→n<K) (hd:4<M→¬ kindsP (Ra'++Rb')=kindsP (Ra++Rb)):4<M→n+1<K':=fun h4=>by
 have h1:=hd h4
 rw [kinds_lev h,kinds_lev h'] at h1
 have h2:=lev_le h h'
 have h3:=hg h4
 omega
open Classical in
theorem game_stop {n k M K K':Nat} {a b:St} {Ra Rb Ra' Rb':List Int} (h:LevP n k a b Ra Rb K) (h':LevP (n+1) k a b Ra' Rb' K') (h4:4<M) (hd:kindsP (Ra'++Rb')=kindsP (Ra++Rb)) {xs ys:List Int} (hx:Peb a.n.toNat k xs) (hy:Peb b.n.toNat k ys) :
  decide (numP a.n.toNat Ra xs=numP b.n.toNat Rb ys)=pWinB M a xs b ys:=by
 rw [kinds_lev h,kinds_lev h'] at hd
 have e:K'=K:=by omega
 subst e
 unfold pWinB
 rw [if_neg (by omega),Bool.eq_iff_iff,decide_eq_true_iff,decide_eq_true_iff,h.good.ab xs ys hx hy]
 exact (still_of h h').forever hx hy
open Classical in
theorem game_end {n k M K:Nat} {a b:St} {Ra Rb:List Int} (h:LevP n k a b Ra Rb K) (hn:n=M) (hM:M≤4∨M=2000) (hg:4<M→n<K) (hK:K≤1458) {xs ys:List Int} (hx:Peb a.n.toNat k xs) (hy:Peb b.n.toNat k ys) :
    decide (numP a.n.toNat Ra xs=numP b.n.toNat Rb ys)=pWinB M a xs b ys:=by
  subst hn
  unfold pWinB
  by_cases h4:n≤4
  · rw [if_pos h4,Bool.eq_iff_iff,decide_eq_true_iff,decide_eq_true_iff,h.good.ab xs ys hx hy]
  · have:=hg (by omega)
    omega
theorem LevP.sm {n k K:Nat} {a b:St} {Ra Rb:List Int} (h:LevP n k a b Ra Rb K) (hK:K≤1000000):∀ i:Nat,i<(Ra++Rb).length→0≤(Ra++Rb).getD i 0∧(Ra++Rb).getD i 0<1000000:=fun i hi=>by
  rw [List.getD_eq_getElem?_getD]
  rcases Nat.lt_or_ge i Ra.length with h1 | h1
  · rw [List.getElem?_append_left h1,← List.getD_eq_getElem?_getD];exact h.ma hK i
  · rw [List.getElem?_append_right h1,← List.getD_eq_getElem?_getD];exact h.mb hK _
theorem moves_small {size:Nat} {R xs:List Int} {i m:Nat} (hR:∀ i:Nat,0≤R.getD i 0∧R.getD i 0<1000000):∀ z∈movesTo size R xs i m,0≤z∧z<1000000000000:=fun z hz=>by
 obtain ⟨x,_,rfl⟩:=moves_mem.1 hz
 have:=hR (idxP size (xs.set i (x:Int)))
 unfold numP
 omega
theorem descM_len {size:Nat} {R xs:List Int} (h8:size≤8) (hR:∀ i:Nat,0≤R.getD i 0∧R.getD i 0<1000000):∀ i:Nat,(descM size R xs i).length≤105*i
 | 0=>Nat.le_refl _
 | i+1=>by
  have ih:=descM_len (xs:=xs) h8 hR i
  have h1:=commas_len (L:=movesTo size R xs i size) (moves_small hR)
  rw [moves_le] at h1
  unfold descM
  rw [List.length_append,List.length_append,List.length_singleton]
  omega
theorem moves_len (size:Nat) (R:List Int) (xs:List Int) (i:Nat) (m:Nat):(movesTo size R xs i m).length≤m:=Nat.le_of_eq (moves_le size R xs i m)
def nF (T:List Bool):Nat:=T.countP (fun t=>!t)
theorem nF_le:∀ {T T':List Bool},T'.length=T.length→(∀ y:Nat,T.getD y false=true→T'.getD y false=true)→nF T'≤nF T
 | [],[],_,_=>Nat.le_refl _
 | [],_::_,h,_=>by simp at h
 | _::_,[],h,_=>by simp at h
 | t::T,t'::T',h,hm=>by
  have ih:=nF_le (T:=T) (T':=T') (by simpa using h) fun y hy=>by simpa using hm (y+1) (by simpa using hy)
  have h0:=hm 0
  simp only [List.getD_cons_zero] at h0
  unfold nF at ih ⊢
  rw [List.countP_cons,List.countP_cons]
  cases t <;> cases t' <;> simp_all <;> omega
theorem nF_set:∀ {T:List Bool} {k:Nat},k<T.length→T.getD k false=false→nF (T.set k true)<nF T
 | [],_,h,_=>by simp at h
 | t::T,0,_,h=>by
  simp only [List.getD_cons_zero] at h
  subst h
  unfold nF
  simp
 | t::T,k+1,hk,h=>by
  have ih:=nF_set (T:=T) (k:=k) (by simpa using hk) (by simpa using h)
  unfold nF at ih ⊢
  rw [List.set_cons_succ,List.countP_cons,List.countP_cons]
  omega
theorem Partners.who {u v:Nat→Int} {na nb:Nat} {Pt:List Int} (h:Partners u v na nb Pt) {y:Nat} (hy:y<nb) (h0:¬ Pt.getD y 0<0):∃ x:Nat,Pt.getD y 0=(x:Int)∧x<na∧u x=v y:=by
  rcases h.fit y hy with e | e
  · omega
  · exact e
theorem bools_rep (n:Nat):bools (List.replicate n false)=List.replicate n (.bool false):=by unfold bools;simp
theorem rep_no (n y:Nat):(List.replicate n false).getD y false=false:=by
 rw [List.getD_eq_getElem?_getD,List.getElem?_replicate]
 split <;> rfl
open Classical in
theorem ansB_iff {W:Nat→Bool} {na nb rest step:Nat} {c:Bool} (h:c=true↔Ans W na nb rest step):c=ansB W na nb rest step:=by
 rw [Bool.eq_iff_iff,ansB_true];exact h
theorem row_putB {u:Array Value} {X:List Bool} {off:Nat} {b:Bool} (h:u.toList.take X.length=bools X):(u.setIfInBounds off (.bool b)).toList.take (X.set off b).length=bools (X.set off b):=by
 rw [List.length_set];exact row_put h
theorem row_putI {u:Array Value} {X:List Int} {off:Nat} {x:Int} (h:u.toList.take X.length=ints X):(u.setIfInBounds off (.int .i64 x)).toList.take (X.set off x).length=ints (X.set off x):=by
 rw [List.length_set,Array.toList_setIfInBounds,List.take_set,h]
 simp [ints,List.map_set]
theorem ownBox {w0 w:World} {hs:List (Nat×Obj)} {g:Nat} {o:Obj} (hg:w0.heap[g]?=some o) (hw:Own w0.heap.size w0 hs w):w.heap[g]?=some o:=by
  have hlt:g<w0.heap.size:=by
    rcases Nat.lt_or_ge g w0.heap.size with h | h
    · exact h
    · rw [Array.getElem?_eq_none h] at hg;cases hg
  exact (hw.below.block g hlt).trans hg
end Go.Wk.C
namespace Go.Wk
open Go.RowKit
abbrev OptR:=Option (Nat×Nat×Array Value)
def optV:OptR→Nat→Value
 | none,_=>.slice none 0 0
 | some (g,c,_),m=>.slice (some ⟨g,0,none⟩) m c
def optB (el:TypeId):OptR→List (Nat×Obj)
 | none=>[]
 | some (g,_,u)=>[(g,.cells u el (0,0))]
def OptOk (bs:List Bool):OptR→Prop
 | none=>bs=[]
 | some (_,c,u)=>u.size=c*1∧bs.length≤c∧u.toList.take bs.length=bools bs
section
variable {P:Program} {n:Nat} {B:Nat} {w0:World} {N R:Act→World→Prop} {X:List (Nat×(Act→World→Prop))} {e:Env} {ops:Array Oper} {l:List Oper} {o:Oper}
theorem Ll.appendOpt {t el d p:Nat} {T:TypeId} {x y:Operand} {q:OptR} {bs:List Bool} {b:Bool} {m:Nat} (hm:bs.length=m) (E:Elem P t el 1) (f r:List (Nat×Obj)) (i:Nat) (hq:OptOk bs q) (hd:Nat.blt d n=true) (hdst:o.dst=some d) (hg:wantE ops e o.guard=some true)
    (h:o.op=.call ⟨.builtin .append,#[x,y],#[t,t]⟩) (hx:opd e x=some (optV q m)) (hy:opd e y=some (.slice (some ⟨p,0,none⟩) 1 1)) (hi:f[i]?=some (p,.cells #[.bool b] T (0,0))) (hb:m≤1000000)
    (k:∀ g' c' u',B≤g'→OptOk (bs++[b]) (some (g',c',u'))→Ll P n (Own B w0 (f++(optB el (some (g',c',u'))++r))) ops l ((d,.slice (some ⟨g',0,none⟩) (m+1) c')::e) N R X):Ll P n (Own B w0 (f++(optB el q++r))) ops (o::l) e N R X:=by
  subst hm
  have hlt:i<f.length:=by
    rcases Nat.lt_or_ge i f.length with h1 | h1
    · exact h1
    · rw [List.getElem?_eq_none h1] at hi;cases hi
  have news:∀ (hs:List (Nat×Obj)),hs[i]?=some (p,.cells #[.bool b] T (0,0))→∀ w,Own B w0 hs w→∀ ad,some (⟨p,0,none⟩:Addr)=some ad→∀ j u,([Value.bool b])[j]?=some u→w.cell? (ad.add j)=some u:=fun hs hh w1 hw1 ad had j u hj=>by
    injection had with had;subst had
    rw [Addr.add_lit,Nat.zero_add,hw1.cell (i:=i) hh]
    simpa using hj
  have bl:bools (bs++[b])=bools bs++[Value.bool b]:=by simp [bools]
  cases q with
  | none =>
    have hb0:bs=[]:=hq
    subst hb0
    refine Ll.appendNil E [.bool b] hd hdst hg h hx hy (by decide) (by simp) rfl (news _ (by rw [List.getElem?_append_left hlt];exact hi)) (by decide) fun g' c' u' h1 h2 h3 h4=>?_
    have:=k g' c' u' h1 ⟨h2,by simpa using h3,by simpa [bools] using h4⟩
    unfold Ll at this ⊢
    exact fun a w hf hc=>this a w hf (hc.perm (perm_back [_] f r))
  | some q =>
    obtain ⟨g,c,u⟩:=q
    obtain ⟨s1,s2,s3⟩:=hq
    refine Ll.append E f.length [.bool b] hd hdst hg h hx hy (by rw [List.getElem?_append_right (Nat.le_refl _),Nat.sub_self];rfl) s1 s2 rfl (fun h=>by cases h) (news _ (by rw [List.getElem?_append_left hlt];exact hi)) (by simp [Value.oneCell']) (by omega) fun g' c' u' h1 h2 h3 h4=>?_
    have:=k g' c' u' h1 ⟨h2,by simpa using h3,by rw [List.length_append,List.length_singleton,bl,← s3];simpa using h4⟩
    unfold Ll at this ⊢
    intro a w hf hc
    rw [List.set_append_right _ _ (Nat.le_refl _),Nat.sub_self] at hc
    exact this a w hf hc
end
theorem opt_some {bs:List Bool} {q:OptR} (h:OptOk bs q) (h0:0<bs.length):∃ (g c:Nat) (u:Array Value),q=some (g,c,u)∧u.size=c*1∧bs.length≤c∧u.toList.take bs.length=bools bs:=by
 cases q with
 | none=>rw [show bs=[] from h] at h0;exact absurd h0 (by decide)
 | some q=>obtain ⟨g,c,u⟩:=q;exact ⟨g,c,u,rfl,h⟩
theorem fit_next {a b:St} {k s:Nat} (hb:1≤b.n.toNat) (h:s<prN a b ^ k):(WL 0 a b k).take (s+1)=(WL 0 a b k).take s++[sameB a (placed (stX a b k s) k) b (placed (stY a b k s) k)]:=by
 rw [List.take_succ_eq_append_getElem (by rw [WL_len];exact h),← getD_at (d:=false),WL_at h,win_zero hb]
theorem Own.merge {B:Nat} {w0 w w':World} {hs new:List (Nat×Obj)} (h:Own B w0 hs w) (k:Own w.heap.size w new w'):Own B w0 (new++hs) w':=by
  have h':=h.calls k.below
  refine Own.of_mem h'.below h'.base (fun x hx=>?_) ?_
  · rcases List.mem_append.1 hx with h1 | h1
    · obtain ⟨h2,h3⟩:=k.mem h1
      exact ⟨Nat.le_trans h.base h2,h3⟩
    · exact h'.mem h1
  · rw [List.map_append,List.nodup_append]
    refine ⟨k.nodup,h.nodup,fun p hp q hq e=>?_⟩
    obtain ⟨x,hx,rfl⟩:=List.mem_map.1 hp
    obtain ⟨y,hy,rfl⟩:=List.mem_map.1 hq
    have h1:=(k.mem hx).1
    have h2:=(h.mem hy).2
    have h3:y.1<w.heap.size:=by
      rcases Nat.lt_or_ge y.1 w.heap.size with h4 | h4
      · exact h4
      · rw [Array.getElem?_eq_none h4] at h2;cases h2
    omega
section
variable {P:Program} {n:Nat} {C:World→Prop} {e:Env} {o:Oper}
theorem OpQ.eqNilP {t t' q:TypeId} {x y:Operand} {p:Option Addr} (h:o.op=.binOp .eql t x y t') (hu:P.underlying t=some (.pointer q)) (hx:opd e x=some (.pointer p)) (hy:opd e y=some (.pointer none)):OpQ P n C e o (.bool p.isNone):=OpQ.val fun A hf w=>by
 have hu':P.underlying t=some (.pointer (P.pointee t)):=by simp [Program.pointee,hu]
 unfold execOp;rw [h];simp only [hf.opd hx,hf.opd hy]
 rw [show eqGuard .eql t x y (Value.pointer p) (Value.pointer none)=pure () from rfl]
 simp only [Sem.run_bind,run_eql_pointer_nil w t p hu',Sem.run_pure,Result.andThen]
end
end Go.Wk
namespace Go.Proofs.YteccfipfimbdgaaDoor
open Go.RowKit Go.Wk
set_option linter.unusedSimpArgs false
set_option maxHeartbeats 400000 in
theorem bitD_ok (b:Bool) (w:World) :
    Calls Tryd.prog 35 [bo_ b].toArray w fun en w'=>en=.returned (str (if b then [49] else [48]))∧Below w.heap.size w w':=by
 refine fnStart (n:=4) (e:=[(0,bo_ b)]) Tryd.func35 Z Z Z Z Ends.both (zE (zA (zD (v:=str ([])) Z (xO Z Z) (zG (zC [0] [_] Z (zE (zE (zA (zB 1 Z (zG (zC [3] [_] Z (qR (b:=b) Z (fun h3=>?_) (fun h3=>?_)))))))))))))
 ·
  refine zE (zA (zD (v:=str ([49])) Z (xO Z Z) (zG (zC [2] [_] Z (qE (zX Z Z fun w' hw=>?_))))))
  exact ⟨by rw [‹b=_›];rfl,hw.below⟩
 refine qI (zC [] [] Z (zE (zA (zD (v:=str ([48])) Z (xO Z Z) (zG (zC [2] [_] Z (qE (zX Z Z fun w' hw=>?_))))))))
 exact ⟨by rw [‹b=_›];rfl,hw.below⟩
end Go.Proofs.YteccfipfimbdgaaDoor
namespace Go.Proofs.YteccfipfimbdgaaDoor
open Go.RowKit Go.Wk
set_option linter.unusedSimpArgs false
set_option maxHeartbeats 400000 in
theorem l5Atoms_ok (a:St) (va:Value) (xs:List Int) (w:World) (ha:a.Fine) (hva:Ints w va xs) (hA:a.Els xs) (hl7:xs.length≤7) :
    Calls Tryd.prog 147 [vS a,va].toArray w fun en w'=>en=.returned (str (atomBits a xs))∧Below w.heap.size w w':=by
 refine fnStart (n:=65) (e:=[(0,vS a),(1,va)]) Tryd.func147 Z Z Z Z Ends.both (zE (zT (yH (v:=vS a) Z Z Z Z Z fun p2 hp2=>?_)))
 show Ll _ _ (Own _ _ [_]) _ _ ((2,pt_ p2)::_) _ _ _;refine zU (v:=str ([])) Z (xO Z Z) (zN (zC [1,2] [_,_] Z (zE (zA (zD (v:=str ([])) Z (xO Z Z) (zG (zC [1,2,5] [_,_,_] Z (zE (zE (zA (zB 1 Z (zG (zC [1,2,5,6] [_,_,_,_] Z (qA (yC (σ:=Nat) (fun k=>k≤xs.length) (fun k=>[(1,va),(2,pt_ p2),(5,str (bitsTo a xs k)),(6,i6_ (k:Int))]) (fun k=>Own w.heap.size w [bk_ p2 #[i6_ a.n,str a.set,str a.rel] 24]) (fun k=>xs.length - k) (0) (by omega) (Sub.cons Z (Sub.cons Z (Sub.cons Z (Sub.sel [6] Z)))) (fun _ h=>h) ?_)))))))))))))))
 rintro k hk;refine zE (zE (zA (zB 2 Z (zD (v:=i6_ (xs.length:Int)) Z (qQ Z zF Z (ints_length _) (fun w1 hw1=>Row.own hva hw1)) (zB 1 Z (zG (zC [1,2,5,6,11] [_,_,_,_,_] Z (qR (b:=decide ((k:Int)<(xs.length:Int))) Z (fun h11=>?_) (fun h11=>?_)))))))))
 ·
  replace h11:=zM h11
  have hb:=bits_small (a:=a) (xs:=xs) (i:=k) (by omega);refine qI (zC [1,2,5,6] [_,_,_,_] Z (zE (qA (zE (yP qY (fun _ h=>h.drawn) (by kernel_rfl) (zB 1 Z (zD Z (zV (cs:=#[i6_ a.n,str a.set,str a.rel]) 0 Z zY Z Z zS) (zB 2 Z (zD (v:=.pointer (some (sAt va (k:Int)))) Z (yA Z zF zJ Z Z (by omega) (by rw [ints_length];omega) (fun w1 hw1=>Row.own hva hw1)) (zD (v:=i6_ (xs.getD ((k:Int).toNat) 0)) Z (qL Z zO Z (fun w1 hw1=>Ints.cell (Row.own hva hw1) (by omega) (by omega))) (zD (v:=bo_ (a.inSet (xs.getD ((k:Int).toNat) 0))) Z (qG Z Tryd.call116 Z zW (fun w1 hw1=>l1Set_ok a (xs.getD ((k:Int).toNat) 0) w1 ha (by first | assumption | exact St.Els.at (by assumption) (by omega) (by omega)))) (zD (v:=str ((if a.inSet (xs.getD ((k:Int).toNat) 0) then [49] else [48]))) Z (qG Z Tryd.call35 Z zW (fun w1 hw1=>bitD_ok (a.inSet (xs.getD ((k:Int).toNat) 0)) w1 )) (zD Z (xL Z Z Z (by simp only [qZ,pairBits_length,bit_len,bitS_length,yE,qU];omega)) (zB 1 Z (zG (zC [1,2,5,6] [_,_,_,_] Z (zE (zA (zB 1 Z (zG (zC [1,2,5,6,7] [_,_,_,_,_] Z (qA (yC (σ:=Nat) (fun j=>j≤k+1) (fun j=>[(1,va),(2,pt_ p2),(5,str ((bitsTo a xs k++bitS (a.inSet (xs.getD k 0)))++pairBits a xs k j)),(6,i6_ (k:Int)),(7,i6_ (j:Int))]) (fun j=>Own w.heap.size w [bk_ p2 #[i6_ a.n,str a.set,str a.rel] 24]) (fun j=>k+1 - j) (0) (by omega) (Sub.cons Z (Sub.cons Z (Sub.cons (by simp [pairBits,List.lookup];rfl) (Sub.sel [6,7] Z)))) (fun _ h=>h) ?_)))))))))))))))))))))))
  rintro j hj;refine zE (zE (zA (zB 3 Z (zG (zC [1,2,5,6,7,25] [_,_,_,_,_,_] Z (xE Z (fun h25=>?_) (fun h25=>?_)))))))
  ·
   refine qI (zC [1,2,5,6,7] [_,_,_,_,_] Z ?_);refine zE (qA (yP qY (fun _ h=>h.drawn) (by kernel_rfl) (zB 3 Z (zD (v:=.pointer (some (sAt va (k:Int)))) Z (yA Z zF zJ Z Z (by omega) (by rw [ints_length];omega) (fun w1 hw1=>Row.own hva hw1)) (zD (v:=i6_ (xs.getD ((k:Int).toNat) 0)) Z (qL Z zO Z (fun w1 hw1=>Ints.cell (Row.own hva hw1) (by omega) (by omega))) (zB 2 Z (zD (v:=.pointer (some (sAt va (j:Int)))) Z (yA Z zF zJ Z Z (by omega) (by rw [ints_length];omega) (fun w1 hw1=>Row.own hva hw1)) (zD (v:=i6_ (xs.getD ((j:Int).toNat) 0)) Z (qL Z zO Z (fun w1 hw1=>Ints.cell (Row.own hva hw1) (by omega) (by omega))) (zB 1 Z (zD (v:=str ((if decide ((xs.getD ((k:Int).toNat) 0)=(xs.getD ((j:Int).toNat) 0)) then [49] else [48]))) Z (qG Z Tryd.call35 Z zW (fun w1 hw1=>bitD_ok (decide ((xs.getD ((k:Int).toNat) 0)=(xs.getD ((j:Int).toNat) 0))) w1 )) (zD Z (xL Z Z Z (by simp only [qZ,pairBits_length,bit_len,bitS_length,yE,qU];omega)) (zD Z (zV (cs:=#[i6_ a.n,str a.set,str a.rel]) 0 Z zY Z Z zS) (zB 2 Z (zD (v:=.pointer (some (sAt va (k:Int)))) Z (yA Z zF zJ Z Z (by omega) (by rw [ints_length];omega) (fun w1 hw1=>Row.own hva hw1)) (zD (v:=i6_ (xs.getD ((k:Int).toNat) 0)) Z (qL Z zO Z (fun w1 hw1=>Ints.cell (Row.own hva hw1) (by omega) (by omega))) (zB 2 Z (zD (v:=.pointer (some (sAt va (j:Int)))) Z (yA Z zF zJ Z Z (by omega) (by rw [ints_length];omega) (fun w1 hw1=>Row.own hva hw1)) (zD (v:=i6_ (xs.getD ((j:Int).toNat) 0)) Z (qL Z zO Z (fun w1 hw1=>Ints.cell (Row.own hva hw1) (by omega) (by omega))) (zD (v:=bo_ (a.inRel (xs.getD ((k:Int).toNat) 0) (xs.getD ((j:Int).toNat) 0))) Z (qG Z Tryd.call117 Z zW (fun w1 hw1=>l1Rel_ok a (xs.getD ((k:Int).toNat) 0) (xs.getD ((j:Int).toNat) 0) w1 ha (by first | assumption | exact St.Els.at (by assumption) (by omega) (by omega)) (by first | assumption | exact St.Els.at (by assumption) (by omega) (by omega)))) (zD (v:=str ((if a.inRel (xs.getD ((k:Int).toNat) 0) (xs.getD ((j:Int).toNat) 0) then [49] else [48]))) Z (qG Z Tryd.call35 Z zW (fun w1 hw1=>bitD_ok (a.inRel (xs.getD ((k:Int).toNat) 0) (xs.getD ((j:Int).toNat) 0)) w1 )) (zD Z (xL Z Z Z (by simp only [qZ,pairBits_length,bit_len,bitS_length,yE,qU];omega)) (zD Z (zV (cs:=#[i6_ a.n,str a.set,str a.rel]) 0 Z zY Z Z zS) (zB 2 Z (zD (v:=.pointer (some (sAt va (j:Int)))) Z (yA Z zF zJ Z Z (by omega) (by rw [ints_length];omega) (fun w1 hw1=>Row.own hva hw1)) (zD (v:=i6_ (xs.getD ((j:Int).toNat) 0)) Z (qL Z zO Z (fun w1 hw1=>Ints.cell (Row.own hva hw1) (by omega) (by omega))) (zB 2 Z (zD (v:=.pointer (some (sAt va (k:Int)))) Z (yA Z zF zJ Z Z (by omega) (by rw [ints_length];omega) (fun w1 hw1=>Row.own hva hw1)) (zD (v:=i6_ (xs.getD ((k:Int).toNat) 0)) Z (qL Z zO Z (fun w1 hw1=>Ints.cell (Row.own hva hw1) (by omega) (by omega))) (zD (v:=bo_ (a.inRel (xs.getD ((j:Int).toNat) 0) (xs.getD ((k:Int).toNat) 0))) Z (qG Z Tryd.call117 Z zW (fun w1 hw1=>l1Rel_ok a (xs.getD ((j:Int).toNat) 0) (xs.getD ((k:Int).toNat) 0) w1 ha (by first | assumption | exact St.Els.at (by assumption) (by omega) (by omega)) (by first | assumption | exact St.Els.at (by assumption) (by omega) (by omega)))) (zD (v:=str ((if a.inRel (xs.getD ((j:Int).toNat) 0) (xs.getD ((k:Int).toNat) 0) then [49] else [48]))) Z (qG Z Tryd.call35 Z zW (fun w1 hw1=>bitD_ok (a.inRel (xs.getD ((j:Int).toNat) 0) (xs.getD ((k:Int).toNat) 0)) w1 )) (zD Z (xL Z Z Z (by simp only [qZ,pairBits_length,bit_len,bitS_length,yE,qU];omega)) (zB 1 Z (zG (zC [1,2,5,6,7] [_,_,_,_,_] Z (zA (zB 1 Z (zD Z (qK Z Z Z (by omega) (by omega)) (zB 1 Z (zG (qM (j+1) (by omega) (by omega) (Sub.cons Z (Sub.cons Z (Sub.cons (by rw [pair_step];rfl) (Sub.sel [6,7] Z)))) (fun _ h=>h)))))))))))))))))))))))))))))))))))))))))
  refine qW Z (zC [1,2,5,6] [_,_,_,_] Z (zA (zB 1 Z (zD Z (qK Z Z Z (by omega) (by omega)) (zB 1 Z (zG (qM (k+1) (by omega) (by omega) (Sub.cons Z (Sub.cons Z (Sub.cons (by rw [show j=k+1 from by omega];rfl) (Sub.sel [6] Z)))) (fun _ h=>h))))))))
 replace h11:=zL h11;refine qW Z (zC [5] [_] Z (zE (zA (zB 2 Z (zG (zC [4] [_] Z (qE (zX Z Z fun w' hw=>?_))))))))
 exact ⟨ret_s (by rw [show k=xs.length from by omega];rfl),hw.below⟩
end Go.Proofs.YteccfipfimbdgaaDoor
namespace Go.Proofs.YteccfipfimbdgaaDoor
open Go.RowKit Go.Wk
set_option linter.unusedSimpArgs false
set_option maxHeartbeats 400000 in
theorem l7Pebbles_ok (a:St) (va:Value) (xs:List Int) (w:World) (hsa:a.Small) (hva:Ints w va xs) (hs:xs.length≤140737488355328) (loa : -9223372036854775808≤a.n) (hia:a.n≤9223372036854775807) :
    Calls Tryd.prog 89 [vS a,va].toArray w fun en w'=>en=.returned (.bool (pebB a xs))∧Below w.heap.size w w':=by
 refine fnStart (n:=28) (e:=[(0,vS a),(1,va)]) Tryd.func89 Z Z Z Z Ends.both (zE (zT (yH (v:=vS a) Z Z Z Z Z fun p2 hp2=>?_)))
 show Ll _ _ (Own _ _ [_]) _ _ ((2,pt_ p2)::_) _ _ _;refine qF 1 Z (zN (zC [1,2] [_,_] Z (zE (zE (zA (zB 1 Z (zG (zC [1,2,5] [_,_,_] Z (qA (yC (σ:=Nat) (fun k=>k≤xs.length∧∀ i:Nat,i<k→inB (xs.getD i 0) (-1) (pred64 a.n)=true) (fun k=>[(1,va),(2,pt_ p2),(5,i6_ (k:Int))]) (fun k=>Own w.heap.size w [bk_ p2 #[i6_ a.n,str a.set,str a.rel] 24]) (fun k=>xs.length - k) (0) ⟨by omega,fun i hi=>absurd hi (by omega)⟩ (Sub.sel [1,2,5] Z) (fun _ h=>h) ?_))))))))))
 rintro k ⟨hk,hall⟩;refine zE (zE (zA (zB 2 Z (zD (v:=i6_ (xs.length:Int)) Z (qQ Z zF Z (ints_length _) (fun w1 hw1=>Row.own hva hw1)) (zB 1 Z (zG (zC [1,2,5,9] [_,_,_,_] Z (xE Z (fun h9=>?_) (fun h9=>?_)))))))))
 ·
  refine qI (zC [1,2,5] [_,_,_] Z (zE (qA (zE (yP qY (fun _ h=>h.drawn) (by kernel_rfl) (zB 2 Z (zD (v:=.pointer (some (sAt va (k:Int)))) Z (yA Z zF zJ Z Z (by omega) (by rw [ints_length];omega) (fun w1 hw1=>Row.own hva hw1)) (zD (v:=i6_ (xs.getD ((k:Int).toNat) 0)) Z (qL Z zO Z (fun w1 hw1=>Ints.cell (Row.own hva hw1) (by omega) (by omega))) (zD Z (zK Z zP Z zJ Z Z) (zD Z (zQ 0 Z zO Z Z Z) (zD (v:=i6_ (pred64 a.n)) Z (OpQ.pred Z Z Z (by omega) (by omega)) (zD (v:=bo_ (inB (xs.getD ((k:Int).toNat) 0) (-1) (pred64 a.n))) Z (qG Z Tryd.call54 Z zW (fun w1 hw1=>l1In_ok (xs.getD ((k:Int).toNat) 0) (-1) (pred64 a.n) w1 )) (zB 1 Z (zG (zC [1,2,5,20] [_,_,_,_] Z (qR (b:=!(inB (xs.getD ((k:Int).toNat) 0) (-1) (pred64 a.n))) Z (fun h20=>?_) (fun h20=>?_)))))))))))))))))
  ·
   replace h20:=not_true h20;refine zE (zA (zB 1 Z (zG (zC [4] [_] Z (qE (zX Z Z fun w' hw=>?_))))))
   exact ⟨ret_b (peb_no (i:=k) (by omega) (by simpa using h20)).symm,hw.below⟩
  replace h20:=not_false h20;refine qI (zC [1,2,5] [_,_,_] Z (zA (zB 1 Z (zD Z (qK Z Z Z (by omega) (by omega)) (zB 1 Z (zG (qM (k+1) ⟨by omega,fun i hi=>(Nat.lt_succ_iff_lt_or_eq.1 hi).elim (hall i) (fun e=>by subst e;simpa using h20)⟩ (by omega) (Sub.sel [1,2,5] Z) (fun _ h=>h))))))))
 refine qW Z (zC [1,2] [_,_] Z (zE (zA (zD Z (zV (cs:=#[i6_ a.n,str a.set,str a.rel]) 0 Z zY Z Z zS) (zD (v:=bo_ (validB a)) Z (qG Z Tryd.call36 Z zW (fun w1 hw1=>sValid_ok a w1 hsa)) (zB 1 Z (yQ fun b23 hg23=>?_)))))))
 cases b23
 ·
  refine zH Z (zH Z (zH Z (zB 2 Z (zG (zC [4] [_] Z (qE (zX Z Z fun w' hw=>?_)))))))
  exact ⟨ret_b (by rw [peb_yes (fun i hi=>hall i (by omega))];simp [*]),hw.below⟩
 refine zB 1 Z (zD (v:=i6_ (xs.length:Int)) Z (qQ Z zF Z (ints_length _) (fun w1 hw1=>Row.own hva hw1)) (zD (v:=bo_ (inB (xs.length:Int) 1 3)) Z (qG Z Tryd.call54 Z zW (fun w1 hw1=>l1In_ok (xs.length:Int) 1 3 w1 )) (zB 2 Z (zG (zC [4] [_] Z (qE (zX Z Z fun w' hw=>?_)))))))
 exact ⟨ret_b (by rw [peb_yes (fun i hi=>hall i (by omega))];simp [*]),hw.below⟩
set_option maxHeartbeats 400000 in
theorem l7Ready_ok (a b:St) (xs ys:List Int) (va vb:Value) (w:World) (hsa:a.Small) (hsb:b.Small) (hva:Ints w va xs) (hvb:Ints w vb ys) (hs1:xs.length≤140737488355328) (hs2:ys.length≤140737488355328) (loa : -9223372036854775808≤a.n) (hia:a.n≤9223372036854775807) (lob : -9223372036854775808≤b.n) (hib:b.n≤9223372036854775807) :
    Calls Tryd.prog 53 [vS a,va,vS b,vb].toArray w fun en w'=>en=.returned (.bool (readyB a xs b ys))∧Below w.heap.size w w':=by
 refine fnStart (n:=44) (e:=[(0,vS a),(1,va),(2,vS b),(3,vb)]) Tryd.func53 Z Z Z Z Ends.both (zE (zT (yH (v:=vS a) Z Z Z Z Z fun p4 hp4=>?_)))
 show Ll _ _ (Own _ _ [_]) _ _ ((4,pt_ p4)::_) _ _ _;refine yH (v:=vS b) Z Z Z Z Z fun p6 hp6=>?_
 show Ll _ _ (Own _ _ [_,_]) _ _ ((6,pt_ p6)::_) _ _ _;refine qF 1 Z (zN (zC [1,3,4,6] [_,_,_,_] Z (zE (zE (zA (zD Z (zV (cs:=#[i6_ a.n,str a.set,str a.rel]) 1 Z zY Z Z zS) (zB 1 Z (zD (v:=bo_ (pebB a xs)) Z (qG Z Tryd.call89 Z zW (fun w1 hw1=>l7Pebbles_ok a va xs w1 hsa (Row.own hva hw1) (by first | (simp;done) | (simp;omega) | omega) loa hia)) (zB 2 Z (yQ fun b14 hg14=>?_))))))))))
 cases b14
 ·
  replace hg14:=not_false hg14;refine zD Z (zV (cs:=#[i6_ b.n,str b.set,str b.rel]) 0 Z zY Z Z zS) (zB 1 Z (zD (v:=bo_ (pebB b ys)) Z (qG Z Tryd.call89 Z zW (fun w1 hw1=>l7Pebbles_ok b vb ys w1 hsb (Row.own hvb hw1) (by first | (simp;done) | (simp;omega) | omega) lob hib)) (zB 3 Z (yQ fun b20 hg20=>?_))))
  cases b20
  ·
   replace hg20:=not_false hg20;refine zB 1 Z (zD (v:=i6_ (xs.length:Int)) Z (qQ Z zF Z (ints_length _) (fun w1 hw1=>Row.own hva hw1)) (zB 1 Z (zD (v:=i6_ (ys.length:Int)) Z (qQ Z zF Z (ints_length _) (fun w1 hw1=>Row.own hvb hw1)) (zB 2 Z (zG (zC [1,3,26] [_,_,_] Z (qR (b:=!(decide ((xs.length:Int)=(ys.length:Int)))) Z (fun h26=>?_) (fun h26=>?_))))))))
   ·
    replace h26:=not_true h26
    replace h26:=zL h26;refine zE (zA (zB 1 Z (zG (zC [8] [_] Z (qE (zX Z Z fun w' hw=>?_))))))
    exact ⟨ret_b (by unfold readyB;first | (simp [*];done) | (rw [signs_no (k:=k) (by omega) (beq_of_bneT (by assumption))];simp;done) | (rw [signs_yes (k:=k) (by omega) hall];simp [*];done) | (simp [*];omega)),hw.below⟩
   replace h26:=not_false h26
   replace h26:=zM h26;refine qI (zC [1,3] [_,_] Z (zE (zE (zA (zB 1 Z (zG (zC [1,3,9] [_,_,_] Z (qA (yC (σ:=Nat) (fun k=>k≤xs.length∧∀ i:Nat,i<k→(decide (xs.getD i 0<0)==decide (ys.getD i 0<0))=true) (fun k=>[(1,va),(3,vb),(9,i6_ (k:Int))]) (fun k=>Own w.heap.size w [bk_ p6 #[i6_ b.n,str b.set,str b.rel] 24,bk_ p4 #[i6_ a.n,str a.set,str a.rel] 24]) (fun k=>xs.length - k) (0) ⟨by omega,fun i hi=>absurd hi (by omega)⟩ (Sub.sel [1,3,9] Z) (fun _ h=>h) ?_)))))))))
   rintro k ⟨hk,hall⟩;refine zE (zE (zA (zB 2 Z (zD (v:=i6_ (xs.length:Int)) Z (qQ Z zF Z (ints_length _) (fun w1 hw1=>Row.own hva hw1)) (zB 1 Z (zG (zC [1,3,9,30] [_,_,_,_] Z (xE Z (fun h30=>?_) (fun h30=>?_)))))))))
   ·
    refine qI (zC [1,3,9] [_,_,_] Z (zE (qA (zE (yP qY (fun _ h=>h.drawn) (by kernel_rfl) (zB 2 Z (zD (v:=.pointer (some (sAt va (k:Int)))) Z (yA Z zF zJ Z Z (by omega) (by rw [ints_length];omega) (fun w1 hw1=>Row.own hva hw1)) (zD (v:=i6_ (xs.getD ((k:Int).toNat) 0)) Z (qL Z zO Z (fun w1 hw1=>Ints.cell (Row.own hva hw1) (by omega) (by omega))) (zB 3 Z (zD (v:=.pointer (some (sAt vb (k:Int)))) Z (yA Z zF zJ Z Z (by omega) (by rw [ints_length];omega) (fun w1 hw1=>Row.own hvb hw1)) (zD (v:=i6_ (ys.getD ((k:Int).toNat) 0)) Z (qL Z zO Z (fun w1 hw1=>Ints.cell (Row.own hvb hw1) (by omega) (by omega))) (zB 1 Z (zD Z (OpQ.bne Z yN Z Z) (zG (zC [1,3,9,43] [_,_,_,_] Z (qR (b:=(decide ((xs.getD ((k:Int).toNat) 0)<(0:Int))) != (decide ((ys.getD ((k:Int).toNat) 0)<(0:Int)))) Z (fun h43=>?_) (fun h43=>?_)))))))))))))))))
    ·
     refine zE (zA (zB 1 Z (zG (zC [8] [_] Z (qE (zX Z Z fun w' hw=>?_))))))
     exact ⟨ret_b (by unfold readyB;first | (simp [*];done) | (rw [signs_no (k:=k) (by omega) (beq_of_bneT (by assumption))];simp;done) | (rw [signs_yes (k:=k) (by omega) hall];simp [*];done) | (simp [*];omega)),hw.below⟩
    refine qI (zC [1,3,9] [_,_,_] Z (zA (zB 1 Z (zD Z (qK Z Z Z (by omega) (by omega)) (zB 1 Z (zG (qM (k+1) ⟨by omega,fun i hi=>(Nat.lt_succ_iff_lt_or_eq.1 hi).elim (hall i) (fun e=>by subst e;exact beq_of_bne h43)⟩ (by omega) (Sub.sel [1,3,9] Z) (fun _ h=>h))))))))
   refine qW Z (zC [] [] Z (zE (zA (zB 1 Z (zG (zC [8] [_] Z (qE (zX Z Z fun w' hw=>?_))))))))
   exact ⟨ret_b (by unfold readyB;first | (simp [*];done) | (rw [signs_no (k:=k) (by omega) (beq_of_bneT (by assumption))];simp;done) | (rw [signs_yes (k:=k) (by omega) hall];simp [*];done) | (simp [*];omega)),hw.below⟩
  replace hg20:=not_true hg20;refine zH Z (zH Z (zH Z (zH Z (zH Z (zB 1 Z (zG (zC [1,3,26] [_,_,_] Z (yX Z (zE (zA (zB 1 Z (zG (zC [8] [_] Z (qE (zX Z Z fun w' hw=>?_)))))))))))))))
  exact ⟨ret_b (by unfold readyB;first | (simp [*];done) | (rw [signs_no (k:=k) (by omega) (beq_of_bneT (by assumption))];simp;done) | (rw [signs_yes (k:=k) (by omega) hall];simp [*];done) | (simp [*];omega)),hw.below⟩
 replace hg14:=not_true hg14;refine zH Z (zH Z (zH Z (zH Z (zB 2 Z (zH Z (zH Z (zH Z (zH Z (zH Z (zB 1 Z (zG (zC [1,3,26] [_,_,_] Z (yX Z (zE (zA (zB 1 Z (zG (zC [8] [_] Z (qE (zX Z Z fun w' hw=>?_))))))))))))))))))))
 exact ⟨ret_b (by unfold readyB;first | (simp [*];done) | (rw [signs_no (k:=k) (by omega) (beq_of_bneT (by assumption))];simp;done) | (rw [signs_yes (k:=k) (by omega) hall];simp [*];done) | (simp [*];omega)),hw.below⟩
set_option maxHeartbeats 400000 in
theorem l7Atoms_ok (a:St) (va:Value) (xs:List Int) (w:World) (hP:Pebbles a xs) (hva:Ints w va xs) :
    Calls Tryd.prog 124 [vS a,va].toArray w fun en w'=>en=.returned (str (signT xs xs.length++atomBits a (placed xs xs.length)))∧Below w.heap.size w w':=by
 refine fnStart (n:=36) (e:=[(0,vS a),(1,va)]) Tryd.func124 Z Z Z Z Ends.both ?_
 have ha:=hP.fine
 have h3:=hP.hi
 have htop:=hP.top;refine zE (zT (yH (v:=vS a) Z Z Z Z Z fun p2 hp2=>?_))
 show Ll _ _ (Own _ _ [_]) _ _ ((2,pt_ p2)::_) _ _ _;refine zU (v:=str ([])) Z (xO Z Z) (zN (zC [1,2] [_,_] Z (zE (zA (zD (v:=str ([])) Z (xO Z Z) (zG (zC [1,2,5] [_,_,_] Z (zE (zT (yF (xs:=[]) (vs:=[]) qB Z Z Z Z Z Z (by decide) Z fun p8 hp8=>(qF 1 Z (zN (zC [1,2,5,6] [_,_,_,_] Z (zE (zE (zA (zB 1 Z (zG (zC [1,2,5,6,7] [_,_,_,_,_] Z (qA (yC (σ:=Nat×Nat×Nat×Array Value) (fun ⟨k,g,c,cur⟩=>(k≤xs.length)∧w.heap.size≤g∧cur.size=c*1∧(placed xs k).length≤c∧cur.toList.take ((placed xs k).length*1)=ints (placed xs k)) (fun ⟨k,g,c,cur⟩=>[(1,va),(2,pt_ p2),(5,str (signT xs k)),(6,sl_ g ((placed xs k).length) c),(7,i6_ (k:Int))]) (fun ⟨k,g,c,cur⟩=>Own w.heap.size w [bk_ g cur 3,bk_ p2 #[i6_ a.n,str a.set,str a.rel] 24]) (fun ⟨k,g,c,cur⟩=>xs.length - k) (0,p8,0,#[]) ⟨by omega,hp8,rfl,by simp,rfl⟩ (Sub.cons Z (Sub.cons Z (Sub.cons Z (Sub.sel [6,7] Z)))) (fun _ h=>h) ?_)))))))))))))))))))))
 rintro ⟨k,g,c,cur⟩ ⟨hk,hg,hc,hl,ht⟩
 dsimp only;refine zE (zE (zA (zB 2 Z (zD (v:=i6_ (xs.length:Int)) Z (qQ Z zF Z (ints_length _) (fun w1 hw1=>Row.own hva hw1)) (zB 1 Z (zG (zC [1,2,5,6,7,12] [_,_,_,_,_,_] Z (qR (b:=decide ((k:Int)<(xs.length:Int))) Z (fun h12=>?_) (fun h12=>?_)))))))))
 ·
  replace h12:=zM h12
  have hple:=placed_le xs k;refine qI (zC [1,2,5,6,7] [_,_,_,_,_] Z (zE (qA (zE (zE (zA (zB 2 Z (zD (v:=.pointer (some (sAt va (k:Int)))) Z (yA Z zF zJ Z Z (by omega) (by rw [ints_length];omega) (fun w1 hw1=>Row.own hva hw1)) (zD (v:=i6_ (xs.getD ((k:Int).toNat) 0)) Z (qL Z zO Z (fun w1 hw1=>Ints.cell (Row.own hva hw1) (by omega) (by omega))) (zB 1 Z (zG (zC [1,2,5,6,7,19] [_,_,_,_,_,_] Z (xE Z (fun h19=>?_) (fun h19=>?_))))))))))))))
  ·
   refine zE (zA (zB 1 Z (zD Z (xL Z Z Z (by simp only [signT_length,yE,qU];omega)) (zB 1 Z (zG (zC [1,2,5,6,7] [_,_,_,_,_] Z (qW Z (zC [1,2,5,6,7] [_,_,_,_,_] Z (zA (zB 1 Z (zD Z (qK Z Z Z (by omega) (by omega)) (zB 1 Z (zG (qM (k+1,g,c,cur) ⟨(by omega),hg,hc,(by rw [placed_neg (by assumption)];exact hl),(by rw [placed_neg (by assumption)];exact ht)⟩ (by omega) (Sub.cons Z (Sub.cons Z (Sub.cons (by first | (rw [signT_neg (by assumption)];rfl) | (rw [signT_pos (by assumption)];rfl)) (Sub.cons (by rw [placed_neg (by assumption)];rfl) (Sub.sel [7] Z))))) (fun _ h=>h)))))))))))))))
  refine qI (zC [1,2,5,6,7] [_,_,_,_,_] Z (zE (zA (zB 1 Z (zD Z (xL Z Z Z (by simp only [signT_length,yE,qU];omega)) (zB 1 Z (zG (zC [1,2,5,6,7] [_,_,_,_,_] Z (zT (qF 3 Z (zU (v:=.pointer (some (sAt va (k:Int)))) Z (yA Z zF zJ Z Z (by omega) (by rw [ints_length];omega) (fun w1 hw1=>Row.own hva hw1)) (zU (v:=i6_ (xs.getD ((k:Int).toNat) 0)) Z (qL Z zO Z (fun w1 hw1=>Ints.cell (Row.own hva hw1) (by omega) (by omega))) (yF (xs:=[.tmp 28]) (vs:=[i6_ (xs.getD ((k:Int).toNat) 0)]) qB Z Z Z Z Z Z (by decide) Z fun p29 hp29=>(qO (xs:=placed xs k) (ys:=[xs.getD ((k:Int).toNat) 0]) qB 1 Z Z Z Z Z Z Z hc hl (by simpa using ht) (fun w1 hw1=>(yL hw1 (i:=0) Z (n:=1) (cap:=1) (vs:=ints [xs.getD ((k:Int).toNat) 0]) Z Z (by decide))) (((placed xs k)++([xs.getD ((k:Int).toNat) 0])).length) (by first | (simp;done) | (simp;omega)) (by first | (simp;done) | (simp;omega) | omega) fun p30 cap30 cur30 hp30 hcp30 hlp30 htp30=>?_))))))))))))))
  show Ll _ _ (Own _ _ [_,_,_]) _ _ ((30,sl_ p30 ((((placed xs k)++([xs.getD ((k:Int).toNat) 0])).length)) cap30)::_) _ _ _;refine qF 1 Z (zN (zC [1,2,5,6,7] [_,_,_,_,_] Z (zA (zB 1 Z (zD Z (qK Z Z Z (by omega) (by omega)) (zB 1 Z (zG (qM (k+1,p30,cap30,cur30) ⟨(by omega),(by omega),hcp30,(by rw [placed_pos (by assumption)];exact hlp30),(by rw [placed_pos (by assumption)];exact htp30)⟩ (by omega) (Sub.cons Z (Sub.cons Z (Sub.cons (by first | (rw [signT_neg (by assumption)];rfl) | (rw [signT_pos (by assumption)];rfl)) (Sub.cons (by rw [placed_pos (by assumption)];rfl) (Sub.sel [7] Z))))) (fun _ h=>h.tail)))))))))
 replace h12:=zL h12
 have hple:=placed_le xs k
 have hbs:=bits_small (a:=a) (xs:=placed xs k) (i:=(placed xs k).length) (by omega);refine qW Z (zC [2,5,6] [_,_,_] Z (zE (zA (zB 1 Z (zD Z (zV (cs:=#[i6_ a.n,str a.set,str a.rel]) 1 Z zY Z Z zS) (zB 1 Z (zD (v:=str (atomBits a (placed xs k))) Z (qG Z Tryd.call147 Z zW (fun w1 hw1=>l5Atoms_ok a (sl_ g ((placed xs k).length) c) (placed xs k) w1 ha (yL hw1 (i:=0) Z (by simpa using ht) (by simp) hl) (placed_els hk htop) (by omega))) (zD Z (xL Z Z Z (by unfold atomBits;simp only [signT_length];omega)) (zB 1 Z (zG (zC [4] [_] Z (qE (zX Z Z fun w' hw=>?_)))))))))))))
 exact ⟨ret_s (by rw [show k=xs.length from by omega]),hw.below⟩
set_option maxHeartbeats 400000 in
theorem noPeb_ok (a:St) (g T:Nat) (x:Int) (w:World) (hg:w.heap[g]?=some (.cells #[.int .i64 a.n,str a.set,str a.rel] T (0,0))) :
    Calls Tryd.prog 154 [i6_ x,.pointer (some ⟨g,0,none⟩)].toArray w fun en w'=>en=.returned (.bool (!inB x (-1) (a.n - 1)))∧Below w.heap.size w w':=by
 refine fnStart (n:=12) (e:=[(0,i6_ x),(1,.pointer (some ⟨g,0,none⟩))]) Tryd.func154 Z Z Z Z Ends.both (zE (zA (zB 1 Z (zG (zC [0,1] [_,_] Z (zE (zA (zB 3 Z (yQ fun b6 hg6=>?_)))))))))
 cases b6
 ·
  replace hg6:=zL hg6;refine zB 1 Z (zD Z (zK Z zP Z zJ Z Z) (zD (v:=i6_ a.n) Z (qL Z zO Z (fun w1 hw1=>at_box hg hw1 0 Z)) (zB 3 Z (zG (zC [3] [_] Z (qE (zX Z Z fun w' hw=>?_)))))))
  exact ⟨ret_b (by first | exact pel_neg (by assumption) | exact pel_geq (by assumption)),hw.below⟩
 replace hg6:=zM hg6;refine zH Z (zH Z (zH Z (zH Z (zB 2 Z (zG (zC [3] [_] Z (qE (zX Z Z fun w' hw=>?_))))))))
 exact ⟨ret_b (by first | exact pel_neg (by assumption) | exact pel_geq (by assumption)),hw.below⟩
set_option maxHeartbeats 400000 in
theorem arePebbles_ok (a:St) (va:Value) (xs:List Int) (w:World) (hva:Ints w va xs) (hs:xs.length≤140737488355328) :
    Calls Tryd.prog 128 [vS a,va].toArray w fun en w'=>en=.returned (.bool (pebL a xs))∧Below w.heap.size w w':=by
 refine fnStart (n:=19) (e:=[(0,vS a),(1,va)]) Tryd.func128 Z Z Z Z Ends.both (zE (zT (yH (v:=vS a) Z Z Z Z Z fun p2 hp2=>?_)))
 show Ll _ _ (Own _ _ [_]) _ _ ((2,pt_ p2)::_) _ _ _;refine qF 1 Z (zN (zC [1,2] [_,_] Z (zE (zA (zB 1 Z (zD (v:=i6_ (xs.length:Int)) Z (qQ Z zF Z (ints_length _) (fun w1 hw1=>Row.own hva hw1)) (zB 2 Z (yQ fun b8 hg8=>?_))))))))
 cases b8
 ·
  replace hg8:=zL hg8;refine zH Z (zH Z (zH Z (zB 2 Z (zH Z (zH Z (zH Z (zH Z (zB 2 Z (zG (zC [4] [_] Z (qE (zX Z Z fun w' hw=>?_))))))))))))
  exact ⟨ret_b (by unfold pebL;first | (rw [not_any_pel];simp [*];done) | (rw [← not_any_pel];simp [*];done) | (simp [*];omega)),hw.below⟩
 replace hg8:=zM hg8;refine zB 1 Z (zD (v:=i6_ (xs.length:Int)) Z (qQ Z zF Z (ints_length _) (fun w1 hw1=>Row.own hva hw1)) (zB 3 Z (yQ fun b13 hg13=>?_)))
 cases b13
 ·
  replace hg13:=zL hg13;refine zH Z (zH Z (zH Z (zH Z (zB 2 Z (zG (zC [4] [_] Z (qE (zX Z Z fun w' hw=>?_))))))))
  exact ⟨ret_b (by unfold pebL;first | (rw [not_any_pel];simp [*];done) | (rw [← not_any_pel];simp [*];done) | (simp [*];omega)),hw.below⟩
 replace hg13:=zM hg13;refine zB 1 Z (zD (v:=.func (.func 154) #[] #[pt_ p2]) Z (OpQ.func' (cap:=[.tmp 2]) Z Z) (zD (v:=bo_ (xs.any fun x=>!inB x (-1) (a.n - 1))) Z (qG Z Tryd.call105 Z zW (fun w1 hw1=>containsFunc_ok va xs w1 (Row.own hva hw1) hs 154 #[.pointer (some ⟨p2,0,none⟩)] (fun x=>!inB x (-1) (a.n - 1)) Tryd.call154 (fun w2 hb x=>noPeb_ok a _ _ x w2 ((hw1.stable _ _ hb).has 0 _ _ Z).2))) (zB 3 Z (zG (zC [4] [_] Z (qE (zX Z Z fun w' hw=>?_)))))))
 exact ⟨ret_b (by unfold pebL;first | (rw [not_any_pel];simp [*];done) | (rw [← not_any_pel];simp [*];done) | (simp [*];omega)),hw.below⟩
set_option maxHeartbeats 400000 in
theorem areReady_ok (a b:St) (xs ys:List Int) (va vb:Value) (w:World) (hsa:a.Small) (hsb:b.Small) (hva:Ints w va xs) (hvb:Ints w vb ys) (hs1:xs.length≤140737488355328) (hs2:ys.length≤140737488355328) :
    Calls Tryd.prog 95 [vS a,va,vS b,vb].toArray w fun en w'=>en=.returned (.bool (readyB a xs b ys))∧Below w.heap.size w w':=by
 refine fnStart (n:=54) (e:=[(0,vS a),(1,va),(2,vS b),(3,vb)]) Tryd.func95 Z Z Z Z Ends.both (zE (zT (yH (v:=vS a) Z Z Z Z Z fun p4 hp4=>?_)))
 show Ll _ _ (Own _ _ [_]) _ _ ((4,pt_ p4)::_) _ _ _;refine yH (v:=vS b) Z Z Z Z Z fun p6 hp6=>?_
 show Ll _ _ (Own _ _ [_,_]) _ _ ((6,pt_ p6)::_) _ _ _;refine qF 1 Z (zN (zC [1,3,4,6] [_,_,_,_] Z (zE (zE (zA (zD Z (zV (cs:=#[i6_ a.n,str a.set,str a.rel]) 1 Z zY Z Z zS) (zD (v:=bo_ (validB a)) Z (qG Z Tryd.call32 Z zW (fun w1 hw1=>isStructure_ok a w1 hsa)) (zB 2 Z (yQ fun b14 hg14=>?_)))))))))
 cases b14
 ·
  replace hg14:=not_false hg14;refine zD Z (zV (cs:=#[i6_ b.n,str b.set,str b.rel]) 0 Z zY Z Z zS) (zD (v:=bo_ (validB b)) Z (qG Z Tryd.call32 Z zW (fun w1 hw1=>isStructure_ok b w1 hsb)) (zB 3 Z (yQ fun b19 hg19=>?_)))
  cases b19
  ·
   replace hg19:=not_false hg19;refine zD Z (zV (cs:=#[i6_ a.n,str a.set,str a.rel]) 1 Z zY Z Z zS) (zB 1 Z (zD (v:=bo_ (pebL a xs)) Z (qG Z Tryd.call128 Z zW (fun w1 hw1=>arePebbles_ok a va xs w1 (Row.own hva hw1) (by first | (simp;done) | (simp;omega) | omega))) (zB 3 Z (yQ fun b25 hg25=>?_))))
   cases b25
   ·
    replace hg25:=not_false hg25;refine zD Z (zV (cs:=#[i6_ b.n,str b.set,str b.rel]) 0 Z zY Z Z zS) (zB 1 Z (zD (v:=bo_ (pebL b ys)) Z (qG Z Tryd.call128 Z zW (fun w1 hw1=>arePebbles_ok b vb ys w1 (Row.own hvb hw1) (by first | (simp;done) | (simp;omega) | omega))) (zB 3 Z (yQ fun b31 hg31=>?_))))
    cases b31
    ·
     replace hg31:=not_false hg31;refine zB 1 Z (zD (v:=i6_ (xs.length:Int)) Z (qQ Z zF Z (ints_length _) (fun w1 hw1=>Row.own hva hw1)) (zB 1 Z (zD (v:=i6_ (ys.length:Int)) Z (qQ Z zF Z (ints_length _) (fun w1 hw1=>Row.own hvb hw1)) (zB 2 Z (zG (zC [1,3,37] [_,_,_] Z (qR (b:=!(decide ((xs.length:Int)=(ys.length:Int)))) Z (fun h37=>?_) (fun h37=>?_))))))))
     ·
      replace h37:=not_true h37
      replace h37:=zL h37;refine zE (zA (zB 1 Z (zG (zC [8] [_] Z (qE (zX Z Z fun w' hw=>?_))))))
      exact ⟨ret_b (by unfold readyB;rw [pebB_eq,pebB_eq];first | (simp [*];done) | (rw [signs_no (k:=k) (by omega) (beq_of_bneT (by assumption))];simp;done) | (rw [signs_yes (k:=k) (by omega) hall];simp [*];done) | (simp [*];omega)),hw.below⟩
     replace h37:=not_false h37
     replace h37:=zM h37;refine qI (zC [1,3] [_,_] Z (zE (zE (zA (zB 1 Z (zD (v:=i6_ (xs.length:Int)) Z (qQ Z zF Z (ints_length _) (fun w1 hw1=>Row.own hva hw1)) (zB 1 Z (zG (zC [3,38,39,40] [_,_,_,_] Z (qA (yC (σ:=Nat) (fun k=>k≤xs.length∧∀ i:Nat,i<k→(decide (xs.getD i 0<0)==decide (ys.getD i 0<0))=true) (fun k=>[(3,vb),(38,va),(39,i6_ (xs.length:Int)),(40,i6_ (k:Int))]) (fun k=>Own w.heap.size w [bk_ p6 #[i6_ b.n,str b.set,str b.rel] 24,bk_ p4 #[i6_ a.n,str a.set,str a.rel] 24]) (fun k=>xs.length - k) (0) ⟨by omega,fun i hi=>absurd hi (by omega)⟩ (Sub.sel [3,38,39,40] Z) (fun _ h=>h) ?_)))))))))))
     rintro k ⟨hk,hall⟩;refine zE (zA (zB 1 Z (zG (zC [3,38,39,40,41] [_,_,_,_,_] Z (zE (xE Z (fun h41=>?_) (fun h41=>?_)))))))
     ·
      refine qI (zC [3,38,39,40] [_,_,_,_] Z (zE (qA (zE (zA (zB 1 Z (zD (v:=.pointer (some (sAt va (k:Int)))) Z (yA Z zF zJ Z Z (by omega) (by rw [ints_length];omega) (fun w1 hw1=>Row.own hva hw1)) (zD (v:=i6_ (xs.getD ((k:Int).toNat) 0)) Z (qL Z zO Z (fun w1 hw1=>Ints.cell (Row.own hva hw1) (by omega) (by omega))) (zB 2 Z (zG (zC [3,9,10,38,39,40] [_,_,_,_,_,_] Z (zE (zA (zB 4 Z (zD (v:=.pointer (some (sAt vb (k:Int)))) Z (yA Z zF zJ Z Z (by omega) (by rw [ints_length];omega) (fun w1 hw1=>Row.own hvb hw1)) (zD (v:=i6_ (ys.getD ((k:Int).toNat) 0)) Z (qL Z zO Z (fun w1 hw1=>Ints.cell (Row.own hvb hw1) (by omega) (by omega))) (zB 1 Z (zD Z (OpQ.bne Z yN Z Z) (zG (zC [3,38,39,40,52] [_,_,_,_,_] Z (qR (b:=(decide ((xs.getD ((k:Int).toNat) 0)<(0:Int))) != (decide ((ys.getD ((k:Int).toNat) 0)<(0:Int)))) Z (fun h52=>?_) (fun h52=>?_))))))))))))))))))))))
      ·
       refine zE (zA (zB 1 Z (zG (zC [8] [_] Z (qE (zX Z Z fun w' hw=>?_))))))
       exact ⟨ret_b (by unfold readyB;rw [pebB_eq,pebB_eq];first | (simp [*];done) | (rw [signs_no (k:=k) (by omega) (beq_of_bneT (by assumption))];simp;done) | (rw [signs_yes (k:=k) (by omega) hall];simp [*];done) | (simp [*];omega)),hw.below⟩
      refine qI (zC [3,38,39,40] [_,_,_,_] Z (zA (zD Z (qK Z Z Z (by omega) (by omega)) (zB 1 Z (zG (qM (k+1) ⟨by omega,fun i hi=>(Nat.lt_succ_iff_lt_or_eq.1 hi).elim (hall i) (fun e=>by subst e;exact beq_of_bne h52)⟩ (by omega) (Sub.sel [3,38,39,40] Z) (fun _ h=>h)))))))
     refine qW Z (zC [] [] Z (zE (zA (zB 1 Z (zG (zC [8] [_] Z (qE (zX Z Z fun w' hw=>?_))))))))
     exact ⟨ret_b (by unfold readyB;rw [pebB_eq,pebB_eq];first | (simp [*];done) | (rw [signs_no (k:=k) (by omega) (beq_of_bneT (by assumption))];simp;done) | (rw [signs_yes (k:=k) (by omega) hall];simp [*];done) | (simp [*];omega)),hw.below⟩
    replace hg31:=not_true hg31;refine zH Z (zH Z (zH Z (zH Z (zH Z (zB 1 Z (zG (zC [1,3,37] [_,_,_] Z (yX Z (zE (zA (zB 1 Z (zG (zC [8] [_] Z (qE (zX Z Z fun w' hw=>?_)))))))))))))))
    exact ⟨ret_b (by unfold readyB;rw [pebB_eq,pebB_eq];first | (simp [*];done) | (rw [signs_no (k:=k) (by omega) (beq_of_bneT (by assumption))];simp;done) | (rw [signs_yes (k:=k) (by omega) hall];simp [*];done) | (simp [*];omega)),hw.below⟩
   replace hg25:=not_true hg25;refine zH Z (zH Z (zH Z (zH Z (zB 2 Z (zH Z (zH Z (zH Z (zH Z (zH Z (zB 1 Z (zG (zC [1,3,37] [_,_,_] Z (yX Z (zE (zA (zB 1 Z (zG (zC [8] [_] Z (qE (zX Z Z fun w' hw=>?_))))))))))))))))))))
   exact ⟨ret_b (by unfold readyB;rw [pebB_eq,pebB_eq];first | (simp [*];done) | (rw [signs_no (k:=k) (by omega) (beq_of_bneT (by assumption))];simp;done) | (rw [signs_yes (k:=k) (by omega) hall];simp [*];done) | (simp [*];omega)),hw.below⟩
  replace hg19:=not_true hg19;refine zH Z (zH Z (zH Z (zH Z (zB 2 Z (zH Z (zH Z (zH Z (zH Z (zB 2 Z (zH Z (zH Z (zH Z (zH Z (zH Z (zB 1 Z (zG (zC [1,3,37] [_,_,_] Z (yX Z (zE (zA (zB 1 Z (zG (zC [8] [_] Z (qE (zX Z Z fun w' hw=>?_)))))))))))))))))))))))))
  exact ⟨ret_b (by unfold readyB;rw [pebB_eq,pebB_eq];first | (simp [*];done) | (rw [signs_no (k:=k) (by omega) (beq_of_bneT (by assumption))];simp;done) | (rw [signs_yes (k:=k) (by omega) hall];simp [*];done) | (simp [*];omega)),hw.below⟩
 replace hg14:=not_true hg14;refine zH Z (zH Z (zH Z (zB 2 Z (zH Z (zH Z (zH Z (zH Z (zB 2 Z (zH Z (zH Z (zH Z (zH Z (zB 2 Z (zH Z (zH Z (zH Z (zH Z (zH Z (zB 1 Z (zG (zC [1,3,37] [_,_,_] Z (yX Z (zE (zA (zB 1 Z (zG (zC [8] [_] Z (qE (zX Z Z fun w' hw=>?_)))))))))))))))))))))))))))))
 exact ⟨ret_b (by unfold readyB;rw [pebB_eq,pebB_eq];first | (simp [*];done) | (rw [signs_no (k:=k) (by omega) (beq_of_bneT (by assumption))];simp;done) | (rw [signs_yes (k:=k) (by omega) hall];simp [*];done) | (simp [*];omega)),hw.below⟩
end Go.Proofs.YteccfipfimbdgaaDoor
namespace Go.Proofs.YteccfipfimbdgaaDoor
open Go.RowKit Go.Wk
set_option linter.unusedSimpArgs false
set_option maxHeartbeats 400000 in
theorem equalB_ok (va vb:Value) (xs ys:List Bool) (w:World) (hva:Bools w va xs) (hvb:Bools w vb ys) (hs1:xs.length≤1000000) :
    Calls Tryd.prog 98 [va,vb].toArray w fun en w'=>en=.returned (.bool (xs==ys))∧Below w.heap.size w w':=by
 refine fnStart (n:=26) (e:=[(0,va),(1,vb)]) Tryd.func98 Z Z Z Z Ends.both (zE (zA (zB 1 Z (zG (zC [0,1] [_,_] Z (zE (zE (zA (zB 1 Z (zD (v:=i6_ (xs.length:Int)) Z (qQ Z yD Z (bools_length _) (fun w1 hw1=>Row.own hva hw1)) (zB 1 Z (zD (v:=i6_ (ys.length:Int)) Z (qQ Z yD Z (bools_length _) (fun w1 hw1=>Row.own hvb hw1)) (zB 1 Z (zG (zC [0,1,10] [_,_,_] Z (qR (b:=!(decide ((xs.length:Int)=(ys.length:Int)))) Z (fun h10=>?_) (fun h10=>?_)))))))))))))))))
 ·
  replace h10:=not_true h10
  replace h10:=zL h10;refine zE (zA (zB 1 Z (zG (zC [4] [_] Z (qE (zX Z Z fun w' hw=>?_))))))
  exact ⟨ret_b (beq_no (fun e=>by simp_all)).symm,hw.below⟩
 replace h10:=not_false h10
 replace h10:=zM h10
 have hle:xs.length=ys.length:=by omega
 refine qI (zC [0,1] [_,_] Z (zE (zE (zA (zB 1 Z (zD (v:=i6_ (xs.length:Int)) Z (qQ Z yD Z (bools_length _) (fun w1 hw1=>Row.own hva hw1)) (zB 1 Z (zG (zC [0,1,12,13] [_,_,_,_] Z (qA (yC (σ:=Nat) (fun k=>k≤xs.length∧∀ i:Nat,i<k→xs.getD i false=ys.getD i false) (fun k=>[(0,va),(1,vb),(12,i6_ (xs.length:Int)),(13,i6_ (k:Int))]) (fun k=>Own w.heap.size w []) (fun k=>xs.length - k) (0) ⟨by omega,fun i hi=>absurd hi (by omega)⟩ (Sub.sel [0,1,12,13] Z) (fun _ h=>h) ?_)))))))))))
 rintro k ⟨hk,hall⟩;refine zE (zA (zB 1 Z (zG (zC [0,1,12,13,14] [_,_,_,_,_] Z (zE (xE Z (fun h14=>?_) (fun h14=>?_)))))))
 ·
  refine qI (zC [0,1,12,13] [_,_,_,_] Z (zE (qA (zE (zA (zB 2 Z (zG (zC [0,1,5,12,13] [_,_,_,_,_] Z (zE (yP qY (fun _ h=>h.drawn) (by kernel_rfl) (zB 2 Z (zD (v:=.pointer (some (sAt va (k:Int)))) Z (yA Z yD yS Z Z (by omega) (by rw [bools_length];omega) (fun w1 hw1=>Row.own hva hw1)) (zD (v:=bo_ (xs.getD ((k:Int).toNat) false)) Z (qL Z Tryd.isAgg4 Z (fun w1 hw1=>Bools.cell (Row.own hva hw1) (by omega) (by omega))) (zB 2 Z (zD (v:=.pointer (some (sAt vb (k:Int)))) Z (yA Z yD yS Z Z (by omega) (by rw [bools_length];omega) (fun w1 hw1=>Row.own hvb hw1)) (zD (v:=bo_ (ys.getD ((k:Int).toNat) false)) Z (qL Z Tryd.isAgg4 Z (fun w1 hw1=>Bools.cell (Row.own hvb hw1) (by omega) (by omega))) (zD Z (OpQ.bne Z yN Z Z) (zG (zC [0,1,12,13,24] [_,_,_,_,_] Z (qR (b:=(xs.getD ((k:Int).toNat) false) != (ys.getD ((k:Int).toNat) false)) Z (fun h24=>?_) (fun h24=>?_)))))))))))))))))))))
  ·
   refine zE (zA (zB 1 Z (zG (zC [4] [_] Z (qE (zX Z Z fun w' hw=>?_))))))
   exact ⟨ret_b (beq_no (fun e=>by simp_all)).symm,hw.below⟩
  refine qI (zC [0,1,12,13] [_,_,_,_] Z (zA (zD Z (qK Z Z Z (by omega) (by omega)) (zB 1 Z (zG (qM (k+1) ⟨by omega,fun i hi=>(Nat.lt_succ_iff_lt_or_eq.1 hi).elim (hall i) (fun e=>by subst e;simpa using h24)⟩ (by omega) (Sub.sel [0,1,12,13] Z) (fun _ h=>h)))))))
 refine qW Z (zC [] [] Z (zE (zA (zB 1 Z (zG (zC [4] [_] Z (qE (zX Z Z fun w' hw=>?_))))))))
 exact ⟨ret_b (by rw [bools_same hle (fun i hi=>hall i (by omega))];simp),hw.below⟩
set_option maxHeartbeats 400000 in
theorem listsAt_ok (a b:St) (k p Tp:Nat) (fv wv:Value) (s:Nat) (w:World) (hp:w.heap[p]?=some (.cells #[.int .i64 a.n,str a.set,str a.rel,.int .i64 b.n,str b.set,str b.rel,.int .i64 (k:Int),.int .i64 ((prN a b:Nat):Int),fv,wv,.bool false] Tp (0,0))) (hVa:validB a=true) (hVb:validB b=true) (hk3:k≤3) (hs:s≤300000) :
    Calls Tryd.prog 96 [.pointer (some ⟨p,0,none⟩),i6_ (s:Int)].toArray w fun en w'=>∃ v,en=.returned v∧Below w.heap.size w w'∧NewRows w.heap.size 3 3 w' v (placed (stX a b k s) k).length (ints (placed (stX a b k s) k)) (placed (stY a b k s) k).length (ints (placed (stY a b k s) k)):=by
 refine fnStart (n:=56) (e:=[(0,.pointer (some ⟨p,0,none⟩)),(1,i6_ (s:Int))]) Tryd.func96 Z Z Z Z Ends.both ?_
 have ha:=validB_fine hVa
 have hb:=validB_fine hVb
 have hm8:=ha.hi
 have hm1:=ha.lo
 have hb8:=hb.hi
 have hb1:=hb.lo
 have hpr:=prN_le (a:=a) (b:=b) (by omega) (by omega)
 have hpp:=prN_pos a b;refine zE (zA (zB 2 Z (zG (zC [0,1] [_,_] Z (zE (zT (yF (xs:=[]) (vs:=[]) qB Z Z Z Z Z Z (by decide) Z fun p9 hp9=>(yF (xs:=[]) (vs:=[]) qB Z Z Z Z Z Z (by decide) Z fun p10 hp10=>(qF 2 Z (zN (zC [0,1,6,7] [_,_,_,_] Z (zE (zE (zA (zB 1 Z (zD (v:=.pointer (some ⟨p,0,none⟩)) Z (qJ Z Z) (zD Z (zK Z zR Z zJ Z Z) (zD (v:=i6_ (k:Int)) Z (qL Z zO Z (fun w1 hw1=>at_box hp hw1 6 Z)) (zB 1 Z (zG (zC [0,1,6,7,14,15] [_,_,_,_,_,_] Z (qA (yC (σ:=Nat×Nat×Nat×Nat×Array Value×Nat×Nat×Array Value) (fun ⟨i,N,g1,c1,u1,g2,c2,u2⟩=>i≤k∧(N=s / prN a b ^ i∧N≤300000)∧(u1.size=c1*1∧(placed (stX a b k s) i).length≤c1∧u1.toList.take (placed (stX a b k s) i).length=ints (placed (stX a b k s) i))∧(u2.size=c2*1∧(placed (stY a b k s) i).length≤c2∧u2.toList.take (placed (stY a b k s) i).length=ints (placed (stY a b k s) i))) (fun ⟨i,N,g1,c1,u1,g2,c2,u2⟩=>[(0,.pointer (some ⟨p,0,none⟩)),(1,i6_ (N:Int)),(6,sl_ g1 ((placed (stX a b k s) i).length) c1),(7,sl_ g2 ((placed (stY a b k s) i).length) c2),(14,i6_ (k:Int)),(15,i6_ (i:Int))]) (fun ⟨i,N,g1,c1,u1,g2,c2,u2⟩=>Own w.heap.size w [bk_ g1 u1 3,bk_ g2 u2 3]) (fun ⟨i,N,g1,c1,u1,g2,c2,u2⟩=>k - i) (0,s,p9,0,#[],p10,0,#[]) ⟨by omega,⟨by simp,hs⟩,⟨rfl,Nat.le_refl _,rfl⟩,⟨rfl,Nat.le_refl _,rfl⟩⟩ (Sub.cons Z (Sub.cons Z (Sub.cons Z (Sub.cons Z (Sub.sel [14,15] Z))))) (fun _ h=>h.pick [1,0] Z (by decide)) ?_)))))))))))))))))))))))
 rintro ⟨i,N,g1,c1,u1,g2,c2,u2⟩ ⟨hi,⟨hN,hN3⟩,⟨hc1,hl1,ht1⟩,⟨hc2,hl2,ht2⟩⟩
 dsimp only
 have hp1:=placed_le (stX a b k s) i
 have hp2:=placed_le (stY a b k s) i
 have hNd:=Nat.div_le_self N (prN a b);refine zE (zA (zB 1 Z (zG (zC [0,1,6,7,14,15,16] [_,_,_,_,_,_,_] Z (zE (qR (b:=decide ((i:Int)<(k:Int))) Z (fun h16=>?_) (fun h16=>?_)))))))
 ·
  replace h16:=zM h16
  have hik:i<k:=by omega
  obtain ⟨hdx0,hdx1,hdx2⟩:=dig_x (a:=a) (b:=b) (s:=s) hik
  obtain ⟨hdy0,hdy1,hdy2⟩:=dig_y (a:=a) (b:=b) (s:=s) (by omega) hik
  have hdl:=dig_lt (s:=s) (i:=i) hpp;refine qI (zC [0,1,6,7,14,15] [_,_,_,_,_,_] Z (zE (qA (zE (zE (zA (zB 2 Z (zD (v:=.pointer (some ⟨p,0,none⟩)) Z (qJ Z Z) (zD Z (zK Z zR Z zJ Z Z) (zD (v:=i6_ ((prN a b:Nat):Int)) Z (qL Z zO Z (fun w1 hw1=>at_box hp hw1 7 Z)) (zD (v:=i6_ (((dig (prN a b) s i):Int))) Z (qC (by rw [show (dig (prN a b) s i)=N % prN a b from by rw [hN];rfl];rfl) (OpQ.rem Z Z Z (by omega) (by omega))) (zB 1 Z (zG (zC [0,1,6,7,8,14,15] [_,_,_,_,_,_,_] Z (zE (zA (zB 2 Z (zG (zC [0,1,6,7,8,14,15,24] [_,_,_,_,_,_,_,_] Z (qR (b:=decide ((0:Int)<(((dig (prN a b) s i):Int)))) Z (fun h24=>?_) (fun h24=>?_)))))))))))))))))))))
  ·
   replace h24:=zM h24
   have hpx:=placed_pos (xs:=stX a b k s) (k:=i) (by omega)
   have hpy:=placed_pos (xs:=stY a b k s) (k:=i) (by omega);refine zE (zT (qF 2 Z (zU Z (OpQ.sub Z Z Z (by omega) (by omega)) (qF 1 Z (zU (v:=.pointer (some ⟨p,0,none⟩)) Z (qJ Z Z) (zU Z (zK Z zR Z zS Z Z) (zU Z (zK Z zP Z zJ Z Z) (zU (v:=i6_ b.n) Z (qL Z zO Z (fun w1 hw1=>at_box hp hw1 3 Z)) (zU (v:=i6_ ((stX a b k s).getD i 0)) Z (qC (dig_xv (a:=a) (b:=b) (k:=k) (s:=s) hik (by omega) Z (by omega)) (OpQ.quo Z Z Z (by omega) (by omega) (by omega))) (yF (xs:=[.tmp 33]) (vs:=[i6_ ((stX a b k s).getD i 0)]) qB Z Z Z Z Z Z (by decide) Z fun p34 hp34=>(qO (xs:=(placed (stX a b k s) i)) (ys:=[(stX a b k s).getD i 0]) qB 1 Z Z Z Z Z Z Z hc1 hl1 ht1 (fun w1 hw1=>(yL hw1 (i:=0) Z (n:=1) (cap:=1) (vs:=ints [(stX a b k s).getD i 0]) Z Z (by decide))) (((placed (stX a b k s) i)++([(stX a b k s).getD i 0])).length) (by first | (simp;done) | (simp;omega)) (by first | (simp;done) | (simp;omega) | omega) fun p35 cap35 cur35 hp35 hcp35 hlp35 htp35=>?_)))))))))))
   show Ll _ _ (Own _ _ [_,_,_]) _ _ ((35,sl_ p35 ((((placed (stX a b k s) i)++([(stX a b k s).getD i 0])).length)) cap35)::_) _ _ _;refine qF 1 Z (zN (zC [0,1,6,7,8,14,15] [_,_,_,_,_,_,_] Z (zT (qF 2 Z (zU Z (OpQ.sub Z Z Z (by omega) (by omega)) (qF 1 Z (zU (v:=.pointer (some ⟨p,0,none⟩)) Z (qJ Z Z) (zU Z (zK Z zR Z zS Z Z) (zU Z (zK Z zP Z zJ Z Z) (zU (v:=i6_ b.n) Z (qL Z zO Z (fun w1 hw1=>at_box hp hw1 3 Z)) (zU (v:=i6_ ((stY a b k s).getD i 0)) Z (qC (dig_yv (a:=a) (b:=b) (k:=k) (s:=s) hik (by omega) Z (by omega)) (OpQ.rem Z Z Z (by omega) (by omega))) (yF (xs:=[.tmp 44]) (vs:=[i6_ ((stY a b k s).getD i 0)]) qB Z Z Z Z Z Z (by decide) Z fun p45 hp45=>(qO (xs:=(placed (stY a b k s) i)) (ys:=[(stY a b k s).getD i 0]) qB 3 Z Z Z Z Z Z Z hc2 hl2 ht2 (fun w1 hw1=>(yL hw1 (i:=0) Z (n:=1) (cap:=1) (vs:=ints [(stY a b k s).getD i 0]) Z Z (by decide))) (((placed (stY a b k s) i)++([(stY a b k s).getD i 0])).length) (by first | (simp;done) | (simp;omega)) (by first | (simp;done) | (simp;omega) | omega) fun p46 cap46 cur46 hp46 hcp46 hlp46 htp46=>?_)))))))))))))
   show Ll _ _ (Own _ _ [_,_,_,_]) _ _ ((46,sl_ p46 ((((placed (stY a b k s) i)++([(stY a b k s).getD i 0])).length)) cap46)::_) _ _ _;refine qF 1 Z (zN (zC [0,1,6,7,14,15] [_,_,_,_,_,_] Z (zA (zB 2 Z (zD (v:=.pointer (some ⟨p,0,none⟩)) Z (qJ Z Z) (zD Z (zK Z zR Z zJ Z Z) (zD (v:=i6_ ((prN a b:Nat):Int)) Z (qL Z zO Z (fun w1 hw1=>at_box hp hw1 7 Z)) (zD (v:=i6_ ((N / prN a b:Nat):Int)) Z (qC (by rfl) (OpQ.quo Z Z Z (by omega) (by omega) (by omega))) (zB 1 Z (zG (zC [0,1,6,7,14,15] [_,_,_,_,_,_] Z (zA (zD Z (qK Z Z Z (by omega) (by omega)) (zB 1 Z (zG (qM (i+1,N / prN a b,p35,cap35,cur35,p46,cap46,cur46) ⟨by omega,⟨by rw [hN,dig_down],by dsimp only;omega⟩,⟨hcp35,by rw [hpx];simpa using hlp35,by rw [hpx];simpa using htp35⟩,⟨hcp46,by rw [hpy];simpa using hlp46,by rw [hpy];simpa using htp46⟩⟩ (by omega) (Sub.cons Z (Sub.cons Z (Sub.cons (by rw [hpx];simp [List.lookup]) (Sub.cons (by rw [hpy];simp [List.lookup]) (Sub.sel [14,15] Z))))) (fun _ h=>h.pick [2,3] Z (by decide))))))))))))))))))
  replace h24:=zL h24
  have hpx:=placed_neg (xs:=stX a b k s) (k:=i) (by omega)
  have hpy:=placed_neg (xs:=stY a b k s) (k:=i) (by omega);refine qI (zC [0,1,6,7,14,15] [_,_,_,_,_,_] Z (zA (zB 2 Z (zD (v:=.pointer (some ⟨p,0,none⟩)) Z (qJ Z Z) (zD Z (zK Z zR Z zJ Z Z) (zD (v:=i6_ ((prN a b:Nat):Int)) Z (qL Z zO Z (fun w1 hw1=>at_box hp hw1 7 Z)) (zD (v:=i6_ ((N / prN a b:Nat):Int)) Z (qC (by rfl) (OpQ.quo Z Z Z (by omega) (by omega) (by omega))) (zB 1 Z (zG (zC [0,1,6,7,14,15] [_,_,_,_,_,_] Z (zA (zD Z (qK Z Z Z (by omega) (by omega)) (zB 1 Z (zG (qM (i+1,N / prN a b,g1,c1,u1,g2,c2,u2) ⟨by omega,⟨by rw [hN,dig_down],by dsimp only;omega⟩,⟨hc1,by rw [hpx];exact hl1,by rw [hpx];exact ht1⟩,⟨hc2,by rw [hpy];exact hl2,by rw [hpy];exact ht2⟩⟩ (by omega) (Sub.cons Z (Sub.cons Z (Sub.cons (by rw [hpx];rfl) (Sub.cons (by rw [hpy];rfl) (Sub.sel [14,15] Z))))) (fun _ h=>h))))))))))))))))
 replace h16:=zL h16;refine qW Z (zC [6,7] [_,_] Z (zE (zA (zB 4 Z (zG (zC [4,5] [_,_] Z (qE (Kt.end2 Z Z Z fun w' hw=>?_))))))))
 obtain rfl:k=i:=by omega
 exact ⟨_,rfl,hw.below,hw.newRows (i:=0) (j:=1) rfl rfl (by decide) hc1 hl1 (by simpa using ht1) hc2 hl2 (by simpa using ht2)⟩
end Go.Proofs.YteccfipfimbdgaaDoor
namespace Go.Proofs.YteccfipfimbdgaaDoor
open Go.RowKit Go.Wk
set_option linter.unusedSimpArgs false
set_option maxHeartbeats 400000 in
theorem newPeb_yes (a b:St) (xs ys:List Int) (va vb:Value) (w:World) (hsa:a.Small) (hsb:b.Small) (hva:Ints w va xs) (hvb:Ints w vb ys) (hs1:xs.length≤140737488355328) (hs2:ys.length≤140737488355328) (k:Nat) (hk:xs.length=k) (hr:readyB a xs b ys=true) :
    Calls Tryd.prog 56 [vS a,va,vS b,vb].toArray w fun en w'=>∃ (p gf cf:Nat) (uf:Array Value) (gw cw:Nat) (uw:Array Value),en=.returned (.pointer (some ⟨p,0,none⟩))∧(uf.size=cf*1∧(WL 0 a b k).length≤cf∧uf.toList.take (WL 0 a b k).length=bools (WL 0 a b k))∧(uw.size=cw*1∧(WL 0 a b k).length≤cw∧uw.toList.take (WL 0 a b k).length=bools (WL 0 a b k))∧Own w.heap.size w [bk_ p #[i6_ a.n,str a.set,str a.rel,i6_ b.n,str b.set,str b.rel,i6_ (k:Int),i6_ ((prN a b:Nat):Int),sl_ gf ((WL 0 a b k).length) cf,sl_ gw ((WL 0 a b k).length) cw,bo_ false] 79,bk_ gf uf 4,bk_ gw uw 4] w':=by
 refine fnStart (n:=78) (e:=[(0,vS a),(1,va),(2,vS b),(3,vb)]) Tryd.func56 Z Z Z Z Ends.both ?_
 obtain ⟨hVa,hVb,h1,h3,hlen,hx,hy⟩:=ready_peb hr
 rw [hk] at h1 h3
 have hk3:k≤3:=h3
 have ha:=validB_fine hVa
 have hb:=validB_fine hVb
 have hm8:=ha.hi
 have hm1:=ha.lo
 have hb8:=hb.hi
 have hb1:=hb.lo
 have hpr:=prN_le (a:=a) (b:=b) (by omega) (by omega)
 have hpp:=prN_pos a b
 have hprI:((prN a b:Nat):Int)=a.n*b.n+1:=by
  unfold prN;rw [Int.natCast_add,Int.natCast_mul,Int.toNat_of_nonneg (by omega),Int.toNat_of_nonneg (by omega)];rfl
 have hab:0≤a.n*b.n∧a.n*b.n≤64:=by omega
 refine zE (zT (yH (v:=vS a) Z Z Z Z Z fun p4 hp4=>?_))
 show Ll _ _ (Own _ _ [_]) _ _ ((4,pt_ p4)::_) _ _ _;refine yH (v:=vS b) Z Z Z Z Z fun p6 hp6=>?_
 show Ll _ _ (Own _ _ [_,_]) _ _ ((6,pt_ p6)::_) _ _ _;refine qF 1 Z (zN (zC [1,3,4,6] [_,_,_,_] Z (zE (zE (zA (zD Z (zV (cs:=#[i6_ a.n,str a.set,str a.rel]) 1 Z zY Z Z zS) (zB 1 Z (zD Z (zV (cs:=#[i6_ b.n,str b.set,str b.rel]) 0 Z zY Z Z zS) (zB 1 Z (zD (v:=bo_ true) Z (qG Z Tryd.call95 Z zW (fun w1 hw1=>known_b hr (areReady_ok a b xs ys va vb w1 hsa hsb (Row.own hva hw1) (Row.own hvb hw1) (by first | (simp;done) | (simp;omega) | omega) (by first | (simp;done) | (simp;omega) | omega)))) (zB 1 Z (zG (zC [1,4,6,19] [_,_,_,_] Z (Wk.condF Z (qI (zC [1,4,6] [_,_,_] Z (zE (zT (zU Z (zV (cs:=#[i6_ a.n,str a.set,str a.rel]) 1 Z zY Z Z zS) (zU Z (zV (cs:=#[i6_ b.n,str b.set,str b.rel]) 0 Z zY Z Z zS) (qF 1 Z (zU (v:=i6_ (k:Int)) Z (qC (by rw [hk]) (qQ Z zF Z (ints_length _) (fun w1 hw1=>Row.own hva hw1))) (zU Z (zK Z zP Z zJ Z Z) (zU Z (zQ 1 Z zO Z Z Z) (zU Z (zK Z zP Z zJ Z Z) (zU Z (zQ 0 Z zO Z Z Z) (zU Z (xI Z Z Z (by omega) (by omega)) (zU (v:=i6_ ((prN a b:Nat):Int)) Z (qC (by rw [hprI]) (qK Z Z Z (by omega) (by omega))) (zU (v:=.agg #[i6_ a.n,str a.set,str a.rel,i6_ b.n,str b.set,str b.rel,i6_ (k:Int),i6_ ((prN a b:Nat):Int),.slice none 0 0,.slice none 0 0,bo_ false]) Z (OpQ.build (xs:=[.tmp 20,.tmp 21,.tmp 23,.tmp 29]) (vs:=[vS a,vS b,i6_ (k:Int),i6_ ((prN a b:Nat):Int)]) Z Z (by kernel_rfl)) (yH (v:=.agg #[i6_ a.n,str a.set,str a.rel,i6_ b.n,str b.set,str b.rel,i6_ (k:Int),i6_ ((prN a b:Nat):Int),.slice none 0 0,.slice none 0 0,bo_ false]) Z Z Z Z Z fun p31 hp31=>?_))))))))))))))))))))))))))))))
 show Ll _ _ (Own _ _ [_,_,_]) _ _ ((31,pt_ p31)::_) _ _ _;refine qF 1 Z (zN (zC [1,4,6,9] [_,_,_,_] Z (zE (zA (zB 1 Z (zG (zC [1,4,6,9,10] [_,_,_,_,_] Z (zE (zE (zA (zB 1 Z (zD (v:=i6_ (k:Int)) Z (qC (by rw [hk]) (qQ Z zF Z (ints_length _) (fun w1 hw1=>Row.own hva hw1))) (zB 1 Z (zG (zC [4,6,9,10,33,34] [_,_,_,_,_,_] Z (qA (yC (σ:=Nat) (fun j=>j≤k) (fun j=>[(4,pt_ p4),(6,pt_ p6),(9,pt_ p31),(10,i6_ ((prN a b ^ j:Nat):Int)),(33,i6_ (k:Int)),(34,i6_ (j:Int))]) (fun j=>Own w.heap.size w [bk_ p31 #[i6_ a.n,str a.set,str a.rel,i6_ b.n,str b.set,str b.rel,i6_ (k:Int),i6_ ((prN a b:Nat):Int),.slice none 0 0,.slice none 0 0,bo_ false] 79,bk_ p6 #[i6_ b.n,str b.set,str b.rel] 24,bk_ p4 #[i6_ a.n,str a.set,str a.rel] 24]) (fun j=>k - j) (0) (by omega) (Sub.cons Z (Sub.cons Z (Sub.cons Z (Sub.cons (by rfl) (Sub.sel [33,34] Z))))) (fun _ h=>h) ?_)))))))))))))))))
 rintro j hj;refine zE (zA (zB 1 Z (zG (zC [4,6,9,10,33,34,35] [_,_,_,_,_,_,_] Z (zE (qR (b:=decide ((j:Int)<(k:Int))) Z (fun h35=>?_) (fun h35=>?_)))))))
 ·
  replace h35:=zM h35
  have hjk:j<k:=by omega
  have hpi3:=pow65 hpr (show j+1≤3 by omega)
  have hpm:((prN a b ^ j:Nat):Int)*((prN a b:Nat):Int)=((prN a b ^ (j+1):Nat):Int):=by rw [Nat.pow_succ,Int.natCast_mul]
  refine qI (zC [4,6,9,10,33,34] [_,_,_,_,_,_] Z (zE (qA (zA (zB 2 Z (zD (v:=pt_ p31) Z (qJ Z Z) (zD Z (zK Z zR Z zJ Z Z) (zD Z (zQ 0 Z zO Z Z Z) (zD (v:=i6_ (((prN a b ^ (j+1):Nat):Int))) Z (qC (by rw [hpm]) (xI Z Z Z (by omega) (by omega))) (zB 1 Z (zG (zC [4,6,9,10,33,34] [_,_,_,_,_,_] Z (zA (zD Z (qK Z Z Z (by omega) (by omega)) (zB 1 Z (zG (qM (j+1) (by omega) (by omega) (Sub.cons Z (Sub.cons Z (Sub.cons Z (Sub.cons (by rfl) (Sub.sel [33,34] Z))))) (fun _ h=>h))))))))))))))))))
 replace h35:=zL h35
 obtain rfl:k=j:=by omega
 have hN0:=pow65 hpr hk3;refine qW Z (zC [4,6,9,10] [_,_,_,_] Z (zE (zE (zA (zB 2 Z (zG (zC [4,6,9,43,44] [_,_,_,_,_] Z (qA (yC (σ:=Nat×OptR) (fun ⟨s,q⟩=>s≤prN a b ^ k∧OptOk ((WL 0 a b k).take s) q) (fun ⟨s,q⟩=>[(4,pt_ p4),(6,pt_ p6),(9,pt_ p31),(43,i6_ ((prN a b ^ k:Nat):Int)),(44,i6_ (s:Int))]) (fun ⟨s,q⟩=>Own w.heap.size w (bk_ p31 #[i6_ a.n,str a.set,str a.rel,i6_ b.n,str b.set,str b.rel,i6_ (k:Int),i6_ ((prN a b:Nat):Int),optV q s,.slice none 0 0,bo_ false] 79::bk_ p6 #[i6_ b.n,str b.set,str b.rel] 24::bk_ p4 #[i6_ a.n,str a.set,str a.rel] 24::(optB 4 q++[]))) (fun ⟨s,q⟩=>prN a b ^ k - s) (0,none) ⟨by omega,by simp [OptOk]⟩ (Sub.sel [4,6,9,43,44] Z) (fun _ h=>h) ?_)))))))))
 rintro ⟨s,q⟩ ⟨hs,hq⟩
 dsimp only
 have hts:((WL 0 a b k).take s).length=s:=by rw [List.length_take,WL_len];omega
 refine zE (zA (zB 1 Z (zG (zC [4,6,9,43,44,45] [_,_,_,_,_,_] Z (zE (qR (b:=decide ((s:Int)<((prN a b ^ k:Nat):Int))) Z (fun h45=>?_) (fun h45=>?_)))))))
 ·
  replace h45:=zM h45
  have hsN:s<prN a b ^ k:=by omega
  have hEa:a.Els (placed (stX a b k s) k):=placed_els (by simp) fun x hx=>by have:=(stX_peb (a:=a) (b:=b) (k:=k) (s:=s)).2 x hx;omega
  have hEb:b.Els (placed (stY a b k s) k):=placed_els (by simp) fun x hx=>by have:=(stY_peb (a:=a) (k:=k) (s:=s) (show 1≤b.n.toNat by omega)).2 x hx;omega
  have hpl:(placed (stX a b k s) k).length=(placed (stY a b k s) k).length:=placed_len _ (st_signs (by omega))
  have hp4:=placed_le (stX a b k s) k;refine qI (zC [4,6,9,43,44] [_,_,_,_,_] Z (zE (qA (zE (zA (zB 2 Z (zG (zC [4,6,9,11,43,44] [_,_,_,_,_,_] Z (zE (zT (qF 2 Z (Ll.callRows (xs:=[.tmp 48,.tmp 49]) (m1:=(placed (stX a b k s) k).length) (vs1:=ints (placed (stX a b k s) k)) (el1:=3) (m2:=(placed (stY a b k s) k).length) (vs2:=ints (placed (stY a b k s) k)) (el2:=3) Z Z Z Z Tryd.call96 Z (fun w1 hw1=>listsAt_ok a b k p31 79 (optV q s) (.slice none 0 0) s w1 (hw1.has 0 _ _ Z).2 hVa hVb hk3 (by omega)) fun p50a cap50a cur50a p50b cap50b cur50b hp50a hcp50a hlp50a htp50a hp50b hcp50b hlp50b htp50b=>(qF 1 Z (zU (v:=sl_ p50a ((placed (stX a b k s) k).length) cap50a) Z (OpQ.extract Z Z Z) (zU (v:=sl_ p50b ((placed (stY a b k s) k).length) cap50b) Z (OpQ.extract Z Z Z) (qF 2 Z (zN (zC [4,6,9,12,13,43,44] [_,_,_,_,_,_,_] Z (Wk.regionT (S:=Own w.heap.size w [bk_ p50a cur50a 3,bk_ p50b cur50b 3,bk_ p6 #[i6_ b.n,str b.set,str b.rel] 24,bk_ p4 #[i6_ a.n,str a.set,str a.rel] 24]) (.take 0 (.take 1 (.take 5 (.take 6 (.take 7 (.take 8 (.two 2 (.take 3 (.two 4 (.one 9 (.one 10 (.one 11 (.one 12 (.take 13 (.one 14 .done)))))) 9 (.two 4 (.one 10 (.one 11 (.one 12 (.take 13 (.one 14 .done))))) 10 (.one 4 (.one 11 (.one 12 (.take 13 (.one 14 .done)))))))) 9 (.two 2 (.take 3 (.two 4 (.one 10 (.one 11 (.one 12 (.take 13 (.one 14 .done))))) 10 (.one 4 (.one 11 (.one 12 (.take 13 (.one 14 .done))))))) 10 (.one 2 (.take 3 (.one 4 (.one 11 (.one 12 (.take 13 (.one 14 .done))))))))))))))) qY (fun _ h=>h.drawn) (by kernel_rfl) (xN 2 Z (pk [0,1,3,4] Z Z) (yM Z Z Z Z Z (zV (cs:=#[i6_ a.n,str a.set,str a.rel]) 3 Z zY Z Z zS) (pk [0,1,3,4] Z Z) (xN 1 Z (pk [0,1,3,4] Z Z) (yM Z Z Z Z Z (zV (cs:=#[i6_ b.n,str b.set,str b.rel]) 2 Z zY Z Z zS) (pk [0,1,3,4] Z Z) (xN 1 Z (pk [0,1,3,4] Z Z) (Lt.two Z Z ?_ ?_)))))))))))))))))))))))))
  ·
   refine zU (v:=pt_ p31) Z (qJ Z Z) (zN (zZ (pk [0,1,3,4] Z Z) ?_));refine yM Z Z Z Z Z (zK Z zR Z qT Z Z) (pk [0,1,3,4] Z Z) (Lt.two Z Z ?_ ?_)
   ·
    refine zU Z (zQ 2 Z yU Z Z Z) (zN (zZ (pk [0,1,3,4] Z Z) ?_));refine qN Z (zU (v:=bo_ (sameB a (placed (stX a b k s) k) b (placed (stY a b k s) k))) Z (qG Z Tryd.call51 Z zW (fun w1 hw1=>sameWay_ok a b (placed (stX a b k s) k) (placed (stY a b k s) k) (sl_ p50a ((placed (stX a b k s) k).length) cap50a) (sl_ p50b ((placed (stY a b k s) k).length) cap50b) w1 ha hb (yL hw1 (i:=0) Z (by simpa using htp50a) (by simp) hlp50a) (yL hw1 (i:=1) Z (by simpa using htp50b) (by simp) hlp50b) hEa hEb hpl (by omega))) (zN (zZ (pk [0,1,3,4] Z Z) ?_)));refine qN Z (yF (xs:=[.tmp 62]) (vs:=[bo_ (sameB a (placed (stX a b k s) k) b (placed (stY a b k s) k))]) yO Z Z Z Z Z Z (by decide) Z fun p63 hp63=>(zN (zZ (pk [1,2,4,5] Z Z) ?_)));refine qN Z (Ll.appendOpt (m:=s) (bs:=(WL 0 a b k).take s) hts yO [bk_ p63 #[bo_ (sameB a (placed (stX a b k s) k) b (placed (stY a b k s) k))] 4,bk_ p50a cur50a 3,bk_ p50b cur50b 3,bk_ p31 #[i6_ a.n,str a.set,str a.rel,i6_ b.n,str b.set,str b.rel,i6_ (k:Int),i6_ ((prN a b:Nat):Int),optV q s,.slice none 0 0,bo_ false] 79,bk_ p6 #[i6_ b.n,str b.set,str b.rel] 24,bk_ p4 #[i6_ a.n,str a.set,str a.rel] 24] [] 0 hq Z Z Z Z Z Z Z (by omega) fun gq cq uq _ hQgq=>?_)
    show Ll _ _ (Own _ _ (_::_::_::_::_::_::((optB 4 (some (gq,cq,uq))++[])))) _ _ ((64,sl_ gq (s+1) cq)::_) _ _ _;refine zN (zZ (pk [1,2,4,5] Z Z) ?_);refine qN Z (zU (v:=pt_ p31) Z (qJ Z Z) (zN (zZ (pk [1,2,4,5] Z Z) ?_)));refine yM Z Z Z Z Z (zK Z zR Z qT Z Z) (pk [1,2,4,5] Z Z) (qN Z (yB (v:=sl_ gq (s+1) cq) (hs':=(_::_::_::bk_ p31 #[i6_ a.n,str a.set,str a.rel,i6_ b.n,str b.set,str b.rel,i6_ (k:Int),i6_ ((prN a b:Nat):Int),sl_ gq (s+1) cq,.slice none 0 0,bo_ false] 79::_::_::((optB 4 (some (gq,cq,uq))++[])))) 3 Z Z Z Z Z Z qT Z (by simp) Z (zN (zZ (pk [1,2,4,5] Z Z) ?_))));refine Lt.nil (zC [4,6,9,43,44] [_,_,_,_,_] Z (zA (zD Z (qK Z Z Z (by omega) (by omega)) (zB 1 Z (zG (qM (s+1,some (gq,cq,uq)) ⟨by omega,by rw [fit_next (by omega) hsN];exact hQgq⟩ (by omega) (Sub.sel [4,6,9,43,44] Z) (fun _ h=>xQ (hs:=[_,_,_,_,_,_]) (hs':=[_,_,_]) (tl:=optB 4 (some (gq,cq,uq))++[]) h [3,4,5] Z (by decide))))))))
   refine zU (v:=bo_ (sameB a (placed (stX a b k s) k) b (placed (stY a b k s) k))) Z (qG Z Tryd.call51 Z zW (fun w1 hw1=>sameWay_ok a b (placed (stX a b k s) k) (placed (stY a b k s) k) (sl_ p50a ((placed (stX a b k s) k).length) cap50a) (sl_ p50b ((placed (stY a b k s) k).length) cap50b) w1 ha hb (yL hw1 (i:=0) Z (by simpa using htp50a) (by simp) hlp50a) (yL hw1 (i:=1) Z (by simpa using htp50b) (by simp) hlp50b) hEa hEb hpl (by omega))) (zN (zZ (pk [0,1,3,4] Z Z) ?_));refine Lt.two Z Z ?_ ?_
   ·
    refine zU Z (zQ 2 Z yU Z Z Z) (zN (zZ (pk [0,1,3,4] Z Z) ?_));refine qN Z (yF (xs:=[.tmp 62]) (vs:=[bo_ (sameB a (placed (stX a b k s) k) b (placed (stY a b k s) k))]) yO Z Z Z Z Z Z (by decide) Z fun p63_1 hp63_1=>(zN (zZ (pk [1,2,4,5] Z Z) ?_)));refine qN Z (Ll.appendOpt (m:=s) (bs:=(WL 0 a b k).take s) hts yO [bk_ p63_1 #[bo_ (sameB a (placed (stX a b k s) k) b (placed (stY a b k s) k))] 4,bk_ p50a cur50a 3,bk_ p50b cur50b 3,bk_ p31 #[i6_ a.n,str a.set,str a.rel,i6_ b.n,str b.set,str b.rel,i6_ (k:Int),i6_ ((prN a b:Nat):Int),optV q s,.slice none 0 0,bo_ false] 79,bk_ p6 #[i6_ b.n,str b.set,str b.rel] 24,bk_ p4 #[i6_ a.n,str a.set,str a.rel] 24] [] 0 hq Z Z Z Z Z Z Z (by omega) fun gq_1 cq_1 uq_1 _ hQgq_1=>?_)
    show Ll _ _ (Own _ _ (_::_::_::_::_::_::((optB 4 (some (gq_1,cq_1,uq_1))++[])))) _ _ ((64,sl_ gq_1 (s+1) cq_1)::_) _ _ _;refine zN (zZ (pk [1,2,4,5] Z Z) ?_);refine qN Z (zU (v:=pt_ p31) Z (qJ Z Z) (zN (zZ (pk [1,2,4,5] Z Z) ?_)));refine yM Z Z Z Z Z (zK Z zR Z qT Z Z) (pk [1,2,4,5] Z Z) (qN Z (yB (v:=sl_ gq_1 (s+1) cq_1) (hs':=(_::_::_::bk_ p31 #[i6_ a.n,str a.set,str a.rel,i6_ b.n,str b.set,str b.rel,i6_ (k:Int),i6_ ((prN a b:Nat):Int),sl_ gq_1 (s+1) cq_1,.slice none 0 0,bo_ false] 79::_::_::((optB 4 (some (gq_1,cq_1,uq_1))++[])))) 3 Z Z Z Z Z Z qT Z (by simp) Z (zN (zZ (pk [1,2,4,5] Z Z) ?_))));refine Lt.nil (zC [4,6,9,43,44] [_,_,_,_,_] Z (zA (zD Z (qK Z Z Z (by omega) (by omega)) (zB 1 Z (zG (qM (s+1,some (gq_1,cq_1,uq_1)) ⟨by omega,by rw [fit_next (by omega) hsN];exact hQgq_1⟩ (by omega) (Sub.sel [4,6,9,43,44] Z) (fun _ h=>xQ (hs:=[_,_,_,_,_,_]) (hs':=[_,_,_]) (tl:=optB 4 (some (gq_1,cq_1,uq_1))++[]) h [3,4,5] Z (by decide))))))))
   refine yF (xs:=[.tmp 62]) (vs:=[bo_ (sameB a (placed (stX a b k s) k) b (placed (stY a b k s) k))]) yO Z Z Z Z Z Z (by decide) Z fun p63_2 hp63_2=>(zN (zZ (pk [1,2,4,5] Z Z) ?_));refine qN Z (zU Z (zQ 3 Z yU Z Z Z) (zN (zZ (pk [1,2,4,5] Z Z) ?_)));refine qN Z (Ll.appendOpt (m:=s) (bs:=(WL 0 a b k).take s) hts yO [bk_ p63_2 #[bo_ (sameB a (placed (stX a b k s) k) b (placed (stY a b k s) k))] 4,bk_ p50a cur50a 3,bk_ p50b cur50b 3,bk_ p31 #[i6_ a.n,str a.set,str a.rel,i6_ b.n,str b.set,str b.rel,i6_ (k:Int),i6_ ((prN a b:Nat):Int),optV q s,.slice none 0 0,bo_ false] 79,bk_ p6 #[i6_ b.n,str b.set,str b.rel] 24,bk_ p4 #[i6_ a.n,str a.set,str a.rel] 24] [] 0 hq Z Z Z Z Z Z Z (by omega) fun gq_2 cq_2 uq_2 _ hQgq_2=>?_)
   show Ll _ _ (Own _ _ (_::_::_::_::_::_::((optB 4 (some (gq_2,cq_2,uq_2))++[])))) _ _ ((64,sl_ gq_2 (s+1) cq_2)::_) _ _ _;refine zN (zZ (pk [1,2,4,5] Z Z) ?_);refine qN Z (zU (v:=pt_ p31) Z (qJ Z Z) (zN (zZ (pk [1,2,4,5] Z Z) ?_)));refine yM Z Z Z Z Z (zK Z zR Z qT Z Z) (pk [1,2,4,5] Z Z) (qN Z (yB (v:=sl_ gq_2 (s+1) cq_2) (hs':=(_::_::_::bk_ p31 #[i6_ a.n,str a.set,str a.rel,i6_ b.n,str b.set,str b.rel,i6_ (k:Int),i6_ ((prN a b:Nat):Int),sl_ gq_2 (s+1) cq_2,.slice none 0 0,bo_ false] 79::_::_::((optB 4 (some (gq_2,cq_2,uq_2))++[])))) 3 Z Z Z Z Z Z qT Z (by simp) Z (zN (zZ (pk [1,2,4,5] Z Z) ?_))));refine Lt.nil (zC [4,6,9,43,44] [_,_,_,_,_] Z (zA (zD Z (qK Z Z Z (by omega) (by omega)) (zB 1 Z (zG (qM (s+1,some (gq_2,cq_2,uq_2)) ⟨by omega,by rw [fit_next (by omega) hsN];exact hQgq_2⟩ (by omega) (Sub.sel [4,6,9,43,44] Z) (fun _ h=>xQ (hs:=[_,_,_,_,_,_]) (hs':=[_,_,_]) (tl:=optB 4 (some (gq_2,cq_2,uq_2))++[]) h [3,4,5] Z (by decide))))))))
  refine zU (v:=bo_ (sameB a (placed (stX a b k s) k) b (placed (stY a b k s) k))) Z (qG Z Tryd.call51 Z zW (fun w1 hw1=>sameWay_ok a b (placed (stX a b k s) k) (placed (stY a b k s) k) (sl_ p50a ((placed (stX a b k s) k).length) cap50a) (sl_ p50b ((placed (stY a b k s) k).length) cap50b) w1 ha hb (yL hw1 (i:=0) Z (by simpa using htp50a) (by simp) hlp50a) (yL hw1 (i:=1) Z (by simpa using htp50b) (by simp) hlp50b) hEa hEb hpl (by omega))) (zN (zZ (pk [0,1,3,4] Z Z) ?_));refine Lt.two Z Z ?_ ?_
  ·
   refine zU (v:=pt_ p31) Z (qJ Z Z) (zN (zZ (pk [0,1,3,4] Z Z) ?_));refine yM Z Z Z Z Z (zK Z zR Z qT Z Z) (pk [0,1,3,4] Z Z) (Lt.two Z Z ?_ ?_)
   ·
    refine zU Z (zQ 2 Z yU Z Z Z) (zN (zZ (pk [0,1,3,4] Z Z) ?_));refine qN Z (yF (xs:=[.tmp 62]) (vs:=[bo_ (sameB a (placed (stX a b k s) k) b (placed (stY a b k s) k))]) yO Z Z Z Z Z Z (by decide) Z fun p63_3 hp63_3=>(zN (zZ (pk [1,2,4,5] Z Z) ?_)));refine qN Z (Ll.appendOpt (m:=s) (bs:=(WL 0 a b k).take s) hts yO [bk_ p63_3 #[bo_ (sameB a (placed (stX a b k s) k) b (placed (stY a b k s) k))] 4,bk_ p50a cur50a 3,bk_ p50b cur50b 3,bk_ p31 #[i6_ a.n,str a.set,str a.rel,i6_ b.n,str b.set,str b.rel,i6_ (k:Int),i6_ ((prN a b:Nat):Int),optV q s,.slice none 0 0,bo_ false] 79,bk_ p6 #[i6_ b.n,str b.set,str b.rel] 24,bk_ p4 #[i6_ a.n,str a.set,str a.rel] 24] [] 0 hq Z Z Z Z Z Z Z (by omega) fun gq_3 cq_3 uq_3 _ hQgq_3=>?_)
    show Ll _ _ (Own _ _ (_::_::_::_::_::_::((optB 4 (some (gq_3,cq_3,uq_3))++[])))) _ _ ((64,sl_ gq_3 (s+1) cq_3)::_) _ _ _;refine zN (zZ (pk [1,2,4,5] Z Z) ?_);refine qN Z (zU (v:=pt_ p31) Z (qJ Z Z) (zN (zZ (pk [1,2,4,5] Z Z) ?_)));refine yM Z Z Z Z Z (zK Z zR Z qT Z Z) (pk [1,2,4,5] Z Z) (qN Z (yB (v:=sl_ gq_3 (s+1) cq_3) (hs':=(_::_::_::bk_ p31 #[i6_ a.n,str a.set,str a.rel,i6_ b.n,str b.set,str b.rel,i6_ (k:Int),i6_ ((prN a b:Nat):Int),sl_ gq_3 (s+1) cq_3,.slice none 0 0,bo_ false] 79::_::_::((optB 4 (some (gq_3,cq_3,uq_3))++[])))) 3 Z Z Z Z Z Z qT Z (by simp) Z (zN (zZ (pk [1,2,4,5] Z Z) ?_))));refine Lt.nil (zC [4,6,9,43,44] [_,_,_,_,_] Z (zA (zD Z (qK Z Z Z (by omega) (by omega)) (zB 1 Z (zG (qM (s+1,some (gq_3,cq_3,uq_3)) ⟨by omega,by rw [fit_next (by omega) hsN];exact hQgq_3⟩ (by omega) (Sub.sel [4,6,9,43,44] Z) (fun _ h=>xQ (hs:=[_,_,_,_,_,_]) (hs':=[_,_,_]) (tl:=optB 4 (some (gq_3,cq_3,uq_3))++[]) h [3,4,5] Z (by decide))))))))
   refine yF (xs:=[.tmp 62]) (vs:=[bo_ (sameB a (placed (stX a b k s) k) b (placed (stY a b k s) k))]) yO Z Z Z Z Z Z (by decide) Z fun p63_4 hp63_4=>(zN (zZ (pk [1,2,4,5] Z Z) ?_));refine qN Z (zU Z (zQ 3 Z yU Z Z Z) (zN (zZ (pk [1,2,4,5] Z Z) ?_)));refine qN Z (Ll.appendOpt (m:=s) (bs:=(WL 0 a b k).take s) hts yO [bk_ p63_4 #[bo_ (sameB a (placed (stX a b k s) k) b (placed (stY a b k s) k))] 4,bk_ p50a cur50a 3,bk_ p50b cur50b 3,bk_ p31 #[i6_ a.n,str a.set,str a.rel,i6_ b.n,str b.set,str b.rel,i6_ (k:Int),i6_ ((prN a b:Nat):Int),optV q s,.slice none 0 0,bo_ false] 79,bk_ p6 #[i6_ b.n,str b.set,str b.rel] 24,bk_ p4 #[i6_ a.n,str a.set,str a.rel] 24] [] 0 hq Z Z Z Z Z Z Z (by omega) fun gq_4 cq_4 uq_4 _ hQgq_4=>?_)
   show Ll _ _ (Own _ _ (_::_::_::_::_::_::((optB 4 (some (gq_4,cq_4,uq_4))++[])))) _ _ ((64,sl_ gq_4 (s+1) cq_4)::_) _ _ _;refine zN (zZ (pk [1,2,4,5] Z Z) ?_);refine qN Z (zU (v:=pt_ p31) Z (qJ Z Z) (zN (zZ (pk [1,2,4,5] Z Z) ?_)));refine yM Z Z Z Z Z (zK Z zR Z qT Z Z) (pk [1,2,4,5] Z Z) (qN Z (yB (v:=sl_ gq_4 (s+1) cq_4) (hs':=(_::_::_::bk_ p31 #[i6_ a.n,str a.set,str a.rel,i6_ b.n,str b.set,str b.rel,i6_ (k:Int),i6_ ((prN a b:Nat):Int),sl_ gq_4 (s+1) cq_4,.slice none 0 0,bo_ false] 79::_::_::((optB 4 (some (gq_4,cq_4,uq_4))++[])))) 3 Z Z Z Z Z Z qT Z (by simp) Z (zN (zZ (pk [1,2,4,5] Z Z) ?_))));refine Lt.nil (zC [4,6,9,43,44] [_,_,_,_,_] Z (zA (zD Z (qK Z Z Z (by omega) (by omega)) (zB 1 Z (zG (qM (s+1,some (gq_4,cq_4,uq_4)) ⟨by omega,by rw [fit_next (by omega) hsN];exact hQgq_4⟩ (by omega) (Sub.sel [4,6,9,43,44] Z) (fun _ h=>xQ (hs:=[_,_,_,_,_,_]) (hs':=[_,_,_]) (tl:=optB 4 (some (gq_4,cq_4,uq_4))++[]) h [3,4,5] Z (by decide))))))))
  refine yF (xs:=[.tmp 62]) (vs:=[bo_ (sameB a (placed (stX a b k s) k) b (placed (stY a b k s) k))]) yO Z Z Z Z Z Z (by decide) Z fun p63_5 hp63_5=>(zN (zZ (pk [1,2,4,5] Z Z) ?_));refine qN Z (zU (v:=pt_ p31) Z (qJ Z Z) (zN (zZ (pk [1,2,4,5] Z Z) ?_)));refine yM Z Z Z Z Z (zK Z zR Z qT Z Z) (pk [1,2,4,5] Z Z) (qN Z (zU Z (zQ 3 Z yU Z Z Z) (zN (zZ (pk [1,2,4,5] Z Z) ?_))));refine qN Z (Ll.appendOpt (m:=s) (bs:=(WL 0 a b k).take s) hts yO [bk_ p63_5 #[bo_ (sameB a (placed (stX a b k s) k) b (placed (stY a b k s) k))] 4,bk_ p50a cur50a 3,bk_ p50b cur50b 3,bk_ p31 #[i6_ a.n,str a.set,str a.rel,i6_ b.n,str b.set,str b.rel,i6_ (k:Int),i6_ ((prN a b:Nat):Int),optV q s,.slice none 0 0,bo_ false] 79,bk_ p6 #[i6_ b.n,str b.set,str b.rel] 24,bk_ p4 #[i6_ a.n,str a.set,str a.rel] 24] [] 0 hq Z Z Z Z Z Z Z (by omega) fun gq_5 cq_5 uq_5 _ hQgq_5=>?_)
  show Ll _ _ (Own _ _ (_::_::_::_::_::_::((optB 4 (some (gq_5,cq_5,uq_5))++[])))) _ _ ((64,sl_ gq_5 (s+1) cq_5)::_) _ _ _;refine zN (zZ (pk [1,2,4,5] Z Z) ?_);refine qN Z (zU (v:=pt_ p31) Z (qJ Z Z) (zN (zZ (pk [1,2,4,5] Z Z) ?_)));refine yM Z Z Z Z Z (zK Z zR Z qT Z Z) (pk [1,2,4,5] Z Z) (qN Z (yB (v:=sl_ gq_5 (s+1) cq_5) (hs':=(_::_::_::bk_ p31 #[i6_ a.n,str a.set,str a.rel,i6_ b.n,str b.set,str b.rel,i6_ (k:Int),i6_ ((prN a b:Nat):Int),sl_ gq_5 (s+1) cq_5,.slice none 0 0,bo_ false] 79::_::_::((optB 4 (some (gq_5,cq_5,uq_5))++[])))) 3 Z Z Z Z Z Z qT Z (by simp) Z (zN (zZ (pk [1,2,4,5] Z Z) ?_))));refine Lt.nil (zC [4,6,9,43,44] [_,_,_,_,_] Z (zA (zD Z (qK Z Z Z (by omega) (by omega)) (zB 1 Z (zG (qM (s+1,some (gq_5,cq_5,uq_5)) ⟨by omega,by rw [fit_next (by omega) hsN];exact hQgq_5⟩ (by omega) (Sub.sel [4,6,9,43,44] Z) (fun _ h=>xQ (hs:=[_,_,_,_,_,_]) (hs':=[_,_,_]) (tl:=optB 4 (some (gq_5,cq_5,uq_5))++[]) h [3,4,5] Z (by decide))))))))
 replace h45:=zL h45
 have hsN:s=prN a b ^ k:=by omega
 have hWl:(WL 0 a b k).length=prN a b ^ k:=WL_len _ _ _ _
 have hNp:0<prN a b ^ k:=Nat.pow_pos hpp
 have hN0:=pow65 hpr hk3
 rw [List.take_of_length_le (by omega)] at hq
 obtain ⟨gf,cf,uf,hqe,hcf,hlf,htf⟩:=opt_some hq (by omega)
 subst hqe
 show Wk _ _ (Own _ _ [bk_ p31 #[i6_ a.n,str a.set,str a.rel,i6_ b.n,str b.set,str b.rel,i6_ (k:Int),i6_ ((prN a b:Nat):Int),sl_ gf s cf,.slice none 0 0,bo_ false] 79,bk_ p6 #[i6_ b.n,str b.set,str b.rel] 24,bk_ p4 #[i6_ a.n,str a.set,str a.rel] 24,bk_ gf uf 4]) _ _ _ _ _;refine qW Z (zC [9] [_] Z (zE (zT (qF 1 Z (yF (xs:=[]) (vs:=[]) yO Z Z Z Z Z Z (by decide) Z fun p69 hp69=>(qF 1 Z (zU (v:=pt_ p31) Z (qJ Z Z) (zU Z (zK Z zR Z qT Z Z) (zU Z (zQ 1 Z yU Z Z Z) (Ll.appendBools (xs:=([]:List Bool)) (ys:=(WL 0 a b k)) yO 0 Z Z Z Z Z Z Z Z (by decide) Z (fun w1 hw1=>(yL hw1 (i:=4) Z (by rw [hsN,← hWl];exact htf) (by rw [bools_length,hWl,hsN]) (by omega))) ((WL 0 a b k).length) (by first | (simp;done) | (simp;omega)) (by first | (simp;done) | (simp;omega) | omega) fun p74 cap74 cur74 hp74 hcp74 hlp74 htp74=>?_))))))))))
 show Ll _ _ (Own _ _ [_,_,_,_,_]) _ _ ((74,sl_ p74 ((WL 0 a b k).length) cap74)::_) _ _ _;refine zU (v:=pt_ p31) Z (qJ Z Z) (zU Z (zK Z zR Z qT Z Z) (yB (v:=sl_ p74 ((WL 0 a b k).length) cap74) (hs':=[_,bk_ p31 #[i6_ a.n,str a.set,str a.rel,i6_ b.n,str b.set,str b.rel,i6_ (k:Int),i6_ ((prN a b:Nat):Int),sl_ gf s cf,sl_ p74 ((WL 0 a b k).length) cap74,bo_ false] 79,_,_,_]) 1 Z Z Z Z Z Z qT Z (by simp) Z (zN (zC [9] [_] Z (zE (zA (zB 2 Z (zG (zC [8] [_] Z (qE (zX Z Z fun w' hw=>?_)))))))))))
 rw [hsN,← hWl] at hw
 exact ⟨p31,gf,cf,uf,p74,cap74,cur74,rfl,⟨hcf,hlf,htf⟩,⟨by simpa using hcp74,by simpa using hlp74,by simpa using htp74⟩,hw.pick [1,4,0] rfl (by decide)⟩
set_option maxHeartbeats 400000 in
theorem newPeb_no (a b:St) (xs ys:List Int) (va vb:Value) (w:World) (hsa:a.Small) (hsb:b.Small) (hva:Ints w va xs) (hvb:Ints w vb ys) (hs1:xs.length≤140737488355328) (hs2:ys.length≤140737488355328) (hr:readyB a xs b ys=false) :
    Calls Tryd.prog 56 [vS a,va,vS b,vb].toArray w fun en w'=>en=.returned (.pointer none)∧Below w.heap.size w w':=by
 refine fnStart (n:=78) (e:=[(0,vS a),(1,va),(2,vS b),(3,vb)]) Tryd.func56 Z Z Z Z Ends.both (zE (zT (yH (v:=vS a) Z Z Z Z Z fun p4 hp4=>?_)))
 show Ll _ _ (Own _ _ [_]) _ _ ((4,pt_ p4)::_) _ _ _;refine yH (v:=vS b) Z Z Z Z Z fun p6 hp6=>?_
 show Ll _ _ (Own _ _ [_,_]) _ _ ((6,pt_ p6)::_) _ _ _;refine qF 1 Z (zN (zC [1,3,4,6] [_,_,_,_] Z (zE (zE (zA (zD Z (zV (cs:=#[i6_ a.n,str a.set,str a.rel]) 1 Z zY Z Z zS) (zB 1 Z (zD Z (zV (cs:=#[i6_ b.n,str b.set,str b.rel]) 0 Z zY Z Z zS) (zB 1 Z (zD (v:=bo_ false) Z (qG Z Tryd.call95 Z zW (fun w1 hw1=>known_b hr (areReady_ok a b xs ys va vb w1 hsa hsb (Row.own hva hw1) (Row.own hvb hw1) (by first | (simp;done) | (simp;omega) | omega) (by first | (simp;done) | (simp;omega) | omega)))) (zB 1 Z (zG (zC [1,4,6,19] [_,_,_,_] Z (yX Z (zE (zA (zB 1 Z (zG (zC [8] [_] Z (qE (zX Z Z fun w' hw=>?_)))))))))))))))))))))
 exact ⟨rfl,hw.below⟩
end Go.Proofs.YteccfipfimbdgaaDoor
namespace Go.Proofs.YteccfipfimbdgaaDoor
open Go.RowKit Go.Wk
set_option linter.unusedSimpArgs false
set_option maxHeartbeats 400000 in
theorem besides_ok (k:Nat) (w:World) (hk:k≤1000) :
    Calls Tryd.prog 155 [i6_ (k:Int)].toArray w fun en w'=>∃ v,en=.returned v∧Below w.heap.size w w'∧NewRow w.heap.size 3 1 w' v (bes k).length (ints (bes k)):=by
 refine fnStart (n:=13) (e:=[(0,i6_ (k:Int))]) Tryd.func155 Z Z Z Z Ends.both (zE (zA (zB 1 Z (zG (zC [0] [_] Z (zE (zT (yF (xs:=[]) (vs:=[]) qB Z Z Z Z Z Z (by decide) Z fun p4 hp4=>(qF 1 Z (zN (zC [0,3] [_,_] Z (zE (zE (zA (zB 2 Z (zG (zC [3,5,6] [_,_,_] Z (qA (yC (σ:=Nat×Nat×Nat×Array Value) (fun ⟨j,g,c,cur⟩=>(j≤k)∧w.heap.size≤g∧cur.size=c*1∧(bes j).length≤c∧cur.toList.take ((bes j).length*1)=ints (bes j)) (fun ⟨j,g,c,cur⟩=>[(3,sl_ g ((bes j).length) c),(5,i6_ (k:Int)),(6,i6_ (j:Int))]) (fun ⟨j,g,c,cur⟩=>Own w.heap.size w [bk_ g cur 3]) (fun ⟨j,g,c,cur⟩=>k - j) (0,p4,0,#[]) ⟨by omega,by omega,rfl,Nat.le_refl _,rfl⟩ (Sub.sel [3,5,6] Z) (fun _ h=>h) ?_)))))))))))))))))))
 rintro ⟨j,g,c,cur⟩ ⟨hk,hg,hc,hl,ht⟩
 dsimp only;refine zE (zA (zB 1 Z (zG (zC [3,5,6,7] [_,_,_,_] Z (zE (xE Z (fun h7=>?_) (fun h7=>?_)))))))
 ·
  refine qI (zC [3,5,6] [_,_,_] Z (zE (qA (zT (qF 1 Z (yF (xs:=[.const (i6_ (-1))]) (vs:=[i6_ (-1)]) qB Z Z Z Z Z Z (by decide) Z fun p9 hp9=>(qO (xs:=bes j) (ys:=[-1]) qB 1 Z Z Z Z Z Z Z hc hl (by simpa using ht) (fun w1 hw1=>(yL hw1 (i:=0) Z (n:=1) (cap:=1) (vs:=ints [-1]) Z Z (by decide))) (((bes j)++([-1])).length) (by first | (simp;done) | (simp;omega)) (by first | (simp;done) | (simp;omega) | omega) fun p10 cap10 cur10 hp10 hcp10 hlp10 htp10=>?_)))))))
  show Ll _ _ (Own _ _ [_,_]) _ _ ((10,sl_ p10 ((((bes j)++([-1])).length)) cap10)::_) _ _ _;refine qF 1 Z (zN (zC [3,5,6] [_,_,_] Z (zA (zD Z (qK Z Z Z (by omega) (by omega)) (zB 1 Z (zG (qM (j+1,p10,cap10,cur10) ⟨(by omega),(by omega),hcp10,(by rw [bes_snoc];exact hlp10),(by rw [bes_snoc];exact htp10)⟩ (by omega) (Sub.cons (by rw [bes_snoc];rfl) (Sub.sel [5,6] Z)) (fun _ h=>h.tail))))))))
 refine qW Z (zC [3] [_] Z (zE (zA (zB 2 Z (zG (zC [2] [_] Z (qE (zX Z Z fun w' hw=>?_))))))))
 obtain rfl:k=j:=by omega
 exact ⟨_,rfl,hw.below,hw.newRow (i:=0) rfl hc hl ht⟩
end Go.Proofs.YteccfipfimbdgaaDoor
