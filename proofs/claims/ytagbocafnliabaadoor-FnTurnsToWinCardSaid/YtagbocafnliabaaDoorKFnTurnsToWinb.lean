/-
  FnTurnsToWin: all that its proof names (part 2)
-/
import Derived.Test.YtagbocafnliabaaDoorKFnTurnsToWina
import Derived.MapKept
import Derived.Shelf.Strings.SlTrimAscii
import Derived.Shelf.Strings.Trim
import Derived.Test.YtagbocafnliabaaDoorProg
namespace Go.Wk
open Go.RowKit
def clsN (q:Nat→Nat→Bool):Nat→List Int×Nat
 | 0=>([],0)
 | x+1=>match (List.range x).find? (fun y=>q y x) with
  | some y=>((clsN q x).1++[(clsN q x).1.getD y 0],(clsN q x).2)
  | none=>((clsN q x).1++[((clsN q x).2:Int)],(clsN q x).2+1)
section
variable {q:Nat→Nat→Bool}
theorem cls_old {x y:Nat} (hy:y<x) (hall:∀ i,i<y→q i x=false) (h:q y x=true):clsN q (x+1)=((clsN q x).1++[(clsN q x).1.getD y 0],(clsN q x).2):=by
 rw [clsN,find_at (f:=fun y=>q y x) hy hall h]
theorem cls_new {x:Nat} (hall:∀ i,i<x→q i x=false):clsN q (x+1)=((clsN q x).1++[((clsN q x).2:Int)],(clsN q x).2+1):=by
 have:(List.range x).find? (fun y=>q y x)=none:=by rw [List.find?_eq_none];intro i hi;rw [hall i (List.mem_range.1 hi)];simp
 rw [clsN,this]
theorem cls_cases (q:Nat→Nat→Bool) (x:Nat):(∃ y,y<x∧(∀ i,i<y→q i x=false)∧q y x=true)∨∀ i,i<x→q i x=false:=by
 cases h:(List.range x).find? (fun y=>q y x) with
 | none=>exact .inr fun i hi=>by simpa using List.find?_eq_none.1 h i (List.mem_range.2 hi)
 | some y =>
  rw [List.find?_range_eq_some] at h
  exact .inl ⟨y,List.mem_range.1 h.2.1,fun i hi=>by simpa using h.2.2 i hi,h.1⟩
theorem cls_length (q:Nat→Nat→Bool):∀ x,(clsN q x).1.length=x
  | 0=>rfl
  | x+1=>by
    rcases cls_cases q x with ⟨y,h1,h2,h3⟩ | h
    · rw [cls_old h1 h2 h3];simp [cls_length q x]
    · rw [cls_new h];simp [cls_length q x]
theorem cls_small (q:Nat→Nat→Bool):∀ x,(clsN q x).2≤x∧∀ m∈(clsN q x).1,0≤m∧m<((clsN q x).2:Int)
  | 0=>⟨Nat.le_refl _,fun m hm=>by cases hm⟩
  | x+1=>by
    obtain ⟨i1,i2⟩:=cls_small q x
    rcases cls_cases q x with ⟨y,h1,h2,h3⟩ | h
    · rw [cls_old h1 h2 h3]
      refine ⟨by dsimp only;omega,fun m hm=>?_⟩
      rcases List.mem_append.1 hm with h4 | h4
      · exact i2 m h4
      · rw [List.mem_singleton.1 h4]
        have hl:=cls_length q x
        rw [getD_at (by omega)];exact i2 _ (List.getElem_mem _)
    · rw [cls_new h]
      refine ⟨by dsimp only;omega,fun m hm=>?_⟩
      rcases List.mem_append.1 hm with h4 | h4
      · have:=i2 m h4;dsimp only;omega
      · rw [List.mem_singleton.1 h4];dsimp only;omega
end
structure SeenL (T:List (List UInt8)) (n:Nat) (a:St) (x:Nat) (S O:List Int):Prop where
 cls:clsN (fun y x=>winB n a [(y:Int)] a [(x:Int)]) x=(O,S.length)
 nodup:S.Nodup
 out:∀ y:Nat,y<x→∃ m k:Nat,Means T n a [(y:Int)] m∧O.getD y 0=(k:Int)∧S[k]?=some (m:Int)
 seen:∀ s∈S,∃ m y:Nat,s=(m:Int)∧y<x∧Means T n a [(y:Int)] m
theorem SeenL.zero {T:List (List UInt8)} {n:Nat} {a:St}:SeenL T n a 0 [] []:=⟨rfl,List.nodup_nil,fun y hy=>absurd hy (by omega),fun s hs=>by cases hs⟩
theorem SeenL.len {T:List (List UInt8)} {n:Nat} {a:St} {x:Nat} {S O:List Int} (h:SeenL T n a x S O):O.length=x∧S.length≤x:=by
 have h1:=cls_length (fun y x=>winB n a [(y:Int)] a [(x:Int)]) x
 have h2:=(cls_small (fun y x=>winB n a [(y:Int)] a [(x:Int)]) x).1
 rw [h.cls] at h1 h2
 exact ⟨h1,h2⟩
theorem getD_app1 {l r:List Int} {i:Nat} (h:i<l.length):(l++r).getD i 0=l.getD i 0:=by
 rw [List.getD_eq_getElem?_getD,List.getElem?_append_left h,← List.getD_eq_getElem?_getD]
theorem getD_app2 {l:List Int} {z:Int}:(l++[z]).getD l.length 0=z:=by
 rw [List.getD_eq_getElem?_getD];simp
theorem nodup_at {S:List Int} (h:S.Nodup) {i j:Nat} {m:Int} (hi:S[i]?=some m) (hj:S[j]?=some m):i=j :=
 (List.getElem?_inj (List.getElem?_eq_some_iff.1 hi).1 h).1 (hi.trans hj.symm)
theorem SeenL.old {T T':List (List UInt8)} {n:Nat} {a:St} {x:Nat} {S O:List Int} (h:SeenL T n a x S O) (hp:T <+: T') (hT:T'.Nodup) {m k:Nat} (hm:Means T' n a [(x:Int)] m) (hk:S[k]?=some (m:Int)):SeenL T' n a (x+1) S (O++[(k:Int)]):=by
  obtain ⟨hOl,hSl⟩:=h.len
  have heq:∀ (y:Nat) (m':Nat),Means T' n a [(y:Int)] m'→(m'=m↔winB n a [(y:Int)] a [(x:Int)]=true):=fun y m' hm'=>by
    rw [means_win hT n a [(y:Int)] a [(x:Int)] m' m rfl hm' hm,win_iff n a [(y:Int)] a [(x:Int)] rfl]
  refine ⟨?_,h.nodup,fun y hy=>?_,fun s hs=>?_⟩
  · rcases cls_cases (fun y x=>winB n a [(y:Int)] a [(x:Int)]) x with ⟨y,h1,h2,h3⟩ | hno
    · rw [cls_old h1 h2 h3,h.cls]
      obtain ⟨m',k',e1,e2,e3⟩:=h.out y h1
      have e4:=(heq y m' (e1.mono hp _ _ _ _)).2 h3
      subst e4
      rw [e2,nodup_at h.nodup e3 hk]
    · exfalso
      obtain ⟨m',y,e1,e2,e3⟩:=h.seen _ (List.mem_of_getElem? hk)
      have e4:m'=m:=by omega
      have:=hno y e2
      rw [(heq y m' (e3.mono hp _ _ _ _)).1 e4] at this
      cases this
  · rcases Nat.lt_or_ge y x with h1 | h1
    · obtain ⟨m',k',e1,e2,e3⟩:=h.out y h1
      exact ⟨m',k',e1.mono hp _ _ _ _,by rw [getD_app1 (by omega)];exact e2,e3⟩
    · obtain rfl:y=x:=by omega
      exact ⟨m,k,hm,by rw [← hOl,getD_app2],hk⟩
  · obtain ⟨m',y,e1,e2,e3⟩:=h.seen s hs
    exact ⟨m',y,e1,by omega,e3.mono hp _ _ _ _⟩
end Go.Wk
namespace Go.Wk
open Go.RowKit
section
variable {P:Program} {n:Nat} {C:World→Prop} {B:Nat} {w0:World} {hs hs':List (Nat×Obj)} {N R:Act→World→Prop} {X:List (Nat×(Act→World→Prop))} {e:Env} {ops:Array Oper} {l:List Oper} {o:Oper}
theorem OpQ.max2 {x y:Operand} {ts:Array TypeId} {i j:Int} (h:o.op=.call ⟨.builtin .max,#[x,y],ts⟩) (hx:opd e x=some (.int .i64 i)) (hy:opd e y=some (.int .i64 j)):OpQ P n C e o (.int .i64 (if j > i then j else i)):=OpQ.val fun A hF w=>by
  unfold execOp;rw [h]
  simp only [resolve,invoke,BigFrame.builtin_max,List.map_toArray,List.map_cons,List.map_nil,hF.opd hx,hF.opd hy,Sem.run_bind,Sem.run_pure,Result.andThen,Builtin.max_,List.foldlM_cons,List.foldlM_nil,Builtin.max2]
end
structure RR where
 g:Nat
 cap:Nat
 cur:Array Value
 xs:List Int
def rd:RR:=⟨0,0,#[],[]⟩
def rv (r:RR):Value:=.slice (some ⟨r.g,0,none⟩) r.xs.length r.cap
structure RR.Ok (r:RR):Prop where
 size:r.cur.size=r.cap*1
 len:r.xs.length≤r.cap
 vals:r.cur.toList.take r.xs.length=ints r.xs
def rowsB (I:TypeId) (rr:List RR):List (Nat×Obj):=rr.map fun r=>(r.g,.cells r.cur I (0,0))
def rvs (rr:List RR):List Value:=rr.map rv
@[simp] theorem rvs_length (rr:List RR):(rvs rr).length=rr.length:=by simp [rvs]
theorem rvs_at {rr:List RR} {i:Nat} (h:i<rr.length):(rvs rr)[i]?=some (rv (rr.getD i rd)):=by
 rw [rvs,List.getElem?_map,List.getElem?_eq_getElem h,getD_at h];rfl
section
variable {B:Nat} {w0:World} {hs:List (Nat×Obj)}
theorem Own.ofRows {w:World} {I:TypeId} {rr:List RR} (h:Own B w0 (rowsB I rr++hs) w) (hok:∀ r∈rr,r.Ok) {i:Nat} (hi:i<rr.length):Ints w (rv (rr.getD i rd)) (rr.getD i rd).xs:=by
  have hm:rr.getD i rd∈rr:=by rw [getD_at hi];exact List.getElem_mem _
  have hk:=hok _ hm
  have hb:=h.mem (x:=((rr.getD i rd).g,.cells (rr.getD i rd).cur I (0,0))) (List.mem_append_left _ (List.mem_map.2 ⟨_,hm,rfl⟩))
  refine ⟨_,(rr.getD i rd).cap,by rw [ints_length];rfl,by rw [ints_length];exact hk.len,fun h=>(by cases h),fun ad had=>?_⟩
  injection had with had
  subst had
  refine ⟨rfl,fun j u hj=>?_⟩
  show w.cell? ⟨(rr.getD i rd).g,0+j,none⟩=some u
  rw [Nat.zero_add]
  unfold World.cell?
  rw [hb.2]
  rw [← hk.vals,List.getElem?_take] at hj
  split at hj
  · simpa using hj
  · cases hj
end
structure RowsOk (rr:List RR) (u:Array Value) (c:Nat):Prop where
 size:u.size=c*1
 len:rr.length≤c
 vals:u.toList.take rr.length=rvs rr
 ok:∀ r∈rr,r.Ok
theorem RowsOk.nil:RowsOk [] #[] 0:=⟨rfl,Nat.le_refl 0,rfl,fun r hr=>by cases hr⟩
theorem RowsOk.one (p:Nat):RowsOk [⟨p,0,#[],[]⟩] #[.slice (some ⟨p,0,none⟩) 0 0] 1:=⟨rfl,Nat.le_refl 1,rfl,fun r hr=>by rw [List.mem_singleton.1 hr];exact ⟨rfl,Nat.le_refl 0,rfl⟩⟩
theorem RowsOk.add {rr:List RR} {u u':Array Value} {c c':Nat} {r:RR} (h:RowsOk rr u c) (hr:r.Ok) (hs:u'.size=c'*1) (hl:rr.length+1≤c') (hv:u'.toList.take ((rr.length+1)*1)=u.toList.take (rr.length*1)++[rv r]):RowsOk (rr++[r]) u' c':=by
  refine ⟨hs,by simpa using hl,?_,fun x hx=>?_⟩
  · have h1:=h.vals
    rw [Nat.mul_one,Nat.mul_one,h1] at hv
    rw [List.length_append,List.length_singleton,hv];simp [rvs]
  · rcases List.mem_append.1 hx with h1 | h1
    · exact h.ok x h1
    · rw [List.mem_singleton.1 h1];exact hr
def pointL (size:Nat):Nat→Nat→List Int
 | 0,_=>[]
 | w+1,k=>pointL size w (k / size)++[((k % size:Nat):Int)]
@[simp] theorem pointL_length (size:Nat):∀ w k,(pointL size w k).length=w
 | 0,_=>rfl
 | w+1,k=>by simp [pointL,pointL_length size w]
end Go.Wk
namespace Go.Wk
open Go.RowKit
theorem rep_set2 {j:Nat} {T:List Int} {v:Int} (h:0<j):(List.replicate j 0++T).set (j - 1) v=List.replicate (j - 1) 0++(v::T):=by
 obtain ⟨i,rfl⟩:∃ i,j=i+1:=⟨j - 1,by omega⟩
 rw [Nat.add_sub_cancel,List.replicate_succ',List.append_assoc,List.set_append_right _ _ (by simp)]
 simp
end Go.Wk
namespace Go.Wk
open Go.RowKit
theorem insS_mem {l:List Int} {n:Int} (h:l.Pairwise (·<·)) (hn:n∈l):insS l n=l :=
  sorted_ext (sorted_insS h) h fun x=>by rw [mem_insS];constructor;rintro (rfl | h1);exact hn;exact h1;exact .inr
theorem insS_new {n:Int}:∀ {l:List Int},n ∉ l→(insS l n).length=l.length+1
  | [],_=>rfl
  | x::l,h=>by
    have h1:x ≠ n:=fun e=>h (by simp [e])
    have h2:n ∉ l:=fun e=>h (by simp [e])
    unfold insS
    rw [if_neg h1]
    split
    · rfl
    · rw [List.length_cons,insS_new h2,List.length_cons]
theorem cls_same {q:Nat→Nat→Bool} {k y:Nat} (hy:y<k) (h:q y k=true):(clsN q (k+1)).2=(clsN q k).2:=by
  rcases cls_cases q k with ⟨z,h1,h2,h3⟩ | hno
  · rw [cls_old h1 h2 h3]
  · rw [hno y hy] at h;cases h
theorem cls_more {q:Nat→Nat→Bool} {k:Nat} (h:∀ y,y<k→q y k=false):(clsN q (k+1)).2=(clsN q k).2+1:=by rw [cls_new h]
def qP (a:St) (r w:Nat) (y x:Nat):Bool:=winB r a (pointL a.n.toNat w y) a (pointL a.n.toNat w x)
structure CountL (T:List (List UInt8)) (r:Nat) (a:St) (w k:Nat) (S:List Int):Prop where
  cls:(clsN (qP a r w) k).2=S.length
  sorted:S.Pairwise (·<·)
  all:∀ y:Nat,y<k→∃ i:Nat,(i:Int)∈S∧Means T r a (pointL a.n.toNat w y) i
  only:∀ m∈S,∃ i y:Nat,m=i∧y<k∧Means T r a (pointL a.n.toNat w y) i
theorem CountL.zero {T:List (List UInt8)} {r:Nat} {a:St} {w:Nat}:CountL T r a w 0 []:=⟨rfl,List.Pairwise.nil,fun y hy=>absurd hy (by omega),fun m hm=>by cases hm⟩
theorem CountL.len {T:List (List UInt8)} {r:Nat} {a:St} {w k:Nat} {S:List Int} (h:CountL T r a w k S):S.length≤k:=by rw [← h.cls];exact (cls_small _ k).1
theorem CountL.step {T T':List (List UInt8)} {r:Nat} {a:St} {w k i:Nat} {S:List Int} (h:CountL T r a w k S) (hp:T <+: T') (hT:T'.Nodup) (hm:Means T' r a (pointL a.n.toNat w k) i):CountL T' r a w (k+1) (insS S (i:Int)):=by
  have heq:∀ (y j:Nat),Means T' r a (pointL a.n.toNat w y) j→(j=i↔qP a r w y k=true):=fun y j hj=>by
    unfold qP
    rw [means_win hT r a (pointL a.n.toNat w y) a (pointL a.n.toNat w k) j i (by simp) hj hm,win_iff r a (pointL a.n.toNat w y) a (pointL a.n.toNat w k) (by simp)]
  refine ⟨?_,sorted_insS h.sorted,fun y hy=>?_,fun m hmem=>?_⟩
  · by_cases hi:(i:Int)∈S
    · rw [insS_mem h.sorted hi,← h.cls]
      obtain ⟨j,y,e,hy,hM⟩:=h.only _ hi
      obtain rfl:i=j:=by omega
      exact cls_same hy ((heq y i (hM.mono hp _ _ _ _)).1 rfl)
    · rw [insS_new hi,← h.cls]
      refine cls_more fun y hy=>?_
      cases hq:qP a r w y k with
      | false=>rfl
      | true =>
        obtain ⟨j,hj,hM⟩:=h.all y hy
        have:=(heq y j (hM.mono hp _ _ _ _)).2 hq
        subst this
        exact absurd hj hi
  · rcases Nat.lt_or_ge y k with h1 | h1
    · obtain ⟨j,hj,hM⟩:=h.all y h1
      exact ⟨j,mem_insS.2 (.inr hj),hM.mono hp _ _ _ _⟩
    · obtain rfl:y=k:=by omega
      exact ⟨i,mem_insS.2 (.inl rfl),hm⟩
  · rcases mem_insS.1 hmem with h1 | h1
    · exact ⟨i,k,h1,by omega,hm⟩
    · obtain ⟨j,y,e,hy,hM⟩:=h.only m h1
      exact ⟨j,y,e,by omega,hM.mono hp _ _ _ _⟩
end Go.Wk
namespace Go.Wk
open Go.RowKit
theorem peb_el {a:St} {xs:List Int} (h:pebB a xs=true):∀ x∈xs,-1≤x:=fun x hx=>by
 unfold pebB at h
 simp only [Bool.and_eq_true,List.all_eq_true] at h
 have:=h.2 x hx
 unfold inB at this
 simp only [Bool.and_eq_true,decide_eq_true_eq] at this
 exact this.1
end Go.Wk
namespace Go.Wk
open Go.RowKit
theorem nodup_map_inj {α β:Type} {f:α→β}:∀ {l:List α},(∀ x∈l,∀ y∈l,f x=f y→x=y)→l.Nodup→(l.map f).Nodup
 | [],_,_=>List.nodup_nil
 | x::l,h,hd=>by
  obtain ⟨h1,h2⟩:=List.nodup_cons.1 hd
  rw [List.map_cons]
  refine List.nodup_cons.2 ⟨fun hm=>?_,nodup_map_inj (fun y hy z hz=>h y (by simp [hy]) z (by simp [hz])) h2⟩
  obtain ⟨y,hy,e⟩:=List.mem_map.1 hm
  exact h1 ((h y (by simp [hy]) x (by simp) e) ▸ hy)
end Go.Wk
namespace Go.Wk
open Go.RowKit
def pW:Nat→St→List Int→St→List Int→Prop
 | 0,a,xs,b,ys=>(∀ i:Nat,i<xs.length→(xs.getD i 0<0↔ys.getD i 0<0))∧sameB a (placed xs xs.length) b (placed ys ys.length)=true
 | n+1,a,xs,b,ys=>pW n a xs b ys∧∀ i:Nat,i<xs.length→(∀ x:Nat,x<a.n.toNat→∃ y:Nat,y<b.n.toNat∧pW n a (xs.set i (x:Int)) b (ys.set i (y:Int))) ∧
   (∀ y:Nat,y<b.n.toNat→∃ x:Nat,x<a.n.toNat∧pW n a (xs.set i (x:Int)) b (ys.set i (y:Int)))
def idxP (size:Nat) (xs:List Int):Nat:=xs.foldl (fun n x=>n*(size+1)+(x+1).toNat) 0
def atP (size:Nat):Nat→Nat→List Int
 | 0,_=>[]
 | k+1,n=>atP size k (n / (size+1))++[((n % (size+1):Nat):Int) - 1]
def Peb (size k:Nat) (xs:List Int):Prop:=xs.length=k∧∀ x∈xs,-1≤x∧x<(size:Int)
@[simp] theorem atP_len (size:Nat):∀ k n,(atP size k n).length=k
 | 0,_=>rfl
 | k+1,n=>by simp [atP,atP_len size k]
theorem atP_peb (size:Nat):∀ k n,Peb size k (atP size k n)
  | 0,n=>⟨rfl,fun x hx=>by cases hx⟩
  | k+1,n=>by
    refine ⟨atP_len _ _ _,fun x hx=>?_⟩
    unfold atP at hx
    rcases List.mem_append.1 hx with h | h
    · exact (atP_peb size k _).2 x h
    · rw [List.mem_singleton.1 h]
      have:=Nat.mod_lt n (show 0<size+1 by omega)
      omega
theorem idxP_snoc (size:Nat) (xs:List Int) (x:Int):idxP size (xs++[x])=idxP size xs*(size+1)+(x+1).toNat:=by simp [idxP]
theorem idx_at (size:Nat):∀ k n,n<(size+1) ^ k→idxP size (atP size k n)=n
 | 0,n,h=>by simp at h;subst h;rfl
 | k+1,n,h=>by
  unfold atP
  have h1:n / (size+1)<(size+1) ^ k:=Nat.div_lt_of_lt_mul (by rw [Nat.mul_comm,← Nat.pow_succ];exact h)
  rw [idxP_snoc,idx_at size k _ h1,show (((n % (size+1):Nat):Int) - 1+1).toNat=n % (size+1) from by omega]
  exact Nat.div_add_mod' n (size+1)
theorem peb_snoc {size k:Nat} {xs:List Int} (h:Peb size (k+1) xs):∃ ys x,xs=ys++[x]∧Peb size k ys ∧ -1≤x∧x<(size:Int):=by
  rcases xs.eq_nil_or_concat with rfl | ⟨ys,x,rfl⟩
  · have:=h.1;simp at this
  · rw [List.concat_eq_append] at h ⊢
    have hl:=h.1
    rw [List.length_append,List.length_singleton] at hl
    exact ⟨ys,x,rfl,⟨by omega,fun y hy=>h.2 y (List.mem_append_left _ hy)⟩,h.2 x (by simp)⟩
theorem idxP_lt {size:Nat}:∀ {k:Nat} {xs:List Int},Peb size k xs→idxP size xs<(size+1) ^ k
 | 0,xs,h=>by
  have:xs=[]:=List.length_eq_zero_iff.1 h.1
  subst this;exact Nat.one_pos
 | k+1,xs,h=>by
  obtain ⟨ys,x,rfl,h1,h2,h3⟩:=peb_snoc h
  have:=idxP_lt h1
  rw [idxP_snoc,Nat.pow_succ]
  have h4:(idxP size ys+1)*(size+1)≤(size+1) ^ k*(size+1):=Nat.mul_le_mul_right _ this
  rw [Nat.add_mul,Nat.one_mul] at h4
  omega
theorem at_idx {size:Nat}:∀ {k:Nat} {xs:List Int},Peb size k xs→atP size k (idxP size xs)=xs
 | 0,xs,h=>by
  have:xs=[]:=List.length_eq_zero_iff.1 h.1
  subst this;rfl
 | k+1,xs,h=>by
  obtain ⟨ys,x,rfl,h1,h2,h3⟩:=peb_snoc h
  unfold atP
  have h4:(x+1).toNat<size+1:=by omega
  have e1:(idxP size ys*(size+1)+(x+1).toNat) / (size+1)=idxP size ys:=by
   rw [Nat.add_comm,Nat.add_mul_div_right _ _ (by omega),Nat.div_eq_of_lt h4,Nat.zero_add]
  have e2:(idxP size ys*(size+1)+(x+1).toNat) % (size+1)=(x+1).toNat:=by
   rw [Nat.add_comm,Nat.add_mul_mod_self_right,Nat.mod_eq_of_lt h4]
  rw [idxP_snoc,e1,e2,at_idx h1,show (((x+1).toNat:Nat):Int) - 1=x from by omega]
theorem peb_set {size k i:Nat} {xs:List Int} (h:Peb size k xs) {x:Nat} (hx:x<size):Peb size k (xs.set i (x:Int)):=by
  refine ⟨by rw [List.length_set];exact h.1,fun y hy=>?_⟩
  rcases List.mem_or_eq_of_mem_set hy with h1 | h1
  · exact h.2 y h1
  · rw [h1];omega
def numP (size:Nat) (R:List Int) (xs:List Int):Int:=R.getD (idxP size xs) 0
structure GoodP (n k:Nat) (a b:St) (Ra Rb:List Int):Prop where
 aa:∀ xs ys,Peb a.n.toNat k xs→Peb a.n.toNat k ys→(numP a.n.toNat Ra xs=numP a.n.toNat Ra ys↔pW n a xs a ys)
 ab:∀ xs ys,Peb a.n.toNat k xs→Peb b.n.toNat k ys→(numP a.n.toNat Ra xs=numP b.n.toNat Rb ys↔pW n a xs b ys)
 bb:∀ xs ys,Peb b.n.toNat k xs→Peb b.n.toNat k ys→(numP b.n.toNat Rb xs=numP b.n.toNat Rb ys↔pW n b xs b ys)
theorem pW_comm:∀ (n:Nat) (a:St) (xs:List Int) (b:St) (ys:List Int),xs.length=ys.length→pW n a xs b ys→pW n b ys a xs
 | 0,a,xs,b,ys,hl,h=>by
  have e:=placed_len (xs:=xs) (ys:=ys) xs.length fun i hi=>h.1 i hi
  refine ⟨fun i hi=>(h.1 i (by omega)).symm,?_⟩
  have h2:=h.2
  rwa [sameB_comm (by rw [e,hl])] at h2
 | n+1,a,xs,b,ys,hl,h=>by
  refine ⟨pW_comm n _ _ _ _ hl h.1,fun i hi=>?_⟩
  obtain ⟨h1,h2⟩:=h.2 i (by omega)
  exact ⟨fun y hy=>(h2 y hy).elim fun x hx=>⟨x,hx.1,pW_comm n _ _ _ _ (by simp [hl]) hx.2⟩,fun x hx=>(h1 x hx).elim fun y hy=>⟨y,hy.1,pW_comm n _ _ _ _ (by simp [hl]) hy.2⟩⟩
def movesTo (size:Nat) (R:List Int) (xs:List Int) (i:Nat):Nat→List Int
 | 0=>[]
 | x+1=>insS (movesTo size R xs i x) (numP size R (xs.set i (x:Int)))
theorem moves_sorted (size:Nat) (R:List Int) (xs:List Int) (i:Nat):∀ m,(movesTo size R xs i m).Pairwise (·<·)
  | 0=>List.Pairwise.nil
  | m+1=>sorted_insS (moves_sorted size R xs i m)
theorem moves_mem {size:Nat} {R:List Int} {xs:List Int} {i:Nat} {z:Int}:∀ {m:Nat},z∈movesTo size R xs i m↔∃ x:Nat,x<m∧z=numP size R (xs.set i (x:Int))
  | 0=>by simp [movesTo]
  | m+1=>by
    rw [movesTo,mem_insS,moves_mem]
    constructor
    · rintro (h | ⟨x,h1,h2⟩)
      · exact ⟨m,by omega,h⟩
      · exact ⟨x,by omega,h2⟩
    · rintro ⟨x,h1,h2⟩
      rcases Nat.lt_or_ge x m with h3 | h3
      · exact .inr ⟨x,h3,h2⟩
      · rw [show x=m from by omega] at h2;exact .inl h2
theorem moves_le (size:Nat) (R:List Int) (xs:List Int) (i:Nat):∀ m,(movesTo size R xs i m).length≤m
 | 0=>Nat.le_refl _
 | m+1=>by
  have:=moves_le size R xs i m
  exact Nat.le_trans insS_length (by omega)
theorem moves_eq {s t:Nat} {R Q:List Int} {xs ys:List Int} {i:Nat}:movesTo s R xs i s=movesTo t Q ys i t ↔
    (∀ x:Nat,x<s→∃ y:Nat,y<t∧numP s R (xs.set i (x:Int))=numP t Q (ys.set i (y:Int)))∧(∀ y:Nat,y<t→∃ x:Nat,x<s∧numP s R (xs.set i (x:Int))=numP t Q (ys.set i (y:Int))):=by
  constructor
  · intro h
    refine ⟨fun x hx=>?_,fun y hy=>?_⟩
    · have h1:numP s R (xs.set i (x:Int))∈movesTo t Q ys i t:=by rw [← h];exact moves_mem.2 ⟨x,hx,rfl⟩
      exact moves_mem.1 h1
    · have h1:numP t Q (ys.set i (y:Int))∈movesTo s R xs i s:=by rw [h];exact moves_mem.2 ⟨y,hy,rfl⟩
      obtain ⟨x,h2,h3⟩:=moves_mem.1 h1
      exact ⟨x,h2,h3.symm⟩
  · rintro ⟨h1,h2⟩
    refine sorted_ext (moves_sorted _ _ _ _ _) (moves_sorted _ _ _ _ _) fun z=>?_
    rw [moves_mem,moves_mem]
    constructor
    · rintro ⟨x,hx,rfl⟩
      obtain ⟨y,hy,e⟩:=h1 x hx
      exact ⟨y,hy,e⟩
    · rintro ⟨y,hy,rfl⟩
      obtain ⟨x,hx,e⟩:=h2 y hy
      exact ⟨x,hx,e.symm⟩
def descM (size:Nat) (R:List Int) (xs:List Int):Nat→List UInt8
 | 0=>[]
 | i+1=>(descM size R xs i++commas (movesTo size R xs i size))++[59]
def descP (size:Nat) (R:List Int) (xs:List Int) (k:Nat):List UInt8:=([114]++decS (numP size R xs).toNat)++descM size R xs k
def NonNeg (R:List Int):Prop:=∀ i:Nat,0≤R.getD i 0
theorem moves_nn {s:Nat} {R:List Int} (h:NonNeg R) {xs:List Int} {i m:Nat}:∀ z∈movesTo s R xs i m,0≤z:=fun z hz=>by
 obtain ⟨x,_,rfl⟩:=moves_mem.1 hz
 exact h _
theorem commas_dig (L:List Int):∀ c∈commas L,c ≠ 59:=fun c hc=>by
  obtain ⟨m,_,h⟩:=List.mem_flatMap.1 hc
  rcases List.mem_append.1 h with h1 | h1
  · rw [List.mem_singleton.1 h1];decide
  · have key:∀ n:Nat,∀ c∈decS n,c ≠ 59:=fun n=>by
      induction n using Nat.strongRecOn with
      | _ n ih =>
        have dig:∀ k,k≤9→UInt8.ofNat (48+k) ≠ 59:=fun k hk e=>by
          have h2:=congrArg UInt8.toNat e
          rw [toNat_dig hk] at h2
          simp at h2;omega
        rw [decS]
        split
        · intro c hc;rw [List.mem_singleton.1 hc];exact dig _ (by omega)
        · intro c hc
          rcases List.mem_append.1 hc with h | h
          · exact ih _ (by omega) c h
          · rw [List.mem_singleton.1 h];exact dig _ (by omega)
    exact key _ c h1
def descT (size:Nat) (R:List Int) (xs:List Int) (i:Nat):Nat→List UInt8
 | 0=>[]
 | m+1=>(commas (movesTo size R xs i size)++[59])++descT size R xs (i+1) m
theorem descM_tail (size:Nat) (R:List Int) (xs:List Int):∀ i m,descM size R xs i++descT size R xs i m=descM size R xs (i+m)
 | i,0=>by simp [descT]
 | i,m+1=>by
  have:=descM_tail size R xs (i+1) m
  rw [show i+(m+1)=i+1+m from by omega,← this,descM,descT]
  simp
theorem descT_head (size:Nat) (R:List Int) (xs:List Int) (i m:Nat):(descT size R xs i m=[]∨∃ t,descT size R xs i m=44::t)∨∃ t,descT size R xs i m=59::t:=by
  cases m with
  | zero=>exact .inl (.inl rfl)
  | succ m =>
    unfold descT
    rcases commas_head (movesTo size R xs i size) with h | ⟨t,h⟩
    · rw [h];exact .inr ⟨_,rfl⟩
    · rw [h];exact .inl (.inr ⟨_,rfl⟩)
theorem descT_inj {s t:Nat} {R Q:List Int} {xs ys:List Int} (hR:NonNeg R) (hQ:NonNeg Q):∀ {m i:Nat},descT s R xs i m=descT t Q ys i m↔∀ j:Nat,i≤j→j<i+m→movesTo s R xs j s=movesTo t Q ys j t
  | 0,i=>by
    refine ⟨fun _ j h1 h2=>by omega,fun _=>rfl⟩
  | m+1,i=>by
    have ih:=descT_inj (s:=s) (t:=t) (xs:=xs) (ys:=ys) hR hQ (m:=m) (i:=i+1)
    unfold descT
    constructor
    · intro h
      rw [List.append_assoc,List.append_assoc] at h
      obtain ⟨h1,h2⟩:=cut (c:=59) (commas_dig _) (commas_dig _) (.inr ⟨_,rfl⟩) (.inr ⟨_,rfl⟩) h
      have h3:=commas_inj (moves_nn hR) (moves_nn hQ) h1
      have h4:=ih.1 (List.append_cancel_left (show [59]++descT s R xs (i+1) m=[59]++descT t Q ys (i+1) m from h2))
      intro j h5 h6
      rcases Nat.lt_or_ge i j with h7 | h7
      · exact h4 j (by omega) (by omega)
      · rw [show j=i from by omega];exact h3
    · intro h
      rw [h i (Nat.le_refl _) (by omega),ih.2 fun j h1 h2=>h j (by omega) (by omega)]
theorem cut2 {u v r s:List UInt8} (hu:∀ x∈u,x ≠ 44∧x ≠ 59) (hv:∀ x∈v,x ≠ 44∧x ≠ 59) (hr:(r=[]∨∃ t,r=44::t)∨∃ t,r=59::t) (hs:(s=[]∨∃ t,s=44::t)∨∃ t,s=59::t) (h:u++r=v++s):u=v∧r=s:=by
 have key:∀ (u r:List UInt8),(∀ x∈u,x ≠ 44∧x ≠ 59)→((r=[]∨∃ t,r=44::t)∨∃ t,r=59::t)→(u++r).takeWhile (fun x=>decide (x ≠ 44)&&decide (x ≠ 59))=u:=fun u r hu hr=>by
  rw [List.takeWhile_append_of_pos (fun x hx=>by simpa using hu x hx)]
  rcases hr with (rfl | ⟨t,rfl⟩) | ⟨t,rfl⟩ <;> simp
 have e1:u=v:=by rw [← key u r hu hr,h,key v s hv hs]
 subst e1
 exact ⟨rfl,List.append_cancel_left h⟩
theorem decS_dig2 (n:Nat):∀ c∈decS n,c ≠ 44∧c ≠ 59:=fun c hc=>by
 refine ⟨(decS_dig n c hc).1,?_⟩
 have:=commas_dig [(n:Int)] c (by unfold commas;simp [hc])
 exact this
theorem descP_inj {s t k:Nat} {R Q:List Int} {xs ys:List Int} (hR:NonNeg R) (hQ:NonNeg Q):descP s R xs k=descP t Q ys k↔numP s R xs=numP t Q ys∧∀ i:Nat,i<k→movesTo s R xs i s=movesTo t Q ys i t:=by
  have e:∀ (s:Nat) (R xs:List Int),descM s R xs k=descT s R xs 0 k:=fun s R xs=>by
    have:=descM_tail s R xs 0 k
    rw [Nat.zero_add] at this
    rw [← this];rfl
  unfold descP
  rw [e,e]
  constructor
  · intro h
    rw [List.append_assoc,List.append_assoc] at h
    obtain ⟨h1,h2⟩:=cut2 (decS_dig2 _) (decS_dig2 _) (descT_head _ _ _ _ _) (descT_head _ _ _ _ _) (List.append_cancel_left h)
    have h3:=decS_inj h1
    have h4:0≤numP s R xs:=hR _
    have h5:0≤numP t Q ys:=hQ _
    exact ⟨by omega,fun i hi=>(descT_inj hR hQ).1 h2 i (by omega) (by omega)⟩
  · rintro ⟨h1,h2⟩
    rw [h1,(descT_inj hR hQ).2 fun j _ hj=>h2 j (by omega)]
def NumOf (T:List (List UInt8)) (text:Nat→List UInt8) (R:List Int) (N:Nat):Prop:=R.length=N∧∀ i:Nat,i<N→∃ m:Nat,R.getD i 0=(m:Int)∧T[m]?=some (text i)
theorem NumOf.mono {T T':List (List UInt8)} {text:Nat→List UInt8} {R:List Int} {N:Nat} (h:NumOf T text R N) (hp:T <+: T'):NumOf T' text R N :=
 ⟨h.1,fun i hi=>(h.2 i hi).elim fun m hm=>⟨m,hm.1,prefix_get hp hm.2⟩⟩
theorem NumOf.eq {T:List (List UInt8)} (hT:T.Nodup) {text text':Nat→List UInt8} {R Q:List Int} {N M:Nat} (h:NumOf T text R N) (h':NumOf T text' Q M) {i j:Nat} (hi:i<N) (hj:j<M):R.getD i 0=Q.getD j 0↔text i=text' j:=by
  obtain ⟨m,e1,e2⟩:=h.2 i hi
  obtain ⟨p,e3,e4⟩:=h'.2 j hj
  rw [e1,e3]
  constructor
  · intro e
    rw [show m=p from by omega,e4] at e2
    exact (Option.some.inj e2).symm
  · intro e
    rw [← e] at e4
    have:=nodup_get hT e2 e4
    omega
where nodup_get {T:List (List UInt8)} (hT:T.Nodup) {m p:Nat} {s:List UInt8} (h1:T[m]?=some s) (h2:T[p]?=some s):m=p :=
 (List.getElem?_inj (List.getElem?_eq_some_iff.1 h1).1 hT).1 (h1.trans h2.symm)
def text0 (a:St) (k:Nat) (i:Nat):List UInt8:=(fun xs:List Int=>signT xs xs.length++atomBits a (placed xs xs.length)) (atP a.n.toNat k i)
def textS (a:St) (R:List Int) (k:Nat) (i:Nat):List UInt8:=descP a.n.toNat R (atP a.n.toNat k i) k
theorem text0_eq {a b:St} {xs ys:List Int} (hl:xs.length=ys.length):(signT xs xs.length++atomBits a (placed xs xs.length))=(signT ys ys.length++atomBits b (placed ys ys.length))↔pW 0 a xs b ys:=by
  have sg:signT xs xs.length=signT ys ys.length↔∀ i:Nat,i<xs.length→(xs.getD i 0<0↔ys.getD i 0<0):=by
    rw [← hl]
    have key:∀ k:Nat,signT xs k=signT ys k↔∀ i:Nat,i<k→(xs.getD i 0<0↔ys.getD i 0<0):=fun k=>by
      induction k with
      | zero=>simp [signT]
      | succ k ih =>
        unfold signT
        constructor
        · intro h
          obtain ⟨h1,h2⟩:=List.append_inj h (by simp)
          intro i hi
          rcases Nat.lt_or_ge i k with h3 | h3
          · exact ih.1 h1 i h3
          · rw [show i=k from by omega]
            by_cases e1:xs.getD k 0<0
            · by_cases e2:ys.getD k 0<0
              · exact ⟨fun _=>e2,fun _=>e1⟩
              · rw [if_pos e1,if_neg e2] at h2;exact absurd h2 (by decide)
            · by_cases e2:ys.getD k 0<0
              · rw [if_neg e1,if_pos e2] at h2;exact absurd h2 (by decide)
              · exact ⟨fun h=>absurd h e1,fun h=>absurd h e2⟩
        · intro h
          rw [ih.2 fun i hi=>h i (by omega)]
          have:=h k (by omega)
          by_cases e1:xs.getD k 0<0
          · rw [if_pos e1,if_pos (this.1 e1)]
          · rw [if_neg e1,if_neg (fun e=>e1 (this.2 e))]
    exact key _
  constructor
  · intro h
    obtain ⟨h1,h2⟩:=List.append_inj h (by simp [hl])
    have h3:=sg.1 h1
    refine ⟨h3,?_⟩
    have hp:=placed_len (xs:=xs) (ys:=ys) xs.length fun i hi=>h3 i hi
    rw [← atomBits_same (by rw [hp,hl]),h2];exact beq_self_eq_true _
  · rintro ⟨h1,h2⟩
    have hp:=placed_len (xs:=xs) (ys:=ys) xs.length fun i hi=>h1 i hi
    rw [← atomBits_same (by rw [hp,hl]),beq_iff_eq] at h2
    rw [sg.2 h1,h2]
theorem good_zero {a b:St} {k:Nat} {T:List (List UInt8)} (hT:T.Nodup) {Ra Rb:List Int} (ha:NumOf T (text0 a k) Ra ((a.n.toNat+1) ^ k)) (hb:NumOf T (text0 b k) Rb ((b.n.toNat+1) ^ k)):GoodP 0 k a b Ra Rb:=by
 have key:∀ {c d:St} {R Q:List Int},NumOf T (text0 c k) R ((c.n.toNat+1) ^ k)→NumOf T (text0 d k) Q ((d.n.toNat+1) ^ k)→∀ xs ys,Peb c.n.toNat k xs→Peb d.n.toNat k ys→(numP c.n.toNat R xs=numP d.n.toNat Q ys↔pW 0 c xs d ys):=fun {c d R Q} hc hd xs ys hx hy=>by
  unfold numP
  rw [NumOf.eq hT hc hd (idxP_lt hx) (idxP_lt hy)]
  unfold text0
  rw [at_idx hx,at_idx hy]
  exact text0_eq (hx.1.trans hy.1.symm)
 exact ⟨key ha ha,key ha hb,key hb hb⟩
theorem good_step {n k:Nat} {a b:St} {T:List (List UInt8)} (hT:T.Nodup) {Ra Rb Ra' Rb':List Int} (hR:NonNeg Ra) (hQ:NonNeg Rb) (h:GoodP n k a b Ra Rb) (ha:NumOf T (textS a Ra k) Ra' ((a.n.toNat+1) ^ k)) (hb:NumOf T (textS b Rb k) Rb' ((b.n.toNat+1) ^ k)):GoodP (n+1) k a b Ra' Rb':=by
  have key:∀ {c d:St} {R Q R' Q':List Int},NonNeg R→NonNeg Q→(∀ xs ys,Peb c.n.toNat k xs→Peb d.n.toNat k ys→(numP c.n.toNat R xs=numP d.n.toNat Q ys↔pW n c xs d ys)) →
      NumOf T (textS c R k) R' ((c.n.toNat+1) ^ k)→NumOf T (textS d Q k) Q' ((d.n.toNat+1) ^ k)→∀ xs ys,Peb c.n.toNat k xs→Peb d.n.toNat k ys→(numP c.n.toNat R' xs=numP d.n.toNat Q' ys↔pW (n+1) c xs d ys):=fun {c d R Q R' Q'} nR nQ hg hc hd xs ys hx hy=>by
    show R'.getD _ 0=Q'.getD _ 0↔_
    rw [NumOf.eq hT hc hd (idxP_lt hx) (idxP_lt hy)]
    unfold textS
    rw [at_idx hx,at_idx hy,descP_inj nR nQ,hg xs ys hx hy]
    show _↔pW n c xs d ys∧_
    refine and_congr_right fun _=>?_
    rw [hx.1]
    refine forall_congr' fun i=>imp_congr_right fun hi=>?_
    rw [moves_eq]
    refine and_congr ?_ ?_
    · exact forall_congr' fun x=>imp_congr_right fun hx'=>exists_congr fun y=>and_congr_right fun hy'=>hg _ _ (peb_set hx hx') (peb_set hy hy')
    · exact forall_congr' fun y=>imp_congr_right fun hy'=>exists_congr fun x=>and_congr_right fun hx'=>hg _ _ (peb_set hx hx') (peb_set hy hy')
  exact ⟨key hR hR h.aa ha ha,key hR hQ h.ab ha hb,key hQ hQ h.bb hb hb⟩
end Go.Wk
namespace Go.Wk
open Go.RowKit
theorem idx_take {size:Nat} {xs:List Int} {k:Nat} (hk:k<xs.length) (h : -1≤xs.getD k 0):((idxP size (xs.take (k+1)):Nat):Int)=(((idxP size (xs.take k):Nat):Int)*((size:Int)+1)+xs.getD k 0)+1:=by
 rw [List.take_succ_eq_append_getElem hk,show xs[k]=xs.getD k 0 from (getD_at hk).symm,idxP_snoc,Int.natCast_add,Int.natCast_mul,Int.toNat_of_nonneg (by omega),show ((size+1:Nat):Int)=(size:Int)+1 from by omega]
 omega
theorem peb_take {size k m:Nat} {xs:List Int} (h:Peb size k xs) (hm:m≤k):Peb size m (xs.take m):=⟨by rw [List.length_take,h.1];omega,fun x hx=>h.2 x (List.mem_of_mem_take hx)⟩
theorem peb_at {size k i:Nat} {xs:List Int} (h:Peb size k xs) (hi:i<k) : -1≤xs.getD i 0∧xs.getD i 0<(size:Int):=by
 have hl:=h.1
 rw [getD_at (by omega)];exact h.2 _ (List.getElem_mem _)
theorem pow9 {size k:Nat} (h:size≤8) (hk:k≤3):(size+1) ^ k≤729:=Nat.le_trans (Nat.pow_le_pow_left (show size+1≤9 by omega) k) (Nat.le_trans (Nat.pow_le_pow_right (by decide) hk) (by decide))
theorem idx_small {size k:Nat} {xs:List Int} (h:Peb size k xs) (h8:size≤8) (hk:k≤3):idxP size xs<729:=Nat.lt_of_lt_of_le (idxP_lt h) (pow9 h8 hk)
theorem mul9 {n:Nat} {x:Int} (hn:n≤729) (h0:0≤x) (h9:x≤9):0≤(n:Int)*x∧(n:Int)*x≤6561 :=
 ⟨Int.mul_nonneg (by omega) h0,Int.le_trans (Int.mul_le_mul_of_nonneg_right (show (n:Int)≤729 by omega) h0) (by omega)⟩
theorem pow_cast1 {a:Int} (h:0≤a) {k:Nat}:(((a.toNat+1) ^ (k+1):Nat):Int)=(((a.toNat+1) ^ k:Nat):Int)*(a+1):=by
 rw [Nat.pow_succ,Int.natCast_mul,show (((a.toNat+1:Nat)):Int)=a+1 from by omega]
theorem atP_step {size j N:Nat} (h:0<j):atP size j N=atP size (j - 1) (N / (size+1))++[((N % (size+1):Nat):Int) - 1]:=by
 obtain ⟨i,rfl⟩:∃ i,j=i+1:=⟨j - 1,by omega⟩
 rfl
theorem row_full {T:List Int} {k:Nat} (h:T.length=k):((ints (List.replicate 0 0++T)).toArray).toList.take (k*1)=ints T:=by
 show (ints T).take (k*1)=ints T
 exact List.take_of_length_le (by rw [ints_length];omega)
theorem row_full_size {T:List Int} {k:Nat} (h:T.length=k):((ints (List.replicate 0 0++T)).toArray).size=k*1:=by
 show (ints T).length=_
 rw [ints_length];omega
end Go.Wk
namespace Go.Wk
open Go.RowKit
def NumTo (T:List (List UInt8)) (text:Nat→List UInt8) (R:List Int) (N k:Nat):Prop:=R.length=N∧∀ i:Nat,i<k→∃ m:Nat,R.getD i 0=(m:Int)∧T[m]?=some (text i)
theorem NumTo.zero (T:List (List UInt8)) (text:Nat→List UInt8) (N:Nat):NumTo T text (List.replicate N 0) N 0:=⟨by simp,fun i hi=>absurd hi (by omega)⟩
theorem NumTo.step {T T':List (List UInt8)} {text:Nat→List UInt8} {R:List Int} {N k m:Nat} (h:NumTo T text R N k) (hp:T <+: T') (hm:T'[m]?=some (text k)) (hk:k<N):NumTo T' text (R.set k (m:Int)) N (k+1):=by
  refine ⟨by rw [List.length_set];exact h.1,fun i hi=>?_⟩
  by_cases e:i=k
  · subst e
    exact ⟨m,by rw [List.getD_eq_getElem?_getD,List.getElem?_set_self (by rw [h.1];exact hk)];rfl,hm⟩
  · obtain ⟨p,h1,h2⟩:=h.2 i (by omega)
    exact ⟨p,by rw [List.getD_eq_getElem?_getD,List.getElem?_set_ne (fun e'=>e e'.symm),← List.getD_eq_getElem?_getD];exact h1,prefix_get hp h2⟩
theorem NumTo.all {T:List (List UInt8)} {text:Nat→List UInt8} {R:List Int} {N:Nat} (h:NumTo T text R N N):NumOf T text R N:=h
theorem NumOf.small {T:List (List UInt8)} {text:Nat→List UInt8} {R:List Int} {N:Nat} (h:NumOf T text R N) (hT:T.length≤1000000):∀ i:Nat,0≤R.getD i 0∧R.getD i 0<1000000:=fun i=>by
  rcases Nat.lt_or_ge i N with h1 | h1
  · obtain ⟨m,e,h2⟩:=h.2 i h1
    have:=(List.getElem?_eq_some_iff.1 h2).1
    rw [e];omega
  · rw [List.getD_eq_getElem?_getD,List.getElem?_eq_none (by rw [h.1];exact h1)];exact ⟨Int.le_refl 0,by decide⟩
theorem peb_pebbles {a:St} (hv:validB a=true) {k:Nat} (h1:1≤k) (h3:k≤3) (n:Nat):Pebbles a (atP a.n.toNat k n):=by
 have ha:=validB_fine hv
 refine ⟨hv,ha,fun x hx=>?_,by rw [atP_len];exact h1,by rw [atP_len];exact h3⟩
 have:=((atP_peb a.n.toNat k n).2 x hx).2
 have:=ha.lo
 omega
theorem num_at {size k n:Nat} {R:List Int} (h:n<(size+1) ^ k):numP size R (atP size k n)=R.getD n 0:=by unfold numP;rw [idx_at _ _ _ h]
theorem descM_len {size:Nat} {R xs:List Int} (h8:size≤8) (hR:∀ i:Nat,0≤R.getD i 0∧R.getD i 0<1000000):∀ i:Nat,(descM size R xs i).length≤105*i
 | 0=>Nat.le_refl _
 | i+1=>by
  have ih:=descM_len (xs:=xs) h8 hR i
  have h1:=moves_le size R xs i size
  have h2:=commas_len (L:=movesTo size R xs i size) fun m hm=>by
   obtain ⟨x,_,rfl⟩:=moves_mem.1 hm
   have:=hR (idxP size (xs.set i (x:Int)))
   unfold numP;omega
  simp only [descM,List.length_append,List.length_cons,List.length_nil]
  omega
theorem moves_small {size:Nat} {R xs:List Int} {i m:Nat} (hR:∀ i:Nat,0≤R.getD i 0∧R.getD i 0<1000000):∀ z∈movesTo size R xs i m,0≤z∧z<1000000000000:=fun z hz=>by
 obtain ⟨x,_,rfl⟩:=moves_mem.1 hz
 have:=hR (idxP size (xs.set i (x:Int)))
 unfold numP;omega
end Go.Wk
namespace Go.Wk
open Go.RowKit
def Onto (T0 T:List (List UInt8)) (R:List Int) (k:Nat):Prop:=∀ m:Nat,T0.length≤m→m<T.length→∃ i:Nat,i<k∧R.getD i 0=(m:Int)
theorem Onto.zero (T:List (List UInt8)) (R:List Int):Onto T T R 0:=fun m h1 h2=>absurd h1 (by omega)
theorem Onto.step {T0 T T':List (List UInt8)} {R:List Int} {k m:Nat} {s:List UInt8} (h:Onto T0 T R k) (hd:T'=T∨T'=T++[s]∧m=T.length) (hk:k<R.length):Onto T0 T' (R.set k (m:Int)) (k+1):=fun p h1 h2=>by
  have old:∀ i:Nat,i<k→(R.set k (m:Int)).getD i 0=R.getD i 0:=fun i hi=>by
    rw [List.getD_eq_getElem?_getD,List.getElem?_set_ne (by omega),← List.getD_eq_getElem?_getD]
  have new:(R.set k (m:Int)).getD k 0=(m:Int):=by rw [List.getD_eq_getElem?_getD,List.getElem?_set_self hk];rfl
  rcases hd with e | ⟨e,e2⟩
  · subst e
    obtain ⟨i,hi,h3⟩:=h p h1 h2
    exact ⟨i,by omega,(old i hi).trans h3⟩
  · rw [e,List.length_append,List.length_singleton] at h2
    rcases Nat.lt_or_ge p T.length with h4 | h4
    · obtain ⟨i,hi,h3⟩:=h p h1 h4
      exact ⟨i,by omega,(old i hi).trans h3⟩
    · exact ⟨k,by omega,by rw [new,e2,show p=T.length from by omega]⟩
structure LevP (n k:Nat) (a b:St) (Ra Rb:List Int) (K:Nat):Prop where
 good:GoodP n k a b Ra Rb
 la:Ra.length=(a.n.toNat+1) ^ k
 lb:Rb.length=(b.n.toNat+1) ^ k
 sa:∀ i:Nat,i<Ra.length→0≤Ra.getD i 0∧Ra.getD i 0<(K:Int)
 sb:∀ i:Nat,i<Rb.length→0≤Rb.getD i 0∧Rb.getD i 0<(K:Int)
 onto:∀ m:Nat,m<K→(∃ i:Nat,i<Ra.length∧Ra.getD i 0=(m:Int))∨∃ i:Nat,i<Rb.length∧Rb.getD i 0=(m:Int)
theorem num_small {T:List (List UInt8)} {text:Nat→List UInt8} {R:List Int} {N:Nat} (h:NumOf T text R N) {i:Nat} (hi:i<R.length):0≤R.getD i 0∧R.getD i 0<(T.length:Int):=by
 obtain ⟨m,e,h2⟩:=h.2 i (by rw [← h.1];exact hi)
 have:=(List.getElem?_eq_some_iff.1 h2).1
 rw [e];omega
theorem lev_of {n k:Nat} {a b:St} {ta tb:Nat→List UInt8} {T1 T2:List (List UInt8)} {Ra Rb:List Int} (hp:T1 <+: T2) (ha:NumOf T1 ta Ra ((a.n.toNat+1) ^ k)) (hb:NumOf T2 tb Rb ((b.n.toNat+1) ^ k)) (oa:Onto [] T1 Ra ((a.n.toNat+1) ^ k)) (ob:Onto T1 T2 Rb ((b.n.toNat+1) ^ k)) (hg:GoodP n k a b Ra Rb):LevP n k a b Ra Rb T2.length:=by
  refine ⟨hg,ha.1,hb.1,fun i hi=>num_small (ha.mono hp) hi,fun i hi=>num_small hb hi,fun m hm=>?_⟩
  rcases Nat.lt_or_ge m T1.length with h1 | h1
  · obtain ⟨i,h2,h3⟩:=oa m (Nat.zero_le _) h1
    exact .inl ⟨i,by rw [ha.1];exact h2,h3⟩
  · obtain ⟨i,h2,h3⟩:=ob m h1 hm
    exact .inr ⟨i,by rw [hb.1];exact h2,h3⟩
theorem lev_zero {k:Nat} {a b:St} {T1 T2:List (List UInt8)} {Ra Rb:List Int} (hT:T2.Nodup) (hp:T1 <+: T2) (ha:NumOf T1 (text0 a k) Ra ((a.n.toNat+1) ^ k)) (hb:NumOf T2 (text0 b k) Rb ((b.n.toNat+1) ^ k)) (oa:Onto [] T1 Ra ((a.n.toNat+1) ^ k)) (ob:Onto T1 T2 Rb ((b.n.toNat+1) ^ k)):LevP 0 k a b Ra Rb T2.length :=
 lev_of hp ha hb oa ob (good_zero hT (ha.mono hp) hb)
theorem LevP.na {n k:Nat} {a b:St} {Ra Rb:List Int} {K:Nat} (h:LevP n k a b Ra Rb K):NonNeg Ra:=fun i=>by
  rcases Nat.lt_or_ge i Ra.length with h1 | h1
  · exact (h.sa i h1).1
  · rw [List.getD_eq_getElem?_getD,List.getElem?_eq_none h1];exact Int.le_refl 0
theorem LevP.nb {n k:Nat} {a b:St} {Ra Rb:List Int} {K:Nat} (h:LevP n k a b Ra Rb K):NonNeg Rb:=fun i=>by
  rcases Nat.lt_or_ge i Rb.length with h1 | h1
  · exact (h.sb i h1).1
  · rw [List.getD_eq_getElem?_getD,List.getElem?_eq_none h1];exact Int.le_refl 0
theorem LevP.ma {n k:Nat} {a b:St} {Ra Rb:List Int} {K:Nat} (h:LevP n k a b Ra Rb K) (hK:K≤1000000):∀ i:Nat,0≤Ra.getD i 0∧Ra.getD i 0<1000000:=fun i=>by
  rcases Nat.lt_or_ge i Ra.length with h1 | h1
  · have:=h.sa i h1;omega
  · rw [List.getD_eq_getElem?_getD,List.getElem?_eq_none h1];exact ⟨Int.le_refl 0,by decide⟩
theorem LevP.mb {n k:Nat} {a b:St} {Ra Rb:List Int} {K:Nat} (h:LevP n k a b Ra Rb K) (hK:K≤1000000):∀ i:Nat,0≤Rb.getD i 0∧Rb.getD i 0<1000000:=fun i=>by
  rcases Nat.lt_or_ge i Rb.length with h1 | h1
  · have:=h.sb i h1;omega
  · rw [List.getD_eq_getElem?_getD,List.getElem?_eq_none h1];exact ⟨Int.le_refl 0,by decide⟩
theorem lev_step {n k K:Nat} {a b:St} {T1 T2:List (List UInt8)} {Ra Rb Ra' Rb':List Int} (h:LevP n k a b Ra Rb K) (hT:T2.Nodup) (hp:T1 <+: T2) (ha:NumOf T1 (textS a Ra k) Ra' ((a.n.toNat+1) ^ k)) (hb:NumOf T2 (textS b Rb k) Rb' ((b.n.toNat+1) ^ k)) (oa:Onto [] T1 Ra' ((a.n.toNat+1) ^ k)) (ob:Onto T1 T2 Rb' ((b.n.toNat+1) ^ k)):LevP (n+1) k a b Ra' Rb' T2.length :=
 lev_of hp ha hb oa ob (good_step hT h.na h.nb h.good (ha.mono hp) hb)
def sS (a b:St) (s:Bool×List Int):St:=if s.1 then b else a
def sV (a b:St) (Ra Rb:List Int) (s:Bool×List Int):Int:=numP (sS a b s).n.toNat (if s.1 then Rb else Ra) s.2
def sP (a b:St) (k:Nat) (s:Bool×List Int):Prop:=Peb (sS a b s).n.toNat k s.2
theorem sV_iff {n k:Nat} {a b:St} {Ra Rb:List Int} (h:GoodP n k a b Ra Rb) {s t:Bool×List Int} (hs:sP a b k s) (ht:sP a b k t):sV a b Ra Rb s=sV a b Ra Rb t↔pW n (sS a b s) s.2 (sS a b t) t.2:=by
  obtain ⟨u,xs⟩:=s
  obtain ⟨v,ys⟩:=t
  cases u <;> cases v
  · exact h.aa xs ys hs ht
  · exact h.ab xs ys hs ht
  · have hl:xs.length=ys.length:=hs.1.trans ht.1.symm
    exact ⟨fun e=>pW_comm _ _ _ _ _ hl.symm ((h.ab ys xs ht hs).1 e.symm),fun e=>((h.ab ys xs ht hs).2 (pW_comm _ _ _ _ _ hl e)).symm⟩
  · exact h.bb xs ys hs ht
theorem lev_rep {n k K:Nat} {a b:St} {Ra Rb:List Int} (h:LevP n k a b Ra Rb K) {m:Nat} (hm:m<K):∃ s,sP a b k s∧sV a b Ra Rb s=(m:Int):=by
  rcases h.onto m hm with ⟨i,h1,h2⟩ | ⟨i,h1,h2⟩
  · refine ⟨(false,atP a.n.toNat k i),atP_peb _ _ _,?_⟩
    show numP a.n.toNat Ra (atP a.n.toNat k i)=_
    rw [num_at (by rw [← h.la];exact h1)];exact h2
  · refine ⟨(true,atP b.n.toNat k i),atP_peb _ _ _,?_⟩
    show numP b.n.toNat Rb (atP b.n.toNat k i)=_
    rw [num_at (by rw [← h.lb];exact h1)];exact h2
theorem lev_sV {n k K:Nat} {a b:St} {Ra Rb:List Int} (h:LevP n k a b Ra Rb K) {s:Bool×List Int} (hs:sP a b k s):0≤sV a b Ra Rb s∧sV a b Ra Rb s<(K:Int):=by
  obtain ⟨u,xs⟩:=s
  cases u
  · exact h.sa _ (by rw [h.la];exact idxP_lt hs)
  · exact h.sb _ (by rw [h.lb];exact idxP_lt hs)
theorem lev_reps {n k K:Nat} {a b:St} {Ra Rb:List Int} (h:LevP n k a b Ra Rb K):∀ m:Nat,m≤K→∃ L:List (Bool×List Int),L.length=m∧(∀ s∈L,sP a b k s)∧L.map (sV a b Ra Rb)=(List.range m).map fun i:Nat=>(i:Int)
  | 0,_=>⟨[],rfl,(fun s h=>by cases h),rfl⟩
  | m+1,hm=>by
    obtain ⟨L,h1,h2,h3⟩:=lev_reps h m (by omega)
    obtain ⟨s,h4,h5⟩:=lev_rep h (m:=m) (by omega)
    refine ⟨L++[s],by simp [h1],fun t ht=>?_,by rw [List.map_append,h3,List.range_succ,List.map_append];simp [h5]⟩
    rcases List.mem_append.1 ht with h | h
    · exact h2 t h
    · rw [List.mem_singleton.1 h];exact h4
theorem lev_fine {n k K K':Nat} {a b:St} {Ra Rb Ra' Rb':List Int} (h:LevP n k a b Ra Rb K) (h':LevP (n+1) k a b Ra' Rb' K') {s t:Bool×List Int} (hs:sP a b k s) (ht:sP a b k t) (e:sV a b Ra' Rb' s=sV a b Ra' Rb' t):sV a b Ra Rb s=sV a b Ra Rb t :=
 (sV_iff h.good hs ht).2 ((sV_iff h'.good hs ht).1 e).1
theorem reps_nodup' {n k K K':Nat} {a b:St} {Ra Rb Ra' Rb':List Int} (h:LevP n k a b Ra Rb K) (h':LevP (n+1) k a b Ra' Rb' K') {L:List (Bool×List Int)} {m:Nat} (h2:∀ s∈L,sP a b k s) (h3:L.map (sV a b Ra Rb)=(List.range m).map fun i:Nat=>(i:Int)):(L.map (sV a b Ra' Rb')).Nodup:=by
 have hn:(L.map (sV a b Ra Rb)).Nodup:=by
  rw [h3];exact nodup_map_inj (fun x _ y _ e=>Int.ofNat.inj e) List.nodup_range
 clear h3
 induction L with
 | nil=>exact List.nodup_nil
 | cons s L ih =>
  rw [List.map_cons,List.nodup_cons] at hn ⊢
  refine ⟨fun hm=>hn.1 ?_,ih (fun t ht=>h2 t (List.mem_cons_of_mem _ ht)) hn.2⟩
  obtain ⟨t,ht,e⟩:=List.mem_map.1 hm
  exact List.mem_map.2 ⟨t,ht,lev_fine h h' (h2 t (List.mem_cons_of_mem _ ht)) (h2 s List.mem_cons_self) e⟩
theorem lev_le {n k K K':Nat} {a b:St} {Ra Rb Ra' Rb':List Int} (h:LevP n k a b Ra Rb K) (h':LevP (n+1) k a b Ra' Rb' K'):K≤K':=by
 obtain ⟨L,h1,h2,h3⟩:=lev_reps h K (Nat.le_refl _)
 have:=nodup_le K' (L.map (sV a b Ra' Rb')) (reps_nodup' h h' h2 h3) fun x hx=>by
  obtain ⟨s,hs,rfl⟩:=List.mem_map.1 hx
  exact lev_sV h' (h2 s hs)
 rw [List.length_map,h1] at this
 exact this
theorem lev_still {n k K:Nat} {a b:St} {Ra Rb Ra' Rb':List Int} (h:LevP n k a b Ra Rb K) (h':LevP (n+1) k a b Ra' Rb' K) {s t:Bool×List Int} (hs:sP a b k s) (ht:sP a b k t) (e:sV a b Ra Rb s=sV a b Ra Rb t):sV a b Ra' Rb' s=sV a b Ra' Rb' t:=by
  obtain ⟨L,h1,h2,h3⟩:=lev_reps h K (Nat.le_refl _)
  have hn:=reps_nodup' h h' h2 h3
  obtain ⟨hz,hK⟩:=lev_sV h hs
  obtain ⟨r,hr,er⟩:∃ r∈L,sV a b Ra Rb r=sV a b Ra Rb s:=by
    have hm:sV a b Ra Rb s∈L.map (sV a b Ra Rb):=by
      rw [h3];exact List.mem_map.2 ⟨(sV a b Ra Rb s).toNat,List.mem_range.2 (by omega),by omega⟩
    exact List.mem_map.1 hm
  have key:∀ u,sP a b k u→sV a b Ra Rb u=sV a b Ra Rb s→sV a b Ra' Rb' u=sV a b Ra' Rb' r:=fun u hu eu=>by
    by_cases hc:sV a b Ra' Rb' u∈L.map (sV a b Ra' Rb')
    · obtain ⟨v,hv,ev⟩:=List.mem_map.1 hc
      have e1:=lev_fine h h' (h2 v hv) hu ev
      have e2:sV a b Ra Rb v=sV a b Ra Rb r:=e1.trans (eu.trans er.symm)
      have inj:∀ {L:List (Bool×List Int)},(L.map (sV a b Ra Rb)).Nodup→∀ v∈L,∀ r∈L,sV a b Ra Rb v=sV a b Ra Rb r→v=r:=fun {L} hL=>by
        induction L with
        | nil=>intro v hv;cases hv
        | cons x L ih =>
          rw [List.map_cons,List.nodup_cons] at hL
          intro v hv r hr e
          rcases List.mem_cons.1 hv with e1 | hv'
          · rcases List.mem_cons.1 hr with e2 | hr'
            · rw [e1,e2]
            · exact absurd (List.mem_map.2 ⟨r,hr',by rw [← e,e1]⟩) hL.1
          · rcases List.mem_cons.1 hr with e2 | hr'
            · exact absurd (List.mem_map.2 ⟨v,hv',by rw [e,e2]⟩) hL.1
            · exact ih hL.2 v hv' r hr' e
      have hn2:(L.map (sV a b Ra Rb)).Nodup:=by
        rw [h3];exact nodup_map_inj (fun x _ y _ e=>Int.ofNat.inj e) List.nodup_range
      rw [← inj hn2 v hv r hr e2];exact ev.symm
    · exfalso
      have:=nodup_le K (sV a b Ra' Rb' u::L.map (sV a b Ra' Rb')) (List.nodup_cons.2 ⟨hc,hn⟩) fun x hx=>by
        rcases List.mem_cons.1 hx with rfl | hx
        · exact lev_sV h' hu
        · obtain ⟨s,hs,rfl⟩:=List.mem_map.1 hx
          exact lev_sV h' (h2 s hs)
      rw [List.length_cons,List.length_map,h1] at this
      omega
  exact (key s hs rfl).trans (key t ht e.symm).symm
def pF (a:St) (xs:List Int) (b:St) (ys:List Int):Prop:=∀ n,pW n a xs b ys
def Still (n k:Nat) (a b:St):Prop:=∀ s t,sP a b k s→sP a b k t→pW n (sS a b s) s.2 (sS a b t) t.2→pW (n+1) (sS a b s) s.2 (sS a b t) t.2
theorem still_of {n k K:Nat} {a b:St} {Ra Rb Ra' Rb':List Int} (h:LevP n k a b Ra Rb K) (h':LevP (n+1) k a b Ra' Rb' K):Still n k a b:=fun _ _ hs ht e =>
 (sV_iff h'.good hs ht).1 (lev_still h h' hs ht ((sV_iff h.good hs ht).2 e))
theorem Still.next {n k:Nat} {a b:St} (h:Still n k a b):Still (n+1) k a b:=fun s t hs ht e=>by
  refine ⟨e,fun i hi=>?_⟩
  obtain ⟨h1,h2⟩:=e.2 i hi
  have put:∀ {u:Bool×List Int} {x:Nat},sP a b k u→x<(sS a b u).n.toNat→sP a b k (u.1,u.2.set i (x:Int)):=fun hu hx=>peb_set hu hx
  refine ⟨fun x hx=>?_,fun y hy=>?_⟩
  · obtain ⟨y,hy,e2⟩:=h1 x hx
    exact ⟨y,hy,h (s.1,s.2.set i (x:Int)) (t.1,t.2.set i (y:Int)) (put hs hx) (put ht hy) e2⟩
  · obtain ⟨x,hx,e2⟩:=h2 y hy
    exact ⟨x,hx,h (s.1,s.2.set i (x:Int)) (t.1,t.2.set i (y:Int)) (put hs hx) (put ht hy) e2⟩
theorem Still.all {n k:Nat} {a b:St} (h:Still n k a b):∀ m:Nat,Still (n+m) k a b
 | 0=>h
 | m+1=>(h.all m).next
theorem pW_less:∀ {n:Nat} {a:St} {xs:List Int} {b:St} {ys:List Int},∀ m:Nat,pW (n+m) a xs b ys→pW n a xs b ys
 | _,_,_,_,_,0,h=>h
 | _,_,_,_,_,m+1,h=>pW_less m (show pW (_+m) _ _ _ _ from h.1)
theorem Still.up {n k:Nat} {a b:St} (h:Still n k a b) {s t:Bool×List Int} (hs:sP a b k s) (ht:sP a b k t) (e:pW n (sS a b s) s.2 (sS a b t) t.2):∀ m:Nat,pW (n+m) (sS a b s) s.2 (sS a b t) t.2
 | 0=>e
 | m+1=>h.all m s t hs ht (h.up hs ht e m)
theorem Still.forever {n k:Nat} {a b:St} (h:Still n k a b) {xs ys:List Int} (hx:Peb a.n.toNat k xs) (hy:Peb b.n.toNat k ys):pW n a xs b ys↔pF a xs b ys:=by
 refine ⟨fun e m=>?_,fun e=>e n⟩
 have hh:=h.up (s:=(false,xs)) (t:=(true,ys)) hx hy e m
 rw [Nat.add_comm] at hh
 exact pW_less n hh
def kindsP (L:List Int):Int:=L.foldl (fun n x=>max n (x+1)) 0
theorem kinds_take {L:List Int} {k:Nat} (h:k<L.length):kindsP (L.take (k+1))=max (kindsP (L.take k)) (L.getD k 0+1):=by
 unfold kindsP
 rw [List.take_succ_eq_append_getElem h,List.foldl_append,getD_at h];rfl
theorem kinds_ge {L:List Int} {K:Int} (h:∀ x∈L,x<K) (h0:0≤K):kindsP L≤K∧(∀ x∈L,x<kindsP L):=by
  have key:∀ (L:List Int) (c:Int),c≤K→(∀ x∈L,x<K)→L.foldl (fun n x=>max n (x+1)) c≤K∧c≤L.foldl (fun n x=>max n (x+1)) c∧∀ x∈L,x<L.foldl (fun n x=>max n (x+1)) c:=fun L=>by
    induction L with
    | nil=>intro c hc _;exact ⟨hc,Int.le_refl _,fun x hx=>by cases hx⟩
    | cons y L ih =>
      intro c hc hL
      have hy:=hL y List.mem_cons_self
      obtain ⟨h1,h2,h3⟩:=ih (max c (y+1)) (by omega) fun x hx=>hL x (List.mem_cons_of_mem _ hx)
      rw [List.foldl_cons]
      refine ⟨h1,by omega,fun x hx=>?_⟩
      rcases List.mem_cons.1 hx with rfl | hx
      · omega
      · exact h3 x hx
  obtain ⟨h1,_,h3⟩:=key L 0 h0 h
  exact ⟨h1,h3⟩
theorem kinds_lev {n k K:Nat} {a b:St} {Ra Rb:List Int} (h:LevP n k a b Ra Rb K):kindsP (Ra++Rb)=(K:Int):=by
  have hs:∀ x∈Ra++Rb,x<(K:Int):=fun x hx=>by
    rcases List.mem_append.1 hx with hx | hx
    · obtain ⟨i,hi,rfl⟩:=List.mem_iff_getElem.1 hx
      have:=(h.sa i hi).2
      rwa [getD_at hi] at this
    · obtain ⟨i,hi,rfl⟩:=List.mem_iff_getElem.1 hx
      have:=(h.sb i hi).2
      rwa [getD_at hi] at this
  obtain ⟨h1,h2⟩:=kinds_ge hs (by omega)
  cases K with
  | zero =>
    have hlt:0<Ra.length:=by rw [h.la];exact Nat.pow_pos (by omega)
    have:=h.sa 0 hlt
    omega
  | succ K =>
    have:((K:Nat):Int)∈Ra++Rb:=by
      rcases h.onto K (by omega) with ⟨i,hi,e⟩ | ⟨i,hi,e⟩
      · rw [← e,getD_at hi];exact List.mem_append_left _ (List.getElem_mem _)
      · rw [← e,getD_at hi];exact List.mem_append_right _ (List.getElem_mem _)
    have:=h2 _ this
    omega
end Go.Wk
namespace Go.Wk
open Go.RowKit
structure Levs (k M:Nat) (a b:St) (A B:List (List Int)) (m g:Nat):Prop where
 la:A.length=m+1
 lb:B.length=m+1
 lev:∃ Ks:Nat→Nat,(∀ i:Nat,i≤m→Ks i≤1458∧LevP i k a b (A.getD i []) (B.getD i []) (Ks i))∧(4<M→∀ i:Nat,i<g→Ks i<Ks (i+1))
theorem levs_zero {k M K:Nat} {a b:St} {Ra Rb:List Int} (h:LevP 0 k a b Ra Rb K) (hK:K≤1458):Levs k M a b [Ra] [Rb] 0 0 :=
  ⟨rfl, rfl, fun _ => K, fun i hi => by obtain rfl : i = 0 := by omega
                                        exact ⟨hK,h⟩,fun _ i hi=>absurd hi (by omega)⟩
theorem getA1 {α:Type} {l:List α} {x d:α} {i:Nat} (h:i<l.length):(l++[x]).getD i d=l.getD i d:=by
 rw [List.getD_eq_getElem?_getD,List.getElem?_append_left h,← List.getD_eq_getElem?_getD]
theorem getA2 {α:Type} {l:List α} {x d:α} {i:Nat} (h:i=l.length):(l++[x]).getD i d=x:=by
 rw [List.getD_eq_getElem?_getD,List.getElem?_append_right (by omega),h,Nat.sub_self];rfl
theorem levs_more {k M n K:Nat} {a b:St} {A B:List (List Int)} {Ra Rb:List Int} (h:Levs k M a b A B n n) (h':LevP (n+1) k a b Ra Rb K) (hK:K≤1458):Levs k M a b (A++[Ra]) (B++[Rb]) (n+1) n:=by
  obtain ⟨hA,hB,Ks,h1,h2⟩:=h
  refine ⟨by rw [List.length_append,hA];rfl,by rw [List.length_append,hB];rfl,fun i=>if i=n+1 then K else Ks i,fun i hi=>?_,fun hM i hi=>?_⟩
  · by_cases e:i=n+1
    · subst e
      rw [getA2 (by omega),getA2 (by omega)]
      simp only [if_pos]
      exact ⟨hK,h'⟩
    · rw [getA1 (by omega),getA1 (by omega)]
      simp only [if_neg e]
      exact h1 i (by omega)
  · have e1:¬ i=n+1:=by omega
    have e2:¬ i+1=n+1:=by omega
    simp only [if_neg e1,if_neg e2]
    exact h2 hM i hi
theorem Levs.at {k M m g:Nat} {a b:St} {A B:List (List Int)} (h:Levs k M a b A B m g) {i:Nat} (hi:i≤m):∃ K,K≤1458∧LevP i k a b (A.getD i []) (B.getD i []) K:=by
 obtain ⟨_,_,Ks,h1,_⟩:=h
 exact ⟨Ks i,h1 i hi⟩
theorem levs_go {k M n:Nat} {a b:St} {A B:List (List Int)} (h:Levs k M a b A B (n+1) n) (hd:4<M→¬ kindsP (A.getD n []++B.getD n [])=kindsP (A.getD (n+1) []++B.getD (n+1) [])):Levs k M a b A B (n+1) (n+1):=by
  obtain ⟨hA,hB,Ks,h1,h2⟩:=h
  refine ⟨hA,hB,Ks,h1,fun hM i hi=>?_⟩
  rcases Nat.lt_or_ge i n with h3 | h3
  · exact h2 hM i h3
  · obtain rfl:i=n:=by omega
    have l1:=(h1 i (by omega)).2
    have l2:=(h1 (i+1) (by omega)).2
    have h4:=hd hM
    rw [kinds_lev l1,kinds_lev l2] at h4
    have:=lev_le l1 l2
    omega
theorem levs_stop {k M n g:Nat} {a b:St} {A B:List (List Int)} (h:Levs k M a b A B (n+1) g) (hd:kindsP (A.getD n []++B.getD n [])=kindsP (A.getD (n+1) []++B.getD (n+1) [])):Still n k a b:=by
 obtain ⟨hA,hB,Ks,h1,h2⟩:=h
 have l1:=(h1 n (by omega)).2
 have l2:=(h1 (n+1) (by omega)).2
 rw [kinds_lev l1,kinds_lev l2] at hd
 have e:Ks n=Ks (n+1):=by omega
 rw [← e] at l2
 exact still_of l1 l2
def LevEnds (k M:Nat) (a b:St) (m:Nat):Prop:=m=M∨4<M∧1≤m∧Still (m - 1) k a b
theorem levs_grown {k M m g:Nat} {a b:St} {A B:List (List Int)} (h:Levs k M a b A B m g) (hM:4<M) (hg:g≤m):g≤1458:=by
 obtain ⟨_,_,Ks,h1,h2⟩:=h
 have key:∀ i:Nat,i≤g→i≤Ks i:=fun i=>by
  induction i with
  | zero=>intro _;exact Nat.zero_le _
  | succ i ih =>
   intro hi
   have:=h2 hM i (by omega)
   have:=ih (by omega)
   omega
 have h3:=(h1 g hg).1
 have:=key g (Nat.le_refl _)
 omega
open Classical in
noncomputable def pWinB (M:Nat) (a:St) (xs:List Int) (b:St) (ys:List Int):Bool:=if M≤4 then decide (pW M a xs b ys) else decide (pF a xs b ys)
theorem levs_end {k M m:Nat} {a b:St} {A B:List (List Int)} (h:Levs k M a b A B m (m - 1)) (he:LevEnds k M a b m) (hM:M≤4∨M=2000) {xs ys:List Int} (hx:Peb a.n.toNat k xs) (hy:Peb b.n.toNat k ys) :
    decide (numP a.n.toNat (A.getD m []) xs=numP b.n.toNat (B.getD m []) ys)=pWinB M a xs b ys:=by
  obtain ⟨K,hK,hl⟩:=h.at (Nat.le_refl m)
  have hg:=hl.good.ab xs ys hx hy
  unfold pWinB
  by_cases h4:M≤4
  · rw [if_pos h4]
    rcases he with e | ⟨h5,_⟩
    · subst e
      exact decide_eq_decide.2 hg
    · omega
  · rw [if_neg h4]
    refine decide_eq_decide.2 (hg.trans ?_)
    rcases he with e | ⟨_,h6,h7⟩
    · have:=levs_grown h (by omega) (by omega)
      omega
    · have hs:=h7.next
      rw [Nat.sub_add_cancel h6] at hs
      exact hs.forever hx hy
theorem rows_more2 {B:Nat} {w0 w:World} {I:TypeId} {rr ss:List RR} {x y:RR} {f hs:List (Nat×Obj)} (h:Own B w0 (f++((x.g,.cells x.cur I (0,0))::(y.g,.cells y.cur I (0,0))::(rowsB I rr++(rowsB I ss++hs)))) w):Own B w0 (f++(rowsB I (rr++[x])++(rowsB I (ss++[y])++hs))) w:=by
 refine h.perm (List.Perm.append_left f ?_)
 unfold rowsB
 rw [List.map_append,List.map_append,List.append_assoc,List.append_assoc]
 refine List.Perm.trans ?_ (perm_back [(x.g,Obj.cells x.cur I (0,0))] (rr.map (fun r=>(r.g,Obj.cells r.cur I (0,0)))) _)
 refine List.Perm.cons _ ?_
 have h1:=perm_back [(y.g,Obj.cells y.cur I (0,0))] (rr.map (fun r=>(r.g,Obj.cells r.cur I (0,0)))) (ss.map (fun r=>(r.g,Obj.cells r.cur I (0,0)))++hs)
 refine h1.trans (List.Perm.append_left _ ?_)
 exact perm_back [(y.g,Obj.cells y.cur I (0,0))] (ss.map (fun r=>(r.g,Obj.cells r.cur I (0,0)))) hs
theorem RR.ofInts {R:List Int} (g n:Nat) (h:R.length=n):RR.Ok ⟨g,n,(ints R).toArray,R⟩:=by
 refine ⟨by rw [Nat.mul_one];show (ints R).length=n;rw [ints_length,h],by show R.length≤n;omega,?_⟩
 show (ints R).take R.length=ints R
 exact List.take_of_length_le (by rw [ints_length];exact Nat.le_refl _)
end Go.Wk
namespace Go.Wk
open Go.RowKit
theorem xs_at {rr:List RR} {i:Nat}:(rr.map RR.xs).getD i []=(rr.getD i rd).xs:=by
 rw [List.getD_eq_getElem?_getD,List.getElem?_map,List.getD_eq_getElem?_getD]
 cases rr[i]? <;> rfl
theorem RowsOk.addI {rr:List RR} {u u':Array Value} {c c' g n:Nat} {R:List Int} (h:RowsOk rr u c) (hR:R.length=n) (hs:u'.size=c'*1) (hl:rr.length+1≤c') (hv:u'.toList.take ((rr.length+1)*1)=u.toList.take (rr.length*1)++[.slice (some ⟨g,0,none⟩) n n]):RowsOk (rr++[⟨g,n,(ints R).toArray,R⟩]) u' c' :=
 h.add (RR.ofInts g n hR) hs hl (by rw [hv];subst hR;rfl)
theorem RowsOk.oneI {R:List Int} {g n:Nat} (hR:R.length=n):RowsOk [⟨g,n,(ints R).toArray,R⟩] #[.slice (some ⟨g,0,none⟩) n n] 1 :=
 ⟨rfl,Nat.le_refl 1,by subst hR;rfl,fun r hr=>by rw [List.mem_singleton.1 hr];exact RR.ofInts g n hR⟩
theorem RowsOk.cell {rr:List RR} {u:Array Value} {c i:Nat} (h:RowsOk rr u c) (hi:i<rr.length):u.toList[i]?=some (rv (rr.getD i rd)):=by
 have:=rvs_at hi
 rw [← h.vals,List.getElem?_take,if_pos hi] at this
 exact this
theorem RowsOk.old {rr:List RR} {x:RR} {u:Array Value} {c i:Nat} (h:RowsOk (rr++[x]) u c) (hi:i<rr.length):u.toList[i]?=some (rv (rr.getD i rd)):=by
 have:=h.cell (i:=i) (by rw [List.length_append];omega)
 rwa [getA1 hi] at this
theorem RowsOk.newI {rr:List RR} {g n:Nat} {R:List Int} {u:Array Value} {c i:Nat} (h:RowsOk (rr++[⟨g,n,(ints R).toArray,R⟩]) u c) (hR:R.length=n) (hi:i=rr.length):u.toList[i]?=some (.slice (some ⟨g,0,none⟩) n n):=by
 have:=h.cell (i:=i) (by rw [List.length_append];show i<rr.length+1;omega)
 rw [getA2 hi] at this
 rw [this];subst hR;rfl
end Go.Wk
namespace Go.Wk
open Go.RowKit
theorem Levs.less {k M m g g':Nat} {a b:St} {A B:List (List Int)} (h:Levs k M a b A B m g) (hg:g'≤g):Levs k M a b A B m g':=by
 obtain ⟨hA,hB,Ks,h1,h2⟩:=h
 exact ⟨hA,hB,Ks,h1,fun hM i hi=>h2 hM i (by omega)⟩
end Go.Wk
namespace Go.Wk
open Go.RowKit
theorem LevP.sm {n k K:Nat} {a b:St} {Ra Rb:List Int} (h:LevP n k a b Ra Rb K) (hK:K≤1000000):∀ i:Nat,i<(Ra++Rb).length→0≤(Ra++Rb).getD i 0∧(Ra++Rb).getD i 0<1000000:=fun i hi=>by
  rw [List.getD_eq_getElem?_getD]
  rcases Nat.lt_or_ge i Ra.length with h1 | h1
  · rw [List.getElem?_append_left h1,← List.getD_eq_getElem?_getD];exact h.ma hK i
  · rw [List.getElem?_append_right h1,← List.getD_eq_getElem?_getD];exact h.mb hK _
end Go.Wk
namespace Go.Wk
open Go.RowKit
theorem ready_peb {a b:St} {xs ys:List Int} (h:readyB a xs b ys=true):validB a=true∧validB b=true∧1≤xs.length∧xs.length≤3∧xs.length=ys.length∧Peb a.n.toNat xs.length xs∧Peb b.n.toNat xs.length ys:=by
  obtain ⟨Pa,Pb,hl,_⟩:=readyB_true h
  unfold readyB at h
  simp only [Bool.and_eq_true,decide_eq_true_eq] at h
  have ea:=peb_el h.1.1.1
  have eb:=peb_el h.1.1.2
  have la:=Pa.fine.lo
  have lb:=Pb.fine.lo
  refine ⟨Pa.valid,Pb.valid,Pa.lo,Pa.hi,hl,⟨rfl,fun x hx=>?_⟩,⟨hl.symm,fun x hx=>?_⟩⟩
  · have:=ea x hx;have:=Pa.top x hx;omega
  · have:=eb x hx;have:=Pb.top x hx;omega
theorem rows_behind2 (f:List (Nat×Obj)) (x y:Nat×Obj) (r s:List (Nat×Obj)):(x::y::(r++(s++f))).Perm (f++(x::y::(r++(s++[])))):=by
 have:=List.perm_append_comm (l₁:=x::y::(r++s)) (l₂:=f)
 rw [List.append_nil]
 rw [← List.append_assoc]
 exact this
noncomputable def pebWinB (a:St) (xs:List Int) (b:St) (ys:List Int) (t:Int):Bool:=readyB a xs b ys&&inB t 0 4&&pWinB t.toNat a xs b ys
noncomputable def pebEverB (a:St) (xs:List Int) (b:St) (ys:List Int):Bool:=readyB a xs b ys&&pWinB 2000 a xs b ys
end Go.Wk
namespace Go.Wk
open Go.RowKit
def dig (pr s i:Nat):Nat:=s / pr ^ i % pr
def zer (pr s i:Nat):Nat:=s - pr ^ i*dig pr s i
theorem dig_lt {pr s i:Nat} (h:0<pr):dig pr s i<pr:=Nat.mod_lt _ h
theorem dig_first {pr s c:Nat} (hc:c<pr):dig pr (s*pr+c) 0=c:=by
 unfold dig
 rw [Nat.pow_zero,Nat.div_one,Nat.add_comm,Nat.add_mul_mod_self_right,Nat.mod_eq_of_lt hc]
theorem dig_next {pr s c i:Nat} (hc:c<pr):dig pr (s*pr+c) (i+1)=dig pr s i:=by
 unfold dig
 rw [Nat.pow_succ',← Nat.div_div_eq_div_mul,Nat.add_comm (s*pr),Nat.add_mul_div_right _ _ (by omega),Nat.div_eq_of_lt hc,Nat.zero_add]
theorem dig_le {pr s i:Nat}:pr ^ i*dig pr s i≤s:=by
 unfold dig
 exact Nat.le_trans (Nat.mul_le_mul_left _ (Nat.mod_le _ _)) (Nat.mul_div_le _ _)
theorem zer_add {pr s i:Nat}:zer pr s i+pr ^ i*dig pr s i=s:=by
 have:=dig_le (pr:=pr) (s:=s) (i:=i)
 unfold zer;omega
theorem dig_cut (pr s i:Nat):s=(s / pr ^ (i+1))*pr ^ (i+1)+pr ^ i*dig pr s i+s % pr ^ i:=by
 have h1:=Nat.div_add_mod s (pr ^ i)
 have h2:=Nat.div_add_mod (s / pr ^ i) pr
 rw [Nat.div_div_eq_div_mul,← Nat.pow_succ] at h2
 have h3:pr ^ i*(s / pr ^ i)=pr ^ i*(pr*(s / pr ^ (i+1))+s / pr ^ i % pr):=by rw [h2]
 rw [Nat.mul_add,← Nat.mul_assoc,← Nat.pow_succ,Nat.mul_comm (pr ^ (i+1))] at h3
 unfold dig
 omega
theorem dig_of_cut {pr h q l i:Nat} (hq:q<pr) (hl:l<pr ^ i):dig pr (h*pr ^ (i+1)+pr ^ i*q+l) i=q:=by
 have hp:0<pr ^ i:=by omega
 unfold dig
 have e:h*pr ^ (i+1)+pr ^ i*q+l=l+pr ^ i*(h*pr+q):=by
  rw [Nat.mul_add,Nat.pow_succ,show pr ^ i*(h*pr)=h*(pr ^ i*pr) from by rw [Nat.mul_left_comm]];omega
 rw [e,Nat.add_mul_div_left _ _ hp,Nat.div_eq_of_lt hl,Nat.zero_add,Nat.add_comm,Nat.add_mul_mod_self_right,Nat.mod_eq_of_lt hq]
theorem dig_below {pr h q l i j:Nat} (hj:j<i):dig pr (h*pr ^ (i+1)+pr ^ i*q+l) j=dig pr l j:=by
 have key:∀ s,dig pr s j=s % pr ^ (j+1) / pr ^ j:=fun s=>by
  unfold dig
  rw [Nat.pow_succ,Nat.mod_mul_right_div_self]
 have e:h*pr ^ (i+1)+pr ^ i*q+l=l+pr ^ (j+1)*(pr ^ (i - j - 1)*(h*pr+q)):=by
  rw [← Nat.mul_assoc,← Nat.pow_add,show j+1+(i - j - 1)=i from by omega,Nat.mul_add,Nat.pow_succ,show pr ^ i*(h*pr)=h*(pr ^ i*pr) from by rw [Nat.mul_left_comm]];omega
 rw [key,key,e,Nat.add_mul_mod_self_left]
theorem cut_hi {pr h q l i:Nat} (hq:q<pr) (hl:l<pr ^ i):(h*pr ^ (i+1)+pr ^ i*q+l) / pr ^ (i+1)=h:=by
 have hp:0<pr ^ (i+1):=Nat.pow_pos (by omega)
 have hs:pr ^ i*q+l<pr ^ (i+1):=by
  have:pr ^ i*(q+1)≤pr ^ i*pr:=Nat.mul_le_mul_left _ hq
  rw [Nat.mul_add,Nat.mul_one] at this
  rw [Nat.pow_succ];omega
 rw [Nat.add_assoc,Nat.add_comm,Nat.add_mul_div_right _ _ hp,Nat.div_eq_of_lt hs,Nat.zero_add]
theorem dig_above {pr h q l i j:Nat} (hq:q<pr) (hl:l<pr ^ i) (hj:i<j):dig pr (h*pr ^ (i+1)+pr ^ i*q+l) j=dig pr h (j - (i+1)):=by
 obtain ⟨m,rfl⟩:∃ m,j=i+1+m:=⟨j - (i+1),by omega⟩
 unfold dig
 rw [show i+1+m - (i+1)=m from by omega,Nat.pow_add pr (i+1) m,← Nat.div_div_eq_div_mul,cut_hi hq hl]
theorem dig_put {pr s i q:Nat} (hp:0<pr) (h0:dig pr s i=0) (hq:q<pr):dig pr (s+pr ^ i*q) i=q∧∀ j,j ≠ i→dig pr (s+pr ^ i*q) j=dig pr s j:=by
  have hl:s % pr ^ i<pr ^ i:=Nat.mod_lt _ (Nat.pow_pos hp)
  have e:=dig_cut pr s i
  rw [h0,Nat.mul_zero,Nat.add_zero] at e
  have e2:s+pr ^ i*q=(s / pr ^ (i+1))*pr ^ (i+1)+pr ^ i*q+s % pr ^ i:=by omega
  have e0:s=(s / pr ^ (i+1))*pr ^ (i+1)+pr ^ i*0+s % pr ^ i:=by omega
  refine ⟨by rw [e2,dig_of_cut hq hl],fun j hj=>?_⟩
  rcases Nat.lt_or_ge j i with h1 | h1
  · rw [e2,dig_below h1]
    conv=>rhs;rw [e0,dig_below h1]
  · rw [e2,dig_above hq hl (by omega)]
    conv=>rhs;rw [e0,dig_above hp hl (by omega)]
theorem put_lt {pr s i q k:Nat} (hp:0<pr) (h0:dig pr s i=0) (hq:q<pr) (hi:i<k) (hs:s<pr ^ k):s+pr ^ i*q<pr ^ k:=by
 have hl:s % pr ^ i<pr ^ i:=Nat.mod_lt _ (Nat.pow_pos hp)
 have e:=dig_cut pr s i
 rw [h0,Nat.mul_zero,Nat.add_zero] at e
 have hh:s / pr ^ (i+1)<pr ^ (k - (i+1)):=Nat.div_lt_of_lt_mul (by rw [← Nat.pow_add,show i+1+(k - (i+1))=k from by omega];exact hs)
 have h1:(s / pr ^ (i+1)+1)*pr ^ (i+1)≤pr ^ (k - (i+1))*pr ^ (i+1):=Nat.mul_le_mul_right _ hh
 rw [← Nat.pow_add,show k - (i+1)+(i+1)=k from by omega,Nat.add_mul,Nat.one_mul] at h1
 have h2:pr ^ i*(q+1)≤pr ^ i*pr:=Nat.mul_le_mul_left _ hq
 rw [Nat.mul_add,Nat.mul_one,← Nat.pow_succ] at h2
 have h3:pr ^ i.succ=pr ^ (i+1):=rfl
 omega
theorem dig_zer {pr s i:Nat} (hp:0<pr):dig pr (zer pr s i) i=0∧∀ j,j ≠ i→dig pr (zer pr s i) j=dig pr s j:=by
 have hl:s % pr ^ i<pr ^ i:=Nat.mod_lt _ (Nat.pow_pos hp)
 have e:=dig_cut pr s i
 have hz:zer pr s i=(s / pr ^ (i+1))*pr ^ (i+1)+pr ^ i*0+s % pr ^ i:=by
  unfold zer
  rw [Nat.mul_zero,Nat.add_zero]
  have h9:=dig_le (pr:=pr) (s:=s) (i:=i)
  omega
 have h0:dig pr (zer pr s i) i=0:=by rw [hz,dig_of_cut hp hl]
 refine ⟨h0,fun j hj=>?_⟩
 have:=(dig_put (q:=dig pr s i) hp h0 (dig_lt hp)).2 j hj
 rw [zer_add] at this
 exact this.symm
theorem zer_iff {pr s t i:Nat} (hp:0<pr) (h0:dig pr t i=0):zer pr s i=t↔∃ q,q<pr∧s=t+pr ^ i*q:=by
  constructor
  · intro e
    exact ⟨dig pr s i,dig_lt hp,by rw [← e,zer_add]⟩
  · rintro ⟨q,hq,rfl⟩
    unfold zer
    rw [(dig_put hp h0 hq).1];omega
theorem zer_lt {pr s i k:Nat} (h:s<pr ^ k):zer pr s i<pr ^ k:=by unfold zer;omega
def xOf (nb d:Nat):Int:=if d=0 then -1 else (((d - 1) / nb:Nat):Int)
def yOf (nb d:Nat):Int:=if d=0 then -1 else (((d - 1) % nb:Nat):Int)
def pX (nb pr k s:Nat):List Int:=(List.range k).map fun i=>xOf nb (dig pr s i)
def pY (nb pr k s:Nat):List Int:=(List.range k).map fun i=>yOf nb (dig pr s i)
@[simp] theorem pX_len (nb pr k s:Nat):(pX nb pr k s).length=k:=by simp [pX]
@[simp] theorem pY_len (nb pr k s:Nat):(pY nb pr k s).length=k:=by simp [pY]
theorem pX_at {nb pr k s i:Nat} (h:i<k):(pX nb pr k s).getD i 0=xOf nb (dig pr s i):=by
 rw [getD_at (by rw [pX_len];exact h)];simp [pX]
theorem pY_at {nb pr k s i:Nat} (h:i<k):(pY nb pr k s).getD i 0=yOf nb (dig pr s i):=by
 rw [getD_at (by rw [pY_len];exact h)];simp [pY]
theorem set_ext {l m:List Int} {i:Nat} {x:Int} (hl:m.length=l.length) (hx:i<l.length→m.getD i 0=x) (hr:∀ j,j<l.length→j ≠ i→m.getD j 0=l.getD j 0):m=l.set i x:=by
  refine List.ext_getElem (by rw [List.length_set,hl]) fun j h1 h2=>?_
  rw [List.length_set] at h2
  rw [List.getElem_set]
  split
  · rename_i e
    subst e
    rw [← hx h2,getD_at h1]
  · rename_i e
    have:=hr j h2 (fun h=>e h.symm)
    rw [getD_at h1,getD_at h2] at this
    exact this
theorem pX_put {nb pr k s i x y:Nat} (hp:0<pr) (hi:i<k) (h0:dig pr s i=0) (hq:1+x*nb+y<pr) (hy:y<nb):pX nb pr k (s+pr ^ i*(1+x*nb+y))=(pX nb pr k s).set i (x:Int):=by
  obtain ⟨h1,h2⟩:=dig_put hp h0 hq
  refine set_ext (by simp) (fun _=>?_) fun j hj hne=>?_
  · rw [pX_at hi,h1]
    unfold xOf
    rw [if_neg (by omega),show 1+x*nb+y - 1=y+x*nb from by omega,Nat.add_mul_div_right _ _ (by omega),Nat.div_eq_of_lt hy,Nat.zero_add]
  · rw [pX_len] at hj
    rw [pX_at hj,pX_at hj,h2 j hne]
theorem pY_put {nb pr k s i x y:Nat} (hp:0<pr) (hi:i<k) (h0:dig pr s i=0) (hq:1+x*nb+y<pr) (hy:y<nb):pY nb pr k (s+pr ^ i*(1+x*nb+y))=(pY nb pr k s).set i (y:Int):=by
  obtain ⟨h1,h2⟩:=dig_put hp h0 hq
  refine set_ext (by simp) (fun _=>?_) fun j hj hne=>?_
  · rw [pY_at hi,h1]
    unfold yOf
    rw [if_neg (by omega),show 1+x*nb+y - 1=y+x*nb from by omega,Nat.add_mul_mod_self_right,Nat.mod_eq_of_lt hy]
  · rw [pY_len] at hj
    rw [pY_at hj,pY_at hj,h2 j hne]
theorem pX_zer {nb pr k s i:Nat} (hp:0<pr) {x:Int}:(pX nb pr k (zer pr s i)).set i x=(pX nb pr k s).set i x:=by
  obtain ⟨_,h2⟩:=dig_zer (s:=s) (i:=i) hp
  refine set_ext (by simp) (fun h=>?_) fun j hj hne=>?_
  · rw [pX_len] at h
    rw [List.getD_eq_getElem?_getD,List.getElem?_set_self (by rw [pX_len];exact h)];rfl
  · rw [pX_len] at hj
    rw [List.getD_eq_getElem?_getD,List.getElem?_set_ne (fun e=>hne e.symm),← List.getD_eq_getElem?_getD,pX_at hj,pX_at hj,h2 j hne]
theorem pY_zer {nb pr k s i:Nat} (hp:0<pr) {x:Int}:(pY nb pr k (zer pr s i)).set i x=(pY nb pr k s).set i x:=by
  obtain ⟨_,h2⟩:=dig_zer (s:=s) (i:=i) hp
  refine set_ext (by simp) (fun h=>?_) fun j hj hne=>?_
  · rw [pY_len] at h
    rw [List.getD_eq_getElem?_getD,List.getElem?_set_self (by rw [pY_len];exact h)];rfl
  · rw [pY_len] at hj
    rw [List.getD_eq_getElem?_getD,List.getElem?_set_ne (fun e=>hne e.symm),← List.getD_eq_getElem?_getD,pY_at hj,pY_at hj,h2 j hne]
def code (nb:Nat) (x y:Int):Nat:=if 0≤x then 1+x.toNat*nb+y.toNat else 0
def stU (nb pr:Nat) (xs ys:List Int) (k:Nat):Nat→Nat
 | 0=>0
 | j+1=>stU nb pr xs ys k j*pr+code nb (xs.getD (k - 1 - j) 0) (ys.getD (k - 1 - j) 0)
theorem stU_dig {nb pr k:Nat} {xs ys:List Int} (hc:∀ i:Nat,i<k→code nb (xs.getD i 0) (ys.getD i 0)<pr):∀ j:Nat,j≤k→∀ i:Nat,i<j→dig pr (stU nb pr xs ys k j) i=code nb (xs.getD (k - j+i) 0) (ys.getD (k - j+i) 0)
 | 0,_,i,hi=>absurd hi (by omega)
 | j+1,hj,i,hi=>by
  have hcj:=hc (k - 1 - j) (by omega)
  unfold stU
  cases i with
  | zero=>rw [dig_first hcj,show k - (j+1)+0=k - 1 - j from by omega]
  | succ i=>rw [dig_next hcj,stU_dig hc j (by omega) i (by omega),show k - (j+1)+(i+1)=k - j+i from by omega]
theorem stU_lt {nb pr k:Nat} {xs ys:List Int} (hc:∀ i:Nat,i<k→code nb (xs.getD i 0) (ys.getD i 0)<pr):∀ j:Nat,j≤k→stU nb pr xs ys k j<pr ^ j
 | 0,_=>Nat.one_pos
 | j+1,hj=>by
  have h1:=stU_lt hc j (by omega)
  have hcj:=hc (k - 1 - j) (by omega)
  have h2:(stU nb pr xs ys k j+1)*pr≤pr ^ j*pr:=Nat.mul_le_mul_right _ h1
  rw [Nat.add_mul,Nat.one_mul] at h2
  unfold stU
  rw [Nat.pow_succ];omega
end Go.Wk
namespace Go.Wk
open Go.RowKit
def prN (a b:St):Nat:=a.n.toNat*b.n.toNat+1
theorem prN_pos (a b:St):0<prN a b:=Nat.succ_pos _
theorem pair_lt {a b:St} {x y:Nat} (hx:x<a.n.toNat) (hy:y<b.n.toNat):1+x*b.n.toNat+y<prN a b:=by
 have:(x+1)*b.n.toNat≤a.n.toNat*b.n.toNat:=Nat.mul_le_mul_right _ hx
 rw [Nat.add_mul,Nat.one_mul] at this
 unfold prN;omega
theorem prN_le {a b:St} (ha:a.n.toNat≤8) (hb:b.n.toNat≤8):prN a b≤65:=by
 have:=Nat.mul_le_mul ha hb
 unfold prN;omega
theorem pow65 {p k:Nat} (h:p≤65) (hk:k≤3):p ^ k≤274625:=Nat.le_trans (Nat.pow_le_pow_left h k) (Nat.le_trans (Nat.pow_le_pow_right (by decide) hk) (by decide))
def stX (a b:St) (k s:Nat):List Int:=pX b.n.toNat (prN a b) k s
def stY (a b:St) (k s:Nat):List Int:=pY b.n.toNat (prN a b) k s
theorem dig_x {a b:St} {k s i:Nat} (h:i<k) : -1≤(stX a b k s).getD i 0∧(stX a b k s).getD i 0<(a.n.toNat:Int)∧((stX a b k s).getD i 0<0↔dig (prN a b) s i=0):=by
  have hd:=dig_lt (s:=s) (i:=i) (prN_pos a b)
  unfold stX
  rw [pX_at h]
  unfold xOf
  by_cases e:dig (prN a b) s i=0
  · rw [if_pos e];omega
  · rw [if_neg e]
    have h1:(dig (prN a b) s i - 1) / b.n.toNat<a.n.toNat:=Nat.div_lt_of_lt_mul (by rw [Nat.mul_comm];have hq:prN a b=a.n.toNat*b.n.toNat+1:=rfl;omega)
    generalize (dig (prN a b) s i - 1) / b.n.toNat=z at h1 ⊢
    omega
theorem dig_y {a b:St} {k s i:Nat} (hb:1≤b.n.toNat) (h:i<k) : -1≤(stY a b k s).getD i 0∧(stY a b k s).getD i 0<(b.n.toNat:Int)∧((stY a b k s).getD i 0<0↔dig (prN a b) s i=0):=by
  unfold stY
  rw [pY_at h]
  unfold yOf
  by_cases e:dig (prN a b) s i=0
  · rw [if_pos e];omega
  · rw [if_neg e]
    have h1:(dig (prN a b) s i - 1) % b.n.toNat<b.n.toNat:=Nat.mod_lt _ (by omega)
    omega
theorem stX_peb {a b:St} {k s:Nat}:Peb a.n.toNat k (stX a b k s):=by
 refine ⟨by unfold stX;simp,fun x hx=>?_⟩
 obtain ⟨i,hi,rfl⟩:=List.mem_iff_getElem.1 hx
 have:=dig_x (a:=a) (b:=b) (s:=s) (k:=k) (i:=i) (by unfold stX at hi;simpa using hi)
 rw [getD_at hi] at this
 omega
theorem stY_peb {a b:St} {k s:Nat} (hb:1≤b.n.toNat):Peb b.n.toNat k (stY a b k s):=by
 refine ⟨by unfold stY;simp,fun x hx=>?_⟩
 obtain ⟨i,hi,rfl⟩:=List.mem_iff_getElem.1 hx
 have:=dig_y (a:=a) (s:=s) hb (k:=k) (i:=i) (by unfold stY at hi;simpa using hi)
 rw [getD_at hi] at this
 omega
@[simp] theorem stX_len (a b:St) (k s:Nat):(stX a b k s).length=k:=by unfold stX;simp
@[simp] theorem stY_len (a b:St) (k s:Nat):(stY a b k s).length=k:=by unfold stY;simp
theorem st_signs {a b:St} {k s:Nat} (hb:1≤b.n.toNat):∀ i:Nat,i<k→((stX a b k s).getD i 0<0↔(stY a b k s).getD i 0<0):=fun _ hi =>
 (dig_x hi).2.2.trans (dig_y hb hi).2.2.symm
open Classical in
noncomputable def winAt (n:Nat) (a b:St) (k s:Nat):Bool:=decide (pW n a (stX a b k s) b (stY a b k s))
open Classical in
theorem winAt_true {n:Nat} {a b:St} {k s:Nat}:winAt n a b k s=true↔pW n a (stX a b k s) b (stY a b k s):=by
 unfold winAt;exact decide_eq_true_iff
noncomputable def WL (n:Nat) (a b:St) (k:Nat):List Bool:=(List.range (prN a b ^ k)).map (winAt n a b k)
@[simp] theorem WL_len (n:Nat) (a b:St) (k:Nat):(WL n a b k).length=prN a b ^ k:=by simp [WL]
theorem WL_at {n:Nat} {a b:St} {k s:Nat} (h:s<prN a b ^ k):(WL n a b k).getD s false=winAt n a b k s:=by
 rw [getD_at (by rw [WL_len];exact h)];simp [WL]
theorem win_zero {a b:St} {k s:Nat} (hb:1≤b.n.toNat):winAt 0 a b k s=sameB a (placed (stX a b k s) k) b (placed (stY a b k s) k):=by
 rw [Bool.eq_iff_iff,winAt_true]
 unfold pW
 rw [stX_len,stY_len]
 exact ⟨fun h=>h.2,fun h=>⟨st_signs hb,h⟩⟩
def Ans (W:Nat→Bool) (na nb rest step:Nat):Prop:=(∀ x:Nat,x<na→∃ y:Nat,y<nb∧W (rest+step*(1+x*nb+y))=true)∧∀ y:Nat,y<nb→∃ x:Nat,x<na∧W (rest+step*(1+x*nb+y))=true
theorem ans_iff {n:Nat} {a b:St} {k s i:Nat} (hi:i<k):Ans (winAt n a b k) a.n.toNat b.n.toNat (zer (prN a b) s i) (prN a b ^ i) ↔
    (∀ x:Nat,x<a.n.toNat→∃ y:Nat,y<b.n.toNat∧pW n a ((stX a b k s).set i (x:Int)) b ((stY a b k s).set i (y:Int)))∧(∀ y:Nat,y<b.n.toNat→∃ x:Nat,x<a.n.toNat∧pW n a ((stX a b k s).set i (x:Int)) b ((stY a b k s).set i (y:Int))):=by
  have hp:=prN_pos a b
  have key:∀ x y:Nat,x<a.n.toNat→y<b.n.toNat→(winAt n a b k (zer (prN a b) s i+prN a b ^ i*(1+x*b.n.toNat+y))=true↔pW n a ((stX a b k s).set i (x:Int)) b ((stY a b k s).set i (y:Int))):=fun x y hx hy=>by
    have h0:=(dig_zer (s:=s) (i:=i) hp).1
    rw [winAt_true]
    unfold stX stY
    rw [pX_put hp hi h0 (pair_lt hx hy) hy,pY_put hp hi h0 (pair_lt hx hy) hy,pX_zer hp,pY_zer hp]
  unfold Ans
  refine and_congr ?_ ?_
  · exact forall_congr' fun x=>imp_congr_right fun hx=>exists_congr fun y=>and_congr_right fun hy=>key x y hx hy
  · exact forall_congr' fun y=>imp_congr_right fun hy=>exists_congr fun x=>and_congr_right fun hx=>key x y hx hy
theorem pW_moves:∀ {n:Nat} {a:St} {xs:List Int} {b:St} {ys:List Int},pW 0 a xs b ys→(∀ i:Nat,i<xs.length→(∀ x:Nat,x<a.n.toNat→∃ y:Nat,y<b.n.toNat∧pW n a (xs.set i (x:Int)) b (ys.set i (y:Int)))∧(∀ y:Nat,y<b.n.toNat→∃ x:Nat,x<a.n.toNat∧pW n a (xs.set i (x:Int)) b (ys.set i (y:Int))))→pW n a xs b ys
 | 0,_,_,_,_,h,_=>h
 | n+1,a,xs,b,ys,h,hm=>by
  have hm':∀ i:Nat,i<xs.length→(∀ x:Nat,x<a.n.toNat→∃ y:Nat,y<b.n.toNat∧pW n a (xs.set i (x:Int)) b (ys.set i (y:Int)))∧(∀ y:Nat,y<b.n.toNat→∃ x:Nat,x<a.n.toNat∧pW n a (xs.set i (x:Int)) b (ys.set i (y:Int))):=fun i hi =>
   ⟨fun x hx=>((hm i hi).1 x hx).elim fun y hy=>⟨y,hy.1,hy.2.1⟩,fun y hy=>((hm i hi).2 y hy).elim fun x hx=>⟨x,hx.1,hx.2.1⟩⟩
  exact ⟨pW_moves h hm',hm'⟩
theorem win_step {n:Nat} {a b:St} {k s:Nat}:winAt (n+1) a b k s=true↔winAt 0 a b k s=true∧∀ i:Nat,i<k→Ans (winAt n a b k) a.n.toNat b.n.toNat (zer (prN a b) s i) (prN a b ^ i):=by
  rw [winAt_true,winAt_true]
  constructor
  · intro h
    refine ⟨?_,fun i hi=>(ans_iff hi).2 (h.2 i (by rw [stX_len];exact hi))⟩
    have:=pW_less (n:=0) (n+1) (by rw [Nat.zero_add];exact h)
    exact this
  · rintro ⟨h1,h2⟩
    have hm:∀ i:Nat,i<(stX a b k s).length→_:=fun i hi=>(ans_iff (n:=n) (s:=s) (by rw [stX_len] at hi;exact hi)).1 (h2 i (by rw [stX_len] at hi;exact hi))
    exact ⟨pW_moves h1 hm,hm⟩
theorem code_lt {a b:St} {k:Nat} {xs ys:List Int} (hx:Peb a.n.toNat k xs) (hy:Peb b.n.toNat k ys) (hs:∀ i:Nat,i<k→(xs.getD i 0<0↔ys.getD i 0<0)):∀ i:Nat,i<k→code b.n.toNat (xs.getD i 0) (ys.getD i 0)<prN a b:=fun i hi=>by
  obtain ⟨x1,x2⟩:=peb_at hx hi
  obtain ⟨y1,y2⟩:=peb_at hy hi
  have:=hs i hi
  unfold code
  split
  · exact pair_lt (by omega) (by omega)
  · exact prN_pos a b
theorem code_x {nb:Nat} {x y:Int} (h1 : -1≤x) (hs:x<0↔y<0) (hy:y<(nb:Int)):xOf nb (code nb x y)=x:=by
  unfold code
  split
  · unfold xOf
    rw [if_neg (by omega),show 1+x.toNat*nb+y.toNat - 1=y.toNat+x.toNat*nb from by omega,Nat.add_mul_div_right _ _ (by omega),Nat.div_eq_of_lt (by omega)]
    omega
  · unfold xOf;rw [if_pos rfl];omega
theorem code_y {nb:Nat} {x y:Int} (h1 : -1≤y) (hs:x<0↔y<0) (hy:y<(nb:Int)):yOf nb (code nb x y)=y:=by
  unfold code
  split
  · unfold yOf
    rw [if_neg (by omega),show 1+x.toNat*nb+y.toNat - 1=y.toNat+x.toNat*nb from by omega,Nat.add_mul_mod_self_right,Nat.mod_eq_of_lt (by omega)]
    omega
  · unfold yOf;rw [if_pos rfl];omega
def stN (a b:St) (xs ys:List Int):Nat:=stU b.n.toNat (prN a b) xs ys xs.length xs.length
theorem list_ext0 {l m:List Int} (hl:l.length=m.length) (h:∀ i:Nat,i<l.length→l.getD i 0=m.getD i 0):l=m:=by
 refine List.ext_getElem hl fun i h1 h2=>?_
 have:=h i h1
 rwa [getD_at h1,getD_at h2] at this
theorem stN_ok {a b:St} {xs ys:List Int} (hx:Peb a.n.toNat xs.length xs) (hy:Peb b.n.toNat xs.length ys) (hs:∀ i:Nat,i<xs.length→(xs.getD i 0<0↔ys.getD i 0<0)):stN a b xs ys<prN a b ^ xs.length∧stX a b xs.length (stN a b xs ys)=xs∧stY a b xs.length (stN a b xs ys)=ys:=by
  have hc:=code_lt hx hy hs
  refine ⟨stU_lt hc _ (Nat.le_refl _),list_ext0 (by simp) fun i hi=>?_,list_ext0 (by simp [hy.1]) fun i hi=>?_⟩
  · rw [stX_len] at hi
    unfold stX stN
    rw [pX_at hi,stU_dig hc _ (Nat.le_refl _) i hi,Nat.sub_self,Nat.zero_add]
    obtain ⟨x1,x2⟩:=peb_at hx hi
    obtain ⟨y1,y2⟩:=peb_at hy hi
    exact code_x x1 (hs i hi) y2
  · rw [stY_len] at hi
    unfold stY stN
    rw [pY_at hi,stU_dig hc _ (Nat.le_refl _) i hi,Nat.sub_self,Nat.zero_add]
    obtain ⟨x1,x2⟩:=peb_at hx hi
    obtain ⟨y1,y2⟩:=peb_at hy hi
    exact code_y y1 (hs i hi) y2
end Go.Wk
namespace Go.Wk
open Go.RowKit
def idxB (bs:List Bool) (y:Bool):Int:=if y∈bs then ((bs.findIdx (fun z=>y==z):Nat):Int) else -1
theorem idxB_at {bs:List Bool} {y:Bool} {k:Nat} (hk:k<bs.length) (h:∀ i:Nat,i<k→(y==bs.getD i false)=false) (hq:(y==bs.getD k false)=true):idxB bs y=k:=by
 rw [getD_at hk] at hq
 unfold idxB
 rw [if_pos (by rw [eq_of_beq hq];exact List.getElem_mem _)]
 congr 1
 rw [List.findIdx_eq hk]
 refine ⟨hq,fun j hj=>?_⟩
 have:=h j hj
 rwa [getD_at (by omega)] at this
theorem idxB_none {bs:List Bool} {y:Bool} (h:∀ i:Nat,i<bs.length→(y==bs.getD i false)=false):idxB bs y = -1:=by
 unfold idxB
 rw [if_neg fun hm=>?_]
 obtain ⟨i,hi,e⟩:=List.getElem_of_mem hm
 have:=h i hi
 rw [getD_at hi,e] at this
 simp at this
theorem idxB_has (bs:List Bool) (y:Bool):decide (0≤idxB bs y)=decide (y∈bs):=by
  unfold idxB
  by_cases h:y∈bs
  · rw [if_pos h];simp [h]
  · rw [if_neg h];simp [h]
theorem bools_same {xs ys:List Bool} (hl:xs.length=ys.length) (h:∀ i:Nat,i<xs.length→xs.getD i false=ys.getD i false):xs=ys:=by
 refine List.ext_getElem hl fun i h1 h2=>?_
 have:=h i h1
 rwa [getD_at h1,getD_at h2] at this
theorem set_at {l:List Bool} {i j:Nat} {b:Bool} (hi:i<l.length):(l.set i b).getD j false=if i=j then b else l.getD j false:=by
  rw [List.getD_eq_getElem?_getD,List.getElem?_set,List.getD_eq_getElem?_getD]
  by_cases e:i=j
  · subst e;simp [hi]
  · simp [e]
theorem all_in {l:List Bool}:decide (false∈l)=false↔∀ i:Nat,i<l.length→l.getD i false=true:=by
  rw [decide_eq_false_iff_not]
  constructor
  · intro h i hi
    rw [getD_at hi]
    cases e:l[i] with
    | true=>rfl
    | false=>exact absurd (by rw [← e];exact List.getElem_mem _) h
  · intro h hm
    obtain ⟨i,hi,e⟩:=List.getElem_of_mem hm
    have:=h i hi
    rw [getD_at hi,e] at this
    cases this
structure Marks (f:Nat→Nat→Bool) (na nb x y:Nat) (R C:List Bool):Prop where
 rl:R.length=na
 cl:C.length=nb
 rows:∀ i:Nat,i<na→(R.getD i false=true↔∃ j:Nat,j<nb∧(i<x∨i=x∧j<y)∧f i j=true)
 cols:∀ j:Nat,j<nb→(C.getD j false=true↔∃ i:Nat,i<na∧(i<x∨i=x∧j<y)∧f i j=true)
theorem marks_zero (f:Nat→Nat→Bool) (na nb:Nat):Marks f na nb 0 0 (List.replicate na false) (List.replicate nb false):=by
  refine ⟨by simp,by simp,fun i hi=>?_,fun j hj=>?_⟩
  · rw [getD_at (by simpa using hi)]
    simp
  · rw [getD_at (by simpa using hj)]
    simp
theorem marks_next {f:Nat→Nat→Bool} {na nb x:Nat} {R C:List Bool} (h:Marks f na nb x nb R C):Marks f na nb (x+1) 0 R C:=by
  refine ⟨h.rl,h.cl,fun i hi=>(h.rows i hi).trans ?_,fun j hj=>(h.cols j hj).trans ?_⟩
  · refine exists_congr fun j=>and_congr_right fun hj=>and_congr_left fun _=>?_
    omega
  · refine exists_congr fun i=>and_congr_right fun hi=>and_congr_left fun _=>?_
    omega
theorem marks_no {f:Nat→Nat→Bool} {na nb x y:Nat} {R C:List Bool} (h:Marks f na nb x y R C) (hf:f x y=false):Marks f na nb x (y+1) R C:=by
  refine ⟨h.rl,h.cl,fun i hi=>(h.rows i hi).trans ?_,fun j hj=>(h.cols j hj).trans ?_⟩
  · refine exists_congr fun j=>and_congr_right fun hj=>?_
    constructor
    · rintro ⟨h1,h2⟩;exact ⟨by omega,h2⟩
    · rintro ⟨h1,h2⟩
      refine ⟨?_,h2⟩
      rcases h1 with h1 | ⟨h1,h3⟩
      · exact .inl h1
      · by_cases e:j=y
        · subst e;subst h1;rw [hf] at h2;cases h2
        · exact .inr ⟨h1,by omega⟩
  · refine exists_congr fun i=>and_congr_right fun hi=>?_
    constructor
    · rintro ⟨h1,h2⟩;exact ⟨by omega,h2⟩
    · rintro ⟨h1,h2⟩
      refine ⟨?_,h2⟩
      rcases h1 with h1 | ⟨h1,h3⟩
      · exact .inl h1
      · by_cases e:j=y
        · subst e;subst h1;rw [hf] at h2;cases h2
        · exact .inr ⟨h1,by omega⟩
theorem marks_yes {f:Nat→Nat→Bool} {na nb x y:Nat} {R C:List Bool} (h:Marks f na nb x y R C) (hx:x<na) (hy:y<nb) (hf:f x y=true):Marks f na nb x (y+1) (R.set x true) (C.set y true):=by
  refine ⟨by rw [List.length_set];exact h.rl,by rw [List.length_set];exact h.cl,fun i hi=>?_,fun j hj=>?_⟩
  · rw [set_at (by rw [h.rl];exact hx)]
    by_cases e:x=i
    · subst e
      rw [if_pos rfl]
      exact ⟨fun _=>⟨y,hy,by omega,hf⟩,fun _=>rfl⟩
    · rw [if_neg e,h.rows i hi]
      refine exists_congr fun j=>and_congr_right fun hj=>and_congr_left fun _=>?_
      omega
  · rw [set_at (by rw [h.cl];exact hy)]
    by_cases e:y=j
    · subst e
      rw [if_pos rfl]
      exact ⟨fun _=>⟨x,hx,by omega,hf⟩,fun _=>rfl⟩
    · rw [if_neg e,h.cols j hj]
      refine exists_congr fun i=>and_congr_right fun hi=>and_congr_left fun _=>?_
      omega
open Classical in
noncomputable def ansB (W:Nat→Bool) (na nb rest step:Nat):Bool:=decide (Ans W na nb rest step)
open Classical in
theorem ansB_true {W:Nat→Bool} {na nb rest step:Nat}:ansB W na nb rest step=true↔Ans W na nb rest step:=by
 unfold ansB;exact decide_eq_true_iff
theorem marks_end {W:Nat→Bool} {na nb rest step:Nat} {R C:List Bool} (h:Marks (fun x y=>W (rest+step*(1+x*nb+y))) na nb na 0 R C):(!decide (false∈R)&&!decide (false∈C))=ansB W na nb rest step:=by
  rw [Bool.eq_iff_iff,ansB_true,Bool.and_eq_true,Bool.not_eq_true',Bool.not_eq_true',all_in,all_in,h.rl,h.cl]
  unfold Ans
  refine and_congr ?_ ?_
  · refine forall_congr' fun x=>imp_congr_right fun hx=>(h.rows x hx).trans (exists_congr fun y=>and_congr_right fun hy=>?_)
    exact ⟨fun e=>e.2,fun e=>⟨.inl hx,e⟩⟩
  · refine forall_congr' fun y=>imp_congr_right fun hy=>(h.cols y hy).trans (exists_congr fun x=>and_congr_right fun hx=>?_)
    exact ⟨fun e=>e.2,fun e=>⟨.inl hx,e⟩⟩
end Go.Wk
namespace Go.Wk
open Go.RowKit
theorem mul65 {x p:Nat} (hx:x≤274625) (hp:p≤65):0≤(x:Int)*(p:Int)∧(x:Int)*(p:Int)≤17850625:=by
 have:=Nat.mul_le_mul hx hp
 rw [← Int.natCast_mul];omega
theorem mul8 {x y:Int} (hx:0≤x) (hx8:x<8) (hy:0≤y) (hy8:y≤8):0≤x*y∧x*y≤64 :=
 ⟨Int.mul_nonneg hx hy,Int.le_trans (Int.mul_le_mul_of_nonneg_right (show x≤8 by omega) hy) (by omega)⟩
theorem stU_pos {b:St} {pr k j:Nat} {xs ys:List Int} (h:0≤xs.getD (k - 1 - j) 0) (hy:0≤ys.getD (k - 1 - j) 0) (hb:0≤b.n):((stU b.n.toNat pr xs ys k (j+1):Nat):Int)=((stU b.n.toNat pr xs ys k j:Nat):Int)*(pr:Int)+((1+xs.getD (k - 1 - j) 0*b.n)+ys.getD (k - 1 - j) 0):=by
 rw [stU,code,if_pos h,Int.natCast_add,Int.natCast_mul,Int.natCast_add,Int.natCast_add,Int.natCast_mul,Int.toNat_of_nonneg h,Int.toNat_of_nonneg hy,Int.toNat_of_nonneg hb]
 rfl
theorem stU_neg {nb pr k j:Nat} {xs ys:List Int} (h:¬ 0≤xs.getD (k - 1 - j) 0):((stU nb pr xs ys k (j+1):Nat):Int)=((stU nb pr xs ys k j:Nat):Int)*(pr:Int):=by
 rw [stU,code,if_neg h,Nat.add_zero,Int.natCast_mul]
end Go.Wk
namespace Go.Wk
theorem beq_no {xs ys:List Bool} (h:xs ≠ ys):(xs==ys)=false:=by simpa using h
end Go.Wk
namespace Go.Wk
open Go.RowKit
structure TurnAt (fit W:Nat→Bool) (a b:St) (k i S:Nat) (X:List Bool):Prop where
 len:X.length=prN a b ^ k
 at_:∀ s:Nat,s<prN a b ^ k→(X.getD s false=true↔fit s=true∧(∀ j:Nat,j<i→Ans W a.n.toNat b.n.toNat (zer (prN a b) s j) (prN a b ^ j))∧(zer (prN a b) s i<S→Ans W a.n.toNat b.n.toNat (zer (prN a b) s i) (prN a b ^ i)))
theorem turn_zero {W:Nat→Bool} {a b:St} {k:Nat} {X:List Bool} (h:X.length=prN a b ^ k):TurnAt (fun s=>X.getD s false) W a b k 0 0 X :=
 ⟨h,fun s _=>⟨fun e=>⟨e,fun j hj=>absurd hj (by omega),fun h=>absurd h (by omega)⟩,fun e=>e.1⟩⟩
theorem turn_round {fit W:Nat→Bool} {a b:St} {k i:Nat} {X:List Bool} (h:TurnAt fit W a b k i (prN a b ^ k) X):TurnAt fit W a b k (i+1) 0 X :=
  ⟨h.len,fun s hs=>(h.at_ s hs).trans (and_congr_right fun _=>⟨fun e=>⟨fun j hj=>by
    rcases Nat.lt_or_ge j i with h1 | h1
    · exact e.1 j h1
    · rw [show j=i from by omega];exact e.2 (zer_lt hs),fun h=>absurd h (by omega)⟩,fun e=>⟨fun j hj=>e.1 j (by omega),fun _=>e.1 i (by omega)⟩⟩)⟩
theorem turn_skip {fit W:Nat→Bool} {a b:St} {k i S:Nat} {X:List Bool} (h:TurnAt fit W a b k i S X) (hd:dig (prN a b) S i ≠ 0):TurnAt fit W a b k i (S+1) X :=
 ⟨h.len,fun s hs=>(h.at_ s hs).trans (and_congr_right fun _=>and_congr_right fun _=>by
  have hne:zer (prN a b) s i ≠ S:=fun e=>hd (by rw [← e];exact (dig_zer (prN_pos a b)).1)
  exact ⟨fun e h1=>e (by omega),fun e h1=>e (by omega)⟩)⟩
theorem turn_yes {fit W:Nat→Bool} {a b:St} {k i S:Nat} {X:List Bool} (h:TurnAt fit W a b k i S X) (hA:Ans W a.n.toNat b.n.toNat S (prN a b ^ i)):TurnAt fit W a b k i (S+1) X :=
  ⟨h.len,fun s hs=>(h.at_ s hs).trans (and_congr_right fun _=>and_congr_right fun _=>by
    refine ⟨fun e h1=>?_,fun e h1=>e (by omega)⟩
    by_cases hz:zer (prN a b) s i=S
    · rw [hz];exact hA
    · exact e (by omega))⟩
structure Cleared (X0 X:List Bool) (S step Q:Nat):Prop where
 len:X.length=X0.length
 at_:∀ s:Nat,s<X0.length→(X.getD s false=true↔X0.getD s false=true∧¬ ∃ q,q<Q∧s=S+step*q)
theorem clear_zero (X:List Bool) (S step:Nat):Cleared X X S step 0:=⟨rfl,fun s _=>⟨fun e=>⟨e,fun ⟨q,hq,_⟩=>absurd hq (by omega)⟩,fun e=>e.1⟩⟩
theorem clear_next {X0 X:List Bool} {S step Q:Nat} (h:Cleared X0 X S step Q) (hl:S+step*Q<X0.length):Cleared X0 (X.set (S+step*Q) false) S step (Q+1):=by
  refine ⟨by rw [List.length_set];exact h.len,fun s hs=>?_⟩
  rw [set_at (by rw [h.len];exact hl)]
  by_cases e:S+step*Q=s
  · rw [if_pos e]
    exact ⟨(fun h=>by cases h),fun h=>absurd ⟨Q,by omega,e.symm⟩ h.2⟩
  · rw [if_neg e,h.at_ s hs]
    refine and_congr_right fun _=>not_congr ⟨fun ⟨q,h1,h2⟩=>⟨q,by omega,h2⟩,fun ⟨q,h1,h2⟩=>⟨q,?_,h2⟩⟩
    rcases Nat.lt_or_ge q Q with h3 | h3
    · exact h3
    · exact absurd (by rw [h2,show q=Q from by omega]) e
theorem turn_no {fit W:Nat→Bool} {a b:St} {k i S:Nat} {X X':List Bool} (h:TurnAt fit W a b k i S X) (hd:dig (prN a b) S i=0) (hA:¬ Ans W a.n.toNat b.n.toNat S (prN a b ^ i)) (hc:Cleared X X' S (prN a b ^ i) (prN a b)):TurnAt fit W a b k i (S+1) X':=by
  refine ⟨hc.len.trans h.len,fun s hs=>?_⟩
  rw [hc.at_ s (by rw [h.len];exact hs),h.at_ s hs,← zer_iff (prN_pos a b) hd]
  constructor
  · rintro ⟨⟨h1,h2,h3⟩,h4⟩
    exact ⟨h1,h2,fun h5=>h3 (by omega)⟩
  · rintro ⟨h1,h2,h3⟩
    refine ⟨⟨h1,h2,fun h5=>h3 (by omega)⟩,fun e=>hA ?_⟩
    have:=h3 (by omega)
    rwa [e] at this
theorem ans_wl {n:Nat} {a b:St} {k s j:Nat} (hj:j<k) (hs:s<prN a b ^ k):Ans (fun s=>(WL n a b k).getD s false) a.n.toNat b.n.toNat (zer (prN a b) s j) (prN a b ^ j)↔Ans (winAt n a b k) a.n.toNat b.n.toNat (zer (prN a b) s j) (prN a b ^ j):=by
 have key:∀ x y:Nat,x<a.n.toNat→y<b.n.toNat→((WL n a b k).getD (zer (prN a b) s j+prN a b ^ j*(1+x*b.n.toNat+y)) false=true↔winAt n a b k (zer (prN a b) s j+prN a b ^ j*(1+x*b.n.toNat+y))=true):=fun x y hx hy=>by
  rw [WL_at (put_lt (prN_pos a b) (dig_zer (prN_pos a b)).1 (pair_lt hx hy) hj (zer_lt hs))]
 unfold Ans
 exact and_congr (forall_congr' fun x=>imp_congr_right fun hx=>exists_congr fun y=>and_congr_right fun hy=>key x y hx hy) (forall_congr' fun y=>imp_congr_right fun hy=>exists_congr fun x=>and_congr_right fun hx=>key x y hx hy)
theorem turn_end {n:Nat} {a b:St} {k:Nat} {X:List Bool} (h:TurnAt (fun s=>(WL 0 a b k).getD s false) (fun s=>(WL n a b k).getD s false) a b k k 0 X):X=WL (n+1) a b k:=by
 refine bools_same (by rw [h.len,WL_len]) fun s hs=>?_
 rw [h.len] at hs
 rw [WL_at hs,Bool.eq_iff_iff,h.at_ s hs,win_step,WL_at hs]
 exact and_congr_right fun _=>⟨fun e i hi=>(ans_wl hi hs).1 (e.1 i hi),fun e=>⟨fun i hi=>(ans_wl hi hs).2 (e i hi),fun h=>absurd h (by omega)⟩⟩
end Go.Wk
namespace Go.Wk
open Go.RowKit
theorem dig_down {p s i:Nat}:s / p ^ (i+1)=s / p ^ i / p:=by rw [Nat.pow_succ,Nat.div_div_eq_div_mul]
theorem dig_xv {a b:St} {k s i:Nat} (h:i<k) (hd:0<dig (prN a b) s i) {n:Int} (hn:n=b.n) (hb:0≤b.n):Value.int .i64 ((((dig (prN a b) s i:Nat):Int) - 1) / n)=Value.int .i64 ((stX a b k s).getD i 0):=by
 unfold stX
 rw [pX_at h,xOf,if_neg (by omega),hn,Int.natCast_ediv,show (((dig (prN a b) s i - 1:Nat):Int))=(dig (prN a b) s i:Int) - 1 from by omega,Int.toNat_of_nonneg hb]
theorem dig_yv {a b:St} {k s i:Nat} (h:i<k) (hd:0<dig (prN a b) s i) {n:Int} (hn:n=b.n) (hb:0≤b.n):Value.int .i64 ((((dig (prN a b) s i:Nat):Int) - 1) % n)=Value.int .i64 ((stY a b k s).getD i 0):=by
 unfold stY
 rw [pY_at h,yOf,if_neg (by omega),hn,Int.natCast_emod,show (((dig (prN a b) s i - 1:Nat):Int))=(dig (prN a b) s i:Int) - 1 from by omega,Int.toNat_of_nonneg hb]
end Go.Wk
namespace Go.Wk
open Go.RowKit
theorem row_put {u:Array Value} {L off:Nat} {X:List Bool} {b:Bool} (h:u.toList.take L=bools X):(u.setIfInBounds off (.bool b)).toList.take L=bools (X.set off b):=by
 rw [Array.toList_setIfInBounds,List.take_set,h]
 simp [bools,List.map_set]
end Go.Wk
namespace Go.Wk
open Go.RowKit
theorem winAt_less {n:Nat} {a b:St} {k s:Nat} (h:winAt (n+1) a b k s=true):winAt n a b k s=true:=winAt_true.2 (winAt_true.1 h).1
theorem wl_less {n:Nat} {a b:St} {k:Nat} (s:Nat) (h:(WL (n+1) a b k).getD s false=true):(WL n a b k).getD s false=true:=by
  rcases Nat.lt_or_ge s (prN a b ^ k) with h1 | h1
  · rw [WL_at h1] at h ⊢;exact winAt_less h
  · rw [List.getD_eq_getElem?_getD,List.getElem?_eq_none (by rw [WL_len];exact h1)] at h;cases h
def nT:List Bool→Nat
 | []=>0
 | x::X=>(if x then 1 else 0)+nT X
theorem nT_le:∀ {X Y:List Bool},X.length=Y.length→(∀ s:Nat,X.getD s false=true→Y.getD s false=true)→nT X≤nT Y∧(X ≠ Y→nT X<nT Y)
  | [],[],_,_=>⟨Nat.le_refl _,fun h=>absurd rfl h⟩
  | [],_::_,h,_=>by cases h
  | _::_,[],h,_=>by cases h
  | x::X,y::Y,hl,h=>by
    obtain ⟨h1,h2⟩:=nT_le (X:=X) (Y:=Y) (by simpa using hl) (fun s hs=>h (s+1) hs)
    have h0:x=true→y=true:=h 0
    unfold nT
    cases x <;> cases y
    · exact ⟨by simpa using h1,fun hne=>by simpa using h2 (fun e=>hne (by rw [e]))⟩
    · refine ⟨?_,fun _=>?_⟩ <;> simp <;> omega
    · cases h0 rfl
    · exact ⟨by simpa using h1,fun hne=>by simpa using h2 (fun e=>hne (by rw [e]))⟩
theorem wl_down {n:Nat} {a b:St} {k:Nat} (h:¬ WL (n+1) a b k=WL n a b k):nT (WL (n+1) a b k)<nT (WL n a b k) :=
 (nT_le (by rw [WL_len,WL_len]) (fun s=>wl_less s)).2 h
theorem wl_next {n m:Nat} {a b:St} {k:Nat} (h:WL n a b k=WL m a b k):WL (n+1) a b k=WL (m+1) a b k:=by
 refine bools_same (by rw [WL_len,WL_len]) fun s hs=>?_
 rw [WL_len] at hs
 rw [WL_at hs,WL_at hs,Bool.eq_iff_iff,win_step,win_step]
 refine and_congr_right fun _=>forall_congr' fun i=>imp_congr_right fun hi=>?_
 rw [← ans_wl hi hs,← ans_wl hi hs,h]
theorem wl_all {n:Nat} {a b:St} {k:Nat} (h:WL (n+1) a b k=WL n a b k):∀ m:Nat,WL (n+m) a b k=WL n a b k
 | 0=>rfl
 | m+1=>(wl_next (wl_all h m)).trans h
theorem wl_ever {n:Nat} {a b:St} {k s:Nat} (h:WL (n+1) a b k=WL n a b k) (hs:s<prN a b ^ k):(WL (n+1) a b k).getD s false=true↔∀ m:Nat,winAt m a b k s=true:=by
  constructor
  · intro e m
    rw [h] at e
    have h1:(WL (n+m) a b k).getD s false=true:=by rw [wl_all h m];exact e
    rw [WL_at hs,winAt_true,Nat.add_comm n m] at h1
    exact winAt_true.2 (pW_less n h1)
  · intro e;rw [WL_at hs];exact e (n+1)
theorem ready_state {a b:St} {xs ys:List Int} (hr:readyB a xs b ys=true):stN a b xs ys<prN a b ^ xs.length∧stX a b xs.length (stN a b xs ys)=xs∧stY a b xs.length (stN a b xs ys)=ys:=by
 obtain ⟨_,_,_,_,_,hx,hy⟩:=ready_peb hr
 obtain ⟨_,_,_,hsg⟩:=readyB_true hr
 exact stN_ok hx hy (signsB_true hsg)
open Classical in
theorem ever_code {n:Nat} {a b:St} {xs ys:List Int} (hr:readyB a xs b ys=true) (h:WL (n+1) a b xs.length=WL n a b xs.length):(WL (n+1) a b xs.length).getD (stN a b xs ys) false=pebEverB a xs b ys:=by
 obtain ⟨hs,ex,ey⟩:=ready_state hr
 rw [Bool.eq_iff_iff,wl_ever h hs]
 unfold pebEverB pWinB
 rw [hr,if_neg (by omega),Bool.true_and,decide_eq_true_eq]
 unfold pF
 exact forall_congr' fun m=>by rw [winAt_true,ex,ey]
open Classical in
theorem win_code {t:Int} {a b:St} {xs ys:List Int} (hr:readyB a xs b ys=true) (h0:0≤t) (h4:t≤4):(WL t.toNat a b xs.length).getD (stN a b xs ys) false=pebWinB a xs b ys t:=by
 obtain ⟨hs,ex,ey⟩:=ready_state hr
 unfold pebWinB pWinB
 rw [hr,show inB t 0 4=true from by unfold inB;simp;omega,if_pos (by omega),Bool.true_and,Bool.true_and,WL_at hs,Bool.eq_iff_iff,winAt_true,decide_eq_true_eq,ex,ey]
def bes (k:Nat):List Int:=List.replicate k (-1)
@[simp] theorem bes_len (k:Nat):(bes k).length=k:=List.length_replicate
theorem bes_peb (size k:Nat):Peb size k (bes k):=⟨bes_len k,fun x hx=>by rw [List.eq_of_mem_replicate hx];omega⟩
theorem bes_at {k i:Nat} (h:i<k):(bes k).getD i 0 = -1:=by
 rw [getD_at (by rw [bes_len];exact h)];simp [bes]
theorem dig_zero (p i:Nat):dig p 0 i=0:=by unfold dig;simp
theorem stX_zero (a b:St) (k:Nat):stX a b k 0=bes k:=list_ext0 (by simp) fun i hi=>by
  rw [stX_len] at hi
  rw [bes_at hi];unfold stX;rw [pX_at hi,dig_zero];rfl
theorem stY_zero (a b:St) (k:Nat):stY a b k 0=bes k:=list_ext0 (by simp) fun i hi=>by
  rw [stY_len] at hi
  rw [bes_at hi];unfold stY;rw [pY_at hi,dig_zero];rfl
theorem wl_first {n:Nat} {a b:St} {k:Nat}:(WL n a b k).getD 0 false=true↔pW n a (bes k) b (bes k):=by
 rw [WL_at (Nat.pow_pos (prN_pos a b)),winAt_true,stX_zero,stY_zero]
theorem idxP_bes (size:Nat):∀ k:Nat,idxP size (bes k)=0
 | 0=>rfl
 | k+1=>by
  have:bes (k+1)=bes k++[-1]:=by unfold bes;rw [List.replicate_succ']
  rw [this,idxP_snoc,idxP_bes size k];simp
def Turns (a b:St) (k:Nat) (t:Int):Prop:=(∃ n:Nat,t=(n:Int)∧¬ pW n a (bes k) b (bes k)∧∀ m:Nat,m<n→pW m a (bes k) b (bes k))∨(t = -1∧pF a (bes k) b (bes k))
theorem turns_one {a b:St} {k:Nat} {t u:Int} (h:Turns a b k t) (h':Turns a b k u):t=u:=by
  rcases h with ⟨n,rfl,h1,h2⟩ | ⟨rfl,h1⟩ <;> rcases h' with ⟨m,rfl,h3,h4⟩ | ⟨rfl,h3⟩
  · rcases Nat.lt_trichotomy n m with e | e | e
    · exact absurd (h4 n e) h1
    · rw [e]
    · exact absurd (h2 m e) h3
  · exact absurd (h3 n) h1
  · exact absurd (h1 m) h3
  · rfl
open Classical in
noncomputable def turnsP (a b:St) (k:Nat):Int:=if h:∃ t,Turns a b k t then h.choose else 0
theorem turns_of {a b:St} {k:Nat} {t:Int} (h:Turns a b k t):turnsP a b k=t:=by
 have e:∃ t,Turns a b k t:=⟨t,h⟩
 unfold turnsP
 rw [dif_pos e]
 exact turns_one e.choose_spec h
noncomputable def turnsB (a b:St) (p:Int):Int:=if validB a&&validB b&&inB p 1 3 then turnsP a b p.toNat else -2
theorem placed_bes {k:Nat}:∀ j:Nat,j≤k→placed (bes k) j=[]
 | 0,_=>rfl
 | j+1,h=>by
  unfold placed
  rw [if_pos (by rw [bes_at (by omega)];decide),placed_bes j (by omega)]
theorem pW_first {a b:St} {k:Nat}:pW 0 a (bes k) b (bes k):=by
 refine ⟨fun _ _=>Iff.rfl,?_⟩
 rw [placed_bes _ (by rw [bes_len];exact Nat.le_refl _)];rfl
theorem turns_won {n:Nat} {a b:St} {k:Nat} (h:¬ pW (n+1) a (bes k) b (bes k)) (hb:pW n a (bes k) b (bes k)):Turns a b k ((n:Int)+1) :=
  .inl ⟨n+1,by omega,h,fun m hm=>by
    have:pW (m+(n - m)) a (bes k) b (bes k):=by rw [show m+(n - m)=n from by omega];exact hb
    exact pW_less _ this⟩
theorem turns_never {n:Nat} {a b:St} {k:Nat} (h:WL (n+1) a b k=WL n a b k) (h0:(WL (n+1) a b k).getD 0 false=true):Turns a b k (-1) :=
 .inr ⟨rfl,fun m=>by
  have:=(wl_ever h (Nat.pow_pos (prN_pos a b))).1 h0 m
  rwa [winAt_true,stX_zero,stY_zero] at this⟩
end Go.Wk
namespace Go.Wk
open Go.RowKit
theorem signsB_of {xs ys:List Int} (h:∀ i:Nat,i<xs.length→(xs.getD i 0<0↔ys.getD i 0<0)):signsB xs ys=true:=by
 unfold signsB
 rw [List.all_eq_true]
 intro i hi
 have:=h i (List.mem_range.1 hi)
 simp only [this,beq_self_eq_true]
theorem pebB_of {a:St} {xs:List Int} (hv:validB a=true) (h1:1≤xs.length) (h3:xs.length≤3) (h:Peb a.n.toNat xs.length xs):pebB a xs=true:=by
 have ha:=validB_fine hv
 have:=ha.lo
 unfold pebB inB
 simp only [Bool.and_eq_true,decide_eq_true_eq]
 refine ⟨⟨hv,by omega,by omega⟩,List.all_eq_true.2 fun x hx=>?_⟩
 have:=h.2 x hx
 simp only [Bool.and_eq_true,decide_eq_true_eq]
 omega
theorem readyB_of {a b:St} {xs ys:List Int} (hVa:validB a=true) (hVb:validB b=true) (h1:1≤xs.length) (h3:xs.length≤3) (hx:Peb a.n.toNat xs.length xs) (hy:Peb b.n.toNat xs.length ys) (hs:∀ i:Nat,i<xs.length→(xs.getD i 0<0↔ys.getD i 0<0)):readyB a xs b ys=true:=by
 have hl:ys.length=xs.length:=hy.1
 unfold readyB
 simp only [Bool.and_eq_true,decide_eq_true_eq]
 exact ⟨⟨⟨pebB_of hVa h1 h3 hx,pebB_of hVb (by omega) (by omega) (by rw [hl];exact hy)⟩,by omega⟩,signsB_of hs⟩
theorem pebWin_at {a b:St} {xs ys:List Int} {t:Int} (h:readyB a xs b ys=true) (h0:0≤t) (h4:t≤4):pebWinB a xs b ys t=true↔pW t.toNat a xs b ys:=by
 unfold pebWinB pWinB
 rw [h,show inB t 0 4=true from by unfold inB;simp;omega,if_pos (by omega)]
 simp
theorem pebEver_at {a b:St} {xs ys:List Int} (h:readyB a xs b ys=true):pebEverB a xs b ys=true↔pF a xs b ys:=by
 unfold pebEverB pWinB
 rw [h,if_neg (by omega)]
 simp
theorem bes_ready {a b:St} {k:Nat} (hVa:validB a=true) (hVb:validB b=true) (h1:1≤k) (h3:k≤3):readyB a (bes k) b (bes k)=true :=
 readyB_of hVa hVb (by rw [bes_len];exact h1) (by rw [bes_len];exact h3) (by rw [bes_len];exact bes_peb _ _) (by rw [bes_len];exact bes_peb _ _) fun _ _=>Iff.rfl
theorem placed_same {xs zs:List Int}:∀ {i:Nat},i≤xs.length→placed (xs++zs) i=placed xs i
 | 0,_=>rfl
 | i+1,h=>by
  unfold placed
  rw [placed_same (by omega),List.getD_eq_getElem?_getD,List.getElem?_append_left (by omega),← List.getD_eq_getElem?_getD]
theorem sign_app {xs ys:List Int} {x y:Int} (hl:xs.length=ys.length) (h:∀ i:Nat,i<(xs++[x]).length→((xs++[x]).getD i 0<0↔(ys++[y]).getD i 0<0)):∀ i:Nat,i<xs.length→(xs.getD i 0<0↔ys.getD i 0<0):=fun i hi=>by
 have:=h i (by rw [List.length_append];omega)
 rwa [List.getD_eq_getElem?_getD,List.getElem?_append_left hi,List.getD_eq_getElem?_getD,List.getElem?_append_left (by omega),← List.getD_eq_getElem?_getD,← List.getD_eq_getElem?_getD] at this
theorem pW_drop:∀ {n:Nat} {a b:St} {xs ys:List Int} {x y:Int},xs.length=ys.length→pW n a (xs++[x]) b (ys++[y])→pW n a xs b ys
  | 0,a,b,xs,ys,x,y,hl,h=>by
    obtain ⟨h1,h2⟩:=h
    have hs:=sign_app hl h1
    refine ⟨hs,?_⟩
    have he:(placed xs xs.length).length=(placed ys ys.length).length:=by rw [← hl];exact placed_len _ hs
    have hx:=h1 xs.length (by simp)
    rw [List.length_append,List.length_append,List.length_singleton,List.length_singleton,placed,placed,placed_same (Nat.le_refl _),placed_same (Nat.le_refl _)] at h2
    rw [← hl] at h2
    by_cases e:(xs++[x]).getD xs.length 0<0
    · rw [if_pos e,if_pos (hx.1 e)] at h2
      rw [← hl];exact h2
    · rw [if_neg e,if_neg (fun h=>e (hx.2 h)),same_more (by rw [he,hl]),Bool.and_eq_true] at h2
      rw [← hl];exact h2.1
  | n+1,a,b,xs,ys,x,y,hl,h=>by
    refine ⟨pW_drop hl h.1,fun i hi=>?_⟩
    obtain ⟨h1,h2⟩:=h.2 i (by rw [List.length_append];omega)
    refine ⟨fun u hu=>(h1 u hu).elim fun v hv=>⟨v,hv.1,?_⟩,fun v hv=>(h2 v hv).elim fun u hu=>⟨u,hu.1,?_⟩⟩
    · have:=hv.2
      rw [List.set_append_left _ _ hi,List.set_append_left _ _ (by omega)] at this
      exact pW_drop (by simp [hl]) this
    · have:=hu.2
      rw [List.set_append_left _ _ hi,List.set_append_left _ _ (by omega)] at this
      exact pW_drop (by simp [hl]) this
theorem bes_snoc (k:Nat):bes (k+1)=bes k++[-1]:=by unfold bes;rw [List.replicate_succ']
theorem bes_fewer {n k:Nat} {a b:St} (h:pW n a (bes (k+1)) b (bes (k+1))):pW n a (bes k) b (bes k):=by
 rw [bes_snoc] at h;exact pW_drop rfl h
end Go.Wk
namespace Go.Wk
open Go.RowKit
theorem nT_len:∀ X:List Bool,nT X≤X.length
 | []=>Nat.le_refl _
 | x::X=>by
  have:=nT_len X
  unfold nT
  rw [List.length_cons]
  split <;> omega
theorem lev_first {n k K:Nat} {a b:St} {Ra Rb:List Int} (hl:LevP n k a b Ra Rb K):Ra.getD 0 0=Rb.getD 0 0↔pW n a (bes k) b (bes k):=by
 have:=hl.good.ab _ _ (bes_peb _ _) (bes_peb _ _)
 unfold numP at this
 rwa [idxP_bes,idxP_bes] at this
open Classical in
theorem levs_never {k m:Nat} {a b:St} {A B:List (List Int)} (h:Levs k 2000 a b A B m (m - 1)) (he:LevEnds k 2000 a b m) (hall:pW m a (bes k) b (bes k)):Turns a b k (-1):=by
 obtain ⟨K,_,hl⟩:=h.at (Nat.le_refl m)
 have h1:=levs_end h he (.inr rfl) (bes_peb _ k) (bes_peb _ k)
 rw [decide_eq_true ((hl.good.ab _ _ (bes_peb _ _) (bes_peb _ _)).2 hall)] at h1
 unfold pWinB at h1
 rw [if_neg (by omega)] at h1
 exact .inr ⟨rfl,of_decide_eq_true h1.symm⟩
theorem turns_at {n:Nat} {a b:St} {k:Nat} (h:¬ pW n a (bes k) b (bes k)) (hall:∀ i:Nat,i<n→pW i a (bes k) b (bes k)):Turns a b k (n:Int):=.inl ⟨n,rfl,h,hall⟩
theorem turnsB_yes {a b:St} {k:Nat} {t:Int} (hVa:validB a=true) (hVb:validB b=true) (h1:1≤k) (h3:k≤3) (h:Turns a b k t):turnsB a b (k:Int)=t:=by
 unfold turnsB inB
 rw [if_pos (by simp [hVa,hVb];omega)]
 exact turns_of h
end Go.Wk
namespace Go.Wk
open Go.RowKit
theorem turnsB_ok {a b:St} {q:Int} (h:¬ turnsB a b q = -2):validB a=true∧validB b=true∧1≤q∧q≤3:=by
  unfold turnsB at h
  by_cases hc:(validB a&&validB b&&inB q 1 3)=true
  · unfold inB at hc
    simp only [Bool.and_eq_true,decide_eq_true_eq] at hc
    exact ⟨hc.1.1,hc.1.2,hc.2.1,hc.2.2⟩
  · rw [if_neg hc] at h;exact absurd rfl h
theorem least_of {P:Nat→Prop}:∀ n:Nat,P n→∃ m:Nat,P m∧∀ i:Nat,i<m→¬ P i
  | 0,h=>⟨0,h,fun i hi=>absurd hi (by omega)⟩
  | n+1,h=>by
    by_cases hp:∃ i:Nat,i≤n∧P i
    · have key:∀ k:Nat,k≤n→P k→∃ m:Nat,P m∧∀ i:Nat,i<m→¬ P i:=fun k=>by
        induction k using Nat.strongRecOn with
        | ind k ih =>
          intro hk hpk
          by_cases h2:∃ i:Nat,i<k∧P i
          · obtain ⟨i,hi,hpi⟩:=h2
            exact ih i hi (by omega) hpi
          · exact ⟨k,hpk,fun i hi hpi=>h2 ⟨i,hi,hpi⟩⟩
      obtain ⟨i,hi,hpi⟩:=hp
      exact key i hi hpi
    · exact ⟨n+1,h,fun i hi hpi=>hp ⟨i,by omega,hpi⟩⟩
theorem turns_ex (a b:St) (k:Nat):∃ t,Turns a b k t:=by
  by_cases h:∃ n:Nat,¬ pW n a (bes k) b (bes k)
  · obtain ⟨n,hn⟩:=h
    obtain ⟨m,h1,h2⟩:=least_of (P:=fun n=>¬ pW n a (bes k) b (bes k)) n hn
    exact ⟨(m:Int),.inl ⟨m,rfl,h1,fun i hi=>Classical.byContradiction fun e=>h2 i hi e⟩⟩
  · exact ⟨-1,.inr ⟨rfl,fun n=>Classical.byContradiction fun e=>h ⟨n,e⟩⟩⟩
theorem turnsB_has {a b:St} {k:Nat} (hVa:validB a=true) (hVb:validB b=true) (h1:1≤k) (h3:k≤3):Turns a b k (turnsB a b (k:Int)):=by
 obtain ⟨t,h⟩:=turns_ex a b k
 rw [turnsB_yes hVa hVb h1 h3 h];exact h
theorem turns_never_win {a b:St} {k:Nat} {n t:Int} (hVa:validB a=true) (hVb:validB b=true) (h1:1≤k) (h3:k≤3) (h:Turns a b k n) (hn:n = -1) (h0:0≤t) (h4:t≤4):pebWinB a (bes k) b (bes k) t=true:=by
  rw [pebWin_at (bes_ready hVa hVb h1 h3) h0 h4]
  rcases h with ⟨m,e,_,_⟩ | ⟨_,e⟩
  · omega
  · exact e _
theorem turns_some_win {a b:St} {k:Nat} {n t:Int} (hVa:validB a=true) (hVb:validB b=true) (h1:1≤k) (h3:k≤3) (h:Turns a b k n) (hn:¬ n = -1) (h0:0≤t) (h4:t≤4):pebWinB a (bes k) b (bes k) t=decide (t<n):=by
  rw [Bool.eq_iff_iff,pebWin_at (bes_ready hVa hVb h1 h3) h0 h4,decide_eq_true_eq]
  rcases h with ⟨m,rfl,h5,h6⟩ | ⟨e,_⟩
  · constructor
    · intro e
      rcases Nat.lt_or_ge t.toNat m with h7 | h7
      · omega
      · exact absurd (pW_less (t.toNat - m) (show pW (m+(t.toNat - m)) _ _ _ _ by rw [show m+(t.toNat - m)=t.toNat from by omega];exact e)) h5
    · intro e;exact h6 _ (by omega)
  · exact absurd e hn
theorem turns_ever {a b:St} {k:Nat} {n:Int} (hVa:validB a=true) (hVb:validB b=true) (h1:1≤k) (h3:k≤3) (h:Turns a b k n):pebEverB a (bes k) b (bes k)=decide (n = -1):=by
  rw [Bool.eq_iff_iff,pebEver_at (bes_ready hVa hVb h1 h3),decide_eq_true_eq]
  rcases h with ⟨m,rfl,h5,_⟩ | ⟨rfl,e⟩
  · exact ⟨fun e=>absurd (e m) h5,fun e=>absurd e (by omega)⟩
  · exact ⟨fun _=>rfl,fun _=>e⟩
theorem Turns.swap {a b:St} {k:Nat} {n:Int} (h:Turns a b k n):Turns b a k n:=by
  rcases h with ⟨m,e,h5,h6⟩ | ⟨e,h5⟩
  · exact .inl ⟨m,e,fun h=>h5 (pW_comm _ _ _ _ _ rfl h),fun i hi=>pW_comm _ _ _ _ _ rfl (h6 i hi)⟩
  · exact .inr ⟨e,fun i=>pW_comm _ _ _ _ _ rfl (h5 i)⟩
theorem turns_fewer {a b:St} {k:Nat} {n m:Int} (h:Turns a b (k+1) n) (h':Turns a b k m) (h0:0≤m):1≤n∧n≤m:=by
  rcases h' with ⟨j,rfl,h1,h2⟩ | ⟨e,_⟩
  · have h3:¬ pW j a (bes (k+1)) b (bes (k+1)):=fun e=>h1 (bes_fewer e)
    rcases h with ⟨i,rfl,h5,h6⟩ | ⟨_,h5⟩
    · have hi:0<i:=by
        rcases Nat.eq_zero_or_pos i with e | e
        · subst e;exact absurd pW_first h5
        · exact e
      refine ⟨by omega,?_⟩
      rcases Nat.lt_or_ge j i with h7 | h7
      · exact absurd (h6 j h7) h3
      · omega
    · exact absurd (h5 j) h3
  · omega
def atQ (os ys:List Int):List Int:=ys.map fun y=>if y<0 then -1 else os.getD y.toNat 0
@[simp] theorem atQ_len (os ys:List Int):(atQ os ys).length=ys.length:=by simp [atQ]
theorem atQ_at (os:List Int) {ys:List Int} {i:Nat} (h:i<ys.length):(atQ os ys).getD i 0=if ys.getD i 0<0 then -1 else os.getD (ys.getD i 0).toNat 0:=by
  unfold atQ
  rw [getD_at (by simpa using h),getD_at h];simp
theorem atQ_set (os ys:List Int) (i:Nat) (y:Nat):atQ os (ys.set i (y:Int))=(atQ os ys).set i (os.getD y 0):=by
 unfold atQ
 rw [List.map_set,if_neg (by omega),Int.toNat_natCast]
theorem atQ_sign {a:St} {os ys:List Int} (hA:a.Els os) (hB:∀ y∈ys,-1≤y∧y<(os.length:Int)) {i:Nat} (hi:i<ys.length):(atQ os ys).getD i 0<0↔ys.getD i 0<0:=by
  rw [atQ_at os hi]
  have:=hB (ys.getD i 0) (by rw [getD_at hi];exact List.getElem_mem _)
  by_cases e:ys.getD i 0<0
  · rw [if_pos e];exact ⟨fun _=>e,fun _=>by decide⟩
  · rw [if_neg e]
    have h1:(ys.getD i 0).toNat<os.length:=by omega
    have:=(hA (os.getD (ys.getD i 0).toNat 0) (by rw [getD_at h1];exact List.getElem_mem _)).1
    omega
theorem atQ_placed {a:St} {os ys:List Int} (hA:a.Els os) (hB:∀ y∈ys,-1≤y∧y<(os.length:Int)):∀ i:Nat,i≤ys.length→placed (atQ os ys) i=atO os (placed ys i)
  | 0,_=>rfl
  | i+1,h=>by
    have hs:=atQ_sign hA hB (show i<ys.length by omega)
    unfold placed
    rw [atQ_placed hA hB i (by omega)]
    by_cases e:ys.getD i 0<0
    · rw [if_pos (hs.2 e),if_pos e]
    · rw [if_neg (fun h=>e (hs.1 h)),if_neg e,atQ_at os (by omega),if_neg e];simp [atO]
theorem shape_pebs {a b:St} {os:List Int} (hn:a.n=b.n) (hl:(os.length:Int)=a.n) (hA:a.Els os) (hs:sameB a os b (upto os.length)=true):∀ (n:Nat) (ys:List Int),(∀ y∈ys,-1≤y∧y<(os.length:Int))→pW n a (atQ os ys) b ys
  | 0,ys,hB=>by
    refine ⟨fun i hi=>atQ_sign hA hB (by simpa using hi),?_⟩
    rw [atQ_len,atQ_placed hA hB _ (Nat.le_refl _)]
    exact shape_same hs fun y hy=>by
      obtain ⟨h1,h2⟩:=placed_mem _ (Nat.le_refl _) y hy
      exact ⟨h2,(hB y h1).2⟩
  | n+1,ys,hB=>by
    have more:∀ (i y:Nat),y<os.length→pW n a ((atQ os ys).set i (os.getD y 0)) b (ys.set i (y:Int)):=fun i y hy=>by
      rw [← atQ_set]
      exact shape_pebs hn hl hA hs n _ fun z hz=>by
        rcases List.mem_or_eq_of_mem_set hz with h | h
        · exact hB z h
        · rw [h];omega
    refine ⟨shape_pebs hn hl hA hs n ys hB,fun i _=>⟨fun x hx=>?_,fun y hy=>?_⟩⟩
    · obtain ⟨y,hy,e⟩:=shaped_onto hl hA hs (x:=(x:Int)) ⟨by omega,by omega⟩
      exact ⟨y,by omega,by rw [← e];exact more i y hy⟩
    · have hy':y<os.length:=by omega
      have hel:=hA (os.getD y 0) (by rw [getD_at hy'];exact List.getElem_mem _)
      refine ⟨(os.getD y 0).toNat,by have:=hel.1;have:=hel.2;omega,?_⟩
      rw [show (((os.getD y 0).toNat:Nat):Int)=os.getD y 0 from by have:=hel.1;omega]
      exact more i y hy'
theorem atQ_bes (os:List Int) (k:Nat):atQ os (bes k)=bes k:=by unfold atQ bes;simp
theorem shaped_turns {a b:St} {k:Nat} {n:Int} (h:Shaped a b) (ht:Turns a b k n):n = -1:=by
  obtain ⟨hn,_,_,os,hl,hA,hs⟩:=h
  have key:∀ m:Nat,pW m a (bes k) b (bes k):=fun m=>by
    have:=shape_pebs hn hl hA hs m (bes k) fun y hy=>by rw [List.eq_of_mem_replicate hy];omega
    rwa [atQ_bes] at this
  rcases ht with ⟨m,_,h5,_⟩ | ⟨e,_⟩
  · exact absurd (key m) h5
  · exact e
theorem turnsB_swap {a b:St} {k:Nat} (hVa:validB a=true) (hVb:validB b=true) (h1:1≤k) (h3:k≤3):turnsB b a (k:Int)=turnsB a b (k:Int) :=
 turnsB_yes hVb hVa h1 h3 (turnsB_has hVa hVb h1 h3).swap
theorem turnsB_fewer {a b:St} {k:Nat} (hVa:validB a=true) (hVb:validB b=true) (h1:1≤k) (h3:k≤3) (h:¬ turnsB a b ((k:Int) - 1)<0):1≤turnsB a b (k:Int)∧turnsB a b (k:Int)≤turnsB a b ((k:Int) - 1):=by
 have hok:=turnsB_ok (a:=a) (b:=b) (q:=(k:Int) - 1) (by omega)
 obtain ⟨j,rfl⟩:∃ j:Nat,k=j+1:=⟨k - 1,by omega⟩
 have e:((j+1:Nat):Int) - 1=(j:Int):=by omega
 rw [e] at h hok ⊢
 have h2:=turnsB_has hVa hVb (show 1≤j by omega) (show j≤3 by omega)
 exact turns_fewer (turnsB_has hVa hVb h1 h3) h2 (by omega)
end Go.Wk
namespace Go.Wk
open Go.RowKit
abbrev OptR:=Option (Nat×Nat×Array Value)
def optV:OptR→Nat→Value
 | none,_=>.slice none 0 0
 | some (g,c,_),m=>.slice (some ⟨g,0,none⟩) m c
def optB (el:TypeId):OptR→List (Nat×Obj)
 | none=>[]
 | some (g,_,u)=>[(g,.cells u el (0,0))]
def OptOk (bs:List Bool):OptR→Prop
 | none=>bs=[]
 | some (_,c,u)=>u.size=c*1∧bs.length≤c∧u.toList.take bs.length=bools bs
section
variable {P:Program} {n:Nat} {B:Nat} {w0:World} {N R:Act→World→Prop} {X:List (Nat×(Act→World→Prop))} {e:Env} {ops:Array Oper} {l:List Oper} {o:Oper}
theorem Ll.appendOpt {t el d p:Nat} {T:TypeId} {x y:Operand} {q:OptR} {bs:List Bool} {b:Bool} {m:Nat} (hm:bs.length=m) (E:Elem P t el 1) (f r:List (Nat×Obj)) (i:Nat) (hq:OptOk bs q) (hd:Nat.blt d n=true) (hdst:o.dst=some d) (hg:wantE ops e o.guard=some true)
    (h:o.op=.call ⟨.builtin .append,#[x,y],#[t,t]⟩) (hx:opd e x=some (optV q m)) (hy:opd e y=some (.slice (some ⟨p,0,none⟩) 1 1)) (hi:f[i]?=some (p,.cells #[.bool b] T (0,0))) (hb:m≤1000000)
    (k:∀ g' c' u',B≤g'→OptOk (bs++[b]) (some (g',c',u'))→Ll P n (Own B w0 (f++(optB el (some (g',c',u'))++r))) ops l ((d,.slice (some ⟨g',0,none⟩) (m+1) c')::e) N R X):Ll P n (Own B w0 (f++(optB el q++r))) ops (o::l) e N R X:=by
  subst hm
  have hlt:i<f.length:=by
    rcases Nat.lt_or_ge i f.length with h1 | h1
    · exact h1
    · rw [List.getElem?_eq_none h1] at hi;cases hi
  have news:∀ (hs:List (Nat×Obj)),hs[i]?=some (p,.cells #[.bool b] T (0,0))→∀ w,Own B w0 hs w→∀ ad,some (⟨p,0,none⟩:Addr)=some ad→∀ j u,([Value.bool b])[j]?=some u→w.cell? (ad.add j)=some u:=fun hs hh w1 hw1 ad had j u hj=>by
    injection had with had;subst had
    rw [Addr.add_lit,Nat.zero_add,hw1.cell (i:=i) hh]
    simpa using hj
  have bl:bools (bs++[b])=bools bs++[Value.bool b]:=by simp [bools]
  cases q with
  | none =>
    have hb0:bs=[]:=hq
    subst hb0
    refine Ll.appendNil E [.bool b] hd hdst hg h hx hy (by decide) (by simp) rfl (news _ (by rw [List.getElem?_append_left hlt];exact hi)) (by decide) fun g' c' u' h1 h2 h3 h4=>?_
    have:=k g' c' u' h1 ⟨h2,by simpa using h3,by simpa [bools] using h4⟩
    unfold Ll at this ⊢
    exact fun a w hf hc=>this a w hf (hc.perm (perm_back [_] f r))
  | some q =>
    obtain ⟨g,c,u⟩:=q
    obtain ⟨s1,s2,s3⟩:=hq
    refine Ll.append E f.length [.bool b] hd hdst hg h hx hy (by rw [List.getElem?_append_right (Nat.le_refl _),Nat.sub_self];rfl) s1 s2 rfl (fun h=>by cases h) (news _ (by rw [List.getElem?_append_left hlt];exact hi)) (by simp [Value.oneCell']) (by omega) fun g' c' u' h1 h2 h3 h4=>?_
    have:=k g' c' u' h1 ⟨h2,by simpa using h3,by rw [List.length_append,List.length_singleton,bl,← s3];simpa using h4⟩
    unfold Ll at this ⊢
    intro a w hf hc
    rw [List.set_append_right _ _ (Nat.le_refl _),Nat.sub_self] at hc
    exact this a w hf hc
end
theorem opt_some {bs:List Bool} {q:OptR} (h:OptOk bs q) (h0:0<bs.length):∃ (g c:Nat) (u:Array Value),q=some (g,c,u)∧u.size=c*1∧bs.length≤c∧u.toList.take bs.length=bools bs:=by
 cases q with
 | none=>rw [show bs=[] from h] at h0;exact absurd h0 (by decide)
 | some q=>obtain ⟨g,c,u⟩:=q;exact ⟨g,c,u,rfl,h⟩
theorem fit_next {a b:St} {k s:Nat} (hb:1≤b.n.toNat) (h:s<prN a b ^ k):(WL 0 a b k).take (s+1)=(WL 0 a b k).take s++[sameB a (placed (stX a b k s) k) b (placed (stY a b k s) k)]:=by
 rw [List.take_succ_eq_append_getElem (by rw [WL_len];exact h),← getD_at (d:=false),WL_at h,win_zero hb]
theorem Own.merge {B:Nat} {w0 w w':World} {hs new:List (Nat×Obj)} (h:Own B w0 hs w) (k:Own w.heap.size w new w'):Own B w0 (new++hs) w':=by
  have h':=h.calls k.below
  refine Own.of_mem h'.below h'.base (fun x hx=>?_) ?_
  · rcases List.mem_append.1 hx with h1 | h1
    · obtain ⟨h2,h3⟩:=k.mem h1
      exact ⟨Nat.le_trans h.base h2,h3⟩
    · exact h'.mem h1
  · rw [List.map_append,List.nodup_append]
    refine ⟨k.nodup,h.nodup,fun p hp q hq e=>?_⟩
    obtain ⟨x,hx,rfl⟩:=List.mem_map.1 hp
    obtain ⟨y,hy,rfl⟩:=List.mem_map.1 hq
    have h1:=(k.mem hx).1
    have h2:=(h.mem hy).2
    have h3:y.1<w.heap.size:=by
      rcases Nat.lt_or_ge y.1 w.heap.size with h4 | h4
      · exact h4
      · rw [Array.getElem?_eq_none h4] at h2;cases h2
    omega
section
variable {P:Program} {n:Nat} {C:World→Prop} {e:Env} {o:Oper}
theorem OpQ.eqNilP {t t' q:TypeId} {x y:Operand} {p:Option Addr} (h:o.op=.binOp .eql t x y t') (hu:P.underlying t=some (.pointer q)) (hx:opd e x=some (.pointer p)) (hy:opd e y=some (.pointer none)):OpQ P n C e o (.bool p.isNone):=OpQ.val fun A hf w=>by
 have hu':P.underlying t=some (.pointer (P.pointee t)):=by simp [Program.pointee,hu]
 unfold execOp;rw [h];simp only [hf.opd hx,hf.opd hy]
 rw [show eqGuard .eql t x y (Value.pointer p) (Value.pointer none)=pure () from rfl]
 simp only [Sem.run_bind,run_eql_pointer_nil w t p hu',Sem.run_pure,Result.andThen]
end
end Go.Wk
namespace Go.Proofs
open Go.Shelf
def Tryd.lays160_ren:Go.Shelf.Ren:=⟨fun | 160=>115 | 232=>143 | 231=>142 | 227=>144 | 234=>146 | 233=>145 | 236=>148 | 235=>147 | 228=>157 | 271=>160 | 151=>159 | 197=>158 | 120=>166 | 152=>165 | 260=>164 | 137=>155 | 119=>171 | 224=>168 | 225=>167 | 217=>163 | 266=>170 | n=>n,fun | 9=>9 | 4=>4 | 3=>3 | 5=>5 | 117=>163 | 116=>162 | 0=>0 | 124=>166 | 21=>21 | 105=>171 | 46=>91 | 119=>175 | 139=>178 | 138=>177 | n=>n,fun | 3=>1 | 4=>2 | n=>n⟩
theorem Tryd.lays160:Go.Proofs.Lays.n160 Tryd.prog Tryd.lays160_ren:={
 mixed:=by kernel_rfl
 f119:=Tryd.func171.trans (congrArg some (by kernel_rfl))
 f120:=Tryd.func166.trans (congrArg some (by kernel_rfl))
 f137:=Tryd.func155.trans (congrArg some (by kernel_rfl))
 f151:=Tryd.func159.trans (congrArg some (by kernel_rfl))
 f152:=Tryd.func165.trans (congrArg some (by kernel_rfl))
 f160:=Tryd.func115.trans (congrArg some (by kernel_rfl))
 f197:=Tryd.func158.trans (congrArg some (by kernel_rfl))
 f217:=Tryd.func163.trans (congrArg some (by kernel_rfl))
 f224:=Tryd.func168.trans (congrArg some (by kernel_rfl))
 f225:=Tryd.func167.trans (congrArg some (by kernel_rfl))
 f227:=Tryd.func144.trans (congrArg some (by kernel_rfl))
 f228:=Tryd.func157.trans (congrArg some (by kernel_rfl))
 f231:=Tryd.func142.trans (congrArg some (by kernel_rfl))
 f232:=Tryd.func143.trans (congrArg some (by kernel_rfl))
 f233:=Tryd.func145.trans (congrArg some (by kernel_rfl))
 f234:=Tryd.func146.trans (congrArg some (by kernel_rfl))
 f235:=Tryd.func147.trans (congrArg some (by kernel_rfl))
 f236:=Tryd.func148.trans (congrArg some (by kernel_rfl))
 f260:=Tryd.func164.trans (congrArg some (by kernel_rfl))
 f266:=Tryd.func170.trans (congrArg some (by kernel_rfl))
 f271:=Tryd.func160.trans (congrArg some (by kernel_rfl))
 t0:=Tryd.underlying0
 a0:=Tryd.isAgg0
 z0:=Tryd.sizeOf0
 v0:=Tryd.zeroValue0
 t3:=Tryd.underlying3
 a3:=Tryd.isAgg3
 z3:=Tryd.sizeOf3
 v3:=Tryd.zeroValue3
 t4:=Tryd.underlying4
 a4:=Tryd.isAgg4
 z4:=Tryd.sizeOf4
 v4:=Tryd.zeroValue4
 t5:=Tryd.underlying5
 a5:=Tryd.isAgg5
 z5:=Tryd.sizeOf5
 v5:=Tryd.zeroValue5
 t9:=Tryd.underlying9
 a9:=Tryd.isAgg9
 z9:=Tryd.sizeOf9
 v9:=Tryd.zeroValue9
 t21:=Tryd.underlying21
 a21:=Tryd.isAgg21
 z21:=Tryd.sizeOf21
 v21:=Tryd.zeroValue21
 t46:=Tryd.underlying91
 a46:=Tryd.isAgg91
 z46:=Tryd.sizeOf91
 v46:=Tryd.zeroValue91
 t105:=Tryd.underlying171
 a105:=Tryd.isAgg171
 z105:=Tryd.sizeOf171
 v105:=Tryd.zeroValue171
 t116:=Tryd.underlying162
 a116:=Tryd.isAgg162
 z116:=Tryd.sizeOf162
 t117:=Tryd.underlying163
 a117:=Tryd.isAgg163
 z117:=Tryd.sizeOf163
 v117:=Tryd.zeroValue163
 t119:=Tryd.underlying175
 a119:=Tryd.isAgg175
 z119:=Tryd.sizeOf175
 t124:=Tryd.underlying166
 a124:=Tryd.isAgg166
 z124:=Tryd.sizeOf166
 v124:=Tryd.zeroValue166
 t138:=Tryd.underlying177
 a138:=Tryd.isAgg177
 z138:=Tryd.sizeOf177
 v138:=Tryd.zeroValue177
 t139:=Tryd.underlying178
 a139:=Tryd.isAgg178
 z139:=Tryd.sizeOf178
 v139:=Tryd.zeroValue178
 g3:=by kernel_rfl
 g4:=by kernel_rfl }
end Go.Proofs
namespace Go.Proofs.YtagbocafnliabaaDoor
open Go.RowKit Go.Wk
theorem Base.mixed:Tryd.prog.follows .mixedOrders=true:=by kernel_rfl
theorem Base.elem22:Elem Tryd.prog 22 5 1:=⟨Tryd.underlying22,Tryd.t5,_,by kernel_rfl,rfl,rfl,by decide,rfl,by decide⟩
theorem Base.elem27:Elem Tryd.prog 27 3 1:=⟨Tryd.underlying27,Tryd.t3,_,by kernel_rfl,rfl,rfl,by decide,rfl,by decide⟩
theorem Base.elem57:Elem Tryd.prog 57 145 1:=⟨Tryd.underlying57,Tryd.t145,_,by kernel_rfl,rfl,rfl,by decide,rfl,by decide⟩
theorem Base.elem63:Elem Tryd.prog 63 27 1:=⟨Tryd.underlying63,Tryd.t27,_,by kernel_rfl,rfl,rfl,by decide,rfl,by decide⟩
theorem Base.elem74:Elem Tryd.prog 74 4 1:=⟨Tryd.underlying74,Tryd.t4,_,by kernel_rfl,rfl,rfl,by decide,rfl,by decide⟩
theorem Base.elem83:Elem Tryd.prog 83 9 1:=⟨Tryd.underlying83,Tryd.t9,_,by kernel_rfl,rfl,rfl,by decide,rfl,by decide⟩
theorem Base.elem145:Elem Tryd.prog 145 147 2:=⟨Tryd.underlying145,Tryd.t147,_,by kernel_rfl,rfl,rfl,by decide,rfl,by decide⟩
theorem trim_ok (s:List UInt8) (w:World) (hs:s.length≤1048576) :
  Calls Tryd.prog 115 [str s,str [48,49]].toArray w fun en w'=>en=.returned (str (Lib.trimS s [48,49]))∧Below w.heap.size w w' :=
 Any.strings_Trim_laid Tryd.lays160 (by kernel_rfl) ⟨⟨s⟩⟩ ⟨⟨[48,49]⟩⟩ w (by show s.length≤9223372036854775807;omega) (by decide) (ascii_of_all (by decide))
end Go.Proofs.YtagbocafnliabaaDoor
namespace Go.Proofs.YtagbocafnliabaaDoor
abbrev qD := @Base.elem27
abbrev yH := @Base.mixed
abbrev yT := @Base.elem74
abbrev vC := @Base.elem145
end Go.Proofs.YtagbocafnliabaaDoor
namespace Go.Proofs.YtagbocafnliabaaDoor
open Go.RowKit Go.Wk
set_option linter.unusedSimpArgs false
set_option maxHeartbeats 400000 in
theorem l1In_ok (n lo hi:Int) (w:World) :
    Calls Tryd.prog 39 [i6_ n,i6_ lo,i6_ hi].toArray w fun en w'=>en=.returned (.bool (inB n lo hi))∧Below w.heap.size w w':=by
 refine fnStart (n:=15) (e:=[(0,i6_ n),(1,i6_ lo),(2,i6_ hi)]) Tryd.func39 Z Z Z Z Ends.both (zE (zB (zC 1 Z (zG (zD [0,1,2] [_,_,_] Z (zE (zB (zC 4 Z (yX fun b10 hg10=>?_)))))))))
 cases b10
 ·
  replace hg10:=zU hg10;refine zK Z (zK Z (zK Z (zC 2 Z (zG (zD [6] [_] Z (qQ (qO Z Z fun w' hw=>?_)))))))
  exact ⟨ret_b (by first | rfl | (simp_all [inB];done) | (simp_all [inB];omega)),hw.below⟩
 replace hg10:=zW hg10;refine zC 5 Z (zG (zD [6] [_] Z (qQ (qO Z Z fun w' hw=>?_))))
 exact ⟨ret_b (by first | rfl | (simp_all [inB];done) | (simp_all [inB];omega)),hw.below⟩
set_option maxHeartbeats 400000 in
theorem l1Bits_ok (s:List UInt8) (n:Int) (w:World) (hs:s.length≤1048576) :
    Calls Tryd.prog 81 [str s,i6_ n].toArray w fun en w'=>en=.returned (.bool (bitsB s n))∧Below w.heap.size w w':=by
 refine fnStart (n:=26) (e:=[(0,str s),(1,i6_ n)]) Tryd.func81 Z Z Z Z Ends.both (zE (zB (zC 1 Z (zG (zD [0,1] [_,_] Z (zE (zE (zB (zC 1 Z (zG (zD [0,1,5] [_,_,_] Z (qJ (yR (σ:=Nat) (fun k=>k≤s.length∧(s.take k).all isBit=true) (fun k=>[(0,str s),(1,i6_ n),(5,i6_ (k:Int))]) (fun k=>Own w.heap.size w []) (fun k=>s.length - k) (0) ⟨by omega,rfl⟩ (Sub.sel [0,1,5] Z) (fun _ h=>h) ?_)))))))))))))
 rintro k ⟨hk,hall⟩;refine zE (zE (zB (zC 2 Z (zF (v:=i6_ (s.length:Int)) Z (jF Z yG Z) (zC 1 Z (zG (zD [0,1,5,9] [_,_,_,_] Z (xI Z (fun h9=>?_) (fun h9=>?_)))))))))
 ·
  refine qT (zD [0,1,5] [_,_,_] Z (zE (qJ (zE (zB (zC 2 Z (zF (v:=.int .u8 (((s.getD ((k:Int).toNat) 0).toNat:Int))) Z (jX Z yG Z Z (by omega) (by omega)) (zC 2 Z (yX fun b16 hg16=>?_)))))))))
  cases b16
  ·
   replace hg16:=not_false hg16
   replace hg16:=zW hg16;refine zK Z (zK Z (zK Z (zK Z (zC 1 Z (zG (zD [0,1,5,21] [_,_,_,_] Z (Wk.condF Z (qT (zD [0,1,5] [_,_,_] Z (zB (zC 1 Z (zF Z (qR Z Z Z (by omega) (by omega)) (zC 1 Z (zG (qX (k+1) ⟨by omega,all_take (by omega) hall (by unfold isBit;simp_all)⟩ (by omega) (Sub.sel [0,1,5] Z) (fun _ h=>h))))))))))))))))
  replace hg16:=not_true hg16
  replace hg16:=zU hg16;refine zC 2 Z (zF (v:=.int .u8 (((s.getD ((k:Int).toNat) 0).toNat:Int))) Z (jX Z yG Z Z (by omega) (by omega)) (zC 2 Z (zG (zD [0,1,5,21] [_,_,_,_] Z (yK (b:=!(decide ((((s.getD ((k:Int).toNat) 0).toNat:Int))=(49:Int)))) Z (fun h21=>?_) (fun h21=>?_))))))
  ·
   replace h21:=not_true h21
   replace h21:=zU h21;refine zE (zB (zC 1 Z (zG (zD [4] [_] Z (qQ (qO Z Z fun w' hw=>?_))))))
   exact ⟨ret_b (by unfold bitsB;rw [all_false (k:=k) (by omega) (by unfold isBit;simp_all)];rfl),hw.below⟩
  replace h21:=not_false h21
  replace h21:=zW h21;refine qT (zD [0,1,5] [_,_,_] Z (zB (zC 1 Z (zF Z (qR Z Z Z (by omega) (by omega)) (zC 1 Z (zG (qX (k+1) ⟨by omega,all_take (by omega) hall (by unfold isBit;simp_all)⟩ (by omega) (Sub.sel [0,1,5] Z) (fun _ h=>h))))))))
 refine yN Z (zD [0,1] [_,_] Z (zE (zB (zC 1 Z (zF (v:=i6_ (s.length:Int)) Z (jF Z yG Z) (zC 3 Z (zG (zD [4] [_] Z (qQ (qO Z Z fun w' hw=>?_))))))))))
 exact ⟨ret_b (by unfold bitsB;rw [show s.all isBit=true from by rw [← List.take_of_length_le (show s.length≤k by omega)];exact hall];rfl),hw.below⟩
set_option maxHeartbeats 400000 in
theorem sValid_ok (a:St) (w:World) (ha:a.Small) :
    Calls Tryd.prog 38 [vS a].toArray w fun en w'=>en=.returned (.bool (validB a))∧Below w.heap.size w w':=by
 refine fnStart (n:=23) (e:=[(0,vS a)]) Tryd.func38 Z Z Z Z Ends.both ?_
 have h1:=ha.set
 have h2:=ha.rel;refine zE (zZ (xC (v:=vS a) Z Z Z Z Z fun p1 hp1=>?_))
 show Ll _ _ (Own _ _ [_]) _ _ ((1,pt_ p1)::_) _ _ _;refine qI 1 Z (zI (zD [1] [_] Z (zE (zB (zF Z (zJ Z zH Z zS Z Z) (zF Z (zQ 0 Z qB Z Z Z) (zF (v:=bo_ (inB a.n 1 8)) Z (qN Z Tryd.call39 Z qC (fun w1 hw1=>l1In_ok a.n 1 8 w1 )) (zC 1 Z (yX fun b6 hg6=>?_)))))))))
 cases b6
 ·
  refine zK Z (zK Z (zK Z (zK Z (zK Z (zC 2 Z (zK Z (zK Z (zK Z (zK Z (zK Z (zK Z (zK Z (zK Z (zC 2 Z (zG (zD [2] [_] Z (qQ (qO Z Z fun w' hw=>?_))))))))))))))))))
  exact ⟨ret_b (by first | (simp [validB, *];done) | (simp [validB, *];omega)),hw.below⟩
 have hn:1≤a.n∧a.n≤8:=by unfold inB at hg6;simpa using hg6
 have hq:=sq_le hn.1 hn.2;refine zF Z (zJ Z zH Z zX Z Z) (zF Z (zQ 0 Z qL Z Z Z) (zF Z (zJ Z zH Z zS Z Z) (zF Z (zQ 0 Z qB Z Z Z) (zF (v:=bo_ (bitsB a.set a.n)) Z (qN Z Tryd.call81 Z qC (fun w1 hw1=>l1Bits_ok a.set a.n w1 (by omega))) (zC 2 Z (yX fun b13 hg13=>?_))))))
 cases b13
 ·
  refine zK Z (zK Z (zK Z (zK Z (zK Z (zK Z (zK Z (zK Z (zC 2 Z (zG (zD [2] [_] Z (qQ (qO Z Z fun w' hw=>?_))))))))))))
  exact ⟨ret_b (by first | (simp [validB, *];done) | (simp [validB, *];omega)),hw.below⟩
 refine zF Z (zJ Z zH Z zX Z Z) (zF Z (zQ 0 Z qL Z Z Z) (zF Z (zJ Z zH Z zS Z Z) (zF Z (zQ 0 Z qB Z Z Z) (zF Z (zJ Z zH Z zS Z Z) (zF Z (zQ 0 Z qB Z Z Z) (zF Z (jL Z Z Z (by omega) (by omega)) (zF (v:=bo_ (bitsB a.rel (a.n*a.n))) Z (qN Z Tryd.call81 Z qC (fun w1 hw1=>l1Bits_ok a.rel (a.n*a.n) w1 (by omega))) (zC 2 Z (zG (zD [2] [_] Z (qQ (qO Z Z fun w' hw=>?_))))))))))))
 exact ⟨ret_b (by first | (simp [validB, *];done) | (simp [validB, *];omega)),hw.below⟩
set_option maxHeartbeats 400000 in
theorem l1Set_ok (a:St) (x:Int) (w:World) (ha:a.Fine) (hx:a.El x) :
    Calls Tryd.prog 119 [vS a,i6_ x].toArray w fun en w'=>en=.returned (.bool (a.inSet x))∧Below w.heap.size w w':=by
 refine fnStart (n:=10) (e:=[(0,vS a),(1,i6_ x)]) Tryd.func119 Z Z Z Z Ends.both ?_
 have hs:=ha.set
 obtain ⟨h0,h1⟩:=hx;refine zE (zZ (xC (v:=vS a) Z Z Z Z Z fun p2 hp2=>?_))
 show Ll _ _ (Own _ _ [_]) _ _ ((2,pt_ p2)::_) _ _ _;refine qI 1 Z (zI (zD [1,2] [_,_] Z (zE (zB (zF Z (zJ Z zH Z zX Z Z) (zF Z (zQ 0 Z qL Z Z Z) (zC 1 Z (zF (v:=.int .u8 (((a.set.getD ((x).toNat) 0).toNat:Int))) Z (jX Z yG Z Z (by omega) (by omega)) (zC 2 Z (zG (zD [4] [_] Z (qQ (qO Z Z fun w' hw=>?_)))))))))))))
 exact ⟨ret_b (by first | rfl | (simp_all;done) | (simp_all;omega)),hw.below⟩
set_option maxHeartbeats 400000 in
theorem l1Rel_ok (a:St) (x y:Int) (w:World) (ha:a.Fine) (hx:a.El x) (hy:a.El y) :
    Calls Tryd.prog 120 [vS a,i6_ x,i6_ y].toArray w fun en w'=>en=.returned (.bool (a.inRel x y))∧Below w.heap.size w w':=by
 refine fnStart (n:=17) (e:=[(0,vS a),(1,i6_ x),(2,i6_ y)]) Tryd.func120 Z Z Z Z Ends.both ?_
 obtain ⟨k0,k1,k2,k3,k4⟩:=ha.relLt hx hy;refine zE (zZ (xC (v:=vS a) Z Z Z Z Z fun p3 hp3=>?_))
 show Ll _ _ (Own _ _ [_]) _ _ ((3,pt_ p3)::_) _ _ _;refine qI 1 Z (zI (zD [1,2,3] [_,_,_] Z (zE (zB (zF Z (zJ Z zH Z zX Z Z) (zF Z (zQ 0 Z qL Z Z Z) (zC 1 Z (zF Z (zJ Z zH Z zS Z Z) (zF Z (zQ 0 Z qB Z Z Z) (zF Z (jL Z Z Z (by omega) (by omega)) (zC 1 Z (zF Z (qR Z Z Z (by omega) (by omega)) (zF (v:=.int .u8 (((a.rel.getD (((x*a.n)+y).toNat) 0).toNat:Int))) Z (jX Z yG Z Z (by omega) (by omega)) (zC 2 Z (zG (zD [6] [_] Z (qQ (qO Z Z fun w' hw=>?_))))))))))))))))))
 exact ⟨ret_b (by first | rfl | (simp_all;done) | (simp_all;omega)),hw.below⟩
set_option maxHeartbeats 400000 in
theorem areBits_ok (s:List UInt8) (n:Int) (w:World) (hs:s.length≤1048576) :
    Calls Tryd.prog 78 [str s,i6_ n].toArray w fun en w'=>en=.returned (.bool (bitsB s n))∧Below w.heap.size w w':=by
 refine fnStart (n:=14) (e:=[(0,str s),(1,i6_ n)]) Tryd.func78 Z Z Z Z Ends.both (zE (zB (zC 1 Z (zG (zD [0,1] [_,_] Z (zE (zB (zC 1 Z (zF (v:=i6_ (s.length:Int)) Z (jF Z yG Z) (zC 3 Z (yX fun b9 hg9=>?_)))))))))))
 cases b9
 ·
  replace hg9:=zU hg9;refine zK Z (zK Z (zK Z (zC 2 Z (zG (zD [4] [_] Z (qQ (qO Z Z fun w' hw=>?_)))))))
  exact ⟨ret_b (by unfold bitsB;simp [*]),hw.below⟩
 replace hg9:=zW hg9;refine zC 1 Z (zF (v:=str (Lib.trimS s [48,49])) Z (qN Z Tryd.call115 Z qC (fun w1 hw1=>trim_ok s w1 (by omega))) (zF Z (OpQ.seql Z Z Z) (zC 2 Z (zG (zD [4] [_] Z (qQ (qO Z Z fun w' hw=>?_)))))))
 exact ⟨ret_b (by unfold bitsB;rw [trim_nil];simp [*]),hw.below⟩
set_option maxHeartbeats 400000 in
theorem isStructure_ok (a:St) (w:World) (ha:a.Small) :
    Calls Tryd.prog 34 [vS a].toArray w fun en w'=>en=.returned (.bool (validB a))∧Below w.heap.size w w':=by
 refine fnStart (n:=28) (e:=[(0,vS a)]) Tryd.func34 Z Z Z Z Ends.both ?_
 have h1:=ha.set
 have h2:=ha.rel;refine zE (zZ (xC (v:=vS a) Z Z Z Z Z fun p1 hp1=>?_))
 show Ll _ _ (Own _ _ [_]) _ _ ((1,pt_ p1)::_) _ _ _;refine qI 1 Z (zI (zD [1] [_] Z (zE (zB (zF Z (zJ Z zH Z zS Z Z) (zF Z (zQ 0 Z qB Z Z Z) (zC 2 Z (yX fun b6 hg6=>?_))))))))
 cases b6
 ·
  replace hg6:=zU hg6;refine zK Z (zK Z (zK Z (zC 2 Z (zK Z (zK Z (zK Z (zK Z (zK Z (zC 2 Z (zK Z (zK Z (zK Z (zK Z (zK Z (zK Z (zK Z (zK Z (zC 2 Z (zG (zD [2] [_] Z (qQ (qO Z Z fun w' hw=>?_))))))))))))))))))))))
  exact ⟨ret_b (by first | (simp [validB,inB, *];done) | (simp [validB,inB, *];omega)),hw.below⟩
 replace hg6:=zW hg6;refine zF Z (zJ Z zH Z zS Z Z) (zF Z (zQ 0 Z qB Z Z Z) (zC 3 Z (yX fun b11 hg11=>?_)))
 cases b11
 ·
  replace hg11:=zU hg11;refine zK Z (zK Z (zK Z (zK Z (zK Z (zC 2 Z (zK Z (zK Z (zK Z (zK Z (zK Z (zK Z (zK Z (zK Z (zC 2 Z (zG (zD [2] [_] Z (qQ (qO Z Z fun w' hw=>?_))))))))))))))))))
  exact ⟨ret_b (by first | (simp [validB,inB, *];done) | (simp [validB,inB, *];omega)),hw.below⟩
 replace hg11:=zW hg11
 have hq:=sq_le hg6 hg11;refine zF Z (zJ Z zH Z zX Z Z) (zF Z (zQ 0 Z qL Z Z Z) (zF Z (zJ Z zH Z zS Z Z) (zF Z (zQ 0 Z qB Z Z Z) (zF (v:=bo_ (bitsB a.set a.n)) Z (qN Z Tryd.call78 Z qC (fun w1 hw1=>areBits_ok a.set a.n w1 (by omega))) (zC 2 Z (yX fun b18 hg18=>?_))))))
 cases b18
 ·
  refine zK Z (zK Z (zK Z (zK Z (zK Z (zK Z (zK Z (zK Z (zC 2 Z (zG (zD [2] [_] Z (qQ (qO Z Z fun w' hw=>?_))))))))))))
  exact ⟨ret_b (by first | (simp [validB,inB, *];done) | (simp [validB,inB, *];omega)),hw.below⟩
 refine zF Z (zJ Z zH Z zX Z Z) (zF Z (zQ 0 Z qL Z Z Z) (zF Z (zJ Z zH Z zS Z Z) (zF Z (zQ 0 Z qB Z Z Z) (zF Z (zJ Z zH Z zS Z Z) (zF Z (zQ 0 Z qB Z Z Z) (zF Z (jL Z Z Z (by omega) (by omega)) (zF (v:=bo_ (bitsB a.rel (a.n*a.n))) Z (qN Z Tryd.call78 Z qC (fun w1 hw1=>areBits_ok a.rel (a.n*a.n) w1 (by omega))) (zC 2 Z (zG (zD [2] [_] Z (qQ (qO Z Z fun w' hw=>?_))))))))))))
 exact ⟨ret_b (by first | (simp [validB,inB, *];done) | (simp [validB,inB, *];omega)),hw.below⟩
set_option maxHeartbeats 400000 in
theorem inSet_ok (a:St) (x:Int) (w:World) (ha:a.Fine) (hx:a.El x) :
    Calls Tryd.prog 123 [vS a,i6_ x].toArray w fun en w'=>en=.returned (.bool (a.inSet x))∧Below w.heap.size w w':=by
 refine fnStart (n:=10) (e:=[(0,vS a),(1,i6_ x)]) Tryd.func123 Z Z Z Z Ends.both ?_
 have hs:=ha.set
 obtain ⟨h0,h1⟩:=hx;refine zE (zZ (xC (v:=vS a) Z Z Z Z Z fun p2 hp2=>?_))
 show Ll _ _ (Own _ _ [_]) _ _ ((2,pt_ p2)::_) _ _ _;refine qI 1 Z (zI (zD [1,2] [_,_] Z (zE (zB (zF Z (zJ Z zH Z zX Z Z) (zF Z (zQ 0 Z qL Z Z Z) (zC 1 Z (zF (v:=.int .u8 (((a.set.getD ((x).toNat) 0).toNat:Int))) Z (jX Z yG Z Z (by omega) (by omega)) (zC 2 Z (zG (zD [4] [_] Z (qQ (qO Z Z fun w' hw=>?_)))))))))))))
 exact ⟨ret_b (by first | rfl | (simp_all;done) | (simp_all;omega)),hw.below⟩
set_option maxHeartbeats 400000 in
theorem inRel_ok (a:St) (x y:Int) (w:World) (ha:a.Fine) (hx:a.El x) (hy:a.El y) :
    Calls Tryd.prog 124 [vS a,i6_ x,i6_ y].toArray w fun en w'=>en=.returned (.bool (a.inRel x y))∧Below w.heap.size w w':=by
 refine fnStart (n:=17) (e:=[(0,vS a),(1,i6_ x),(2,i6_ y)]) Tryd.func124 Z Z Z Z Ends.both ?_
 obtain ⟨k0,k1,k2,k3,k4⟩:=ha.relLt hx hy;refine zE (zZ (xC (v:=vS a) Z Z Z Z Z fun p3 hp3=>?_))
 show Ll _ _ (Own _ _ [_]) _ _ ((3,pt_ p3)::_) _ _ _;refine qI 1 Z (zI (zD [1,2,3] [_,_,_] Z (zE (zB (zF Z (zJ Z zH Z zX Z Z) (zF Z (zQ 0 Z qL Z Z Z) (zC 1 Z (zF Z (zJ Z zH Z zS Z Z) (zF Z (zQ 0 Z qB Z Z Z) (zF Z (jL Z Z Z (by omega) (by omega)) (zC 1 Z (zF Z (qR Z Z Z (by omega) (by omega)) (zF (v:=.int .u8 (((a.rel.getD (((x*a.n)+y).toNat) 0).toNat:Int))) Z (jX Z yG Z Z (by omega) (by omega)) (zC 2 Z (zG (zD [6] [_] Z (qQ (qO Z Z fun w' hw=>?_))))))))))))))))))
 exact ⟨ret_b (by first | rfl | (simp_all;done) | (simp_all;omega)),hw.below⟩
set_option maxHeartbeats 400000 in
theorem indexFunc_ok (va:Value) (xs:List Int) (w:World) (hva:Ints w va xs) (hs:xs.length≤140737488355328) (F:FuncId) (caps:Array Value) (q:Int→Bool) (hF:∀ args w,(callFunc F args).run Tryd.prog w=.ok (.enter F args) w) (hq:∀ w1,Below w.heap.size w w1→∀ x,Calls Tryd.prog F (#[.int .i64 x]++caps) w1 fun en w'=>en=.returned (.bool (q x))∧Below w1.heap.size w1 w') :
    Calls Tryd.prog 141 [va,.func (.func F) #[] caps].toArray w fun en w'=>en=.returned (.int .i64 (idxI xs q))∧Below w.heap.size w w':=by
 refine fnStart (n:=19) (e:=[(0,va),(1,.func (.func F) #[] caps)]) Tryd.func141 Z Z Z Z Ends.both (zE (zB (zC 1 Z (zG (zD [0,1] [_,_] Z (zE (zE (zB (zC 1 Z (zF (v:=i6_ (xs.length:Int)) Z (yP Z zN Z (ints_length _) (fun w1 hw1=>Row.own hva hw1)) (zC 1 Z (zG (zD [0,1,7,8] [_,_,_,_] Z (qJ (yR (σ:=Nat) (fun k=>k≤xs.length∧∀ i:Nat,i<k→q (xs.getD i 0)=false) (fun k=>[(0,va),(1,.func (.func F) #[] caps),(7,i6_ (xs.length:Int)),(8,i6_ (k:Int))]) (fun k=>Own w.heap.size w []) (fun k=>xs.length - k) (0) ⟨by omega,fun i hi=>absurd hi (by omega)⟩ (Sub.sel [0,1,7,8] Z) (fun _ h=>h) ?_)))))))))))))))
 rintro k ⟨hk,hall⟩;refine zE (zB (zC 1 Z (zG (zD [0,1,7,8,9] [_,_,_,_,_] Z (zE (xI Z (fun h9=>?_) (fun h9=>?_)))))))
 ·
  refine qT (zD [0,1,7,8] [_,_,_,_] Z (zE (qJ (zE (zB (zC 2 Z (zG (zD [0,1,5,7,8] [_,_,_,_,_] Z (zE (zB (zC 3 Z (zF (v:=.pointer (some (sAt va (k:Int)))) Z (yO Z zN zS Z Z (by omega) (by rw [ints_length];omega) (fun w1 hw1=>Row.own hva hw1)) (zF (v:=i6_ (xs.getD ((k:Int).toNat) 0)) Z (yA Z qB Z (fun w1 hw1=>Ints.cell (Row.own hva hw1) (by omega) (by omega))) (zF (v:=bo_ (q (xs.getD ((k:Int).toNat) 0))) Z (OpQ.callFn Z Z hF Z qC (fun w1 hw1=>hq w1 hw1.below (xs.getD ((k:Int).toNat) 0))) (zG (zD [0,1,5,7,8,16] [_,_,_,_,_,_] Z (yK (b:=q (xs.getD ((k:Int).toNat) 0)) Z (fun h16=>?_) (fun h16=>?_))))))))))))))))))
  ·
   refine zE (zB (zC 2 Z (zG (zD [4] [_] Z (qQ (qO Z Z fun w' hw=>?_))))))
   exact ⟨ret_i (idxI_at (by omega) hall (by simpa using h16)).symm,hw.below⟩
  refine qT (zD [0,1,7,8] [_,_,_,_] Z (zB (zF Z (qR Z Z Z (by omega) (by omega)) (zC 1 Z (zG (qX (k+1) ⟨by omega,fun i hi=>(Nat.lt_succ_iff_lt_or_eq.1 hi).elim (hall i) (fun e=>by subst e;simpa using h16)⟩ (by omega) (Sub.sel [0,1,7,8] Z) (fun _ h=>h)))))))
 refine yN Z (zD [] [] Z (zE (zB (zC 1 Z (zG (zD [4] [_] Z (qQ (qO Z Z fun w' hw=>?_))))))))
 exact ⟨ret_i (idxI_none (fun i hi=>hall i (by omega))).symm,hw.below⟩
set_option maxHeartbeats 400000 in
theorem containsFunc_ok (va:Value) (xs:List Int) (w:World) (hva:Ints w va xs) (hs:xs.length≤140737488355328) (F:FuncId) (caps:Array Value) (q:Int→Bool) (hF:∀ args w,(callFunc F args).run Tryd.prog w=.ok (.enter F args) w) (hq:∀ w1,Below w.heap.size w w1→∀ x,Calls Tryd.prog F (#[.int .i64 x]++caps) w1 fun en w'=>en=.returned (.bool (q x))∧Below w1.heap.size w1 w') :
    Calls Tryd.prog 110 [va,.func (.func F) #[] caps].toArray w fun en w'=>en=.returned (.bool (xs.any q))∧Below w.heap.size w w':=by
 refine fnStart (n:=9) (e:=[(0,va),(1,.func (.func F) #[] caps)]) Tryd.func110 Z Z Z Z Ends.both (zE (zB (zC 1 Z (zG (zD [0,1] [_,_] Z (zE (zB (zC 2 Z (zF (v:=i6_ (idxI xs q)) Z (qN Z Tryd.call141 Z qC (fun w1 hw1=>indexFunc_ok va xs w1 (Row.own hva hw1) hs F caps q hF (fun w2 hb x=>hq w2 (hw1.below.trans (hb.mono hw1.base)) x))) (zC 2 Z (zG (zD [4] [_] Z (qQ (qO Z Z fun w' hw=>?_))))))))))))))
 exact ⟨ret_b (idxI_any xs q),hw.below⟩
set_option maxHeartbeats 400000 in
theorem stillSame_ok (a b:St) (xs ys:List Int) (va vb:Value) (x y:Int) (w:World) (ha:a.Fine) (hb:b.Fine) (hva:Ints w va xs) (hvb:Ints w vb ys) (hA:a.Els xs) (hB:b.Els ys) (hlen:xs.length=ys.length) (hsmall:xs.length≤1000000) (hx:a.El x) (hy:b.El y) :
    Calls Tryd.prog 116 [vS a,va,vS b,vb,i6_ x,i6_ y].toArray w fun en w'=>en=.returned (.bool (stillB a xs b ys x y))∧Below w.heap.size w w':=by
 refine fnStart (n:=75) (e:=[(0,vS a),(1,va),(2,vS b),(3,vb),(4,i6_ x),(5,i6_ y)]) Tryd.func116 Z Z Z Z Ends.both ?_
 have hT:=stillB_true (a:=a) (b:=b) (x:=x) (y:=y) hlen;refine zE (zZ (xC (v:=vS a) Z Z Z Z Z fun p6 hp6=>?_))
 show Ll _ _ (Own _ _ [_]) _ _ ((6,pt_ p6)::_) _ _ _;refine xC (v:=vS b) Z Z Z Z Z fun p8 hp8=>?_
 show Ll _ _ (Own _ _ [_,_]) _ _ ((8,pt_ p8)::_) _ _ _;refine qI 1 Z (zI (zD [1,3,4,5,6,8] [_,_,_,_,_,_] Z (zE (zE (xV yH (fun _ h=>h.drawn) (by kernel_rfl) (zF Z (zY (cs:=#[i6_ a.n,str a.set,str a.rel]) 1 Z zP Z Z zM) (zC 1 Z (zF (v:=bo_ (a.inSet x)) Z (qN Z Tryd.call123 Z qC (fun w1 hw1=>inSet_ok a x w1 ha (by first | assumption | exact St.Els.at (by assumption) (by omega) (by omega)))) (zF Z (zY (cs:=#[i6_ b.n,str b.set,str b.rel]) 0 Z zP Z Z zM) (zC 1 Z (zF (v:=bo_ (b.inSet y)) Z (qN Z Tryd.call123 Z qC (fun w1 hw1=>inSet_ok b y w1 hb (by first | assumption | exact St.Els.at (by assumption) (by omega) (by omega)))) (zF Z (OpQ.bne Z yU Z Z) (zC 1 Z (yX fun b23 hg23=>?_))))))))))))))
 cases b23
 ·
  refine zF Z (zY (cs:=#[i6_ a.n,str a.set,str a.rel]) 1 Z zP Z Z zM) (zC 2 Z (zF (v:=bo_ (a.inRel x x)) Z (qN Z jG Z qC (fun w1 hw1=>inRel_ok a x x w1 ha (by first | assumption | exact St.Els.at (by assumption) (by omega) (by omega)) (by first | assumption | exact St.Els.at (by assumption) (by omega) (by omega)))) (zF Z (zY (cs:=#[i6_ b.n,str b.set,str b.rel]) 0 Z zP Z Z zM) (zC 2 Z (zF (v:=bo_ (b.inRel y y)) Z (qN Z jG Z qC (fun w1 hw1=>inRel_ok b y y w1 hb (by first | assumption | exact St.Els.at (by assumption) (by omega) (by omega)) (by first | assumption | exact St.Els.at (by assumption) (by omega) (by omega)))) (zF Z (OpQ.bne Z yU Z Z) (zC 1 Z (zG (zD [1,3,4,5,6,8,33] [_,_,_,_,_,_,_] Z (yK (b:=(a.inRel x x) != (b.inRel y y)) Z (fun h33=>?_) (fun h33=>?_)))))))))))
  ·
   refine zE (zB (zC 1 Z (zG (zD [12] [_] Z (qQ (qO Z Z fun w' hw=>?_))))))
   have hf:stillB a xs b ys x y=false:=by
    cases hs:stillB a xs b ys x y with
    | false=>rfl
    | true=>obtain ⟨e1,e2,e3⟩:=hT.1 hs;simp_all
   exact ⟨by rw [hf],hw.below⟩
  refine qT (zD [1,3,4,5,6,8] [_,_,_,_,_,_] Z (zE (zE (zB (zC 1 Z (zF (v:=i6_ (xs.length:Int)) Z (yP Z zN Z (ints_length _) (fun w1 hw1=>Row.own hva hw1)) (zC 1 Z (zG (zD [3,4,5,6,8,34,35,36] [_,_,_,_,_,_,_,_] Z (qJ (yR (σ:=Nat) (fun k=>k≤xs.length∧∀ i:Nat,i<k→pairOk a b x y (xs.getD i 0) (ys.getD i 0)=true) (fun k=>[(3,vb),(4,i6_ x),(5,i6_ y),(6,pt_ p6),(8,pt_ p8),(34,va),(35,i6_ (xs.length:Int)),(36,i6_ (k:Int))]) (fun k=>Own w.heap.size w [bk_ p8 #[i6_ b.n,str b.set,str b.rel] 24,bk_ p6 #[i6_ a.n,str a.set,str a.rel] 24]) (fun k=>xs.length - k) (0) ⟨by omega,fun i hi=>absurd hi (by omega)⟩ (Sub.sel [3,4,5,6,8,34,35,36] Z) (fun _ h=>h) ?_)))))))))))
  rintro k ⟨hk,hall⟩;refine zE (zB (zC 1 Z (zG (zD [3,4,5,6,8,34,35,36,37] [_,_,_,_,_,_,_,_,_] Z (zE (xI Z (fun h37=>?_) (fun h37=>?_)))))))
  ·
   refine qT (zD [3,4,5,6,8,34,35,36] [_,_,_,_,_,_,_,_] Z (zE (qJ (zE (zB (zC 1 Z (zF (v:=.pointer (some (sAt va (k:Int)))) Z (yO Z zN zS Z Z (by omega) (by rw [ints_length];omega) (fun w1 hw1=>Row.own hva hw1)) (zF (v:=i6_ (xs.getD ((k:Int).toNat) 0)) Z (yA Z qB Z (fun w1 hw1=>Ints.cell (Row.own hva hw1) (by omega) (by omega))) (zC 2 Z (zG (zD [3,4,5,6,8,13,14,34,35,36] [_,_,_,_,_,_,_,_,_,_] Z (zE (zB (zC 2 Z (zF (v:=.pointer (some (sAt vb (k:Int)))) Z (yO Z zN zS Z Z (by omega) (by rw [ints_length];omega) (fun w1 hw1=>Row.own hvb hw1)) (zF (v:=i6_ (ys.getD ((k:Int).toNat) 0)) Z (yA Z qB Z (fun w1 hw1=>Ints.cell (Row.own hvb hw1) (by omega) (by omega))) (zC 1 Z (zG (zD [3,4,5,6,8,14,15,34,35,36] [_,_,_,_,_,_,_,_,_,_] Z (zE (xV yH (fun _ h=>h.drawn) (by kernel_rfl) (zC 6 Z (zF Z (OpQ.bne Z yU Z Z) (zC 1 Z (yX fun b52 hg52=>?_)))))))))))))))))))))))))
   cases b52
   ·
    refine zF Z (zY (cs:=#[i6_ a.n,str a.set,str a.rel]) 1 Z zP Z Z zM) (zC 2 Z (zF (v:=bo_ (a.inRel (xs.getD ((k:Int).toNat) 0) x)) Z (qN Z jG Z qC (fun w1 hw1=>inRel_ok a (xs.getD ((k:Int).toNat) 0) x w1 ha (by first | assumption | exact St.Els.at (by assumption) (by omega) (by omega)) (by first | assumption | exact St.Els.at (by assumption) (by omega) (by omega)))) (zF Z (zY (cs:=#[i6_ b.n,str b.set,str b.rel]) 0 Z zP Z Z zM) (zC 2 Z (zF (v:=bo_ (b.inRel (ys.getD ((k:Int).toNat) 0) y)) Z (qN Z jG Z qC (fun w1 hw1=>inRel_ok b (ys.getD ((k:Int).toNat) 0) y w1 hb (by first | assumption | exact St.Els.at (by assumption) (by omega) (by omega)) (by first | assumption | exact St.Els.at (by assumption) (by omega) (by omega)))) (zF Z (OpQ.bne Z yU Z Z) (zC 2 Z (yX fun b63 hg63=>?_))))))))
    cases b63
    ·
     refine zF Z (zY (cs:=#[i6_ a.n,str a.set,str a.rel]) 1 Z zP Z Z zM) (zC 2 Z (zF (v:=bo_ (a.inRel x (xs.getD ((k:Int).toNat) 0))) Z (qN Z jG Z qC (fun w1 hw1=>inRel_ok a x (xs.getD ((k:Int).toNat) 0) w1 ha (by first | assumption | exact St.Els.at (by assumption) (by omega) (by omega)) (by first | assumption | exact St.Els.at (by assumption) (by omega) (by omega)))) (zF Z (zY (cs:=#[i6_ b.n,str b.set,str b.rel]) 0 Z zP Z Z zM) (zC 2 Z (zF (v:=bo_ (b.inRel y (ys.getD ((k:Int).toNat) 0))) Z (qN Z jG Z qC (fun w1 hw1=>inRel_ok b y (ys.getD ((k:Int).toNat) 0) w1 hb (by first | assumption | exact St.Els.at (by assumption) (by omega) (by omega)) (by first | assumption | exact St.Els.at (by assumption) (by omega) (by omega)))) (zF Z (OpQ.bne Z yU Z Z) (zC 1 Z (zG (zD [3,4,5,6,8,34,35,36,73] [_,_,_,_,_,_,_,_,_] Z (yK (b:=(a.inRel x (xs.getD ((k:Int).toNat) 0)) != (b.inRel y (ys.getD ((k:Int).toNat) 0))) Z (fun h73=>?_) (fun h73=>?_)))))))))))
     ·
      refine zE (zB (zC 1 Z (zG (zD [12] [_] Z (qQ (qO Z Z fun w' hw=>?_))))))
      have hf:stillB a xs b ys x y=false:=by
       cases hs:stillB a xs b ys x y with
       | false=>rfl
       | true =>
        obtain ⟨e1,e2,e3⟩:=hT.1 hs
        obtain ⟨e4,e5,e6⟩:=pairOk_true.1 (e3 k (by omega))
        simp only [Int.toNat_natCast] at *
        simp_all
      exact ⟨by rw [hf],hw.below⟩
     refine qT (zD [3,4,5,6,8,34,35,36] [_,_,_,_,_,_,_,_] Z (zB (zF Z (qR Z Z Z (by omega) (by omega)) (zC 1 Z (zG (qX (k+1) ⟨by omega,fun i hi=>(Nat.lt_succ_iff_lt_or_eq.1 hi).elim (hall i) (fun e=>by subst e;exact pairOk_true.2 ⟨by simpa using hg52,by simpa using hg63,by simpa using h73⟩)⟩ (by omega) (Sub.sel [3,4,5,6,8,34,35,36] Z) (fun _ h=>h)))))))
    refine zK Z (zK Z (zK Z (zK Z (zK Z (zK Z (zK Z (zK Z (zK Z (zC 1 Z (zG (zD [3,4,5,6,8,34,35,36,73] [_,_,_,_,_,_,_,_,_] Z (xY Z (zE (zB (zC 1 Z (zG (zD [12] [_] Z (qQ (qO Z Z fun w' hw=>?_)))))))))))))))))))
    have hf:stillB a xs b ys x y=false:=by
     cases hs:stillB a xs b ys x y with
     | false=>rfl
     | true =>
      obtain ⟨e1,e2,e3⟩:=hT.1 hs
      obtain ⟨e4,e5,e6⟩:=pairOk_true.1 (e3 k (by omega))
      simp only [Int.toNat_natCast] at *
      simp_all
    exact ⟨by rw [hf],hw.below⟩
   refine zK Z (zK Z (zK Z (zK Z (zK Z (zK Z (zK Z (zK Z (zK Z (zC 2 Z (zK Z (zK Z (zK Z (zK Z (zK Z (zK Z (zK Z (zK Z (zK Z (zC 1 Z (zG (zD [3,4,5,6,8,34,35,36,73] [_,_,_,_,_,_,_,_,_] Z (xY Z (zE (zB (zC 1 Z (zG (zD [12] [_] Z (qQ (qO Z Z fun w' hw=>?_)))))))))))))))))))))))))))))
   have hf:stillB a xs b ys x y=false:=by
    cases hs:stillB a xs b ys x y with
    | false=>rfl
    | true =>
     obtain ⟨e1,e2,e3⟩:=hT.1 hs
     obtain ⟨e4,e5,e6⟩:=pairOk_true.1 (e3 k (by omega))
     simp only [Int.toNat_natCast] at *
     simp_all
   exact ⟨by rw [hf],hw.below⟩
  refine yN Z (zD [] [] Z (zE (zB (zC 1 Z (zG (zD [12] [_] Z (qQ (qO Z Z fun w' hw=>?_))))))))
  exact ⟨by rw [hT.2 ⟨bne_false ‹_›,bne_false ‹_›,fun i hi=>hall i (by omega)⟩],hw.below⟩
 refine zK Z (zK Z (zK Z (zK Z (zK Z (zK Z (zK Z (zK Z (zK Z (zC 1 Z (zG (zD [1,3,4,5,6,8,33] [_,_,_,_,_,_,_] Z (xY Z (zE (zB (zC 1 Z (zG (zD [12] [_] Z (qQ (qO Z Z fun w' hw=>?_)))))))))))))))))))
 have hf:stillB a xs b ys x y=false:=by
  cases hs:stillB a xs b ys x y with
  | false=>rfl
  | true=>obtain ⟨e1,e2,e3⟩:=hT.1 hs;simp_all
 exact ⟨by rw [hf],hw.below⟩
set_option maxHeartbeats 400000 in
theorem sameWay_ok (a b:St) (xs ys:List Int) (va vb:Value) (w:World) (ha:a.Fine) (hb:b.Fine) (hva:Ints w va xs) (hvb:Ints w vb ys) (hA:a.Els xs) (hB:b.Els ys) (hlen:xs.length=ys.length) (hsmall:xs.length≤1000000) :
    Calls Tryd.prog 79 [vS a,va,vS b,vb].toArray w fun en w'=>en=.returned (.bool (sameB a xs b ys))∧Below w.heap.size w w':=by
 refine fnStart (n:=34) (e:=[(0,vS a),(1,va),(2,vS b),(3,vb)]) Tryd.func79 Z Z Z Z Ends.both (zE (zZ (xC (v:=vS a) Z Z Z Z Z fun p4 hp4=>?_)))
 show Ll _ _ (Own _ _ [_]) _ _ ((4,pt_ p4)::_) _ _ _;refine xC (v:=vS b) Z Z Z Z Z fun p6 hp6=>?_
 show Ll _ _ (Own _ _ [_,_]) _ _ ((6,pt_ p6)::_) _ _ _;refine qI 1 Z (zI (zD [1,3,4,6] [_,_,_,_] Z (zE (zE (zB (zC 1 Z (zF (v:=i6_ (xs.length:Int)) Z (yP Z zN Z (ints_length _) (fun w1 hw1=>Row.own hva hw1)) (zC 1 Z (zG (zD [1,3,4,6,11,12] [_,_,_,_,_,_] Z (qJ (yR (σ:=Nat) (fun k=>k≤xs.length∧∀ i:Nat,i<k→stillAt a xs b ys i=true) (fun k=>[(1,va),(3,vb),(4,pt_ p4),(6,pt_ p6),(11,i6_ (xs.length:Int)),(12,i6_ (k:Int))]) (fun k=>Own w.heap.size w [bk_ p6 #[i6_ b.n,str b.set,str b.rel] 24,bk_ p4 #[i6_ a.n,str a.set,str a.rel] 24]) (fun k=>xs.length - k) (0) ⟨by omega,fun i hi=>absurd hi (by omega)⟩ (Sub.sel [1,3,4,6,11,12] Z) (fun _ h=>h) ?_))))))))))))
 rintro k ⟨hk,hall⟩;refine zE (zB (zC 1 Z (zG (zD [1,3,4,6,11,12,13] [_,_,_,_,_,_,_] Z (zE (xI Z (fun h13=>?_) (fun h13=>?_)))))))
 ·
  refine qT (zD [1,3,4,6,11,12] [_,_,_,_,_,_] Z (zE (qJ (zE (zB (zC 2 Z (zG (zD [1,3,4,6,9,11,12] [_,_,_,_,_,_,_] Z (zE (xV yH (fun _ h=>h.drawn) (by kernel_rfl) (zF Z (zY (cs:=#[i6_ a.n,str a.set,str a.rel]) 1 Z zP Z Z zM) (zC 2 Z (zF (v:=sTake va k) Z (OpQ.takeRow (i:=(k:Int)) Z zN zS Z Z (by omega) (by rw [ints_length];omega) (fun w1 hw1=>Row.own hva hw1)) (zF Z (zY (cs:=#[i6_ b.n,str b.set,str b.rel]) 0 Z zP Z Z zM) (zC 2 Z (zF (v:=sTake vb k) Z (OpQ.takeRow (i:=(k:Int)) Z zN zS Z Z (by omega) (by rw [ints_length];omega) (fun w1 hw1=>Row.own hvb hw1)) (zC 2 Z (zF (v:=.pointer (some (sAt va (k:Int)))) Z (yO Z zN zS Z Z (by omega) (by rw [ints_length];omega) (fun w1 hw1=>Row.own hva hw1)) (zF (v:=i6_ (xs.getD ((k:Int).toNat) 0)) Z (yA Z qB Z (fun w1 hw1=>Ints.cell (Row.own hva hw1) (by omega) (by omega))) (zC 2 Z (zF (v:=.pointer (some (sAt vb (k:Int)))) Z (yO Z zN zS Z Z (by omega) (by rw [ints_length];omega) (fun w1 hw1=>Row.own hvb hw1)) (zF (v:=i6_ (ys.getD ((k:Int).toNat) 0)) Z (yA Z qB Z (fun w1 hw1=>Ints.cell (Row.own hvb hw1) (by omega) (by omega))) (zF (v:=bo_ (stillB a (xs.take k) b (ys.take k) (xs.getD ((k:Int).toNat) 0) (ys.getD ((k:Int).toNat) 0))) Z (qN Z Tryd.call116 Z qC (fun w1 hw1=>stillSame_ok a b (xs.take k) (ys.take k) (sTake va k) (sTake vb k) (xs.getD ((k:Int).toNat) 0) (ys.getD ((k:Int).toNat) 0) w1 (ha) (hb) (Ints.take (Row.own hva hw1) k (by omega)) (Ints.take (Row.own hvb hw1) k (by omega)) (hA.take _) (hB.take _) (by first | (simp;done) | (simp;omega) | omega) (by first | (simp;done) | (simp;omega) | omega) (by first | assumption | exact St.Els.at (by assumption) (by omega) (by omega)) (by first | assumption | exact St.Els.at (by assumption) (by omega) (by omega)))) (zC 1 Z (zG (zD [1,3,4,6,11,12,32] [_,_,_,_,_,_,_] Z (yK (b:=!(stillB a (xs.take k) b (ys.take k) (xs.getD ((k:Int).toNat) 0) (ys.getD ((k:Int).toNat) 0))) Z (fun h32=>?_) (fun h32=>?_))))))))))))))))))))))))))))
  ·
   replace h32:=not_true h32;refine zE (zB (zC 1 Z (zG (zD [8] [_] Z (qQ (qO Z Z fun w' hw=>?_))))))
   exact ⟨ret_b (sameB_false (k:=k) (by omega) (by simpa [stillAt] using h32)).symm,hw.below⟩
  replace h32:=not_false h32;refine qT (zD [1,3,4,6,11,12] [_,_,_,_,_,_] Z (zB (zF Z (qR Z Z Z (by omega) (by omega)) (zC 1 Z (zG (qX (k+1) ⟨by omega,fun i hi=>(Nat.lt_succ_iff_lt_or_eq.1 hi).elim (hall i) (fun e=>by subst e;simpa [stillAt] using h32)⟩ (by omega) (Sub.sel [1,3,4,6,11,12] Z) (fun _ h=>h)))))))
 refine yN Z (zD [] [] Z (zE (zB (zC 1 Z (zG (zD [8] [_] Z (qQ (qO Z Z fun w' hw=>?_))))))))
 exact ⟨ret_b (sameB_true (k:=k) (by omega) hall).symm,hw.below⟩
end Go.Proofs.YtagbocafnliabaaDoor
namespace Go.Proofs.YtagbocafnliabaaDoor
open Go.RowKit Go.Wk
set_option linter.unusedSimpArgs false
set_option maxHeartbeats 400000 in
theorem bitD_ok (b:Bool) (w:World) :
    Calls Tryd.prog 118 [bo_ b].toArray w fun en w'=>en=.returned (str (if b then [49] else [48]))∧Below w.heap.size w w':=by
 refine fnStart (n:=4) (e:=[(0,bo_ b)]) Tryd.func118 Z Z Z Z Ends.both (zE (zB (zF (v:=str ([])) Z (jM Z Z) (zG (zD [0] [_] Z (zE (zE (zB (zC 1 Z (zG (zD [3] [_] Z (yK (b:=b) Z (fun h3=>?_) (fun h3=>?_)))))))))))))
 ·
  refine zE (zB (zF (v:=str ([49])) Z (jM Z Z) (zG (zD [2] [_] Z (qQ (qO Z Z fun w' hw=>?_))))))
  exact ⟨by rw [‹b=_›];rfl,hw.below⟩
 refine qT (zD [] [] Z (zE (zB (zF (v:=str ([48])) Z (jM Z Z) (zG (zD [2] [_] Z (qQ (qO Z Z fun w' hw=>?_))))))))
 exact ⟨by rw [‹b=_›];rfl,hw.below⟩
set_option maxHeartbeats 400000 in
theorem pick_ok (B:Nat) (w0:World) (hs:List (Nat×Obj)) (rp p:Nat) (bv:Value) (L:List Int) (n:Int) (w:World) (hb:∀ w,Own B w0 hs w→Row w bv (u8s L)) (hL8:Bytes8 L) (hL:L.length≤2000) (hp:p≤1000000) (hw:Own B w0 ((rp,.cells #[bv,.int .i64 (p:Int)] 104 (0,0))::hs) w) :
    Calls Tryd.prog 64 [pt_ rp,i6_ n].toArray w fun en w'=>∃ k:Int,∃ p':Nat,en=.returned (i6_ k)∧(0≤k∧(1≤n→k<n)∧p'=p+1)∧Own B w0 (((rp,.cells #[bv,.int .i64 (p':Int)] 104 (0,0))::hs)) w':=by
 refine fnStartC (Own B w0 ((rp,.cells #[bv,.int .i64 (p:Int)] 104 (0,0))::hs)) (n:=99) (e:=[(0,pt_ rp),(1,i6_ n)]) Tryd.func64 Z Z Z Z Ends.both hw (zE (zB (zC 1 Z (zG (zD [0,1] [_,_] Z (zE (zZ (qI 2 Z (zT (v:=pt_ rp) Z (qU Z Z) (zT Z (zJ Z xH Z zS Z Z) (zT Z (zQ 0 Z qB Z Z Z) (zT Z (qR Z Z Z (by omega) (by omega)) (zT (v:=pt_ rp) Z (qU Z Z) (zT Z (zJ Z xH Z zS Z Z) (qV (v:=i6_ ((p:Int)+(1:Int))) (hs':=(bk_ rp #[bv,i6_ ((p:Int)+(1:Int))] 104::hs)) 0 Z Z Z Z Z Z zS Z (by simp) Z (zI (zD [0,1] [_,_] Z (zE (zE (zB (zC 3 Z (yX fun b17 hg17=>?_))))))))))))))))))))))
 cases b17
 ·
  replace hg17:=zU hg17;refine zC 1 Z (zF (v:=pt_ rp) Z (qU Z Z) (zF Z (zJ Z xH Z jS Z Z) (zF Z (zQ 0 Z jY Z Z Z) (zF (v:=i6_ (L.length:Int)) Z (yP Z yV Z (u8s_length _) (fun w1 hw1=>hb _ (qW (f:=[_]) hw1))) (zC 2 Z (zG (zD [0,1,24] [_,_,_] Z (yK (b:=decide ((L.length:Int)=(0:Int))) Z (fun h24=>?_) (fun h24=>?_)))))))))
  ·
   replace h24:=zW h24;refine zE (zB (zC 1 Z (zG (zD [4] [_] Z (qQ (qO Z Z fun w' hw=>?_))))))
   exact ⟨0,p+1,rfl,⟨Int.le_refl 0,fun _=>by omega,rfl⟩,hw⟩
  replace h24:=zU h24
  have hlp:0<L.length:=by omega
  refine qT (zD [0,1] [_,_] Z (zE (zB (zC 1 Z (zF (v:=pt_ rp) Z (qU Z Z) (zF Z (zJ Z xH Z zS Z Z) (zF Z (zQ 0 Z qB Z Z Z) (zF (v:=i6_ (p:Int)) Z (qY (by congr 1;omega) (jJ Z Z Z (by omega) (by omega))) (zC 1 Z (zG (zD [0,1,5] [_,_,_] Z (zE (zE (zB (zC 2 Z (zF (v:=pt_ rp) Z (qU Z Z) (zF Z (zJ Z xH Z jS Z Z) (zF Z (zQ 0 Z jY Z Z Z) (zF (v:=i6_ (L.length:Int)) Z (yP Z yV Z (u8s_length _) (fun w1 hw1=>hb _ (qW (f:=[_]) hw1))) (zC 1 Z (zG (zD [0,1,5,36] [_,_,_,_] Z (yK (b:=decide ((p:Int)<(L.length:Int))) Z (fun h36=>?_) (fun h36=>?_))))))))))))))))))))))))
  ·
   replace h36:=zW h36
   have hb0:=hL8.at (i:=(p:Int).toNat) (by omega);refine zE (zB (zC 1 Z (zF (v:=pt_ rp) Z (qU Z Z) (zF Z (zJ Z xH Z jS Z Z) (zF Z (zQ 0 Z jY Z Z Z) (zC 1 Z (zF (v:=.pointer (some (sAt bv (p:Int)))) Z (yO Z yV Tryd.sizeOf5 Z Z (by omega) (by rw [u8s_length];omega) (fun w1 hw1=>hb _ (qW (f:=[_]) hw1))) (zF (v:=.int .u8 (L.getD ((p:Int).toNat) 0)) Z (yA Z Tryd.isAgg5 Z (fun w1 hw1=>u8s_cell (hb _ (qW (f:=[_]) hw1)) (by omega) (by omega))) (zF (v:=i6_ (L.getD ((p:Int).toNat) 0)) Z (OpQ.convInt .i64 Z xS jP Z (IntWalk.i64_in _ (by omega))) (zC 1 Z (zF (v:=i6_ ((L.getD ((p:Int).toNat) 0) % n)) Z (vF Z Z Z (by omega) (by omega)) (zC 1 Z (zG (zD [4] [_] Z (qQ (qO Z Z fun w' hw=>?_))))))))))))))))
   exact ⟨_,p+1,rfl,⟨Int.emod_nonneg _ (by omega),fun _=>Int.emod_lt_of_pos _ (by omega),rfl⟩,hw⟩
  replace h36:=zU h36
  have hm1:=Int.emod_nonneg (p:Int) (b:=(L.length:Int)) (by omega)
  have hm2:=Int.emod_lt_of_pos (p:Int) (b:=(L.length:Int)) (by omega)
  have hm3:=Int.emod_nonneg ((p:Int)*(7:Int)+(3:Int)) (b:=(L.length:Int)) (by omega)
  have hm4:=Int.emod_lt_of_pos ((p:Int)*(7:Int)+(3:Int)) (b:=(L.length:Int)) (by omega)
  have hd1:=Int.ediv_nonneg (a:=(p:Int)) (b:=(L.length:Int)) (by omega) (by omega)
  have hd2:=Int.ediv_le_self (L.length:Int) (show (0:Int)≤(p:Int) by omega)
  have hb1:=hL8.at (i:=((p:Int) % (L.length:Int)).toNat) (by omega)
  have hb2:=hL8.at (i:=(((p:Int)*(7:Int)+(3:Int)) % (L.length:Int)).toNat) (by omega);refine qT (zD [0,1,5] [_,_,_] Z (zE (xV yH (fun _ h=>h.drawn) (by kernel_rfl) (zC 1 Z (zF (v:=pt_ rp) Z (qU Z Z) (zF Z (zJ Z xH Z jS Z Z) (zF Z (zQ 0 Z jY Z Z Z) (zC 2 Z (zF (v:=pt_ rp) Z (qU Z Z) (zF Z (zJ Z xH Z jS Z Z) (zF Z (zQ 0 Z jY Z Z Z) (zF (v:=i6_ (L.length:Int)) Z (yP Z yV Z (u8s_length _) (fun w1 hw1=>hb _ (qW (f:=[_]) hw1))) (zF (v:=i6_ ((p:Int) % (L.length:Int))) Z (vF Z Z Z (by omega) (by omega)) (zF (v:=.pointer (some (sAt bv ((p:Int) % (L.length:Int))))) Z (yO Z yV Tryd.sizeOf5 Z Z (by omega) (by rw [u8s_length];omega) (fun w1 hw1=>hb _ (qW (f:=[_]) hw1))) (zF (v:=.int .u8 (L.getD (((p:Int) % (L.length:Int)).toNat) 0)) Z (yA Z Tryd.isAgg5 Z (fun w1 hw1=>u8s_cell (hb _ (qW (f:=[_]) hw1)) (by omega) (by omega))) (zF (v:=i6_ (L.getD (((p:Int) % (L.length:Int)).toNat) 0)) Z (OpQ.convInt .i64 Z xS jP Z (IntWalk.i64_in _ (by omega))) (zF Z (jL Z Z Z (by omega) (by omega)) (zC 1 Z ?_))))))))))))))))));refine zF (v:=pt_ rp) Z (qU Z Z) (zF Z (zJ Z xH Z jS Z Z) (zF Z (zQ 0 Z jY Z Z Z) (zC 1 Z (zF Z (jL Z Z Z (by omega) (by omega)) (zF Z (qR Z Z Z (by omega) (by omega)) (zC 1 Z (zF (v:=pt_ rp) Z (qU Z Z) (zF Z (zJ Z xH Z jS Z Z) (zF Z (zQ 0 Z jY Z Z Z) (zF (v:=i6_ (L.length:Int)) Z (yP Z yV Z (u8s_length _) (fun w1 hw1=>hb _ (qW (f:=[_]) hw1))) (zF (v:=i6_ ((((p:Int)*(7:Int))+(3:Int)) % (L.length:Int))) Z (vF Z Z Z (by omega) (by omega)) (zF (v:=.pointer (some (sAt bv ((((p:Int)*(7:Int))+(3:Int)) % (L.length:Int))))) Z (yO Z yV Tryd.sizeOf5 Z Z (by omega) (by rw [u8s_length];omega) (fun w1 hw1=>hb _ (qW (f:=[_]) hw1))) (zF (v:=.int .u8 (L.getD (((((p:Int)*(7:Int))+(3:Int)) % (L.length:Int)).toNat) 0)) Z (yA Z Tryd.isAgg5 Z (fun w1 hw1=>u8s_cell (hb _ (qW (f:=[_]) hw1)) (by omega) (by omega))) (zF (v:=i6_ (L.getD (((((p:Int)*(7:Int))+(3:Int)) % (L.length:Int)).toNat) 0)) Z (OpQ.convInt .i64 Z xS jP Z (IntWalk.i64_in _ (by omega))) (zF Z (jL Z Z Z (by omega) (by omega)) (zF Z (qR Z Z Z (by omega) (by omega)) (zC 1 Z (zF Z (jL Z Z Z (by omega) (by omega)) (zF Z (qR Z Z Z (by omega) (by omega)) (zC 2 Z (zF (v:=pt_ rp) Z (qU Z Z) (zF Z (zJ Z xH Z jS Z Z) (zF Z (zQ 0 Z jY Z Z Z) (zF (v:=i6_ (L.length:Int)) Z (yP Z yV Z (u8s_length _) (fun w1 hw1=>hb _ (qW (f:=[_]) hw1))) (zF (v:=i6_ ((p:Int) / (L.length:Int))) Z (OpQ.quo Z Z Z (by omega) (by omega) (by omega)) (zF Z (jL Z Z Z (by omega) (by omega)) (zF Z (qR Z Z Z (by omega) (by omega)) (zC 1 Z (zG (zD [1,6] [_,_] Z (zE (zB (zC 2 Z (zF (v:=i6_ ((((((L.getD (((p:Int) % (L.length:Int)).toNat) 0)*(131:Int))+((L.getD (((((p:Int)*(7:Int))+(3:Int)) % (L.length:Int)).toNat) 0)*(1117:Int)))+((p:Int)*(29:Int)))+(((p:Int) / (L.length:Int))*(53:Int))) / (64:Int))) Z (OpQ.quo Z Z Z (by omega) (by omega) (by decide)) (zF (v:=i6_ (bits .xor .i64 (((((L.getD (((p:Int) % (L.length:Int)).toNat) 0)*(131:Int))+((L.getD (((((p:Int)*(7:Int))+(3:Int)) % (L.length:Int)).toNat) 0)*(1117:Int)))+((p:Int)*(29:Int)))+(((p:Int) / (L.length:Int))*(53:Int))) ((((((L.getD (((p:Int) % (L.length:Int)).toNat) 0)*(131:Int))+((L.getD (((((p:Int)*(7:Int))+(3:Int)) % (L.length:Int)).toNat) 0)*(1117:Int)))+((p:Int)*(29:Int)))+(((p:Int) / (L.length:Int))*(53:Int))) / (64:Int)))) Z (OpQ.xor Z Z Z) (zC 1 Z (zG (zD [1,6] [_,_] Z (zE (zB ?_))))))))))))))))))))))))))))))))))))))))
  have hx0:0≤bits .xor .i64 (((((L.getD (((p:Int) % (L.length:Int)).toNat) 0)*(131:Int))+((L.getD (((((p:Int)*(7:Int))+(3:Int)) % (L.length:Int)).toNat) 0)*(1117:Int)))+((p:Int)*(29:Int)))+(((p:Int) / (L.length:Int))*(53:Int))) ((((((L.getD (((p:Int) % (L.length:Int)).toNat) 0)*(131:Int))+((L.getD (((((p:Int)*(7:Int))+(3:Int)) % (L.length:Int)).toNat) 0)*(1117:Int)))+((p:Int)*(29:Int)))+(((p:Int) / (L.length:Int))*(53:Int))) / (64:Int)):=xor_pos (by omega) (by omega) (Int.ediv_nonneg (by omega) (by decide)) (by omega);refine zC 2 Z (zF (v:=i6_ ((bits .xor .i64 (((((L.getD (((p:Int) % (L.length:Int)).toNat) 0)*(131:Int))+((L.getD (((((p:Int)*(7:Int))+(3:Int)) % (L.length:Int)).toNat) 0)*(1117:Int)))+((p:Int)*(29:Int)))+(((p:Int) / (L.length:Int))*(53:Int))) ((((((L.getD (((p:Int) % (L.length:Int)).toNat) 0)*(131:Int))+((L.getD (((((p:Int)*(7:Int))+(3:Int)) % (L.length:Int)).toNat) 0)*(1117:Int)))+((p:Int)*(29:Int)))+(((p:Int) / (L.length:Int))*(53:Int))) / (64:Int))) % n)) Z (vF Z Z Z hx0 (by omega)) (zC 1 Z (zG (zD [4] [_] Z (qQ (qO Z Z fun w' hw=>?_))))))
  exact ⟨_,p+1,rfl,⟨Int.emod_nonneg _ (by omega),fun _=>Int.emod_lt_of_pos _ (by omega),rfl⟩,hw⟩
 replace hg17:=zW hg17;refine zK Z (zK Z (zK Z (zK Z (zK Z (zK Z (zC 1 Z (zG (zD [0,1,24] [_,_,_] Z (xY Z (zE (zB (zC 1 Z (zG (zD [4] [_] Z (qQ (qO Z Z fun w' hw=>?_))))))))))))))))
 exact ⟨0,p+1,rfl,⟨Int.le_refl 0,fun _=>by omega,rfl⟩,hw⟩
set_option maxHeartbeats 400000 in
theorem num_ok (B:Nat) (w0:World) (hs:List (Nat×Obj)) (rp p:Nat) (bv:Value) (L:List Int) (va:Value) (xs:List Int) (w:World) (hb:∀ w,Own B w0 hs w→Row w bv (u8s L)) (hL8:Bytes8 L) (hL:L.length≤2000) (hva:∀ w,Own B w0 hs w→Ints w va xs) (hne:0<xs.length) (hp:p≤1000000) (hw:Own B w0 ((rp,.cells #[bv,.int .i64 (p:Int)] 104 (0,0))::hs) w) :
    Calls Tryd.prog 33 [pt_ rp,va].toArray w fun en w'=>∃ v:Int,∃ p':Nat,en=.returned (i6_ v)∧(v∈xs∧p'=p+1)∧Own B w0 (((rp,.cells #[bv,.int .i64 (p':Int)] 104 (0,0))::hs)) w':=by
 refine fnStartC (Own B w0 ((rp,.cells #[bv,.int .i64 (p:Int)] 104 (0,0))::hs)) (n:=12) (e:=[(0,pt_ rp),(1,va)]) Tryd.func33 Z Z Z Z Ends.both hw (zE (zB (zC 1 Z (zG (zD [0,1] [_,_] Z (zE (zZ (qI 3 Z (zT (v:=i6_ (xs.length:Int)) Z (yP Z zN Z (ints_length _) (fun w1 hw1=>hva _ (qW (f:=[_]) hw1))) (yS (rp:=rp) (RT:=104) (p:=p) (bv:=bv) (hs:=hs) (ok:=fun (k:Int) p'=>0≤k∧(1≤(xs.length:Int)→k<(xs.length:Int))∧p'=p+1) (v:=fun (k:Int)=>i6_ k) (new:=fun (k:Int)=>[]) (xs:=[.tmp 6,.tmp 8]) (vs:=[pt_ rp,i6_ (xs.length:Int)]) ([]:List (Nat×Obj)) Z Z Z Z jD Z (fun w1 hw1=>(pick_ok B w0 (([]:List (Nat×Obj))++hs) rp p bv L (xs.length:Int) w1 (fun w2 hw2=>hb w2 (qW (f:=([]:List (Nat×Obj))) hw2)) hL8 hL (by omega) hw1).mono fun en w' ⟨k',p',h1,h2,h3⟩=>⟨k',p',h1,h2,h3⟩) fun k9 p_9 hKp_9=>?_))))))))))
 show Ll _ _ (Own _ _ (_::hs)) _ _ ((9,i6_ k9)::_) _ _ _
 obtain ⟨h0k9,h1k9,hep_9⟩:=hKp_9
 try have hltk9:=h1k9 (by first | omega | (split <;> omega) | decide);refine zT (v:=.pointer (some (sAt va k9))) Z (yO Z zN zS Z Z (by omega) (by rw [ints_length];omega) (fun w1 hw1=>hva _ (qW (f:=[_]) hw1))) (zT (v:=i6_ (xs.getD ((k9).toNat) 0)) Z (yA Z qB Z (fun w1 hw1=>Ints.cell (hva _ (qW (f:=[_]) hw1)) (by omega) (by omega))) (qI 1 Z (zI (zD [4] [_] Z (qQ (qO Z Z fun w' hw=>?_))))))
 exact ⟨_,p_9,rfl,⟨by rw [getD_at (by omega)];exact List.getElem_mem _,hep_9⟩,hw⟩
set_option maxHeartbeats 400000 in
theorem of_ok (B:Nat) (w0:World) (hs:List (Nat×Obj)) (rp p:Nat) (bv:Value) (L:List Int) (va:Value) (xs:List (List UInt8)) (w:World) (hb:∀ w,Own B w0 hs w→Row w bv (u8s L)) (hL8:Bytes8 L) (hL:L.length≤2000) (hva:∀ w,Own B w0 hs w→Strs w va xs) (hne:0<xs.length) (hp:p≤1000000) (hw:Own B w0 ((rp,.cells #[bv,.int .i64 (p:Int)] 104 (0,0))::hs) w) :
    Calls Tryd.prog 63 [pt_ rp,va].toArray w fun en w'=>∃ v:List UInt8,∃ p':Nat,en=.returned (str v)∧(v∈xs∧p'=p+1)∧Own B w0 (((rp,.cells #[bv,.int .i64 (p':Int)] 104 (0,0))::hs)) w':=by
 refine fnStartC (Own B w0 ((rp,.cells #[bv,.int .i64 (p:Int)] 104 (0,0))::hs)) (n:=12) (e:=[(0,pt_ rp),(1,va)]) Tryd.func63 Z Z Z Z Ends.both hw (zE (zB (zF (v:=str ([])) Z (jM Z Z) (zG (zD [0,1] [_,_] Z (zE (zZ (qI 3 Z (zT (v:=i6_ (xs.length:Int)) Z (yP Z Tryd.runUnderlying83 Z (strs_length _) (fun w1 hw1=>hva _ (qW (f:=[_]) hw1))) (yS (rp:=rp) (RT:=104) (p:=p) (bv:=bv) (hs:=hs) (ok:=fun (k:Int) p'=>0≤k∧(1≤(xs.length:Int)→k<(xs.length:Int))∧p'=p+1) (v:=fun (k:Int)=>i6_ k) (new:=fun (k:Int)=>[]) (xs:=[.tmp 6,.tmp 8]) (vs:=[pt_ rp,i6_ (xs.length:Int)]) ([]:List (Nat×Obj)) Z Z Z Z jD Z (fun w1 hw1=>(pick_ok B w0 (([]:List (Nat×Obj))++hs) rp p bv L (xs.length:Int) w1 (fun w2 hw2=>hb w2 (qW (f:=([]:List (Nat×Obj))) hw2)) hL8 hL (by omega) hw1).mono fun en w' ⟨k',p',h1,h2,h3⟩=>⟨k',p',h1,h2,h3⟩) fun k9 p_9 hKp_9=>?_))))))))))
 show Ll _ _ (Own _ _ (_::hs)) _ _ ((9,i6_ k9)::_) _ _ _
 obtain ⟨h0k9,h1k9,hep_9⟩:=hKp_9
 try have hltk9:=h1k9 (by first | omega | (split <;> omega) | decide);refine zT (v:=.pointer (some (sAt va k9))) Z (yO Z Tryd.runUnderlying83 zX Z Z (by omega) (by rw [strs_length];omega) (fun w1 hw1=>hva _ (qW (f:=[_]) hw1))) (zT (v:=str (xs.getD ((k9).toNat) [])) Z (yA Z qL Z (fun w1 hw1=>Strs.cell (hva _ (qW (f:=[_]) hw1)) (by omega) (by omega))) (qI 1 Z (zI (zD [4] [_] Z (qQ (qO Z Z fun w' hw=>?_))))))
 exact ⟨_,p_9,rfl,⟨by rw [getD_at (by omega)];exact List.getElem_mem _,hep_9⟩,hw⟩
set_option maxHeartbeats 400000 in
theorem many_ok (s:List UInt8) (w:World) (n:Int) (hn0:0≤n) (hn:n≤100) (hs1:s.length=1) :
    Calls Tryd.prog 113 [str s,i6_ n].toArray w fun en w'=>∃ t:List UInt8,en=.returned (str t)∧(t.length≤40000)∧Below w.heap.size w w':=by
 refine fnStart (n:=20) (e:=[(0,str s),(1,i6_ n)]) Tryd.func113 Z Z Z Z Ends.both (zE (zB (zF (v:=str ([])) Z (jM Z Z) (zG (zD [0,1] [_,_] Z (zE (zB (zF (v:=str ([])) Z (jM Z Z) (zG (zD [0,1,5] [_,_,_] Z (zE (qJ (yR (σ:=Nat×List UInt8×List UInt8×Int) (fun ⟨i,t,u,m⟩=>(0≤m∧m≤100)∧m.toNat*2 ^ i≤100∧u.length=2 ^ i∧t.length≤2 ^ i∧i≤7) (fun ⟨i,t,u,m⟩=>[(0,str u),(1,i6_ m),(5,str t)]) (fun ⟨i,t,u,m⟩=>Own w.heap.size w []) (fun ⟨i,t,u,m⟩=>m.toNat) (0,[],s,n) ⟨by omega,by omega,hs1,by simp,by omega⟩ (Sub.sel [0,1,5] Z) (fun _ h=>h) ?_)))))))))))))
 rintro ⟨i,t,u,m⟩ ⟨⟨hm0,hm9⟩,hm1,hu,ht,hi⟩
 dsimp only;refine zE (zE (zB (zC 2 Z (zG (zD [0,1,5,7] [_,_,_,_] Z (yK (b:=decide ((0:Int)<m)) Z (fun h7=>?_) (fun h7=>?_)))))))
 ·
  replace h7:=zW h7
  have h128:2 ^ i≤128:=Nat.le_trans (Nat.pow_le_pow_right (by decide) hi) (by decide);refine qT (zD [0,1,5] [_,_,_] Z (qJ (zE (zE (zB (zC 1 Z (zF (v:=i6_ (m % (2:Int))) Z (vF Z Z Z (by omega) (by decide)) (zC 1 Z (zG (zD [0,1,5,10] [_,_,_,_] Z (xI Z (fun h10=>?_) (fun h10=>?_))))))))))))
  ·
   refine zB (zC 2 Z (zF Z (yE Z Z Z (by first | omega | (simp only [zL,qG,qF];omega))) (zC 1 Z (zG (zD [0,1,5] [_,_,_] Z (zE (zB (zC 2 Z (zF Z (yE Z Z Z (by first | omega | (simp only [zL,qG,qF];omega))) (zC 1 Z (zG (zD [0,1,5] [_,_,_] Z (zB (zC 1 Z (zF (v:=i6_ (m / (2:Int))) Z (OpQ.quo Z Z Z (by omega) (by omega) (by decide)) (zC 1 Z (zG (qX (i+1,t++u,u++u,m / (2:Int)) ⟨by dsimp only;omega,many_half hm0 hm1,by rw [zL,hu,Nat.pow_succ];omega,by dsimp only;(try rw [zL]);rw [Nat.pow_succ];omega,many_more hm1 (by omega)⟩ (by dsimp only;omega) (Sub.sel [0,1,5] Z) (fun _ h=>h)))))))))))))))))))
  refine qT (zD [0,1,5] [_,_,_] Z (zE (zB (zC 2 Z (zF Z (yE Z Z Z (by first | omega | (simp only [zL,qG,qF];omega))) (zC 1 Z (zG (zD [0,1,5] [_,_,_] Z (zB (zC 1 Z (zF (v:=i6_ (m / (2:Int))) Z (OpQ.quo Z Z Z (by omega) (by omega) (by decide)) (zC 1 Z (zG (qX (i+1,t,u++u,m / (2:Int)) ⟨by dsimp only;omega,many_half hm0 hm1,by rw [zL,hu,Nat.pow_succ];omega,by dsimp only;(try rw [zL]);rw [Nat.pow_succ];omega,many_more hm1 (by omega)⟩ (by dsimp only;omega) (Sub.sel [0,1,5] Z) (fun _ h=>h)))))))))))))))
 replace h7:=zU h7;refine yN Z (zD [5] [_] Z (zE (zB (zC 2 Z (zG (zD [4] [_] Z (qQ (qO Z Z fun w' hw=>?_))))))))
 exact ⟨t,rfl,Nat.le_trans ht (Nat.le_trans (Nat.pow_le_pow_right (by decide) hi) (by decide)),hw.below⟩
end Go.Proofs.YtagbocafnliabaaDoor
namespace Go.Proofs.YtagbocafnliabaaDoor
open Go.RowKit Go.Wk
set_option linter.unusedSimpArgs false
set_option maxHeartbeats 400000 in
theorem l5Atoms_ok (a:St) (va:Value) (xs:List Int) (w:World) (ha:a.Fine) (hva:Ints w va xs) (hA:a.Els xs) (hl7:xs.length≤7) :
    Calls Tryd.prog 82 [vS a,va].toArray w fun en w'=>en=.returned (str (atomBits a xs))∧Below w.heap.size w w':=by
 refine fnStart (n:=65) (e:=[(0,vS a),(1,va)]) Tryd.func82 Z Z Z Z Ends.both (zE (zZ (xC (v:=vS a) Z Z Z Z Z fun p2 hp2=>?_)))
 show Ll _ _ (Own _ _ [_]) _ _ ((2,pt_ p2)::_) _ _ _;refine zT (v:=str ([])) Z (jM Z Z) (zI (zD [1,2] [_,_] Z (zE (zB (zF (v:=str ([])) Z (jM Z Z) (zG (zD [1,2,5] [_,_,_] Z (zE (zE (zB (zC 1 Z (zG (zD [1,2,5,6] [_,_,_,_] Z (qJ (yR (σ:=Nat) (fun k=>k≤xs.length) (fun k=>[(1,va),(2,pt_ p2),(5,str (bitsTo a xs k)),(6,i6_ (k:Int))]) (fun k=>Own w.heap.size w [bk_ p2 #[i6_ a.n,str a.set,str a.rel] 24]) (fun k=>xs.length - k) (0) (by omega) (Sub.cons Z (Sub.cons Z (Sub.cons Z (Sub.sel [6] Z)))) (fun _ h=>h) ?_)))))))))))))))
 rintro k hk;refine zE (zE (zB (zC 2 Z (zF (v:=i6_ (xs.length:Int)) Z (yP Z zN Z (ints_length _) (fun w1 hw1=>Row.own hva hw1)) (zC 1 Z (zG (zD [1,2,5,6,11] [_,_,_,_,_] Z (yK (b:=decide ((k:Int)<(xs.length:Int))) Z (fun h11=>?_) (fun h11=>?_)))))))))
 ·
  replace h11:=zW h11
  have hb:=bits_small (a:=a) (xs:=xs) (i:=k) (by omega);refine qT (zD [1,2,5,6] [_,_,_,_] Z (zE (qJ (zE (xV yH (fun _ h=>h.drawn) (by kernel_rfl) (zC 1 Z (zF Z (zY (cs:=#[i6_ a.n,str a.set,str a.rel]) 0 Z zP Z Z zM) (zC 2 Z (zF (v:=.pointer (some (sAt va (k:Int)))) Z (yO Z zN zS Z Z (by omega) (by rw [ints_length];omega) (fun w1 hw1=>Row.own hva hw1)) (zF (v:=i6_ (xs.getD ((k:Int).toNat) 0)) Z (yA Z qB Z (fun w1 hw1=>Ints.cell (Row.own hva hw1) (by omega) (by omega))) (zF (v:=bo_ (a.inSet (xs.getD ((k:Int).toNat) 0))) Z (qN Z Tryd.call119 Z qC (fun w1 hw1=>l1Set_ok a (xs.getD ((k:Int).toNat) 0) w1 ha (by first | assumption | exact St.Els.at (by assumption) (by omega) (by omega)))) (zF (v:=str ((if a.inSet (xs.getD ((k:Int).toNat) 0) then [49] else [48]))) Z (qN Z yY Z qC (fun w1 hw1=>bitD_ok (a.inSet (xs.getD ((k:Int).toNat) 0)) w1 )) (zF Z (yE Z Z Z (by simp only [zL,pairBits_length,bit_len,bitS_length,qG,qF];omega)) (zC 1 Z (zG (zD [1,2,5,6] [_,_,_,_] Z (zE (zB (zC 1 Z (zG (zD [1,2,5,6,7] [_,_,_,_,_] Z (qJ (yR (σ:=Nat) (fun j=>j≤k+1) (fun j=>[(1,va),(2,pt_ p2),(5,str ((bitsTo a xs k++bitS (a.inSet (xs.getD k 0)))++pairBits a xs k j)),(6,i6_ (k:Int)),(7,i6_ (j:Int))]) (fun j=>Own w.heap.size w [bk_ p2 #[i6_ a.n,str a.set,str a.rel] 24]) (fun j=>k+1 - j) (0) (by omega) (Sub.cons Z (Sub.cons Z (Sub.cons (by simp [pairBits,List.lookup];rfl) (Sub.sel [6,7] Z)))) (fun _ h=>h) ?_)))))))))))))))))))))))
  rintro j hj;refine zE (zE (zB (zC 3 Z (zG (zD [1,2,5,6,7,25] [_,_,_,_,_,_] Z (xI Z (fun h25=>?_) (fun h25=>?_)))))))
  ·
   refine qT (zD [1,2,5,6,7] [_,_,_,_,_] Z ?_);refine zE (qJ (xV yH (fun _ h=>h.drawn) (by kernel_rfl) (zC 3 Z (zF (v:=.pointer (some (sAt va (k:Int)))) Z (yO Z zN zS Z Z (by omega) (by rw [ints_length];omega) (fun w1 hw1=>Row.own hva hw1)) (zF (v:=i6_ (xs.getD ((k:Int).toNat) 0)) Z (yA Z qB Z (fun w1 hw1=>Ints.cell (Row.own hva hw1) (by omega) (by omega))) (zC 2 Z (zF (v:=.pointer (some (sAt va (j:Int)))) Z (yO Z zN zS Z Z (by omega) (by rw [ints_length];omega) (fun w1 hw1=>Row.own hva hw1)) (zF (v:=i6_ (xs.getD ((j:Int).toNat) 0)) Z (yA Z qB Z (fun w1 hw1=>Ints.cell (Row.own hva hw1) (by omega) (by omega))) (zC 1 Z (zF (v:=str ((if decide ((xs.getD ((k:Int).toNat) 0)=(xs.getD ((j:Int).toNat) 0)) then [49] else [48]))) Z (qN Z yY Z qC (fun w1 hw1=>bitD_ok (decide ((xs.getD ((k:Int).toNat) 0)=(xs.getD ((j:Int).toNat) 0))) w1 )) (zF Z (yE Z Z Z (by simp only [zL,pairBits_length,bit_len,bitS_length,qG,qF];omega)) (zF Z (zY (cs:=#[i6_ a.n,str a.set,str a.rel]) 0 Z zP Z Z zM) (zC 2 Z (zF (v:=.pointer (some (sAt va (k:Int)))) Z (yO Z zN zS Z Z (by omega) (by rw [ints_length];omega) (fun w1 hw1=>Row.own hva hw1)) (zF (v:=i6_ (xs.getD ((k:Int).toNat) 0)) Z (yA Z qB Z (fun w1 hw1=>Ints.cell (Row.own hva hw1) (by omega) (by omega))) (zC 2 Z (zF (v:=.pointer (some (sAt va (j:Int)))) Z (yO Z zN zS Z Z (by omega) (by rw [ints_length];omega) (fun w1 hw1=>Row.own hva hw1)) (zF (v:=i6_ (xs.getD ((j:Int).toNat) 0)) Z (yA Z qB Z (fun w1 hw1=>Ints.cell (Row.own hva hw1) (by omega) (by omega))) (zF (v:=bo_ (a.inRel (xs.getD ((k:Int).toNat) 0) (xs.getD ((j:Int).toNat) 0))) Z (qN Z jZ Z qC (fun w1 hw1=>l1Rel_ok a (xs.getD ((k:Int).toNat) 0) (xs.getD ((j:Int).toNat) 0) w1 ha (by first | assumption | exact St.Els.at (by assumption) (by omega) (by omega)) (by first | assumption | exact St.Els.at (by assumption) (by omega) (by omega)))) (zF (v:=str ((if a.inRel (xs.getD ((k:Int).toNat) 0) (xs.getD ((j:Int).toNat) 0) then [49] else [48]))) Z (qN Z yY Z qC (fun w1 hw1=>bitD_ok (a.inRel (xs.getD ((k:Int).toNat) 0) (xs.getD ((j:Int).toNat) 0)) w1 )) (zF Z (yE Z Z Z (by simp only [zL,pairBits_length,bit_len,bitS_length,qG,qF];omega)) (zF Z (zY (cs:=#[i6_ a.n,str a.set,str a.rel]) 0 Z zP Z Z zM) (zC 2 Z (zF (v:=.pointer (some (sAt va (j:Int)))) Z (yO Z zN zS Z Z (by omega) (by rw [ints_length];omega) (fun w1 hw1=>Row.own hva hw1)) (zF (v:=i6_ (xs.getD ((j:Int).toNat) 0)) Z (yA Z qB Z (fun w1 hw1=>Ints.cell (Row.own hva hw1) (by omega) (by omega))) (zC 2 Z (zF (v:=.pointer (some (sAt va (k:Int)))) Z (yO Z zN zS Z Z (by omega) (by rw [ints_length];omega) (fun w1 hw1=>Row.own hva hw1)) (zF (v:=i6_ (xs.getD ((k:Int).toNat) 0)) Z (yA Z qB Z (fun w1 hw1=>Ints.cell (Row.own hva hw1) (by omega) (by omega))) (zF (v:=bo_ (a.inRel (xs.getD ((j:Int).toNat) 0) (xs.getD ((k:Int).toNat) 0))) Z (qN Z jZ Z qC (fun w1 hw1=>l1Rel_ok a (xs.getD ((j:Int).toNat) 0) (xs.getD ((k:Int).toNat) 0) w1 ha (by first | assumption | exact St.Els.at (by assumption) (by omega) (by omega)) (by first | assumption | exact St.Els.at (by assumption) (by omega) (by omega)))) (zF (v:=str ((if a.inRel (xs.getD ((j:Int).toNat) 0) (xs.getD ((k:Int).toNat) 0) then [49] else [48]))) Z (qN Z yY Z qC (fun w1 hw1=>bitD_ok (a.inRel (xs.getD ((j:Int).toNat) 0) (xs.getD ((k:Int).toNat) 0)) w1 )) (zF Z (yE Z Z Z (by simp only [zL,pairBits_length,bit_len,bitS_length,qG,qF];omega)) (zC 1 Z (zG (zD [1,2,5,6,7] [_,_,_,_,_] Z (zB (zC 1 Z (zF Z (qR Z Z Z (by omega) (by omega)) (zC 1 Z (zG (qX (j+1) (by omega) (by omega) (Sub.cons Z (Sub.cons Z (Sub.cons (by rw [pair_step];rfl) (Sub.sel [6,7] Z)))) (fun _ h=>h)))))))))))))))))))))))))))))))))))))))))
  refine yN Z (zD [1,2,5,6] [_,_,_,_] Z (zB (zC 1 Z (zF Z (qR Z Z Z (by omega) (by omega)) (zC 1 Z (zG (qX (k+1) (by omega) (by omega) (Sub.cons Z (Sub.cons Z (Sub.cons (by rw [show j=k+1 from by omega];rfl) (Sub.sel [6] Z)))) (fun _ h=>h))))))))
 replace h11:=zU h11;refine yN Z (zD [5] [_] Z (zE (zB (zC 2 Z (zG (zD [4] [_] Z (qQ (qO Z Z fun w' hw=>?_))))))))
 exact ⟨ret_s (by rw [show k=xs.length from by omega];rfl),hw.below⟩
end Go.Proofs.YtagbocafnliabaaDoor
namespace Go.Proofs.YtagbocafnliabaaDoor
open Go.RowKit Go.Wk
set_option linter.unusedSimpArgs false
set_option maxHeartbeats 400000 in
theorem l7Atoms_ok (a:St) (va:Value) (xs:List Int) (w:World) (hP:Pebbles a xs) (hva:Ints w va xs) :
    Calls Tryd.prog 131 [vS a,va].toArray w fun en w'=>en=.returned (str (signT xs xs.length++atomBits a (placed xs xs.length)))∧Below w.heap.size w w':=by
 refine fnStart (n:=36) (e:=[(0,vS a),(1,va)]) Tryd.func131 Z Z Z Z Ends.both ?_
 have ha:=hP.fine
 have h3:=hP.hi
 have htop:=hP.top;refine zE (zZ (xC (v:=vS a) Z Z Z Z Z fun p2 hp2=>?_))
 show Ll _ _ (Own _ _ [_]) _ _ ((2,pt_ p2)::_) _ _ _;refine zT (v:=str ([])) Z (jM Z Z) (zI (zD [1,2] [_,_] Z (zE (zB (zF (v:=str ([])) Z (jM Z Z) (zG (zD [1,2,5] [_,_,_] Z (zE (zZ (yD (xs:=[]) (vs:=[]) qD Z Z Z Z Z Z (by decide) Z fun p8 hp8=>(qI 1 Z (zI (zD [1,2,5,6] [_,_,_,_] Z (zE (zE (zB (zC 1 Z (zG (zD [1,2,5,6,7] [_,_,_,_,_] Z (qJ (yR (σ:=Nat×Nat×Nat×Array Value) (fun ⟨k,g,c,cur⟩=>(k≤xs.length)∧w.heap.size≤g∧cur.size=c*1∧(placed xs k).length≤c∧cur.toList.take ((placed xs k).length*1)=ints (placed xs k)) (fun ⟨k,g,c,cur⟩=>[(1,va),(2,pt_ p2),(5,str (signT xs k)),(6,sl_ g ((placed xs k).length) c),(7,i6_ (k:Int))]) (fun ⟨k,g,c,cur⟩=>Own w.heap.size w [bk_ g cur 3,bk_ p2 #[i6_ a.n,str a.set,str a.rel] 24]) (fun ⟨k,g,c,cur⟩=>xs.length - k) (0,p8,0,#[]) ⟨by omega,hp8,rfl,by simp,rfl⟩ (Sub.cons Z (Sub.cons Z (Sub.cons Z (Sub.sel [6,7] Z)))) (fun _ h=>h) ?_)))))))))))))))))))))
 rintro ⟨k,g,c,cur⟩ ⟨hk,hg,hc,hl,ht⟩
 dsimp only;refine zE (zE (zB (zC 2 Z (zF (v:=i6_ (xs.length:Int)) Z (yP Z zN Z (ints_length _) (fun w1 hw1=>Row.own hva hw1)) (zC 1 Z (zG (zD [1,2,5,6,7,12] [_,_,_,_,_,_] Z (yK (b:=decide ((k:Int)<(xs.length:Int))) Z (fun h12=>?_) (fun h12=>?_)))))))))
 ·
  replace h12:=zW h12
  have hple:=placed_le xs k;refine qT (zD [1,2,5,6,7] [_,_,_,_,_] Z (zE (qJ (zE (zE (zB (zC 2 Z (zF (v:=.pointer (some (sAt va (k:Int)))) Z (yO Z zN zS Z Z (by omega) (by rw [ints_length];omega) (fun w1 hw1=>Row.own hva hw1)) (zF (v:=i6_ (xs.getD ((k:Int).toNat) 0)) Z (yA Z qB Z (fun w1 hw1=>Ints.cell (Row.own hva hw1) (by omega) (by omega))) (zC 1 Z (zG (zD [1,2,5,6,7,19] [_,_,_,_,_,_] Z (xI Z (fun h19=>?_) (fun h19=>?_))))))))))))))
  ·
   refine zE (zB (zC 1 Z (zF Z (yE Z Z Z (by simp only [signT_length,qG,qF];omega)) (zC 1 Z (zG (zD [1,2,5,6,7] [_,_,_,_,_] Z (yN Z (zD [1,2,5,6,7] [_,_,_,_,_] Z (zB (zC 1 Z (zF Z (qR Z Z Z (by omega) (by omega)) (zC 1 Z (zG (qX (k+1,g,c,cur) ⟨(by omega),hg,hc,(by rw [placed_neg (by assumption)];exact hl),(by rw [placed_neg (by assumption)];exact ht)⟩ (by omega) (Sub.cons Z (Sub.cons Z (Sub.cons (by first | (rw [signT_neg (by assumption)];rfl) | (rw [signT_pos (by assumption)];rfl)) (Sub.cons (by rw [placed_neg (by assumption)];rfl) (Sub.sel [7] Z))))) (fun _ h=>h)))))))))))))))
  refine qT (zD [1,2,5,6,7] [_,_,_,_,_] Z (zE (zB (zC 1 Z (zF Z (yE Z Z Z (by simp only [signT_length,qG,qF];omega)) (zC 1 Z (zG (zD [1,2,5,6,7] [_,_,_,_,_] Z (zZ (qI 3 Z (zT (v:=.pointer (some (sAt va (k:Int)))) Z (yO Z zN zS Z Z (by omega) (by rw [ints_length];omega) (fun w1 hw1=>Row.own hva hw1)) (zT (v:=i6_ (xs.getD ((k:Int).toNat) 0)) Z (yA Z qB Z (fun w1 hw1=>Ints.cell (Row.own hva hw1) (by omega) (by omega))) (yD (xs:=[.tmp 28]) (vs:=[i6_ (xs.getD ((k:Int).toNat) 0)]) qD Z Z Z Z Z Z (by decide) Z fun p29 hp29=>(yI (xs:=placed xs k) (ys:=[xs.getD ((k:Int).toNat) 0]) qD 1 Z Z Z Z Z Z Z hc hl (by simpa using ht) (fun w1 hw1=>(yC hw1 (i:=0) Z (n:=1) (cap:=1) (vs:=ints [xs.getD ((k:Int).toNat) 0]) Z Z (by decide))) (((placed xs k)++([xs.getD ((k:Int).toNat) 0])).length) (by first | (simp;done) | (simp;omega)) (by first | (simp;done) | (simp;omega) | omega) fun p30 cap30 cur30 hp30 hcp30 hlp30 htp30=>?_))))))))))))))
  show Ll _ _ (Own _ _ [_,_,_]) _ _ ((30,sl_ p30 ((((placed xs k)++([xs.getD ((k:Int).toNat) 0])).length)) cap30)::_) _ _ _;refine qI 1 Z (zI (zD [1,2,5,6,7] [_,_,_,_,_] Z (zB (zC 1 Z (zF Z (qR Z Z Z (by omega) (by omega)) (zC 1 Z (zG (qX (k+1,p30,cap30,cur30) ⟨(by omega),(by omega),hcp30,(by rw [placed_pos (by assumption)];exact hlp30),(by rw [placed_pos (by assumption)];exact htp30)⟩ (by omega) (Sub.cons Z (Sub.cons Z (Sub.cons (by first | (rw [signT_neg (by assumption)];rfl) | (rw [signT_pos (by assumption)];rfl)) (Sub.cons (by rw [placed_pos (by assumption)];rfl) (Sub.sel [7] Z))))) (fun _ h=>h.tail)))))))))
 replace h12:=zU h12
 have hple:=placed_le xs k
 have hbs:=bits_small (a:=a) (xs:=placed xs k) (i:=(placed xs k).length) (by omega);refine yN Z (zD [2,5,6] [_,_,_] Z (zE (zB (zC 1 Z (zF Z (zY (cs:=#[i6_ a.n,str a.set,str a.rel]) 1 Z zP Z Z zM) (zC 1 Z (zF (v:=str (atomBits a (placed xs k))) Z (qN Z Tryd.call82 Z qC (fun w1 hw1=>l5Atoms_ok a (sl_ g ((placed xs k).length) c) (placed xs k) w1 ha (yC hw1 (i:=0) Z (by simpa using ht) (by simp) hl) (placed_els hk htop) (by omega))) (zF Z (yE Z Z Z (by unfold atomBits;simp only [signT_length];omega)) (zC 1 Z (zG (zD [4] [_] Z (qQ (qO Z Z fun w' hw=>?_)))))))))))))
 exact ⟨ret_s (by rw [show k=xs.length from by omega]),hw.below⟩
set_option maxHeartbeats 400000 in
theorem noPeb_ok (a:St) (g T:Nat) (x:Int) (w:World) (hg:w.heap[g]?=some (.cells #[.int .i64 a.n,str a.set,str a.rel] T (0,0))) :
    Calls Tryd.prog 151 [i6_ x,.pointer (some ⟨g,0,none⟩)].toArray w fun en w'=>en=.returned (.bool (!inB x (-1) (a.n - 1)))∧Below w.heap.size w w':=by
 refine fnStart (n:=12) (e:=[(0,i6_ x),(1,.pointer (some ⟨g,0,none⟩))]) Tryd.func151 Z Z Z Z Ends.both (zE (zB (zC 1 Z (zG (zD [0,1] [_,_] Z (zE (zB (zC 3 Z (yX fun b6 hg6=>?_)))))))))
 cases b6
 ·
  replace hg6:=zU hg6;refine zC 1 Z (zF Z (zJ Z zH Z zS Z Z) (zF (v:=i6_ a.n) Z (yA Z qB Z (fun w1 hw1=>at_box hg hw1 0 Z)) (zC 3 Z (zG (zD [3] [_] Z (qQ (qO Z Z fun w' hw=>?_)))))))
  exact ⟨ret_b (by first | exact pel_neg (by assumption) | exact pel_geq (by assumption)),hw.below⟩
 replace hg6:=zW hg6;refine zK Z (zK Z (zK Z (zK Z (zC 2 Z (zG (zD [3] [_] Z (qQ (qO Z Z fun w' hw=>?_))))))))
 exact ⟨ret_b (by first | exact pel_neg (by assumption) | exact pel_geq (by assumption)),hw.below⟩
set_option maxHeartbeats 400000 in
theorem arePebbles_ok (a:St) (va:Value) (xs:List Int) (w:World) (hva:Ints w va xs) (hs:xs.length≤140737488355328) :
    Calls Tryd.prog 127 [vS a,va].toArray w fun en w'=>en=.returned (.bool (pebL a xs))∧Below w.heap.size w w':=by
 refine fnStart (n:=19) (e:=[(0,vS a),(1,va)]) Tryd.func127 Z Z Z Z Ends.both (zE (zZ (xC (v:=vS a) Z Z Z Z Z fun p2 hp2=>?_)))
 show Ll _ _ (Own _ _ [_]) _ _ ((2,pt_ p2)::_) _ _ _;refine qI 1 Z (zI (zD [1,2] [_,_] Z (zE (zB (zC 1 Z (zF (v:=i6_ (xs.length:Int)) Z (yP Z zN Z (ints_length _) (fun w1 hw1=>Row.own hva hw1)) (zC 2 Z (yX fun b8 hg8=>?_))))))))
 cases b8
 ·
  replace hg8:=zU hg8;refine zK Z (zK Z (zK Z (zC 2 Z (zK Z (zK Z (zK Z (zK Z (zC 2 Z (zG (zD [4] [_] Z (qQ (qO Z Z fun w' hw=>?_))))))))))))
  exact ⟨ret_b (by unfold pebL;first | (rw [not_any_pel];simp [*];done) | (rw [← not_any_pel];simp [*];done) | (simp [*];omega)),hw.below⟩
 replace hg8:=zW hg8;refine zC 1 Z (zF (v:=i6_ (xs.length:Int)) Z (yP Z zN Z (ints_length _) (fun w1 hw1=>Row.own hva hw1)) (zC 3 Z (yX fun b13 hg13=>?_)))
 cases b13
 ·
  replace hg13:=zU hg13;refine zK Z (zK Z (zK Z (zK Z (zC 2 Z (zG (zD [4] [_] Z (qQ (qO Z Z fun w' hw=>?_))))))))
  exact ⟨ret_b (by unfold pebL;first | (rw [not_any_pel];simp [*];done) | (rw [← not_any_pel];simp [*];done) | (simp [*];omega)),hw.below⟩
 replace hg13:=zW hg13;refine zC 1 Z (zF (v:=.func (.func 151) #[] #[pt_ p2]) Z (OpQ.func' (cap:=[.tmp 2]) Z Z) (zF (v:=bo_ (xs.any fun x=>!inB x (-1) (a.n - 1))) Z (qN Z Tryd.call110 Z qC (fun w1 hw1=>containsFunc_ok va xs w1 (Row.own hva hw1) hs 151 #[.pointer (some ⟨p2,0,none⟩)] (fun x=>!inB x (-1) (a.n - 1)) Tryd.call151 (fun w2 hb x=>noPeb_ok a _ _ x w2 ((hw1.stable _ _ hb).has 0 _ _ Z).2))) (zC 3 Z (zG (zD [4] [_] Z (qQ (qO Z Z fun w' hw=>?_)))))))
 exact ⟨ret_b (by unfold pebL;first | (rw [not_any_pel];simp [*];done) | (rw [← not_any_pel];simp [*];done) | (simp [*];omega)),hw.below⟩
set_option maxHeartbeats 400000 in
theorem areReady_ok (a b:St) (xs ys:List Int) (va vb:Value) (w:World) (hsa:a.Small) (hsb:b.Small) (hva:Ints w va xs) (hvb:Ints w vb ys) (hs1:xs.length≤140737488355328) (hs2:ys.length≤140737488355328) :
    Calls Tryd.prog 95 [vS a,va,vS b,vb].toArray w fun en w'=>en=.returned (.bool (readyB a xs b ys))∧Below w.heap.size w w':=by
 refine fnStart (n:=54) (e:=[(0,vS a),(1,va),(2,vS b),(3,vb)]) Tryd.func95 Z Z Z Z Ends.both (zE (zZ (xC (v:=vS a) Z Z Z Z Z fun p4 hp4=>?_)))
 show Ll _ _ (Own _ _ [_]) _ _ ((4,pt_ p4)::_) _ _ _;refine xC (v:=vS b) Z Z Z Z Z fun p6 hp6=>?_
 show Ll _ _ (Own _ _ [_,_]) _ _ ((6,pt_ p6)::_) _ _ _;refine qI 1 Z (zI (zD [1,3,4,6] [_,_,_,_] Z (zE (zE (zB (zF Z (zY (cs:=#[i6_ a.n,str a.set,str a.rel]) 1 Z zP Z Z zM) (zF (v:=bo_ (validB a)) Z (qN Z Tryd.call34 Z qC (fun w1 hw1=>isStructure_ok a w1 hsa)) (zC 2 Z (yX fun b14 hg14=>?_)))))))))
 cases b14
 ·
  replace hg14:=not_false hg14;refine zF Z (zY (cs:=#[i6_ b.n,str b.set,str b.rel]) 0 Z zP Z Z zM) (zF (v:=bo_ (validB b)) Z (qN Z Tryd.call34 Z qC (fun w1 hw1=>isStructure_ok b w1 hsb)) (zC 3 Z (yX fun b19 hg19=>?_)))
  cases b19
  ·
   replace hg19:=not_false hg19;refine zF Z (zY (cs:=#[i6_ a.n,str a.set,str a.rel]) 1 Z zP Z Z zM) (zC 1 Z (zF (v:=bo_ (pebL a xs)) Z (qN Z Tryd.call127 Z qC (fun w1 hw1=>arePebbles_ok a va xs w1 (Row.own hva hw1) (by first | (simp;done) | (simp;omega) | omega))) (zC 3 Z (yX fun b25 hg25=>?_))))
   cases b25
   ·
    replace hg25:=not_false hg25;refine zF Z (zY (cs:=#[i6_ b.n,str b.set,str b.rel]) 0 Z zP Z Z zM) (zC 1 Z (zF (v:=bo_ (pebL b ys)) Z (qN Z Tryd.call127 Z qC (fun w1 hw1=>arePebbles_ok b vb ys w1 (Row.own hvb hw1) (by first | (simp;done) | (simp;omega) | omega))) (zC 3 Z (yX fun b31 hg31=>?_))))
    cases b31
    ·
     replace hg31:=not_false hg31;refine zC 1 Z (zF (v:=i6_ (xs.length:Int)) Z (yP Z zN Z (ints_length _) (fun w1 hw1=>Row.own hva hw1)) (zC 1 Z (zF (v:=i6_ (ys.length:Int)) Z (yP Z zN Z (ints_length _) (fun w1 hw1=>Row.own hvb hw1)) (zC 2 Z (zG (zD [1,3,37] [_,_,_] Z (yK (b:=!(decide ((xs.length:Int)=(ys.length:Int)))) Z (fun h37=>?_) (fun h37=>?_))))))))
     ·
      replace h37:=not_true h37
      replace h37:=zU h37;refine zE (zB (zC 1 Z (zG (zD [8] [_] Z (qQ (qO Z Z fun w' hw=>?_))))))
      exact ⟨ret_b (by unfold readyB;rw [pebB_eq,pebB_eq];first | (simp [*];done) | (rw [signs_no (k:=k) (by omega) (beq_of_bneT (by assumption))];simp;done) | (rw [signs_yes (k:=k) (by omega) hall];simp [*];done) | (simp [*];omega)),hw.below⟩
     replace h37:=not_false h37
     replace h37:=zW h37;refine qT (zD [1,3] [_,_] Z (zE (zE (zB (zC 1 Z (zF (v:=i6_ (xs.length:Int)) Z (yP Z zN Z (ints_length _) (fun w1 hw1=>Row.own hva hw1)) (zC 1 Z (zG (zD [3,38,39,40] [_,_,_,_] Z (qJ (yR (σ:=Nat) (fun k=>k≤xs.length∧∀ i:Nat,i<k→(decide (xs.getD i 0<0)==decide (ys.getD i 0<0))=true) (fun k=>[(3,vb),(38,va),(39,i6_ (xs.length:Int)),(40,i6_ (k:Int))]) (fun k=>Own w.heap.size w [bk_ p6 #[i6_ b.n,str b.set,str b.rel] 24,bk_ p4 #[i6_ a.n,str a.set,str a.rel] 24]) (fun k=>xs.length - k) (0) ⟨by omega,fun i hi=>absurd hi (by omega)⟩ (Sub.sel [3,38,39,40] Z) (fun _ h=>h) ?_)))))))))))
     rintro k ⟨hk,hall⟩;refine zE (zB (zC 1 Z (zG (zD [3,38,39,40,41] [_,_,_,_,_] Z (zE (xI Z (fun h41=>?_) (fun h41=>?_)))))))
     ·
      refine qT (zD [3,38,39,40] [_,_,_,_] Z (zE (qJ (zE (zB (zC 1 Z (zF (v:=.pointer (some (sAt va (k:Int)))) Z (yO Z zN zS Z Z (by omega) (by rw [ints_length];omega) (fun w1 hw1=>Row.own hva hw1)) (zF (v:=i6_ (xs.getD ((k:Int).toNat) 0)) Z (yA Z qB Z (fun w1 hw1=>Ints.cell (Row.own hva hw1) (by omega) (by omega))) (zC 2 Z (zG (zD [3,9,10,38,39,40] [_,_,_,_,_,_] Z (zE (zB (zC 4 Z (zF (v:=.pointer (some (sAt vb (k:Int)))) Z (yO Z zN zS Z Z (by omega) (by rw [ints_length];omega) (fun w1 hw1=>Row.own hvb hw1)) (zF (v:=i6_ (ys.getD ((k:Int).toNat) 0)) Z (yA Z qB Z (fun w1 hw1=>Ints.cell (Row.own hvb hw1) (by omega) (by omega))) (zC 1 Z (zF Z (OpQ.bne Z yU Z Z) (zG (zD [3,38,39,40,52] [_,_,_,_,_] Z (yK (b:=(decide ((xs.getD ((k:Int).toNat) 0)<(0:Int))) != (decide ((ys.getD ((k:Int).toNat) 0)<(0:Int)))) Z (fun h52=>?_) (fun h52=>?_))))))))))))))))))))))
      ·
       refine zE (zB (zC 1 Z (zG (zD [8] [_] Z (qQ (qO Z Z fun w' hw=>?_))))))
       exact ⟨ret_b (by unfold readyB;rw [pebB_eq,pebB_eq];first | (simp [*];done) | (rw [signs_no (k:=k) (by omega) (beq_of_bneT (by assumption))];simp;done) | (rw [signs_yes (k:=k) (by omega) hall];simp [*];done) | (simp [*];omega)),hw.below⟩
      refine qT (zD [3,38,39,40] [_,_,_,_] Z (zB (zF Z (qR Z Z Z (by omega) (by omega)) (zC 1 Z (zG (qX (k+1) ⟨by omega,fun i hi=>(Nat.lt_succ_iff_lt_or_eq.1 hi).elim (hall i) (fun e=>by subst e;exact beq_of_bne h52)⟩ (by omega) (Sub.sel [3,38,39,40] Z) (fun _ h=>h)))))))
     refine yN Z (zD [] [] Z (zE (zB (zC 1 Z (zG (zD [8] [_] Z (qQ (qO Z Z fun w' hw=>?_))))))))
     exact ⟨ret_b (by unfold readyB;rw [pebB_eq,pebB_eq];first | (simp [*];done) | (rw [signs_no (k:=k) (by omega) (beq_of_bneT (by assumption))];simp;done) | (rw [signs_yes (k:=k) (by omega) hall];simp [*];done) | (simp [*];omega)),hw.below⟩
    replace hg31:=not_true hg31;refine zK Z (zK Z (zK Z (zK Z (zK Z (zC 1 Z (zG (zD [1,3,37] [_,_,_] Z (xY Z (zE (zB (zC 1 Z (zG (zD [8] [_] Z (qQ (qO Z Z fun w' hw=>?_)))))))))))))))
    exact ⟨ret_b (by unfold readyB;rw [pebB_eq,pebB_eq];first | (simp [*];done) | (rw [signs_no (k:=k) (by omega) (beq_of_bneT (by assumption))];simp;done) | (rw [signs_yes (k:=k) (by omega) hall];simp [*];done) | (simp [*];omega)),hw.below⟩
   replace hg25:=not_true hg25;refine zK Z (zK Z (zK Z (zK Z (zC 2 Z (zK Z (zK Z (zK Z (zK Z (zK Z (zC 1 Z (zG (zD [1,3,37] [_,_,_] Z (xY Z (zE (zB (zC 1 Z (zG (zD [8] [_] Z (qQ (qO Z Z fun w' hw=>?_))))))))))))))))))))
   exact ⟨ret_b (by unfold readyB;rw [pebB_eq,pebB_eq];first | (simp [*];done) | (rw [signs_no (k:=k) (by omega) (beq_of_bneT (by assumption))];simp;done) | (rw [signs_yes (k:=k) (by omega) hall];simp [*];done) | (simp [*];omega)),hw.below⟩
  replace hg19:=not_true hg19;refine zK Z (zK Z (zK Z (zK Z (zC 2 Z (zK Z (zK Z (zK Z (zK Z (zC 2 Z (zK Z (zK Z (zK Z (zK Z (zK Z (zC 1 Z (zG (zD [1,3,37] [_,_,_] Z (xY Z (zE (zB (zC 1 Z (zG (zD [8] [_] Z (qQ (qO Z Z fun w' hw=>?_)))))))))))))))))))))))))
  exact ⟨ret_b (by unfold readyB;rw [pebB_eq,pebB_eq];first | (simp [*];done) | (rw [signs_no (k:=k) (by omega) (beq_of_bneT (by assumption))];simp;done) | (rw [signs_yes (k:=k) (by omega) hall];simp [*];done) | (simp [*];omega)),hw.below⟩
 replace hg14:=not_true hg14;refine zK Z (zK Z (zK Z (zC 2 Z (zK Z (zK Z (zK Z (zK Z (zC 2 Z (zK Z (zK Z (zK Z (zK Z (zC 2 Z (zK Z (zK Z (zK Z (zK Z (zK Z (zC 1 Z (zG (zD [1,3,37] [_,_,_] Z (xY Z (zE (zB (zC 1 Z (zG (zD [8] [_] Z (qQ (qO Z Z fun w' hw=>?_)))))))))))))))))))))))))))))
 exact ⟨ret_b (by unfold readyB;rw [pebB_eq,pebB_eq];first | (simp [*];done) | (rw [signs_no (k:=k) (by omega) (beq_of_bneT (by assumption))];simp;done) | (rw [signs_yes (k:=k) (by omega) hall];simp [*];done) | (simp [*];omega)),hw.below⟩
end Go.Proofs.YtagbocafnliabaaDoor
