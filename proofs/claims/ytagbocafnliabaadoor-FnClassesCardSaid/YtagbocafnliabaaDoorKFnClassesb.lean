/-
  FnClasses: all that its proof names (part 2)
-/
import Derived.Test.YtagbocafnliabaaDoorKFnClassesa
import Derived.MapKept
import Derived.Shelf.Strings.SlTrimAscii
import Derived.Shelf.Strings.Trim
import Derived.Test.YtagbocafnliabaaDoorProg
namespace Go.Wk
open Go.RowKit
def clsN (q:Nat→Nat→Bool):Nat→List Int×Nat
 | 0=>([],0)
 | x+1=>match (List.range x).find? (fun y=>q y x) with
  | some y=>((clsN q x).1++[(clsN q x).1.getD y 0],(clsN q x).2)
  | none=>((clsN q x).1++[((clsN q x).2:Int)],(clsN q x).2+1)
section
variable {q:Nat→Nat→Bool}
theorem cls_old {x y:Nat} (hy:y<x) (hall:∀ i,i<y→q i x=false) (h:q y x=true):clsN q (x+1)=((clsN q x).1++[(clsN q x).1.getD y 0],(clsN q x).2):=by
 rw [clsN,find_at (f:=fun y=>q y x) hy hall h]
theorem cls_new {x:Nat} (hall:∀ i,i<x→q i x=false):clsN q (x+1)=((clsN q x).1++[((clsN q x).2:Int)],(clsN q x).2+1):=by
 have:(List.range x).find? (fun y=>q y x)=none:=by rw [List.find?_eq_none];intro i hi;rw [hall i (List.mem_range.1 hi)];simp
 rw [clsN,this]
theorem cls_cases (q:Nat→Nat→Bool) (x:Nat):(∃ y,y<x∧(∀ i,i<y→q i x=false)∧q y x=true)∨∀ i,i<x→q i x=false:=by
 cases h:(List.range x).find? (fun y=>q y x) with
 | none=>exact .inr fun i hi=>by simpa using List.find?_eq_none.1 h i (List.mem_range.2 hi)
 | some y =>
  rw [List.find?_range_eq_some] at h
  exact .inl ⟨y,List.mem_range.1 h.2.1,fun i hi=>by simpa using h.2.2 i hi,h.1⟩
theorem cls_length (q:Nat→Nat→Bool):∀ x,(clsN q x).1.length=x
  | 0=>rfl
  | x+1=>by
    rcases cls_cases q x with ⟨y,h1,h2,h3⟩ | h
    · rw [cls_old h1 h2 h3];simp [cls_length q x]
    · rw [cls_new h];simp [cls_length q x]
theorem cls_small (q:Nat→Nat→Bool):∀ x,(clsN q x).2≤x∧∀ m∈(clsN q x).1,0≤m∧m<((clsN q x).2:Int)
  | 0=>⟨Nat.le_refl _,fun m hm=>by cases hm⟩
  | x+1=>by
    obtain ⟨i1,i2⟩:=cls_small q x
    rcases cls_cases q x with ⟨y,h1,h2,h3⟩ | h
    · rw [cls_old h1 h2 h3]
      refine ⟨by dsimp only;omega,fun m hm=>?_⟩
      rcases List.mem_append.1 hm with h4 | h4
      · exact i2 m h4
      · rw [List.mem_singleton.1 h4]
        have hl:=cls_length q x
        rw [getD_at (by omega)];exact i2 _ (List.getElem_mem _)
    · rw [cls_new h]
      refine ⟨by dsimp only;omega,fun m hm=>?_⟩
      rcases List.mem_append.1 hm with h4 | h4
      · have:=i2 m h4;dsimp only;omega
      · rw [List.mem_singleton.1 h4];dsimp only;omega
theorem cls_at {x y:Nat} (hy:y<x):0≤(clsN q x).1.getD y 0∧(clsN q x).1.getD y 0<x:=by
 have hl:=cls_length q x
 have hs:=cls_small q x
 rw [getD_at (by omega)]
 have:=hs.2 _ (List.getElem_mem (l:=(clsN q x).1) (n:=y) (by omega))
 omega
end
structure SeenL (T:List (List UInt8)) (n:Nat) (a:St) (x:Nat) (S O:List Int):Prop where
 cls:clsN (fun y x=>winB n a [(y:Int)] a [(x:Int)]) x=(O,S.length)
 nodup:S.Nodup
 out:∀ y:Nat,y<x→∃ m k:Nat,Means T n a [(y:Int)] m∧O.getD y 0=(k:Int)∧S[k]?=some (m:Int)
 seen:∀ s∈S,∃ m y:Nat,s=(m:Int)∧y<x∧Means T n a [(y:Int)] m
theorem SeenL.zero {T:List (List UInt8)} {n:Nat} {a:St}:SeenL T n a 0 [] []:=⟨rfl,List.nodup_nil,fun y hy=>absurd hy (by omega),fun s hs=>by cases hs⟩
theorem SeenL.len {T:List (List UInt8)} {n:Nat} {a:St} {x:Nat} {S O:List Int} (h:SeenL T n a x S O):O.length=x∧S.length≤x:=by
 have h1:=cls_length (fun y x=>winB n a [(y:Int)] a [(x:Int)]) x
 have h2:=(cls_small (fun y x=>winB n a [(y:Int)] a [(x:Int)]) x).1
 rw [h.cls] at h1 h2
 exact ⟨h1,h2⟩
theorem getD_app1 {l r:List Int} {i:Nat} (h:i<l.length):(l++r).getD i 0=l.getD i 0:=by
 rw [List.getD_eq_getElem?_getD,List.getElem?_append_left h,← List.getD_eq_getElem?_getD]
theorem getD_app2 {l:List Int} {z:Int}:(l++[z]).getD l.length 0=z:=by
 rw [List.getD_eq_getElem?_getD];simp
theorem nodup_at {S:List Int} (h:S.Nodup) {i j:Nat} {m:Int} (hi:S[i]?=some m) (hj:S[j]?=some m):i=j :=
 (List.getElem?_inj (List.getElem?_eq_some_iff.1 hi).1 h).1 (hi.trans hj.symm)
theorem SeenL.old {T T':List (List UInt8)} {n:Nat} {a:St} {x:Nat} {S O:List Int} (h:SeenL T n a x S O) (hp:T <+: T') (hT:T'.Nodup) {m k:Nat} (hm:Means T' n a [(x:Int)] m) (hk:S[k]?=some (m:Int)):SeenL T' n a (x+1) S (O++[(k:Int)]):=by
  obtain ⟨hOl,hSl⟩:=h.len
  have heq:∀ (y:Nat) (m':Nat),Means T' n a [(y:Int)] m'→(m'=m↔winB n a [(y:Int)] a [(x:Int)]=true):=fun y m' hm'=>by
    rw [means_win hT n a [(y:Int)] a [(x:Int)] m' m rfl hm' hm,win_iff n a [(y:Int)] a [(x:Int)] rfl]
  refine ⟨?_,h.nodup,fun y hy=>?_,fun s hs=>?_⟩
  · rcases cls_cases (fun y x=>winB n a [(y:Int)] a [(x:Int)]) x with ⟨y,h1,h2,h3⟩ | hno
    · rw [cls_old h1 h2 h3,h.cls]
      obtain ⟨m',k',e1,e2,e3⟩:=h.out y h1
      have e4:=(heq y m' (e1.mono hp _ _ _ _)).2 h3
      subst e4
      rw [e2,nodup_at h.nodup e3 hk]
    · exfalso
      obtain ⟨m',y,e1,e2,e3⟩:=h.seen _ (List.mem_of_getElem? hk)
      have e4:m'=m:=by omega
      have:=hno y e2
      rw [(heq y m' (e3.mono hp _ _ _ _)).1 e4] at this
      cases this
  · rcases Nat.lt_or_ge y x with h1 | h1
    · obtain ⟨m',k',e1,e2,e3⟩:=h.out y h1
      exact ⟨m',k',e1.mono hp _ _ _ _,by rw [getD_app1 (by omega)];exact e2,e3⟩
    · obtain rfl:y=x:=by omega
      exact ⟨m,k,hm,by rw [← hOl,getD_app2],hk⟩
  · obtain ⟨m',y,e1,e2,e3⟩:=h.seen s hs
    exact ⟨m',y,e1,by omega,e3.mono hp _ _ _ _⟩
theorem SeenL.new {T T':List (List UInt8)} {n:Nat} {a:St} {x:Nat} {S O:List Int} (h:SeenL T n a x S O) (hp:T <+: T') (hT:T'.Nodup) {m:Nat} (hm:Means T' n a [(x:Int)] m) (hk:¬ (m:Int)∈S):SeenL T' n a (x+1) (S++[(m:Int)]) (O++[(S.length:Int)]):=by
  obtain ⟨hOl,hSl⟩:=h.len
  have heq:∀ (y:Nat) (m':Nat),Means T' n a [(y:Int)] m'→(m'=m↔winB n a [(y:Int)] a [(x:Int)]=true):=fun y m' hm'=>by
    rw [means_win hT n a [(y:Int)] a [(x:Int)] m' m rfl hm' hm,win_iff n a [(y:Int)] a [(x:Int)] rfl]
  refine ⟨?_,?_,fun y hy=>?_,fun s hs=>?_⟩
  · rw [cls_new fun y hy=>?_,h.cls]
    · simp
    · obtain ⟨m',k',e1,e2,e3⟩:=h.out y hy
      cases hq:winB n a [(y:Int)] a [(x:Int)] with
      | false=>rfl
      | true =>
        have e4:=(heq y m' (e1.mono hp _ _ _ _)).2 hq
        subst e4
        exact absurd (List.mem_of_getElem? e3) hk
  · rw [List.nodup_append]
    exact ⟨h.nodup,by simp,fun z hz y hy e=>hk (by rw [List.mem_singleton.1 hy] at e;exact e ▸ hz)⟩
  · rcases Nat.lt_or_ge y x with h1 | h1
    · obtain ⟨m',k',e1,e2,e3⟩:=h.out y h1
      refine ⟨m',k',e1.mono hp _ _ _ _,by rw [getD_app1 (by omega)];exact e2,?_⟩
      rw [List.getElem?_append_left (List.getElem?_eq_some_iff.1 e3).1];exact e3
    · obtain rfl:y=x:=by omega
      exact ⟨m,S.length,hm,by rw [← hOl,getD_app2],by simp⟩
  · rcases List.mem_append.1 hs with h1 | h1
    · obtain ⟨m',y,e1,e2,e3⟩:=h.seen s h1
      exact ⟨m',y,e1,by omega,e3.mono hp _ _ _ _⟩
    · exact ⟨m,x,List.mem_singleton.1 h1,by omega,hm⟩
theorem SeenL.step_old {T T':List (List UInt8)} {n:Nat} {a:St} {x:Nat} {S O:List Int} (h:SeenL T n a x S O) (hp:T <+: T') (hT:T'.Nodup) {m:Nat} (hm:Means T' n a [(x:Int)] m) (hk:(m:Int)∈S) :
    ∃ kk:Nat,kk<S.length∧(∀ k:Nat,k<S.length→(S.getD k 0=(m:Int)↔k=kk))∧SeenL T' n a (x+1) S (O++[(kk:Int)]):=by
  obtain ⟨kk,hkk⟩:=List.mem_iff_getElem?.1 hk
  refine ⟨kk,(List.getElem?_eq_some_iff.1 hkk).1,fun k hk=>⟨fun e=>?_,fun e=>?_⟩,h.old hp hT hm hkk⟩
  · refine nodup_at h.nodup ?_ hkk
    rw [getD_at hk] at e;rw [List.getElem?_eq_getElem hk,e]
  · subst e;rw [List.getD_eq_getElem?_getD,hkk];rfl
theorem SeenL.step_new {T T':List (List UInt8)} {n:Nat} {a:St} {x:Nat} {S O:List Int} (h:SeenL T n a x S O) (hp:T <+: T') (hT:T'.Nodup) {m:Nat} (hm:Means T' n a [(x:Int)] m) (hk:¬ (m:Int)∈S) :
    ∃ kk:Nat,kk<(S++[(m:Int)]).length∧(∀ k:Nat,k<(S++[(m:Int)]).length→((S++[(m:Int)]).getD k 0=(m:Int)↔k=kk))∧SeenL T' n a (x+1) (S++[(m:Int)]) (O++[(kk:Int)]):=by
  have h2:=h.new hp hT hm hk
  have hkk:(S++[(m:Int)])[S.length]?=some (m:Int):=by simp
  refine ⟨S.length,by simp,fun k hk=>⟨fun e=>?_,fun e=>?_⟩,h2⟩
  · refine nodup_at h2.nodup ?_ hkk
    rw [getD_at hk] at e;rw [List.getElem?_eq_getElem hk,e]
  · subst e;rw [List.getD_eq_getElem?_getD,hkk];rfl
def outAt (O:List Int) (kk k:Nat):List Int:=if kk<k then O++[(kk:Int)] else O
theorem outAt_zero (O:List Int) (kk:Nat):outAt O kk 0=O:=by unfold outAt;rw [if_neg (by omega)]
theorem outAt_yes {O:List Int} {kk k:Nat} (h:k=kk):outAt O kk (k+1)=outAt O kk k++[(k:Int)]:=by unfold outAt;rw [if_pos (by omega),if_neg (by omega),h]
theorem outAt_no {O:List Int} {kk k:Nat} (h:¬ k=kk):outAt O kk (k+1)=outAt O kk k:=by
  unfold outAt
  rcases Nat.lt_or_ge kk k with h1 | h1
  · rw [if_pos (by omega),if_pos h1]
  · rw [if_neg (by omega),if_neg (by omega)]
theorem outAt_end {O:List Int} {kk k:Nat} (h:kk<k):outAt O kk k=O++[(kk:Int)]:=by unfold outAt;rw [if_pos h]
theorem outAt_le (O:List Int) (kk k:Nat):(outAt O kk k).length≤O.length+1:=by unfold outAt;split <;> simp
def clsOk (a:St) (r:Int):Bool:=validB a&&inB r 0 3
theorem clsOk_true {a:St} {r:Int} (h:clsOk a r=true):validB a=true∧0≤r∧r≤3:=by unfold clsOk inB at h;simpa using h
def clsOf (a:St) (r:Int):List Int:=(clsN (fun y x=>winB r.toNat a [(y:Int)] a [(x:Int)]) a.n.toNat).1
theorem box_cells {w w1:World} {g:Nat} {cs:Array Value} {T:TypeId} {fr:Nat×Nat} {hs:List (Nat×Obj)} (hg:w.heap[g]?=some (.cells cs T fr)) (hw:Own w.heap.size w hs w1) (j:Nat) (v:Value) (hj:cs.toList[j]?=some v):w1.cell? ((⟨g,0,none⟩:Addr).add j)=some v:=by
  have hlt:g<w.heap.size:=by
    rcases Nat.lt_or_ge g w.heap.size with h | h
    · exact h
    · rw [Array.getElem?_eq_none h] at hg;cases hg
  rw [Addr.add_lit,Nat.zero_add]
  unfold World.cell?
  rw [hw.below.block g hlt,hg]
  simpa using hj
theorem has_at {xs:List Int} {m:Int} {k:Nat} (hk:k<xs.length) (h:xs.getD k 0=m):decide (m∈xs)=true:=by
 rw [decide_eq_true_eq,← h,getD_at hk];exact List.getElem_mem _
theorem has_no {xs:List Int} {m:Int} (h:∀ i:Nat,i<xs.length→¬ xs.getD i 0=m):decide (m∈xs)=false:=by
 rw [decide_eq_false_iff_not];intro hm
 obtain ⟨i,hi,e⟩:=List.mem_iff_getElem.1 hm
 exact h i hi (by rw [getD_at hi];exact e)
theorem els_one {a:St} {x:Int} (h:a.El x):a.Els [x]:=fun y hy=>by rw [List.mem_singleton.1 hy];exact h
end Go.Wk
namespace Go.Wk
open Go.RowKit
section
variable {P:Program} {n:Nat} {C:World→Prop} {B:Nat} {w0:World} {hs hs':List (Nat×Obj)} {N R:Act→World→Prop} {X:List (Nat×(Act→World→Prop))} {e:Env} {ops:Array Oper} {l:List Oper} {o:Oper}
theorem OpQ.max2 {x y:Operand} {ts:Array TypeId} {i j:Int} (h:o.op=.call ⟨.builtin .max,#[x,y],ts⟩) (hx:opd e x=some (.int .i64 i)) (hy:opd e y=some (.int .i64 j)):OpQ P n C e o (.int .i64 (if j > i then j else i)):=OpQ.val fun A hF w=>by
  unfold execOp;rw [h]
  simp only [resolve,invoke,BigFrame.builtin_max,List.map_toArray,List.map_cons,List.map_nil,hF.opd hx,hF.opd hy,Sem.run_bind,Sem.run_pure,Result.andThen,Builtin.max_,List.foldlM_cons,List.foldlM_nil,Builtin.max2]
end
structure RR where
 g:Nat
 cap:Nat
 cur:Array Value
 xs:List Int
def rd:RR:=⟨0,0,#[],[]⟩
def rv (r:RR):Value:=.slice (some ⟨r.g,0,none⟩) r.xs.length r.cap
structure RR.Ok (r:RR):Prop where
 size:r.cur.size=r.cap*1
 len:r.xs.length≤r.cap
 vals:r.cur.toList.take r.xs.length=ints r.xs
def rowsB (I:TypeId) (rr:List RR):List (Nat×Obj):=rr.map fun r=>(r.g,.cells r.cur I (0,0))
def rvs (rr:List RR):List Value:=rr.map rv
@[simp] theorem rvs_length (rr:List RR):(rvs rr).length=rr.length:=by simp [rvs]
theorem rvs_at {rr:List RR} {i:Nat} (h:i<rr.length):(rvs rr)[i]?=some (rv (rr.getD i rd)):=by
 rw [rvs,List.getElem?_map,List.getElem?_eq_getElem h,getD_at h];rfl
section
variable {B:Nat} {w0:World} {hs:List (Nat×Obj)}
theorem Own.ofRows {w:World} {I:TypeId} {rr:List RR} (h:Own B w0 (rowsB I rr++hs) w) (hok:∀ r∈rr,r.Ok) {i:Nat} (hi:i<rr.length):Ints w (rv (rr.getD i rd)) (rr.getD i rd).xs:=by
  have hm:rr.getD i rd∈rr:=by rw [getD_at hi];exact List.getElem_mem _
  have hk:=hok _ hm
  have hb:=h.mem (x:=((rr.getD i rd).g,.cells (rr.getD i rd).cur I (0,0))) (List.mem_append_left _ (List.mem_map.2 ⟨_,hm,rfl⟩))
  refine ⟨_,(rr.getD i rd).cap,by rw [ints_length];rfl,by rw [ints_length];exact hk.len,fun h=>(by cases h),fun ad had=>?_⟩
  injection had with had
  subst had
  refine ⟨rfl,fun j u hj=>?_⟩
  show w.cell? ⟨(rr.getD i rd).g,0+j,none⟩=some u
  rw [Nat.zero_add]
  unfold World.cell?
  rw [hb.2]
  rw [← hk.vals,List.getElem?_take] at hj
  split at hj
  · simpa using hj
  · cases hj
theorem rows_more {w:World} {I:TypeId} {rr:List RR} {g cap:Nat} {cur:Array Value} {xs:List Int} {f R:List (Nat×Obj)} (h:Own B w0 ((g,.cells cur I (0,0))::(f++(rowsB I rr++R))) w):Own B w0 (f++(rowsB I (rr++[⟨g,cap,cur,xs⟩])++R)) w:=by
 refine h.perm ?_
 unfold rowsB
 rw [List.map_append,List.append_assoc]
 have h1:=perm_back [(g,Obj.cells cur I (0,0))] f (rr.map (fun r=>(r.g,Obj.cells r.cur I (0,0)))++R)
 have h2:=perm_back [(g,Obj.cells cur I (0,0))] (rr.map (fun r=>(r.g,Obj.cells r.cur I (0,0)))) R
 exact h1.trans (h2.append_left f)
end
structure RowsOk (rr:List RR) (u:Array Value) (c:Nat):Prop where
 size:u.size=c*1
 len:rr.length≤c
 vals:u.toList.take rr.length=rvs rr
 ok:∀ r∈rr,r.Ok
theorem RowsOk.nil:RowsOk [] #[] 0:=⟨rfl,Nat.le_refl 0,rfl,fun r hr=>by cases hr⟩
theorem RowsOk.one (p:Nat):RowsOk [⟨p,0,#[],[]⟩] #[.slice (some ⟨p,0,none⟩) 0 0] 1:=⟨rfl,Nat.le_refl 1,rfl,fun r hr=>by rw [List.mem_singleton.1 hr];exact ⟨rfl,Nat.le_refl 0,rfl⟩⟩
theorem RowsOk.add {rr:List RR} {u u':Array Value} {c c':Nat} {r:RR} (h:RowsOk rr u c) (hr:r.Ok) (hs:u'.size=c'*1) (hl:rr.length+1≤c') (hv:u'.toList.take ((rr.length+1)*1)=u.toList.take (rr.length*1)++[rv r]):RowsOk (rr++[r]) u' c':=by
  refine ⟨hs,by simpa using hl,?_,fun x hx=>?_⟩
  · have h1:=h.vals
    rw [Nat.mul_one,Nat.mul_one,h1] at hv
    rw [List.length_append,List.length_singleton,hv];simp [rvs]
  · rcases List.mem_append.1 hx with h1 | h1
    · exact h.ok x h1
    · rw [List.mem_singleton.1 h1];exact hr
theorem rows_forget {B:Nat} {w0 w:World} {I:TypeId} {nn rr:List RR} {x y:Nat×Obj} {hs:List (Nat×Obj)} (h:Own B w0 (x::y::(rowsB I nn++(rowsB I rr++hs))) w):Own B w0 (x::(rowsB I nn++hs)) w :=
 h.sub (List.Sublist.cons_cons _ (List.Sublist.cons _ ((List.Sublist.refl _).append (List.sublist_append_right _ _))))
def nextL (size:Nat) (Ls:List (List Int)):List (List Int):=Ls.flatMap fun l=>(List.range size).map fun x:Nat=>l++[(x:Int)]
def listsL (size:Nat):Nat→List (List Int)
 | 0=>[[]]
 | w+1=>nextL size (listsL size w)
def nextTo (size:Nat) (Ls:List (List Int)) (i k:Nat):List (List Int):=nextL size (Ls.take i)++(List.range k).map fun x:Nat=>(Ls.getD i [])++[(x:Int)]
theorem nextTo_zero (size:Nat) (Ls:List (List Int)) (i:Nat):nextTo size Ls i 0=nextL size (Ls.take i):=by simp [nextTo]
theorem nextTo_step (size:Nat) (Ls:List (List Int)) (i k:Nat):nextTo size Ls i (k+1)=nextTo size Ls i k++[(Ls.getD i [])++[(k:Int)]]:=by
 simp [nextTo,List.range_succ,List.append_assoc]
theorem nextTo_end {size:Nat} {Ls:List (List Int)} {i:Nat} (h:i<Ls.length):nextTo size Ls i size=nextL size (Ls.take (i+1)):=by
 unfold nextTo nextL
 rw [List.take_succ_eq_append_getElem h,List.flatMap_append,getD_at h]
 simp
theorem nextL_length (size:Nat):∀ Ls:List (List Int),(nextL size Ls).length=Ls.length*size
 | []=>by simp [nextL]
 | l::Ls=>by
  have:=nextL_length size Ls
  simp only [nextL,List.flatMap_cons,List.length_append,List.length_map,List.length_range,List.length_cons] at this ⊢
  rw [this,Nat.add_mul,Nat.one_mul];omega
theorem listsL_length (size:Nat):∀ w,(listsL size w).length=size ^ w
 | 0=>rfl
 | w+1=>by rw [listsL,nextL_length,listsL_length size w,Nat.pow_succ]
theorem pow8 {size w:Nat} (h:size≤8) (hw:w≤3):size ^ w≤512 :=
 Nat.le_trans (Nat.pow_le_pow_left h w) (Nat.le_trans (Nat.pow_le_pow_right (by decide) hw) (by decide))
def pointL (size:Nat):Nat→Nat→List Int
 | 0,_=>[]
 | w+1,k=>pointL size w (k / size)++[((k % size:Nat):Int)]
@[simp] theorem pointL_length (size:Nat):∀ w k,(pointL size w k).length=w
 | 0,_=>rfl
 | w+1,k=>by simp [pointL,pointL_length size w]
theorem nextL_at {size:Nat} (h0:0<size):∀ {Ls:List (List Int)} {k:Nat},k<Ls.length*size→(nextL size Ls).getD k []=Ls.getD (k / size) []++[((k % size:Nat):Int)]
  | [],k,h=>by simp at h
  | l::Ls,k,h=>by
    have key:nextL size (l::Ls)=((List.range size).map fun x:Nat=>l++[(x:Int)])++nextL size Ls:=rfl
    rw [key]
    rcases Nat.lt_or_ge k size with h1 | h1
    · rw [List.getD_eq_getElem?_getD,List.getElem?_append_left (by simpa using h1),List.getElem?_map,List.getElem?_range h1,Nat.div_eq_of_lt h1,Nat.mod_eq_of_lt h1]
      rfl
    · have h2:k - size<Ls.length*size:=by
        rw [List.length_cons,Nat.add_mul,Nat.one_mul] at h;omega
      have ih:=nextL_at h0 h2
      rw [List.getD_eq_getElem?_getD,List.getElem?_append_right (by simpa using h1),← List.getD_eq_getElem?_getD]
      simp only [List.length_map,List.length_range]
      rw [ih,Nat.div_eq_sub_div h0 h1,Nat.mod_eq_sub_mod h1]
      rfl
theorem lists_point {size:Nat} (h0:0<size):∀ {w k:Nat},k<size ^ w→(listsL size w).getD k []=pointL size w k
  | 0, k, h => by obtain rfl : k = 0 := by simpa using h
                  rfl
  | w+1,k,h=>by
    rw [listsL,nextL_at h0 (by rw [listsL_length,← Nat.pow_succ];exact h),lists_point h0 (by rw [Nat.pow_succ] at h;exact Nat.div_lt_of_lt_mul (by rw [Nat.mul_comm];exact h)),pointL]
theorem point_els {a:St} (h:a.Fine):∀ (w k:Nat),a.Els (pointL a.n.toNat w k)
  | 0,_=>fun x hx=>by cases hx
  | w+1,k=>fun x hx=>by
    have h1:=h.lo
    rcases List.mem_append.1 hx with h2 | h2
    · exact point_els h w _ x h2
    · rw [List.mem_singleton.1 h2]
      have:=Nat.mod_lt k (show 0<a.n.toNat by omega)
      exact ⟨by omega,by omega⟩
end Go.Wk
namespace Go.Wk
open Go.RowKit
theorem map_xs {rr:List RR} {i:Nat} (h:i<rr.length):(rr.map RR.xs).getD i []=(rr.getD i rd).xs:=by
 rw [getD_at (by simpa using h),getD_at h,List.getElem_map]
theorem listsL_len {size:Nat}:∀ {w:Nat} {l:List Int},l∈listsL size w→l.length=w
 | 0,l,h=>by rw [List.mem_singleton.1 h];rfl
 | w+1,l,h=>by
  obtain ⟨m,hm,h2⟩:=List.mem_flatMap.1 h
  obtain ⟨x,_,rfl⟩:=List.mem_map.1 h2
  rw [List.length_append,listsL_len hm];rfl
theorem xs_len {rr:List RR} {size r:Nat} (h:rr.map RR.xs=listsL size r) {i:Nat}:(rr.getD i rd).xs.length≤r:=by
  rcases Nat.lt_or_ge i rr.length with h1 | h1
  · rw [← map_xs h1,h,getD_at (by rw [← h];simpa using h1)]
    exact Nat.le_of_eq (listsL_len (List.getElem_mem _))
  · rw [List.getD_eq_getElem?_getD,List.getElem?_eq_none h1];exact Nat.zero_le _
theorem next_len {nm:List RR} {size i k:Nat} {Ls:List (List Int)} (h:nm.map RR.xs=nextTo size Ls i k) (hL:Ls.length≤512) (hk:k≤8) (h8:size≤8):nm.length≤4104:=by
 have h1:=congrArg List.length h
 unfold nextTo at h1
 rw [List.length_map,List.length_append,nextL_length,List.length_map,List.length_range,List.length_take] at h1
 have h2:min i Ls.length*size≤512*8:=Nat.mul_le_mul (by omega) h8
 omega
theorem rows_behind (f:List (Nat×Obj)) (x:Nat×Obj) (r:List (Nat×Obj)):(x::(r++f)).Perm (f++(x::(r++[]))):=by
 have:=List.perm_append_comm (l₁:=x::r) (l₂:=f)
 rw [List.append_nil]
 exact this
theorem rows_point {rr:List RR} {size w k:Nat} (h0:0<size) (h:rr.map RR.xs=listsL size w) (hk:k<rr.length):(rr.getD k rd).xs=pointL size w k:=by
 rw [← map_xs hk,h,lists_point h0 (by rw [← listsL_length size w,← h];simpa using hk)]
end Go.Wk
namespace Go.Wk
open Go.RowKit
theorem insS_mem {l:List Int} {n:Int} (h:l.Pairwise (·<·)) (hn:n∈l):insS l n=l :=
  sorted_ext (sorted_insS h) h fun x=>by rw [mem_insS];constructor;rintro (rfl | h1);exact hn;exact h1;exact .inr
theorem insS_new {n:Int}:∀ {l:List Int},n ∉ l→(insS l n).length=l.length+1
  | [],_=>rfl
  | x::l,h=>by
    have h1:x ≠ n:=fun e=>h (by simp [e])
    have h2:n ∉ l:=fun e=>h (by simp [e])
    unfold insS
    rw [if_neg h1]
    split
    · rfl
    · rw [List.length_cons,insS_new h2,List.length_cons]
theorem cls_same {q:Nat→Nat→Bool} {k y:Nat} (hy:y<k) (h:q y k=true):(clsN q (k+1)).2=(clsN q k).2:=by
  rcases cls_cases q k with ⟨z,h1,h2,h3⟩ | hno
  · rw [cls_old h1 h2 h3]
  · rw [hno y hy] at h;cases h
theorem cls_more {q:Nat→Nat→Bool} {k:Nat} (h:∀ y,y<k→q y k=false):(clsN q (k+1)).2=(clsN q k).2+1:=by rw [cls_new h]
def qP (a:St) (r w:Nat) (y x:Nat):Bool:=winB r a (pointL a.n.toNat w y) a (pointL a.n.toNat w x)
structure CountL (T:List (List UInt8)) (r:Nat) (a:St) (w k:Nat) (S:List Int):Prop where
  cls:(clsN (qP a r w) k).2=S.length
  sorted:S.Pairwise (·<·)
  all:∀ y:Nat,y<k→∃ i:Nat,(i:Int)∈S∧Means T r a (pointL a.n.toNat w y) i
  only:∀ m∈S,∃ i y:Nat,m=i∧y<k∧Means T r a (pointL a.n.toNat w y) i
theorem CountL.zero {T:List (List UInt8)} {r:Nat} {a:St} {w:Nat}:CountL T r a w 0 []:=⟨rfl,List.Pairwise.nil,fun y hy=>absurd hy (by omega),fun m hm=>by cases hm⟩
theorem CountL.len {T:List (List UInt8)} {r:Nat} {a:St} {w k:Nat} {S:List Int} (h:CountL T r a w k S):S.length≤k:=by rw [← h.cls];exact (cls_small _ k).1
theorem CountL.step {T T':List (List UInt8)} {r:Nat} {a:St} {w k i:Nat} {S:List Int} (h:CountL T r a w k S) (hp:T <+: T') (hT:T'.Nodup) (hm:Means T' r a (pointL a.n.toNat w k) i):CountL T' r a w (k+1) (insS S (i:Int)):=by
  have heq:∀ (y j:Nat),Means T' r a (pointL a.n.toNat w y) j→(j=i↔qP a r w y k=true):=fun y j hj=>by
    unfold qP
    rw [means_win hT r a (pointL a.n.toNat w y) a (pointL a.n.toNat w k) j i (by simp) hj hm,win_iff r a (pointL a.n.toNat w y) a (pointL a.n.toNat w k) (by simp)]
  refine ⟨?_,sorted_insS h.sorted,fun y hy=>?_,fun m hmem=>?_⟩
  · by_cases hi:(i:Int)∈S
    · rw [insS_mem h.sorted hi,← h.cls]
      obtain ⟨j,y,e,hy,hM⟩:=h.only _ hi
      obtain rfl:i=j:=by omega
      exact cls_same hy ((heq y i (hM.mono hp _ _ _ _)).1 rfl)
    · rw [insS_new hi,← h.cls]
      refine cls_more fun y hy=>?_
      cases hq:qP a r w y k with
      | false=>rfl
      | true =>
        obtain ⟨j,hj,hM⟩:=h.all y hy
        have:=(heq y j (hM.mono hp _ _ _ _)).2 hq
        subst this
        exact absurd hj hi
  · rcases Nat.lt_or_ge y k with h1 | h1
    · obtain ⟨j,hj,hM⟩:=h.all y h1
      exact ⟨j,mem_insS.2 (.inr hj),hM.mono hp _ _ _ _⟩
    · obtain rfl:y=k:=by omega
      exact ⟨i,mem_insS.2 (.inl rfl),hm⟩
  · rcases mem_insS.1 hmem with h1 | h1
    · exact ⟨i,k,h1,by omega,hm⟩
    · obtain ⟨j,y,e,hy,hM⟩:=h.only m h1
      exact ⟨j,y,e,by omega,hM.mono hp _ _ _ _⟩
def countC (a:St) (W R:Int):Int:=if validB a&&inB W 0 2&&inB R 0 2 then ((clsN (qP a R.toNat W.toNat) (a.n.toNat ^ W.toNat)).2:Int) else -1
theorem cls_congr {q q':Nat→Nat→Bool}:∀ {N:Nat},(∀ y x,y<x→x<N→q y x=q' y x)→clsN q N=clsN q' N
 | 0,_=>rfl
 | N+1,h=>by
  have ih:=cls_congr (N:=N) (fun y x h1 h2=>h y x h1 (by omega))
  have:(List.range N).find? (fun y=>q y N)=(List.range N).find? (fun y=>q' y N):=find_congr fun y hy=>h y N (List.mem_range.1 hy) (by omega)
  rw [clsN,clsN,this,ih]
def maxTo (xs:List Int):Nat→Int
 | 0=>xs.getD 0 0
 | k+1=>if xs.getD (k+1) 0 > maxTo xs k then xs.getD (k+1) 0 else maxTo xs k
theorem maxTo_spec (xs:List Int):∀ k,(∀ i,i≤k→xs.getD i 0≤maxTo xs k)∧∃ i,i≤k∧maxTo xs k=xs.getD i 0
  | 0 => ⟨fun i hi => by obtain rfl : i = 0 := by omega
                         exact Int.le_refl _,0,Nat.le_refl _,rfl⟩
  | k+1=>by
    obtain ⟨h1,j,hj,h2⟩:=maxTo_spec xs k
    unfold maxTo
    split
    · refine ⟨fun i hi=>?_,k+1,Nat.le_refl _,rfl⟩
      rcases Nat.lt_or_ge i (k+1) with h3 | h3
      · have:=h1 i (by omega);omega
      · obtain rfl:i=k+1:=by omega
        exact Int.le_refl _
    · refine ⟨fun i hi=>?_,j,by omega,h2⟩
      rcases Nat.lt_or_ge i (k+1) with h3 | h3
      · exact h1 i (by omega)
      · obtain rfl:i=k+1:=by omega
        omega
theorem cls_has (q:Nat→Nat→Bool):∀ N,0<N→∃ i,i<N∧(clsN q N).1.getD i 0=((clsN q N).2:Int) - 1
  | 0,h=>absurd h (by omega)
  | N+1,_=>by
    have hl:=cls_length q N
    rcases cls_cases q N with ⟨y,h1,h2,h3⟩ | hno
    · obtain ⟨i,hi,e⟩:=cls_has q N (by omega)
      refine ⟨i,by omega,?_⟩
      rw [cls_old h1 h2 h3]
      dsimp only
      rw [getD_app1 (by omega)];exact e
    · refine ⟨N,by omega,?_⟩
      rw [cls_new hno]
      dsimp only
      have e:=getD_app2 (l:=(clsN q N).1) (z:=((clsN q N).2:Int))
      rw [hl] at e
      rw [e];omega
theorem max_cls (q:Nat→Nat→Bool) {N:Nat} (h:0<N):maxTo (clsN q N).1 (N - 1)=((clsN q N).2:Int) - 1:=by
 obtain ⟨h1,j,hj,h2⟩:=maxTo_spec (clsN q N).1 (N - 1)
 obtain ⟨i,hi,e⟩:=cls_has q N h
 have h3:=h1 i (by omega)
 have hs:=(cls_small q N).2 _ (show (clsN q N).1.getD j 0∈(clsN q N).1 by rw [getD_at (by rw [cls_length];omega)];exact List.getElem_mem _)
 omega
theorem row_in {w:World} {I:TypeId} {rr:List RR} (hok:∀ r∈rr,r.Ok) (hrow:∀ r∈rr,w.heap[r.g]?=some (.cells r.cur I (0,0))) {i:Nat} (hi:i<rr.length):Ints w (rv (rr.getD i rd)) (rr.getD i rd).xs:=by
  have hm:rr.getD i rd∈rr:=by rw [getD_at hi];exact List.getElem_mem _
  have hk:=hok _ hm
  have hb:=hrow _ hm
  refine ⟨_,(rr.getD i rd).cap,by rw [ints_length];rfl,by rw [ints_length];exact hk.len,fun h=>(by cases h),fun ad had=>?_⟩
  injection had with had
  subst had
  refine ⟨rfl,fun j u hj=>?_⟩
  show w.cell? ⟨(rr.getD i rd).g,0+j,none⟩=some u
  rw [Nat.zero_add]
  unfold World.cell?
  rw [hb]
  rw [← hk.vals,List.getElem?_take] at hj
  split at hj
  · simpa using hj
  · cases hj
theorem Own.rowsHas {B:Nat} {w0 w:World} {I:TypeId} {rr:List RR} {f hs:List (Nat×Obj)} (h:Own B w0 (f++(rowsB I rr++hs)) w):∀ r∈rr,w.heap[r.g]?=some (.cells r.cur I (0,0)):=fun r hr =>
 (h.mem (x:=(r.g,.cells r.cur I (0,0))) (List.mem_append_right _ (List.mem_append_left _ (List.mem_map.2 ⟨r,hr,rfl⟩)))).2
end Go.Wk
namespace Go.Wk
open Go.RowKit
section
variable {P:Program} {n:Nat} {C:World→Prop} {e:Env} {o:Oper}
end
def bitC (b:Bool):List UInt8:=if b then [49] else [48]
@[simp] theorem bitC_len (b:Bool):(bitC b).length=1:=by cases b <;> rfl
def flipTo (s:List UInt8):Nat→List UInt8
 | 0=>[]
 | k+1=>flipTo s k++bitC (decide (s.getD k 0=48))
@[simp] theorem flip_len (s:List UInt8):∀ k,(flipTo s k).length=k
 | 0=>rfl
 | k+1=>by simp [flipTo,flip_len s k]
def mkSet (p:Nat→Bool):Nat→List UInt8
 | 0=>[]
 | k+1=>mkSet p k++bitC (p k)
@[simp] theorem mkSet_len (p:Nat→Bool):∀ k,(mkSet p k).length=k
 | 0=>rfl
 | k+1=>by simp [mkSet,mkSet_len p k]
def mkRel (q:Nat→Nat→Bool) (n:Nat):Nat→List UInt8
 | 0=>[]
 | k+1=>mkRel q n k++mkSet (q k) n
@[simp] theorem mkRel_len (q:Nat→Nat→Bool) (n:Nat):∀ k,(mkRel q n k).length=k*n
 | 0=>by simp [mkRel]
 | k+1=>by simp [mkRel,mkRel_len q n k,Nat.add_mul]
end Go.Wk
namespace Go.Wk
open Go.RowKit
theorem cls_prefix {q:Nat→Nat→Bool} {k:Nat}:∀ {m:Nat},k<m→(clsN q m).1.getD k 0=(clsN q (k+1)).1.getD k 0
  | 0,h=>by omega
  | m+1,h=>by
    rcases Nat.lt_or_ge k m with h1 | h1
    · have hl:=cls_length q m
      rcases cls_cases q m with ⟨y,h2,h3,h4⟩ | h2
      · rw [cls_old h2 h3 h4,getD_app1 (by omega),cls_prefix h1]
      · rw [cls_new h2,getD_app1 (by omega),cls_prefix h1]
    · rw [show k=m from by omega]
theorem cls_last_old {q:Nat→Nat→Bool} {x y:Nat} (h1:y<x) (h2:∀ i,i<y→q i x=false) (h3:q y x=true):(clsN q (x+1)).1.getD x 0=(clsN q x).1.getD y 0:=by
 have hl:=cls_length q x
 rw [cls_old h1 h2 h3]
 have:=getD_app2 (l:=(clsN q x).1) (z:=(clsN q x).1.getD y 0)
 rwa [hl] at this
theorem cls_last_new {q:Nat→Nat→Bool} {x:Nat} (h:∀ i,i<x→q i x=false):(clsN q (x+1)).1.getD x 0=((clsN q x).2:Int):=by
 have hl:=cls_length q x
 rw [cls_new h]
 have:=getD_app2 (l:=(clsN q x).1) (z:=((clsN q x).2:Int))
 rwa [hl] at this
theorem cls_lt {q:Nat→Nat→Bool} {m y:Nat} (h:y<m):(clsN q m).1.getD y 0<((clsN q m).2:Int):=by
 have hl:=cls_length q m
 rw [getD_at (by omega)]
 exact ((cls_small q m).2 _ (List.getElem_mem _)).2
theorem cls_max {q:Nat→Nat→Bool} {n x:Nat} (hx:x<n):(clsN q n).1.getD x 0≤((clsN q x).2:Int)∧(if (clsN q n).1.getD x 0 > ((clsN q x).2:Int) - 1 then (clsN q n).1.getD x 0 else ((clsN q x).2:Int) - 1)=((clsN q (x+1)).2:Int) - 1:=by
  rw [cls_prefix hx]
  rcases cls_cases q x with ⟨y,h1,h2,h3⟩ | h
  · have h4:=cls_lt (q:=q) h1
    rw [cls_last_old h1 h2 h3,cls_old h1 h2 h3]
    dsimp only
    exact ⟨by omega,by rw [if_neg (by omega)]⟩
  · rw [cls_last_new h,cls_new h]
    dsimp only
    exact ⟨Int.le_refl _,by rw [if_pos (by omega)];omega⟩
theorem cls_iff {q:Nat→Nat→Bool} (hs:∀ x y,q x y=true→q y x=true) (ht:∀ x y z,q x y=true→q y z=true→q x z=true):∀ {n x y:Nat},x<n→y<x→((clsN q n).1.getD x 0=(clsN q n).1.getD y 0↔q y x=true):=by
  have key:∀ x:Nat,∀ y:Nat,y<x→((clsN q (x+1)).1.getD x 0=(clsN q (y+1)).1.getD y 0↔q y x=true):=fun x=>by
    induction x using Nat.strongRecOn with
    | _ x ih =>
      intro y hy
      rcases cls_cases q x with ⟨z,h1,h2,h3⟩ | h
      · rw [cls_last_old h1 h2 h3,cls_prefix h1]
        rcases Nat.lt_trichotomy z y with h4 | h4 | h4
        · rw [eq_comm,ih y hy z h4]
          exact ⟨fun e=>ht _ _ _ (hs _ _ e) h3,fun e=>ht _ _ _ h3 (hs _ _ e)⟩
        · subst h4;simp [h3]
        · rw [ih z h1 y h4]
          refine ⟨fun e=>ht _ _ _ e h3,fun e=>?_⟩
          rw [h2 y h4] at e;cases e
      · rw [cls_last_new h,h y hy]
        have h4:=cls_lt (q:=q) hy
        rw [cls_prefix hy] at h4
        constructor
        · intro e;omega
        · intro e;cases e
  intro n x y hx hy
  rw [cls_prefix hx,cls_prefix (show y<n by omega)]
  exact key x y hy
def clsL (a:St) (r:Int):List Int:=if clsOk a r then clsOf a r else []
theorem clsL_le (a:St) (r:Int):(clsL a r).length≤8:=by
  unfold clsL
  split
  · rename_i h
    have:=(validB_fine (clsOk_true h).1).hi
    unfold clsOf
    rw [cls_length];omega
  · exact Nat.zero_le _
theorem clsL_ok {a:St} {r:Int} (h:¬ ((clsL a r).length:Int)=0):clsOk a r=true∧(clsL a r).length=a.n.toNat∧clsL a r=clsOf a r:=by
 cases hv:clsOk a r with
 | false=>unfold clsL at h;rw [hv] at h;simp at h
 | true=>exact ⟨rfl,by unfold clsL;rw [hv,if_pos rfl];exact cls_length _ _,by unfold clsL;rw [hv,if_pos rfl]⟩
theorem clsL_empty {a:St} {r:Int} (h:((clsL a r).length:Int)=0) (hv:validB a=true) (h0:0≤r):3<r:=by
  rcases Classical.em (3<r) with h3 | h3
  · exact h3
  · have e:clsOk a r=true:=by unfold clsOk inB;rw [hv];simp;omega
    unfold clsL at h
    rw [e,if_pos rfl] at h
    unfold clsOf at h
    rw [cls_length] at h
    have:=(validB_fine hv).lo
    omega
section
variable {a:St} {r:Int}
def qC (a:St) (r:Int):Nat→Nat→Bool:=fun y x=>winB r.toNat a [(y:Int)] a [(x:Int)]
theorem qC_win {y x:Nat}:qC a r y x=true↔winP r.toNat a [(y:Int)] a [(x:Int)]:=by unfold qC;rw [win_iff r.toNat a [(y:Int)] a [(x:Int)] rfl]
theorem qC_symm (x y:Nat) (h:qC a r x y=true):qC a r y x=true:=qC_win.2 (winP_comm _ _ _ _ _ rfl (qC_win.1 h))
theorem qC_trans (x y z:Nat) (h:qC a r x y=true) (k:qC a r y z=true):qC a r x z=true:=qC_win.2 (winP_trans _ a [(x:Int)] a [(y:Int)] a [(z:Int)] rfl rfl (qC_win.1 h) (qC_win.1 k))
theorem one_list {c:St} {x:Nat} (hv:validB c=true) (hx:x<c.n.toNat):listB c [(x:Int)]=true:=listB_of hv (els_one ⟨by omega,by omega⟩) (by simp)
theorem cls_sec (h:clsOk a r=true) {x y:Nat} (hx:x<a.n.toNat) (hy:y<x):decide ((clsL a r).getD ((x:Int)).toNat 0=(clsL a r).getD ((y:Int)).toNat 0)=secB a [(x:Int)] a [(y:Int)] r:=by
 obtain ⟨hv,h0,h3⟩:=clsOk_true h
 have hL:listsB a [(x:Int)] a [(y:Int)]=true:=listsB_of (one_list hv hx) (one_list hv (by omega)) rfl
 unfold clsL
 rw [h,if_pos rfl,Bool.eq_iff_iff,decide_eq_true_iff,sec_of hL h0 h3]
 show (clsN (qC a r) a.n.toNat).1.getD x 0=(clsN (qC a r) a.n.toNat).1.getD y 0↔_
 rw [cls_iff qC_symm qC_trans hx hy,qC_win]
 exact ⟨winP_comm _ _ _ _ _ rfl,winP_comm _ _ _ _ _ rfl⟩
def Moved (a:St) (x z:Int):Prop:=∃ os:List Int,(os.length:Int)=a.n∧a.Els os∧sameB a os a (upto os.length)=true∧os.getD x.toNat 0=z
theorem cls_moved (h:clsOk a r=true) {x:Nat} (hx:x<a.n.toNat) {z:Int} (hz:a.El z) (hm:Moved a x z):(clsL a r).getD z.toNat 0=(clsL a r).getD ((x:Int)).toNat 0:=by
  obtain ⟨hv,h0,h3⟩:=clsOk_true h
  obtain ⟨os,hl,hA,hs,e⟩:=hm
  have hw:=shape_wins (a:=a) (b:=a) rfl hl hA hs r.toNat [(x:Int)] fun y hy=>by rw [List.mem_singleton.1 hy];omega
  rw [show atO os [(x:Int)]=[z] from by simp [atO];rw [← e];simp] at hw
  obtain ⟨m,rfl⟩:∃ m:Nat,z=m:=⟨z.toNat,by have:=hz.1;omega⟩
  have hm:m<a.n.toNat:=by have:=hz.2;omega
  rw [show ((m:Int)).toNat=m from by omega,show ((x:Int)).toNat=x from by omega]
  have key:∀ {u v:Nat},u<a.n.toNat→v<u→winP r.toNat a [(u:Int)] a [(v:Int)]→(clsL a r).getD u 0=(clsL a r).getD v 0:=fun {u v} hu hv' hw=>by
    have hL:listsB a [(u:Int)] a [(v:Int)]=true:=listsB_of (one_list hv hu) (one_list hv (by omega)) rfl
    have h1:=cls_sec h hu hv'
    rw [(sec_of hL h0 h3).2 hw] at h1
    exact of_decide_eq_true h1
  rcases Nat.lt_trichotomy m x with h1 | h1 | h1
  · exact (key hx h1 (winP_comm _ _ _ _ _ rfl hw)).symm
  · subst h1;rfl
  · exact key hm h1 hw
theorem cls_at_max (h:clsOk a r=true) {k:Nat} (hk:k<a.n.toNat):(clsL a r).getD ((k:Int)).toNat 0≤((clsN (qC a r) k).2:Int)∧(if (clsL a r).getD ((k:Int)).toNat 0 > ((clsN (qC a r) k).2:Int) - 1 then (clsL a r).getD ((k:Int)).toNat 0 else ((clsN (qC a r) k).2:Int) - 1)=((clsN (qC a r) (k+1)).2:Int) - 1:=by
  unfold clsL
  rw [h,if_pos rfl]
  exact cls_max (q:=qC a r) hk
theorem cls_count (h:clsOk a r=true) (h2:¬ 2<r):countC a 1 r=((clsN (qC a r) a.n.toNat).2:Int):=by
 obtain ⟨hv,h0,h3⟩:=clsOk_true h
 unfold countC inB
 rw [hv,if_pos (by simp;omega)]
 have e:a.n.toNat ^ (1:Int).toNat=a.n.toNat:=by rw [show (1:Int).toNat=1 from rfl,Nat.pow_one]
 rw [e]
 congr 2
 refine cls_congr fun y x hy hx=>?_
 unfold qP qC
 rw [show (1:Int).toNat=1 from rfl]
 have pt:∀ k:Nat,k<a.n.toNat→pointL a.n.toNat 1 k=[(k:Int)]:=fun k hk=>by
  unfold pointL pointL
  rw [Nat.mod_eq_of_lt hk];rfl
 rw [pt y (by omega),pt x hx]
end
def orbStep (x:Int) (os:List Int) (t:List Bool):List Bool×Bool:=(t.set (os.getD x.toNat 0).toNat true,true)
section
variable {τ:Type}
theorem shS_inv {a b:St} {step:List Int→τ→τ×Bool} {I:τ→Prop} (hstep:∀ os t,(os.length:Int)=a.n→a.Els os→sameB a os b (upto os.length)=true→I t→I (step os t).1) (ha:a.Fine):∀ (m:Nat) (os:List Int) (t:τ),os.length+m=a.n.toNat→a.Els os→sameB a os b (upto os.length)=true→I t→I (shS a b step m os t).1
  | 0,os,t,h,hA,hs,hI=>hstep os t (by have:=ha.lo;omega) hA hs hI
  | m+1,os,t,h,hA,hs,hI=>by
    have key:∀ k:Nat,k≤a.n.toNat→I (shLoop (shF a b (shS a b step m) os) k t).1:=fun k=>by
      induction k with
      | zero=>exact fun _=>hI
      | succ k ih =>
        intro hk
        rw [shLoop]
        split
        · unfold shF
          split
          · rename_i hst
            exact shS_inv hstep ha m _ _ (by simp;omega) (els_more hA ⟨by omega,by omega⟩) (same_grown hs hst) (ih (by omega))
          · exact ih (by omega)
        · exact ih (by omega)
    exact key _ (Nat.le_refl _)
end
def OrbI (a:St) (x:Int) (t:List Bool):Prop:=t.length=a.n.toNat∧∀ z:Nat,z<a.n.toNat→t.getD z false=true→Moved a x z
theorem orb_inv {a:St} {x:Int} (ha:a.Fine) (hx:a.El x):OrbI a x (shS a a (orbStep x) a.n.toNat [] (List.replicate a.n.toNat false)).1:=by
  refine shS_inv (I:=OrbI a x) (fun os t hl hA hs hI=>?_) ha a.n.toNat [] _ (by simp) (fun x hx=>by cases hx) rfl ⟨by simp,fun z hz h=>?_⟩
  · unfold orbStep
    refine ⟨by rw [List.length_set];exact hI.1,fun z hz h=>?_⟩
    have hel:=hA (os.getD x.toNat 0) (by rw [getD_at (by have:=hx.2;have:=hx.1;omega)];exact List.getElem_mem _)
    by_cases e:(os.getD x.toNat 0).toNat=z
    · exact ⟨os,hl,hA,hs,by have:=hel.1;omega⟩
    · refine hI.2 z hz ?_
      rwa [List.getD_eq_getElem?_getD,List.getElem?_set_ne e,← List.getD_eq_getElem?_getD] at h
  · rw [List.getD_eq_getElem?_getD,List.getElem?_replicate,if_pos hz] at h;cases h
def trueTo (bs:List Bool):Nat→List Int
 | 0=>[]
 | k+1=>if bs.getD k false then trueTo bs k++[(k:Int)] else trueTo bs k
theorem true_yes {bs:List Bool} {k:Nat} (h:bs.getD k false=true):trueTo bs (k+1)=trueTo bs k++[(k:Int)]:=by rw [trueTo,if_pos h]
theorem true_no {bs:List Bool} {k:Nat} (h:bs.getD k false=false):trueTo bs (k+1)=trueTo bs k:=by rw [trueTo,if_neg (by rw [h];decide)]
theorem true_le (bs:List Bool):∀ k,(trueTo bs k).length≤k
  | 0=>Nat.le_refl _
  | k+1=>by
    have:=true_le bs k
    rw [trueTo]
    split
    · simp;omega
    · omega
theorem mem_true {bs:List Bool} {z:Int}:∀ {k:Nat},z∈trueTo bs k→∃ i:Nat,i<k∧z=i∧bs.getD i false=true
  | 0,h=>by cases h
  | k+1,h=>by
    rw [trueTo] at h
    split at h
    · rename_i hb
      rcases List.mem_append.1 h with h1 | h1
      · obtain ⟨i,h2,h3⟩:=mem_true h1;exact ⟨i,by omega,h3⟩
      · exact ⟨k,by omega,List.mem_singleton.1 h1,hb⟩
    · obtain ⟨i,h2,h3⟩:=mem_true h;exact ⟨i,by omega,h3⟩
theorem orb_all {a:St} {x:Int} {t:List Bool} (h:OrbI a x t):∀ z∈trueTo t t.length,a.El z∧Moved a x z:=fun z hz=>by
 obtain ⟨i,h1,rfl,h2⟩:=mem_true hz
 rw [h.1] at h1
 exact ⟨⟨by omega,by omega⟩,h.2 i h1 h2⟩
section
variable {τ:Type}
theorem shLoop_go {f:Nat→τ→τ×Bool} (hf:∀ k t,(f k t).2=true):∀ (k:Nat) (t:τ),(shLoop f k t).2=true
 | 0,_=>rfl
 | k+1,t=>by rw [shLoop,if_pos (shLoop_go hf k t)];exact hf _ _
theorem shS_go {a b:St} {step:List Int→τ→τ×Bool} (hs:∀ os t,(step os t).2=true):∀ (m:Nat) (os:List Int) (t:τ),(shS a b step m os t).2=true
 | 0,os,t=>hs os t
 | m+1,os,t=>shLoop_go (fun k t=>by unfold shF;split;exact shS_go hs m _ _;rfl) _ t
theorem shLoop_keep {f:Nat→τ→τ×Bool} {J:τ→Prop} (hf:∀ k t,J t→J (f k t).1):∀ (k:Nat) (t:τ),J t→J (shLoop f k t).1
  | 0,_,h=>h
  | k+1,t,h=>by
    rw [shLoop]
    split
    · exact hf _ _ (shLoop_keep hf k t h)
    · exact shLoop_keep hf k t h
theorem shS_keep {a b:St} {step:List Int→τ→τ×Bool} {J:τ→Prop} (hJ:∀ os t,J t→J (step os t).1):∀ (m:Nat) (os:List Int) (t:τ),J t→J (shS a b step m os t).1
 | 0,os,t,h=>hJ os t h
 | m+1,os,t,h=>shLoop_keep (fun k t h=>by unfold shF;split;exact shS_keep hJ m _ _ h;exact h) _ t h
theorem shS_id {a:St} {step:List Int→τ→τ×Bool} {J:τ→Prop} (hs:∀ os t,(step os t).2=true) (hJ:∀ os t,J t→J (step os t).1) (hid:∀ t,J (step (upto a.n.toNat) t).1):∀ (m i:Nat) (t:τ),i+m=a.n.toNat→J (shS a a step m (upto i) t).1
  | 0, i, t, h => by obtain rfl : i = a.n.toNat := by omega
                     exact hid t
  | m+1,i,t,h=>by
    have hgo:∀ k t,(shF a a (shS a a step m) (upto i) k t).2=true:=fun k t=>by unfold shF;split;exact shS_go hs m _ _;rfl
    have hkp:∀ k t,J t→J (shF a a (shS a a step m) (upto i) k t).1:=fun k t h=>by unfold shF;split;exact shS_keep hJ m _ _ h;exact h
    have key:∀ k:Nat,i<k→J (shLoop (shF a a (shS a a step m) (upto i)) k t).1:=fun k=>by
      induction k with
      | zero=>intro h;omega
      | succ k ih =>
        intro hk
        rw [shLoop,if_pos (shLoop_go hgo k t)]
        rcases Nat.lt_or_ge i k with h1 | h1
        · exact hkp _ _ (ih h1)
        · obtain rfl:i=k:=by omega
          unfold shF
          have hst:stillB a (upto i) a (upto (upto i).length) (i:Int) (upto i).length=true:=by
            have h2:=same_refl a (upto (i+1))
            rw [upto_succ,same_more rfl,Bool.and_eq_true] at h2
            have h3:=h2.2
            rwa [upto_length]
          rw [if_pos hst,show upto i++[(i:Int)]=upto (i+1) from (upto_succ i).symm]
          exact shS_id hs hJ hid m (i+1) _ (by omega)
    exact key a.n.toNat (by omega)
end
theorem orb_marks {a:St} {x:Int} (ha:a.Fine) (hx:a.El x):(shS a a (orbStep x) a.n.toNat [] (List.replicate a.n.toNat false)).1.getD x.toNat false=true:=by
  have hlo:=ha.lo
  have hx2:x.toNat<a.n.toNat:=by have:=hx.1;have:=hx.2;omega
  have:=shS_id (a:=a) (step:=orbStep x) (J:=fun t:List Bool=>t.length=a.n.toNat→t.getD x.toNat false=true) (fun _ _=>rfl) (fun os t h hl=>by
    unfold orbStep at hl ⊢
    rw [List.length_set] at hl
    have h1:=h hl
    by_cases e:(os.getD x.toNat 0).toNat=x.toNat
    · rw [e,List.getD_eq_getElem?_getD,List.getElem?_set_self (by omega)];rfl
    · rw [List.getD_eq_getElem?_getD,List.getElem?_set_ne e,← List.getD_eq_getElem?_getD];exact h1) (fun t hl=>by
    unfold orbStep at hl ⊢
    rw [List.length_set] at hl
    rw [upto_at hx2,Int.toNat_natCast,List.getD_eq_getElem?_getD,List.getElem?_set_self (by omega)];rfl) a.n.toNat 0 (List.replicate a.n.toNat false) (by omega)
  exact this (orb_inv ha hx).1
theorem true_first {bs:List Bool} {i:Nat} (hi:bs.getD i false=true):∀ {k:Nat},i<k→0<(trueTo bs k).length∧(trueTo bs k).getD 0 0≤(i:Int)
  | 0,h=>by omega
  | k+1,h=>by
    rcases Nat.lt_or_ge i k with h1 | h1
    · obtain ⟨h2,h3⟩:=true_first hi h1
      rw [trueTo]
      split
      · exact ⟨by rw [List.length_append];omega,by rw [getD_app1 h2];exact h3⟩
      · exact ⟨h2,h3⟩
    · obtain rfl:i=k:=by omega
      rw [true_yes hi]
      refine ⟨by rw [List.length_append];simp,?_⟩
      cases e:trueTo bs i with
      | nil=>exact Int.le_refl _
      | cons z l =>
        have hz:z∈trueTo bs i:=by rw [e];simp
        obtain ⟨j,hj,rfl,_⟩:=mem_true hz
        show (j:Int)≤(i:Int)
        omega
theorem orb_first {a:St} {x:Int} {t:List Bool} (hx:a.El x) (hl:t.length=a.n.toNat) (h:t.getD x.toNat false=true):0<(trueTo t t.length).length∧(trueTo t t.length).getD 0 0≤x:=by
 have hx1:=hx.1
 have hx2:=hx.2
 have:=true_first h (k:=t.length) (by omega)
 exact ⟨this.1,by have:=this.2;omega⟩
end Go.Wk
namespace Go.Proofs
open Go.Shelf
def Tryd.lays160_ren:Go.Shelf.Ren:=⟨fun | 160=>115 | 232=>143 | 231=>142 | 227=>144 | 234=>146 | 233=>145 | 236=>148 | 235=>147 | 228=>157 | 271=>160 | 151=>159 | 197=>158 | 120=>166 | 152=>165 | 260=>164 | 137=>155 | 119=>171 | 224=>168 | 225=>167 | 217=>163 | 266=>170 | n=>n,fun | 9=>9 | 4=>4 | 3=>3 | 5=>5 | 117=>163 | 116=>162 | 0=>0 | 124=>166 | 21=>21 | 105=>171 | 46=>91 | 119=>175 | 139=>178 | 138=>177 | n=>n,fun | 3=>1 | 4=>2 | n=>n⟩
theorem Tryd.lays160:Go.Proofs.Lays.n160 Tryd.prog Tryd.lays160_ren:={
 mixed:=by kernel_rfl
 f119:=Tryd.func171.trans (congrArg some (by kernel_rfl))
 f120:=Tryd.func166.trans (congrArg some (by kernel_rfl))
 f137:=Tryd.func155.trans (congrArg some (by kernel_rfl))
 f151:=Tryd.func159.trans (congrArg some (by kernel_rfl))
 f152:=Tryd.func165.trans (congrArg some (by kernel_rfl))
 f160:=Tryd.func115.trans (congrArg some (by kernel_rfl))
 f197:=Tryd.func158.trans (congrArg some (by kernel_rfl))
 f217:=Tryd.func163.trans (congrArg some (by kernel_rfl))
 f224:=Tryd.func168.trans (congrArg some (by kernel_rfl))
 f225:=Tryd.func167.trans (congrArg some (by kernel_rfl))
 f227:=Tryd.func144.trans (congrArg some (by kernel_rfl))
 f228:=Tryd.func157.trans (congrArg some (by kernel_rfl))
 f231:=Tryd.func142.trans (congrArg some (by kernel_rfl))
 f232:=Tryd.func143.trans (congrArg some (by kernel_rfl))
 f233:=Tryd.func145.trans (congrArg some (by kernel_rfl))
 f234:=Tryd.func146.trans (congrArg some (by kernel_rfl))
 f235:=Tryd.func147.trans (congrArg some (by kernel_rfl))
 f236:=Tryd.func148.trans (congrArg some (by kernel_rfl))
 f260:=Tryd.func164.trans (congrArg some (by kernel_rfl))
 f266:=Tryd.func170.trans (congrArg some (by kernel_rfl))
 f271:=Tryd.func160.trans (congrArg some (by kernel_rfl))
 t0:=Tryd.underlying0
 a0:=Tryd.isAgg0
 z0:=Tryd.sizeOf0
 v0:=Tryd.zeroValue0
 t3:=Tryd.underlying3
 a3:=Tryd.isAgg3
 z3:=Tryd.sizeOf3
 v3:=Tryd.zeroValue3
 t4:=Tryd.underlying4
 a4:=Tryd.isAgg4
 z4:=Tryd.sizeOf4
 v4:=Tryd.zeroValue4
 t5:=Tryd.underlying5
 a5:=Tryd.isAgg5
 z5:=Tryd.sizeOf5
 v5:=Tryd.zeroValue5
 t9:=Tryd.underlying9
 a9:=Tryd.isAgg9
 z9:=Tryd.sizeOf9
 v9:=Tryd.zeroValue9
 t21:=Tryd.underlying21
 a21:=Tryd.isAgg21
 z21:=Tryd.sizeOf21
 v21:=Tryd.zeroValue21
 t46:=Tryd.underlying91
 a46:=Tryd.isAgg91
 z46:=Tryd.sizeOf91
 v46:=Tryd.zeroValue91
 t105:=Tryd.underlying171
 a105:=Tryd.isAgg171
 z105:=Tryd.sizeOf171
 v105:=Tryd.zeroValue171
 t116:=Tryd.underlying162
 a116:=Tryd.isAgg162
 z116:=Tryd.sizeOf162
 t117:=Tryd.underlying163
 a117:=Tryd.isAgg163
 z117:=Tryd.sizeOf163
 v117:=Tryd.zeroValue163
 t119:=Tryd.underlying175
 a119:=Tryd.isAgg175
 z119:=Tryd.sizeOf175
 t124:=Tryd.underlying166
 a124:=Tryd.isAgg166
 z124:=Tryd.sizeOf166
 v124:=Tryd.zeroValue166
 t138:=Tryd.underlying177
 a138:=Tryd.isAgg177
 z138:=Tryd.sizeOf177
 v138:=Tryd.zeroValue177
 t139:=Tryd.underlying178
 a139:=Tryd.isAgg178
 z139:=Tryd.sizeOf178
 v139:=Tryd.zeroValue178
 g3:=by kernel_rfl
 g4:=by kernel_rfl }
end Go.Proofs
namespace Go.Proofs.YtagbocafnliabaaDoor
open Go.RowKit Go.Wk
theorem Base.mixed:Tryd.prog.follows .mixedOrders=true:=by kernel_rfl
theorem Base.elem22:Elem Tryd.prog 22 5 1:=⟨Tryd.underlying22,Tryd.t5,_,by kernel_rfl,rfl,rfl,by decide,rfl,by decide⟩
theorem Base.elem27:Elem Tryd.prog 27 3 1:=⟨Tryd.underlying27,Tryd.t3,_,by kernel_rfl,rfl,rfl,by decide,rfl,by decide⟩
theorem Base.elem57:Elem Tryd.prog 57 145 1:=⟨Tryd.underlying57,Tryd.t145,_,by kernel_rfl,rfl,rfl,by decide,rfl,by decide⟩
theorem Base.elem63:Elem Tryd.prog 63 27 1:=⟨Tryd.underlying63,Tryd.t27,_,by kernel_rfl,rfl,rfl,by decide,rfl,by decide⟩
theorem Base.elem74:Elem Tryd.prog 74 4 1:=⟨Tryd.underlying74,Tryd.t4,_,by kernel_rfl,rfl,rfl,by decide,rfl,by decide⟩
theorem Base.elem83:Elem Tryd.prog 83 9 1:=⟨Tryd.underlying83,Tryd.t9,_,by kernel_rfl,rfl,rfl,by decide,rfl,by decide⟩
theorem Base.elem145:Elem Tryd.prog 145 147 2:=⟨Tryd.underlying145,Tryd.t147,_,by kernel_rfl,rfl,rfl,by decide,rfl,by decide⟩
theorem trim_ok (s:List UInt8) (w:World) (hs:s.length≤1048576) :
  Calls Tryd.prog 115 [str s,str [48,49]].toArray w fun en w'=>en=.returned (str (Lib.trimS s [48,49]))∧Below w.heap.size w w' :=
 Any.strings_Trim_laid Tryd.lays160 (by kernel_rfl) ⟨⟨s⟩⟩ ⟨⟨[48,49]⟩⟩ w (by show s.length≤9223372036854775807;omega) (by decide) (ascii_of_all (by decide))
end Go.Proofs.YtagbocafnliabaaDoor
namespace Go.Proofs.YtagbocafnliabaaDoor
abbrev qA := @Base.elem27
abbrev yO := @Base.mixed
abbrev jB := @Base.elem145
end Go.Proofs.YtagbocafnliabaaDoor
namespace Go.Proofs.YtagbocafnliabaaDoor
open Go.RowKit Go.Wk
set_option linter.unusedSimpArgs false
set_option maxHeartbeats 400000 in
theorem l1In_ok (n lo hi:Int) (w:World) :
    Calls Tryd.prog 39 [i6_ n,i6_ lo,i6_ hi].toArray w fun en w'=>en=.returned (.bool (inB n lo hi))∧Below w.heap.size w w':=by
 refine fnStart (n:=15) (e:=[(0,i6_ n),(1,i6_ lo),(2,i6_ hi)]) Tryd.func39 Z Z Z Z Ends.both (zD (zA (zB 1 Z (zG (zC [0,1,2] [_,_,_] Z (zD (zA (zB 4 Z (yL fun b10 hg10=>?_)))))))))
 cases b10
 ·
  replace hg10:=zJ hg10;refine zH Z (zH Z (zH Z (zB 2 Z (zG (zC [6] [_] Z (qE (zY Z Z fun w' hw=>?_)))))))
  exact ⟨ret_b (by first | rfl | (simp_all [inB];done) | (simp_all [inB];omega)),hw.below⟩
 replace hg10:=zL hg10;refine zB 5 Z (zG (zC [6] [_] Z (qE (zY Z Z fun w' hw=>?_))))
 exact ⟨ret_b (by first | rfl | (simp_all [inB];done) | (simp_all [inB];omega)),hw.below⟩
set_option maxHeartbeats 400000 in
theorem l1Bits_ok (s:List UInt8) (n:Int) (w:World) (hs:s.length≤1048576) :
    Calls Tryd.prog 81 [str s,i6_ n].toArray w fun en w'=>en=.returned (.bool (bitsB s n))∧Below w.heap.size w w':=by
 refine fnStart (n:=26) (e:=[(0,str s),(1,i6_ n)]) Tryd.func81 Z Z Z Z Ends.both (zD (zA (zB 1 Z (zG (zC [0,1] [_,_] Z (zD (zD (zA (zB 1 Z (zG (zC [0,1,5] [_,_,_] Z (qI (yP (σ:=Nat) (fun k=>k≤s.length∧(s.take k).all isBit=true) (fun k=>[(0,str s),(1,i6_ n),(5,i6_ (k:Int))]) (fun k=>Own w.heap.size w []) (fun k=>s.length - k) (0) ⟨by omega,rfl⟩ (Sub.sel [0,1,5] Z) (fun _ h=>h) ?_)))))))))))))
 rintro k ⟨hk,hall⟩;refine zD (zD (zA (zB 2 Z (zE (v:=i6_ (s.length:Int)) Z (xD Z qN Z) (zB 1 Z (zG (zC [0,1,5,9] [_,_,_,_] Z (yY Z (fun h9=>?_) (fun h9=>?_)))))))))
 ·
  refine qK (zC [0,1,5] [_,_,_] Z (zD (qI (zD (zA (zB 2 Z (zE (v:=.int .u8 (((s.getD ((k:Int).toNat) 0).toNat:Int))) Z (xX Z qN Z Z (by omega) (by omega)) (zB 2 Z (yL fun b16 hg16=>?_)))))))))
  cases b16
  ·
   replace hg16:=not_false hg16
   replace hg16:=zL hg16;refine zH Z (zH Z (zH Z (zH Z (zB 1 Z (zG (zC [0,1,5,21] [_,_,_,_] Z (Wk.condF Z (qK (zC [0,1,5] [_,_,_] Z (zA (zB 1 Z (zE Z (qR Z Z Z (by omega) (by omega)) (zB 1 Z (zG (qW (k+1) ⟨by omega,all_take (by omega) hall (by unfold isBit;simp_all)⟩ (by omega) (Sub.sel [0,1,5] Z) (fun _ h=>h))))))))))))))))
  replace hg16:=not_true hg16
  replace hg16:=zJ hg16;refine zB 2 Z (zE (v:=.int .u8 (((s.getD ((k:Int).toNat) 0).toNat:Int))) Z (xX Z qN Z Z (by omega) (by omega)) (zB 2 Z (zG (zC [0,1,5,21] [_,_,_,_] Z (qT (b:=!(decide ((((s.getD ((k:Int).toNat) 0).toNat:Int))=(49:Int)))) Z (fun h21=>?_) (fun h21=>?_))))))
  ·
   replace h21:=not_true h21
   replace h21:=zJ h21;refine zD (zA (zB 1 Z (zG (zC [4] [_] Z (qE (zY Z Z fun w' hw=>?_))))))
   exact ⟨ret_b (by unfold bitsB;rw [all_false (k:=k) (by omega) (by unfold isBit;simp_all)];rfl),hw.below⟩
  replace h21:=not_false h21
  replace h21:=zL h21;refine qK (zC [0,1,5] [_,_,_] Z (zA (zB 1 Z (zE Z (qR Z Z Z (by omega) (by omega)) (zB 1 Z (zG (qW (k+1) ⟨by omega,all_take (by omega) hall (by unfold isBit;simp_all)⟩ (by omega) (Sub.sel [0,1,5] Z) (fun _ h=>h))))))))
 refine yK Z (zC [0,1] [_,_] Z (zD (zA (zB 1 Z (zE (v:=i6_ (s.length:Int)) Z (xD Z qN Z) (zB 3 Z (zG (zC [4] [_] Z (qE (zY Z Z fun w' hw=>?_))))))))))
 exact ⟨ret_b (by unfold bitsB;rw [show s.all isBit=true from by rw [← List.take_of_length_le (show s.length≤k by omega)];exact hall];rfl),hw.below⟩
set_option maxHeartbeats 400000 in
theorem sValid_ok (a:St) (w:World) (ha:a.Small) :
    Calls Tryd.prog 38 [vS a].toArray w fun en w'=>en=.returned (.bool (validB a))∧Below w.heap.size w w':=by
 refine fnStart (n:=23) (e:=[(0,vS a)]) Tryd.func38 Z Z Z Z Ends.both ?_
 have h1:=ha.set
 have h2:=ha.rel;refine zD (zS (yE (v:=vS a) Z Z Z Z Z fun p1 hp1=>?_))
 show Ll _ _ (Own _ _ [_]) _ _ ((1,pt_ p1)::_) _ _ _;refine qB 1 Z (zN (zC [1] [_] Z (zD (zA (zE Z (zM Z zK Z zR Z Z) (zE Z (zO 0 Z zX Z Z Z) (zE (v:=bo_ (inB a.n 1 8)) Z (qH Z Tryd.call39 Z zW (fun w1 hw1=>l1In_ok a.n 1 8 w1 )) (zB 1 Z (yL fun b6 hg6=>?_)))))))))
 cases b6
 ·
  refine zH Z (zH Z (zH Z (zH Z (zH Z (zB 2 Z (zH Z (zH Z (zH Z (zH Z (zH Z (zH Z (zH Z (zH Z (zB 2 Z (zG (zC [2] [_] Z (qE (zY Z Z fun w' hw=>?_))))))))))))))))))
  exact ⟨ret_b (by first | (simp [validB, *];done) | (simp [validB, *];omega)),hw.below⟩
 have hn:1≤a.n∧a.n≤8:=by unfold inB at hg6;simpa using hg6
 have hq:=sq_le hn.1 hn.2;refine zE Z (zM Z zK Z zZ Z Z) (zE Z (zO 0 Z qS Z Z Z) (zE Z (zM Z zK Z zR Z Z) (zE Z (zO 0 Z zX Z Z Z) (zE (v:=bo_ (bitsB a.set a.n)) Z (qH Z Tryd.call81 Z zW (fun w1 hw1=>l1Bits_ok a.set a.n w1 (by omega))) (zB 2 Z (yL fun b13 hg13=>?_))))))
 cases b13
 ·
  refine zH Z (zH Z (zH Z (zH Z (zH Z (zH Z (zH Z (zH Z (zB 2 Z (zG (zC [2] [_] Z (qE (zY Z Z fun w' hw=>?_))))))))))))
  exact ⟨ret_b (by first | (simp [validB, *];done) | (simp [validB, *];omega)),hw.below⟩
 refine zE Z (zM Z zK Z zZ Z Z) (zE Z (zO 0 Z qS Z Z Z) (zE Z (zM Z zK Z zR Z Z) (zE Z (zO 0 Z zX Z Z Z) (zE Z (zM Z zK Z zR Z Z) (zE Z (zO 0 Z zX Z Z Z) (zE Z (OpQ.mul Z Z Z (by omega) (by omega)) (zE (v:=bo_ (bitsB a.rel (a.n*a.n))) Z (qH Z Tryd.call81 Z zW (fun w1 hw1=>l1Bits_ok a.rel (a.n*a.n) w1 (by omega))) (zB 2 Z (zG (zC [2] [_] Z (qE (zY Z Z fun w' hw=>?_))))))))))))
 exact ⟨ret_b (by first | (simp [validB, *];done) | (simp [validB, *];omega)),hw.below⟩
set_option maxHeartbeats 400000 in
theorem l1Set_ok (a:St) (x:Int) (w:World) (ha:a.Fine) (hx:a.El x) :
    Calls Tryd.prog 119 [vS a,i6_ x].toArray w fun en w'=>en=.returned (.bool (a.inSet x))∧Below w.heap.size w w':=by
 refine fnStart (n:=10) (e:=[(0,vS a),(1,i6_ x)]) Tryd.func119 Z Z Z Z Ends.both ?_
 have hs:=ha.set
 obtain ⟨h0,h1⟩:=hx;refine zD (zS (yE (v:=vS a) Z Z Z Z Z fun p2 hp2=>?_))
 show Ll _ _ (Own _ _ [_]) _ _ ((2,pt_ p2)::_) _ _ _;refine qB 1 Z (zN (zC [1,2] [_,_] Z (zD (zA (zE Z (zM Z zK Z zZ Z Z) (zE Z (zO 0 Z qS Z Z Z) (zB 1 Z (zE (v:=.int .u8 (((a.set.getD ((x).toNat) 0).toNat:Int))) Z (xX Z qN Z Z (by omega) (by omega)) (zB 2 Z (zG (zC [4] [_] Z (qE (zY Z Z fun w' hw=>?_)))))))))))))
 exact ⟨ret_b (by first | rfl | (simp_all;done) | (simp_all;omega)),hw.below⟩
set_option maxHeartbeats 400000 in
theorem l1Rel_ok (a:St) (x y:Int) (w:World) (ha:a.Fine) (hx:a.El x) (hy:a.El y) :
    Calls Tryd.prog 120 [vS a,i6_ x,i6_ y].toArray w fun en w'=>en=.returned (.bool (a.inRel x y))∧Below w.heap.size w w':=by
 refine fnStart (n:=17) (e:=[(0,vS a),(1,i6_ x),(2,i6_ y)]) Tryd.func120 Z Z Z Z Ends.both ?_
 obtain ⟨k0,k1,k2,k3,k4⟩:=ha.relLt hx hy;refine zD (zS (yE (v:=vS a) Z Z Z Z Z fun p3 hp3=>?_))
 show Ll _ _ (Own _ _ [_]) _ _ ((3,pt_ p3)::_) _ _ _;refine qB 1 Z (zN (zC [1,2,3] [_,_,_] Z (zD (zA (zE Z (zM Z zK Z zZ Z Z) (zE Z (zO 0 Z qS Z Z Z) (zB 1 Z (zE Z (zM Z zK Z zR Z Z) (zE Z (zO 0 Z zX Z Z Z) (zE Z (OpQ.mul Z Z Z (by omega) (by omega)) (zB 1 Z (zE Z (qR Z Z Z (by omega) (by omega)) (zE (v:=.int .u8 (((a.rel.getD (((x*a.n)+y).toNat) 0).toNat:Int))) Z (xX Z qN Z Z (by omega) (by omega)) (zB 2 Z (zG (zC [6] [_] Z (qE (zY Z Z fun w' hw=>?_))))))))))))))))))
 exact ⟨ret_b (by first | rfl | (simp_all;done) | (simp_all;omega)),hw.below⟩
set_option maxHeartbeats 400000 in
theorem areBits_ok (s:List UInt8) (n:Int) (w:World) (hs:s.length≤1048576) :
    Calls Tryd.prog 78 [str s,i6_ n].toArray w fun en w'=>en=.returned (.bool (bitsB s n))∧Below w.heap.size w w':=by
 refine fnStart (n:=14) (e:=[(0,str s),(1,i6_ n)]) Tryd.func78 Z Z Z Z Ends.both (zD (zA (zB 1 Z (zG (zC [0,1] [_,_] Z (zD (zA (zB 1 Z (zE (v:=i6_ (s.length:Int)) Z (xD Z qN Z) (zB 3 Z (yL fun b9 hg9=>?_)))))))))))
 cases b9
 ·
  replace hg9:=zJ hg9;refine zH Z (zH Z (zH Z (zB 2 Z (zG (zC [4] [_] Z (qE (zY Z Z fun w' hw=>?_)))))))
  exact ⟨ret_b (by unfold bitsB;simp [*]),hw.below⟩
 replace hg9:=zL hg9;refine zB 1 Z (zE (v:=str (Lib.trimS s [48,49])) Z (qH Z Tryd.call115 Z zW (fun w1 hw1=>trim_ok s w1 (by omega))) (zE Z (OpQ.seql Z Z Z) (zB 2 Z (zG (zC [4] [_] Z (qE (zY Z Z fun w' hw=>?_)))))))
 exact ⟨ret_b (by unfold bitsB;rw [trim_nil];simp [*]),hw.below⟩
set_option maxHeartbeats 400000 in
theorem isStructure_ok (a:St) (w:World) (ha:a.Small) :
    Calls Tryd.prog 34 [vS a].toArray w fun en w'=>en=.returned (.bool (validB a))∧Below w.heap.size w w':=by
 refine fnStart (n:=28) (e:=[(0,vS a)]) Tryd.func34 Z Z Z Z Ends.both ?_
 have h1:=ha.set
 have h2:=ha.rel;refine zD (zS (yE (v:=vS a) Z Z Z Z Z fun p1 hp1=>?_))
 show Ll _ _ (Own _ _ [_]) _ _ ((1,pt_ p1)::_) _ _ _;refine qB 1 Z (zN (zC [1] [_] Z (zD (zA (zE Z (zM Z zK Z zR Z Z) (zE Z (zO 0 Z zX Z Z Z) (zB 2 Z (yL fun b6 hg6=>?_))))))))
 cases b6
 ·
  replace hg6:=zJ hg6;refine zH Z (zH Z (zH Z (zB 2 Z (zH Z (zH Z (zH Z (zH Z (zH Z (zB 2 Z (zH Z (zH Z (zH Z (zH Z (zH Z (zH Z (zH Z (zH Z (zB 2 Z (zG (zC [2] [_] Z (qE (zY Z Z fun w' hw=>?_))))))))))))))))))))))
  exact ⟨ret_b (by first | (simp [validB,inB, *];done) | (simp [validB,inB, *];omega)),hw.below⟩
 replace hg6:=zL hg6;refine zE Z (zM Z zK Z zR Z Z) (zE Z (zO 0 Z zX Z Z Z) (zB 3 Z (yL fun b11 hg11=>?_)))
 cases b11
 ·
  replace hg11:=zJ hg11;refine zH Z (zH Z (zH Z (zH Z (zH Z (zB 2 Z (zH Z (zH Z (zH Z (zH Z (zH Z (zH Z (zH Z (zH Z (zB 2 Z (zG (zC [2] [_] Z (qE (zY Z Z fun w' hw=>?_))))))))))))))))))
  exact ⟨ret_b (by first | (simp [validB,inB, *];done) | (simp [validB,inB, *];omega)),hw.below⟩
 replace hg11:=zL hg11
 have hq:=sq_le hg6 hg11;refine zE Z (zM Z zK Z zZ Z Z) (zE Z (zO 0 Z qS Z Z Z) (zE Z (zM Z zK Z zR Z Z) (zE Z (zO 0 Z zX Z Z Z) (zE (v:=bo_ (bitsB a.set a.n)) Z (qH Z Tryd.call78 Z zW (fun w1 hw1=>areBits_ok a.set a.n w1 (by omega))) (zB 2 Z (yL fun b18 hg18=>?_))))))
 cases b18
 ·
  refine zH Z (zH Z (zH Z (zH Z (zH Z (zH Z (zH Z (zH Z (zB 2 Z (zG (zC [2] [_] Z (qE (zY Z Z fun w' hw=>?_))))))))))))
  exact ⟨ret_b (by first | (simp [validB,inB, *];done) | (simp [validB,inB, *];omega)),hw.below⟩
 refine zE Z (zM Z zK Z zZ Z Z) (zE Z (zO 0 Z qS Z Z Z) (zE Z (zM Z zK Z zR Z Z) (zE Z (zO 0 Z zX Z Z Z) (zE Z (zM Z zK Z zR Z Z) (zE Z (zO 0 Z zX Z Z Z) (zE Z (OpQ.mul Z Z Z (by omega) (by omega)) (zE (v:=bo_ (bitsB a.rel (a.n*a.n))) Z (qH Z Tryd.call78 Z zW (fun w1 hw1=>areBits_ok a.rel (a.n*a.n) w1 (by omega))) (zB 2 Z (zG (zC [2] [_] Z (qE (zY Z Z fun w' hw=>?_))))))))))))
 exact ⟨ret_b (by first | (simp [validB,inB, *];done) | (simp [validB,inB, *];omega)),hw.below⟩
set_option maxHeartbeats 400000 in
theorem inSet_ok (a:St) (x:Int) (w:World) (ha:a.Fine) (hx:a.El x) :
    Calls Tryd.prog 123 [vS a,i6_ x].toArray w fun en w'=>en=.returned (.bool (a.inSet x))∧Below w.heap.size w w':=by
 refine fnStart (n:=10) (e:=[(0,vS a),(1,i6_ x)]) Tryd.func123 Z Z Z Z Ends.both ?_
 have hs:=ha.set
 obtain ⟨h0,h1⟩:=hx;refine zD (zS (yE (v:=vS a) Z Z Z Z Z fun p2 hp2=>?_))
 show Ll _ _ (Own _ _ [_]) _ _ ((2,pt_ p2)::_) _ _ _;refine qB 1 Z (zN (zC [1,2] [_,_] Z (zD (zA (zE Z (zM Z zK Z zZ Z Z) (zE Z (zO 0 Z qS Z Z Z) (zB 1 Z (zE (v:=.int .u8 (((a.set.getD ((x).toNat) 0).toNat:Int))) Z (xX Z qN Z Z (by omega) (by omega)) (zB 2 Z (zG (zC [4] [_] Z (qE (zY Z Z fun w' hw=>?_)))))))))))))
 exact ⟨ret_b (by first | rfl | (simp_all;done) | (simp_all;omega)),hw.below⟩
set_option maxHeartbeats 400000 in
theorem inRel_ok (a:St) (x y:Int) (w:World) (ha:a.Fine) (hx:a.El x) (hy:a.El y) :
    Calls Tryd.prog 124 [vS a,i6_ x,i6_ y].toArray w fun en w'=>en=.returned (.bool (a.inRel x y))∧Below w.heap.size w w':=by
 refine fnStart (n:=17) (e:=[(0,vS a),(1,i6_ x),(2,i6_ y)]) Tryd.func124 Z Z Z Z Ends.both ?_
 obtain ⟨k0,k1,k2,k3,k4⟩:=ha.relLt hx hy;refine zD (zS (yE (v:=vS a) Z Z Z Z Z fun p3 hp3=>?_))
 show Ll _ _ (Own _ _ [_]) _ _ ((3,pt_ p3)::_) _ _ _;refine qB 1 Z (zN (zC [1,2,3] [_,_,_] Z (zD (zA (zE Z (zM Z zK Z zZ Z Z) (zE Z (zO 0 Z qS Z Z Z) (zB 1 Z (zE Z (zM Z zK Z zR Z Z) (zE Z (zO 0 Z zX Z Z Z) (zE Z (OpQ.mul Z Z Z (by omega) (by omega)) (zB 1 Z (zE Z (qR Z Z Z (by omega) (by omega)) (zE (v:=.int .u8 (((a.rel.getD (((x*a.n)+y).toNat) 0).toNat:Int))) Z (xX Z qN Z Z (by omega) (by omega)) (zB 2 Z (zG (zC [6] [_] Z (qE (zY Z Z fun w' hw=>?_))))))))))))))))))
 exact ⟨ret_b (by first | rfl | (simp_all;done) | (simp_all;omega)),hw.below⟩
set_option maxHeartbeats 400000 in
theorem noEl_ok (a:St) (g T:Nat) (x:Int) (w:World) (hg:w.heap[g]?=some (.cells #[.int .i64 a.n,str a.set,str a.rel] T (0,0))) :
    Calls Tryd.prog 111 [i6_ x,.pointer (some ⟨g,0,none⟩)].toArray w fun en w'=>en=.returned (.bool (!elB a x))∧Below w.heap.size w w':=by
 refine fnStart (n:=12) (e:=[(0,i6_ x),(1,.pointer (some ⟨g,0,none⟩))]) Tryd.func111 Z Z Z Z Ends.both (zD (zA (zB 1 Z (zG (zC [0,1] [_,_] Z (zD (zA (zB 3 Z (yL fun b6 hg6=>?_)))))))))
 cases b6
 ·
  replace hg6:=zJ hg6;refine zB 1 Z (zE Z (zM Z zK Z zR Z Z) (zE (v:=i6_ a.n) Z (qX Z zX Z (fun w1 hw1=>at_box hg hw1 0 Z)) (zB 3 Z (zG (zC [3] [_] Z (qE (zY Z Z fun w' hw=>?_)))))))
  exact ⟨ret_b (by first | exact el_neg (by assumption) | exact el_geq (by assumption)),hw.below⟩
 replace hg6:=zL hg6;refine zH Z (zH Z (zH Z (zH Z (zB 2 Z (zG (zC [3] [_] Z (qE (zY Z Z fun w' hw=>?_))))))))
 exact ⟨ret_b (by first | exact el_neg (by assumption) | exact el_geq (by assumption)),hw.below⟩
set_option maxHeartbeats 400000 in
theorem indexFunc_ok (va:Value) (xs:List Int) (w:World) (hva:Ints w va xs) (hs:xs.length≤140737488355328) (F:FuncId) (caps:Array Value) (q:Int→Bool) (hF:∀ args w,(callFunc F args).run Tryd.prog w=.ok (.enter F args) w) (hq:∀ w1,Below w.heap.size w w1→∀ x,Calls Tryd.prog F (#[.int .i64 x]++caps) w1 fun en w'=>en=.returned (.bool (q x))∧Below w1.heap.size w1 w') :
    Calls Tryd.prog 141 [va,.func (.func F) #[] caps].toArray w fun en w'=>en=.returned (.int .i64 (idxI xs q))∧Below w.heap.size w w':=by
 refine fnStart (n:=19) (e:=[(0,va),(1,.func (.func F) #[] caps)]) Tryd.func141 Z Z Z Z Ends.both (zD (zA (zB 1 Z (zG (zC [0,1] [_,_] Z (zD (zD (zA (zB 1 Z (zE (v:=i6_ (xs.length:Int)) Z (yF Z zI Z (ints_length _) (fun w1 hw1=>Row.own hva hw1)) (zB 1 Z (zG (zC [0,1,7,8] [_,_,_,_] Z (qI (yP (σ:=Nat) (fun k=>k≤xs.length∧∀ i:Nat,i<k→q (xs.getD i 0)=false) (fun k=>[(0,va),(1,.func (.func F) #[] caps),(7,i6_ (xs.length:Int)),(8,i6_ (k:Int))]) (fun k=>Own w.heap.size w []) (fun k=>xs.length - k) (0) ⟨by omega,fun i hi=>absurd hi (by omega)⟩ (Sub.sel [0,1,7,8] Z) (fun _ h=>h) ?_)))))))))))))))
 rintro k ⟨hk,hall⟩;refine zD (zA (zB 1 Z (zG (zC [0,1,7,8,9] [_,_,_,_,_] Z (zD (yY Z (fun h9=>?_) (fun h9=>?_)))))))
 ·
  refine qK (zC [0,1,7,8] [_,_,_,_] Z (zD (qI (zD (zA (zB 2 Z (zG (zC [0,1,5,7,8] [_,_,_,_,_] Z (zD (zA (zB 3 Z (zE (v:=.pointer (some (sAt va (k:Int)))) Z (yD Z zI zR Z Z (by omega) (by rw [ints_length];omega) (fun w1 hw1=>Row.own hva hw1)) (zE (v:=i6_ (xs.getD ((k:Int).toNat) 0)) Z (qX Z zX Z (fun w1 hw1=>Ints.cell (Row.own hva hw1) (by omega) (by omega))) (zE (v:=bo_ (q (xs.getD ((k:Int).toNat) 0))) Z (OpQ.callFn Z Z hF Z zW (fun w1 hw1=>hq w1 hw1.below (xs.getD ((k:Int).toNat) 0))) (zG (zC [0,1,5,7,8,16] [_,_,_,_,_,_] Z (qT (b:=q (xs.getD ((k:Int).toNat) 0)) Z (fun h16=>?_) (fun h16=>?_))))))))))))))))))
  ·
   refine zD (zA (zB 2 Z (zG (zC [4] [_] Z (qE (zY Z Z fun w' hw=>?_))))))
   exact ⟨ret_i (idxI_at (by omega) hall (by simpa using h16)).symm,hw.below⟩
  refine qK (zC [0,1,7,8] [_,_,_,_] Z (zA (zE Z (qR Z Z Z (by omega) (by omega)) (zB 1 Z (zG (qW (k+1) ⟨by omega,fun i hi=>(Nat.lt_succ_iff_lt_or_eq.1 hi).elim (hall i) (fun e=>by subst e;simpa using h16)⟩ (by omega) (Sub.sel [0,1,7,8] Z) (fun _ h=>h)))))))
 refine yK Z (zC [] [] Z (zD (zA (zB 1 Z (zG (zC [4] [_] Z (qE (zY Z Z fun w' hw=>?_))))))))
 exact ⟨ret_i (idxI_none (fun i hi=>hall i (by omega))).symm,hw.below⟩
set_option maxHeartbeats 400000 in
theorem containsFunc_ok (va:Value) (xs:List Int) (w:World) (hva:Ints w va xs) (hs:xs.length≤140737488355328) (F:FuncId) (caps:Array Value) (q:Int→Bool) (hF:∀ args w,(callFunc F args).run Tryd.prog w=.ok (.enter F args) w) (hq:∀ w1,Below w.heap.size w w1→∀ x,Calls Tryd.prog F (#[.int .i64 x]++caps) w1 fun en w'=>en=.returned (.bool (q x))∧Below w1.heap.size w1 w') :
    Calls Tryd.prog 110 [va,.func (.func F) #[] caps].toArray w fun en w'=>en=.returned (.bool (xs.any q))∧Below w.heap.size w w':=by
 refine fnStart (n:=9) (e:=[(0,va),(1,.func (.func F) #[] caps)]) Tryd.func110 Z Z Z Z Ends.both (zD (zA (zB 1 Z (zG (zC [0,1] [_,_] Z (zD (zA (zB 2 Z (zE (v:=i6_ (idxI xs q)) Z (qH Z Tryd.call141 Z zW (fun w1 hw1=>indexFunc_ok va xs w1 (Row.own hva hw1) hs F caps q hF (fun w2 hb x=>hq w2 (hw1.below.trans (hb.mono hw1.base)) x))) (zB 2 Z (zG (zC [4] [_] Z (qE (zY Z Z fun w' hw=>?_))))))))))))))
 exact ⟨ret_b (idxI_any xs q),hw.below⟩
set_option maxHeartbeats 400000 in
theorem stillSame_ok (a b:St) (xs ys:List Int) (va vb:Value) (x y:Int) (w:World) (ha:a.Fine) (hb:b.Fine) (hva:Ints w va xs) (hvb:Ints w vb ys) (hA:a.Els xs) (hB:b.Els ys) (hlen:xs.length=ys.length) (hsmall:xs.length≤1000000) (hx:a.El x) (hy:b.El y) :
    Calls Tryd.prog 116 [vS a,va,vS b,vb,i6_ x,i6_ y].toArray w fun en w'=>en=.returned (.bool (stillB a xs b ys x y))∧Below w.heap.size w w':=by
 refine fnStart (n:=75) (e:=[(0,vS a),(1,va),(2,vS b),(3,vb),(4,i6_ x),(5,i6_ y)]) Tryd.func116 Z Z Z Z Ends.both ?_
 have hT:=stillB_true (a:=a) (b:=b) (x:=x) (y:=y) hlen;refine zD (zS (yE (v:=vS a) Z Z Z Z Z fun p6 hp6=>?_))
 show Ll _ _ (Own _ _ [_]) _ _ ((6,pt_ p6)::_) _ _ _;refine yE (v:=vS b) Z Z Z Z Z fun p8 hp8=>?_
 show Ll _ _ (Own _ _ [_,_]) _ _ ((8,pt_ p8)::_) _ _ _;refine qB 1 Z (zN (zC [1,3,4,5,6,8] [_,_,_,_,_,_] Z (zD (zD (xR yO (fun _ h=>h.drawn) (by kernel_rfl) (zE Z (zV (cs:=#[i6_ a.n,str a.set,str a.rel]) 1 Z zQ Z Z zP) (zB 1 Z (zE (v:=bo_ (a.inSet x)) Z (qH Z Tryd.call123 Z zW (fun w1 hw1=>inSet_ok a x w1 ha (by first | assumption | exact St.Els.at (by assumption) (by omega) (by omega)))) (zE Z (zV (cs:=#[i6_ b.n,str b.set,str b.rel]) 0 Z zQ Z Z zP) (zB 1 Z (zE (v:=bo_ (b.inSet y)) Z (qH Z Tryd.call123 Z zW (fun w1 hw1=>inSet_ok b y w1 hb (by first | assumption | exact St.Els.at (by assumption) (by omega) (by omega)))) (zE Z (OpQ.bne Z yQ Z Z) (zB 1 Z (yL fun b23 hg23=>?_))))))))))))))
 cases b23
 ·
  refine zE Z (zV (cs:=#[i6_ a.n,str a.set,str a.rel]) 1 Z zQ Z Z zP) (zB 2 Z (zE (v:=bo_ (a.inRel x x)) Z (qH Z xB Z zW (fun w1 hw1=>inRel_ok a x x w1 ha (by first | assumption | exact St.Els.at (by assumption) (by omega) (by omega)) (by first | assumption | exact St.Els.at (by assumption) (by omega) (by omega)))) (zE Z (zV (cs:=#[i6_ b.n,str b.set,str b.rel]) 0 Z zQ Z Z zP) (zB 2 Z (zE (v:=bo_ (b.inRel y y)) Z (qH Z xB Z zW (fun w1 hw1=>inRel_ok b y y w1 hb (by first | assumption | exact St.Els.at (by assumption) (by omega) (by omega)) (by first | assumption | exact St.Els.at (by assumption) (by omega) (by omega)))) (zE Z (OpQ.bne Z yQ Z Z) (zB 1 Z (zG (zC [1,3,4,5,6,8,33] [_,_,_,_,_,_,_] Z (qT (b:=(a.inRel x x) != (b.inRel y y)) Z (fun h33=>?_) (fun h33=>?_)))))))))))
  ·
   refine zD (zA (zB 1 Z (zG (zC [12] [_] Z (qE (zY Z Z fun w' hw=>?_))))))
   have hf:stillB a xs b ys x y=false:=by
    cases hs:stillB a xs b ys x y with
    | false=>rfl
    | true=>obtain ⟨e1,e2,e3⟩:=hT.1 hs;simp_all
   exact ⟨by rw [hf],hw.below⟩
  refine qK (zC [1,3,4,5,6,8] [_,_,_,_,_,_] Z (zD (zD (zA (zB 1 Z (zE (v:=i6_ (xs.length:Int)) Z (yF Z zI Z (ints_length _) (fun w1 hw1=>Row.own hva hw1)) (zB 1 Z (zG (zC [3,4,5,6,8,34,35,36] [_,_,_,_,_,_,_,_] Z (qI (yP (σ:=Nat) (fun k=>k≤xs.length∧∀ i:Nat,i<k→pairOk a b x y (xs.getD i 0) (ys.getD i 0)=true) (fun k=>[(3,vb),(4,i6_ x),(5,i6_ y),(6,pt_ p6),(8,pt_ p8),(34,va),(35,i6_ (xs.length:Int)),(36,i6_ (k:Int))]) (fun k=>Own w.heap.size w [bk_ p8 #[i6_ b.n,str b.set,str b.rel] 24,bk_ p6 #[i6_ a.n,str a.set,str a.rel] 24]) (fun k=>xs.length - k) (0) ⟨by omega,fun i hi=>absurd hi (by omega)⟩ (Sub.sel [3,4,5,6,8,34,35,36] Z) (fun _ h=>h) ?_)))))))))))
  rintro k ⟨hk,hall⟩;refine zD (zA (zB 1 Z (zG (zC [3,4,5,6,8,34,35,36,37] [_,_,_,_,_,_,_,_,_] Z (zD (yY Z (fun h37=>?_) (fun h37=>?_)))))))
  ·
   refine qK (zC [3,4,5,6,8,34,35,36] [_,_,_,_,_,_,_,_] Z (zD (qI (zD (zA (zB 1 Z (zE (v:=.pointer (some (sAt va (k:Int)))) Z (yD Z zI zR Z Z (by omega) (by rw [ints_length];omega) (fun w1 hw1=>Row.own hva hw1)) (zE (v:=i6_ (xs.getD ((k:Int).toNat) 0)) Z (qX Z zX Z (fun w1 hw1=>Ints.cell (Row.own hva hw1) (by omega) (by omega))) (zB 2 Z (zG (zC [3,4,5,6,8,13,14,34,35,36] [_,_,_,_,_,_,_,_,_,_] Z (zD (zA (zB 2 Z (zE (v:=.pointer (some (sAt vb (k:Int)))) Z (yD Z zI zR Z Z (by omega) (by rw [ints_length];omega) (fun w1 hw1=>Row.own hvb hw1)) (zE (v:=i6_ (ys.getD ((k:Int).toNat) 0)) Z (qX Z zX Z (fun w1 hw1=>Ints.cell (Row.own hvb hw1) (by omega) (by omega))) (zB 1 Z (zG (zC [3,4,5,6,8,14,15,34,35,36] [_,_,_,_,_,_,_,_,_,_] Z (zD (xR yO (fun _ h=>h.drawn) (by kernel_rfl) (zB 6 Z (zE Z (OpQ.bne Z yQ Z Z) (zB 1 Z (yL fun b52 hg52=>?_)))))))))))))))))))))))))
   cases b52
   ·
    refine zE Z (zV (cs:=#[i6_ a.n,str a.set,str a.rel]) 1 Z zQ Z Z zP) (zB 2 Z (zE (v:=bo_ (a.inRel (xs.getD ((k:Int).toNat) 0) x)) Z (qH Z xB Z zW (fun w1 hw1=>inRel_ok a (xs.getD ((k:Int).toNat) 0) x w1 ha (by first | assumption | exact St.Els.at (by assumption) (by omega) (by omega)) (by first | assumption | exact St.Els.at (by assumption) (by omega) (by omega)))) (zE Z (zV (cs:=#[i6_ b.n,str b.set,str b.rel]) 0 Z zQ Z Z zP) (zB 2 Z (zE (v:=bo_ (b.inRel (ys.getD ((k:Int).toNat) 0) y)) Z (qH Z xB Z zW (fun w1 hw1=>inRel_ok b (ys.getD ((k:Int).toNat) 0) y w1 hb (by first | assumption | exact St.Els.at (by assumption) (by omega) (by omega)) (by first | assumption | exact St.Els.at (by assumption) (by omega) (by omega)))) (zE Z (OpQ.bne Z yQ Z Z) (zB 2 Z (yL fun b63 hg63=>?_))))))))
    cases b63
    ·
     refine zE Z (zV (cs:=#[i6_ a.n,str a.set,str a.rel]) 1 Z zQ Z Z zP) (zB 2 Z (zE (v:=bo_ (a.inRel x (xs.getD ((k:Int).toNat) 0))) Z (qH Z xB Z zW (fun w1 hw1=>inRel_ok a x (xs.getD ((k:Int).toNat) 0) w1 ha (by first | assumption | exact St.Els.at (by assumption) (by omega) (by omega)) (by first | assumption | exact St.Els.at (by assumption) (by omega) (by omega)))) (zE Z (zV (cs:=#[i6_ b.n,str b.set,str b.rel]) 0 Z zQ Z Z zP) (zB 2 Z (zE (v:=bo_ (b.inRel y (ys.getD ((k:Int).toNat) 0))) Z (qH Z xB Z zW (fun w1 hw1=>inRel_ok b y (ys.getD ((k:Int).toNat) 0) w1 hb (by first | assumption | exact St.Els.at (by assumption) (by omega) (by omega)) (by first | assumption | exact St.Els.at (by assumption) (by omega) (by omega)))) (zE Z (OpQ.bne Z yQ Z Z) (zB 1 Z (zG (zC [3,4,5,6,8,34,35,36,73] [_,_,_,_,_,_,_,_,_] Z (qT (b:=(a.inRel x (xs.getD ((k:Int).toNat) 0)) != (b.inRel y (ys.getD ((k:Int).toNat) 0))) Z (fun h73=>?_) (fun h73=>?_)))))))))))
     ·
      refine zD (zA (zB 1 Z (zG (zC [12] [_] Z (qE (zY Z Z fun w' hw=>?_))))))
      have hf:stillB a xs b ys x y=false:=by
       cases hs:stillB a xs b ys x y with
       | false=>rfl
       | true =>
        obtain ⟨e1,e2,e3⟩:=hT.1 hs
        obtain ⟨e4,e5,e6⟩:=pairOk_true.1 (e3 k (by omega))
        simp only [Int.toNat_natCast] at *
        simp_all
      exact ⟨by rw [hf],hw.below⟩
     refine qK (zC [3,4,5,6,8,34,35,36] [_,_,_,_,_,_,_,_] Z (zA (zE Z (qR Z Z Z (by omega) (by omega)) (zB 1 Z (zG (qW (k+1) ⟨by omega,fun i hi=>(Nat.lt_succ_iff_lt_or_eq.1 hi).elim (hall i) (fun e=>by subst e;exact pairOk_true.2 ⟨by simpa using hg52,by simpa using hg63,by simpa using h73⟩)⟩ (by omega) (Sub.sel [3,4,5,6,8,34,35,36] Z) (fun _ h=>h)))))))
    refine zH Z (zH Z (zH Z (zH Z (zH Z (zH Z (zH Z (zH Z (zH Z (zB 1 Z (zG (zC [3,4,5,6,8,34,35,36,73] [_,_,_,_,_,_,_,_,_] Z (xV Z (zD (zA (zB 1 Z (zG (zC [12] [_] Z (qE (zY Z Z fun w' hw=>?_)))))))))))))))))))
    have hf:stillB a xs b ys x y=false:=by
     cases hs:stillB a xs b ys x y with
     | false=>rfl
     | true =>
      obtain ⟨e1,e2,e3⟩:=hT.1 hs
      obtain ⟨e4,e5,e6⟩:=pairOk_true.1 (e3 k (by omega))
      simp only [Int.toNat_natCast] at *
      simp_all
    exact ⟨by rw [hf],hw.below⟩
   refine zH Z (zH Z (zH Z (zH Z (zH Z (zH Z (zH Z (zH Z (zH Z (zB 2 Z (zH Z (zH Z (zH Z (zH Z (zH Z (zH Z (zH Z (zH Z (zH Z (zB 1 Z (zG (zC [3,4,5,6,8,34,35,36,73] [_,_,_,_,_,_,_,_,_] Z (xV Z (zD (zA (zB 1 Z (zG (zC [12] [_] Z (qE (zY Z Z fun w' hw=>?_)))))))))))))))))))))))))))))
   have hf:stillB a xs b ys x y=false:=by
    cases hs:stillB a xs b ys x y with
    | false=>rfl
    | true =>
     obtain ⟨e1,e2,e3⟩:=hT.1 hs
     obtain ⟨e4,e5,e6⟩:=pairOk_true.1 (e3 k (by omega))
     simp only [Int.toNat_natCast] at *
     simp_all
   exact ⟨by rw [hf],hw.below⟩
  refine yK Z (zC [] [] Z (zD (zA (zB 1 Z (zG (zC [12] [_] Z (qE (zY Z Z fun w' hw=>?_))))))))
  exact ⟨by rw [hT.2 ⟨bne_false ‹_›,bne_false ‹_›,fun i hi=>hall i (by omega)⟩],hw.below⟩
 refine zH Z (zH Z (zH Z (zH Z (zH Z (zH Z (zH Z (zH Z (zH Z (zB 1 Z (zG (zC [1,3,4,5,6,8,33] [_,_,_,_,_,_,_] Z (xV Z (zD (zA (zB 1 Z (zG (zC [12] [_] Z (qE (zY Z Z fun w' hw=>?_)))))))))))))))))))
 have hf:stillB a xs b ys x y=false:=by
  cases hs:stillB a xs b ys x y with
  | false=>rfl
  | true=>obtain ⟨e1,e2,e3⟩:=hT.1 hs;simp_all
 exact ⟨by rw [hf],hw.below⟩
set_option maxHeartbeats 400000 in
theorem sameWay_ok (a b:St) (xs ys:List Int) (va vb:Value) (w:World) (ha:a.Fine) (hb:b.Fine) (hva:Ints w va xs) (hvb:Ints w vb ys) (hA:a.Els xs) (hB:b.Els ys) (hlen:xs.length=ys.length) (hsmall:xs.length≤1000000) :
    Calls Tryd.prog 79 [vS a,va,vS b,vb].toArray w fun en w'=>en=.returned (.bool (sameB a xs b ys))∧Below w.heap.size w w':=by
 refine fnStart (n:=34) (e:=[(0,vS a),(1,va),(2,vS b),(3,vb)]) Tryd.func79 Z Z Z Z Ends.both (zD (zS (yE (v:=vS a) Z Z Z Z Z fun p4 hp4=>?_)))
 show Ll _ _ (Own _ _ [_]) _ _ ((4,pt_ p4)::_) _ _ _;refine yE (v:=vS b) Z Z Z Z Z fun p6 hp6=>?_
 show Ll _ _ (Own _ _ [_,_]) _ _ ((6,pt_ p6)::_) _ _ _;refine qB 1 Z (zN (zC [1,3,4,6] [_,_,_,_] Z (zD (zD (zA (zB 1 Z (zE (v:=i6_ (xs.length:Int)) Z (yF Z zI Z (ints_length _) (fun w1 hw1=>Row.own hva hw1)) (zB 1 Z (zG (zC [1,3,4,6,11,12] [_,_,_,_,_,_] Z (qI (yP (σ:=Nat) (fun k=>k≤xs.length∧∀ i:Nat,i<k→stillAt a xs b ys i=true) (fun k=>[(1,va),(3,vb),(4,pt_ p4),(6,pt_ p6),(11,i6_ (xs.length:Int)),(12,i6_ (k:Int))]) (fun k=>Own w.heap.size w [bk_ p6 #[i6_ b.n,str b.set,str b.rel] 24,bk_ p4 #[i6_ a.n,str a.set,str a.rel] 24]) (fun k=>xs.length - k) (0) ⟨by omega,fun i hi=>absurd hi (by omega)⟩ (Sub.sel [1,3,4,6,11,12] Z) (fun _ h=>h) ?_))))))))))))
 rintro k ⟨hk,hall⟩;refine zD (zA (zB 1 Z (zG (zC [1,3,4,6,11,12,13] [_,_,_,_,_,_,_] Z (zD (yY Z (fun h13=>?_) (fun h13=>?_)))))))
 ·
  refine qK (zC [1,3,4,6,11,12] [_,_,_,_,_,_] Z (zD (qI (zD (zA (zB 2 Z (zG (zC [1,3,4,6,9,11,12] [_,_,_,_,_,_,_] Z (zD (xR yO (fun _ h=>h.drawn) (by kernel_rfl) (zE Z (zV (cs:=#[i6_ a.n,str a.set,str a.rel]) 1 Z zQ Z Z zP) (zB 2 Z (zE (v:=sTake va k) Z (OpQ.takeRow (i:=(k:Int)) Z zI zR Z Z (by omega) (by rw [ints_length];omega) (fun w1 hw1=>Row.own hva hw1)) (zE Z (zV (cs:=#[i6_ b.n,str b.set,str b.rel]) 0 Z zQ Z Z zP) (zB 2 Z (zE (v:=sTake vb k) Z (OpQ.takeRow (i:=(k:Int)) Z zI zR Z Z (by omega) (by rw [ints_length];omega) (fun w1 hw1=>Row.own hvb hw1)) (zB 2 Z (zE (v:=.pointer (some (sAt va (k:Int)))) Z (yD Z zI zR Z Z (by omega) (by rw [ints_length];omega) (fun w1 hw1=>Row.own hva hw1)) (zE (v:=i6_ (xs.getD ((k:Int).toNat) 0)) Z (qX Z zX Z (fun w1 hw1=>Ints.cell (Row.own hva hw1) (by omega) (by omega))) (zB 2 Z (zE (v:=.pointer (some (sAt vb (k:Int)))) Z (yD Z zI zR Z Z (by omega) (by rw [ints_length];omega) (fun w1 hw1=>Row.own hvb hw1)) (zE (v:=i6_ (ys.getD ((k:Int).toNat) 0)) Z (qX Z zX Z (fun w1 hw1=>Ints.cell (Row.own hvb hw1) (by omega) (by omega))) (zE (v:=bo_ (stillB a (xs.take k) b (ys.take k) (xs.getD ((k:Int).toNat) 0) (ys.getD ((k:Int).toNat) 0))) Z (qH Z Tryd.call116 Z zW (fun w1 hw1=>stillSame_ok a b (xs.take k) (ys.take k) (sTake va k) (sTake vb k) (xs.getD ((k:Int).toNat) 0) (ys.getD ((k:Int).toNat) 0) w1 (ha) (hb) (Ints.take (Row.own hva hw1) k (by omega)) (Ints.take (Row.own hvb hw1) k (by omega)) (hA.take _) (hB.take _) (by first | (simp;done) | (simp;omega) | omega) (by first | (simp;done) | (simp;omega) | omega) (by first | assumption | exact St.Els.at (by assumption) (by omega) (by omega)) (by first | assumption | exact St.Els.at (by assumption) (by omega) (by omega)))) (zB 1 Z (zG (zC [1,3,4,6,11,12,32] [_,_,_,_,_,_,_] Z (qT (b:=!(stillB a (xs.take k) b (ys.take k) (xs.getD ((k:Int).toNat) 0) (ys.getD ((k:Int).toNat) 0))) Z (fun h32=>?_) (fun h32=>?_))))))))))))))))))))))))))))
  ·
   replace h32:=not_true h32;refine zD (zA (zB 1 Z (zG (zC [8] [_] Z (qE (zY Z Z fun w' hw=>?_))))))
   exact ⟨ret_b (sameB_false (k:=k) (by omega) (by simpa [stillAt] using h32)).symm,hw.below⟩
  replace h32:=not_false h32;refine qK (zC [1,3,4,6,11,12] [_,_,_,_,_,_] Z (zA (zE Z (qR Z Z Z (by omega) (by omega)) (zB 1 Z (zG (qW (k+1) ⟨by omega,fun i hi=>(Nat.lt_succ_iff_lt_or_eq.1 hi).elim (hall i) (fun e=>by subst e;simpa [stillAt] using h32)⟩ (by omega) (Sub.sel [1,3,4,6,11,12] Z) (fun _ h=>h)))))))
 refine yK Z (zC [] [] Z (zD (zA (zB 1 Z (zG (zC [8] [_] Z (qE (zY Z Z fun w' hw=>?_))))))))
 exact ⟨ret_b (sameB_true (k:=k) (by omega) hall).symm,hw.below⟩
end Go.Proofs.YtagbocafnliabaaDoor
namespace Go.Proofs.YtagbocafnliabaaDoor
open Go.RowKit Go.Wk
set_option linter.unusedSimpArgs false
set_option maxHeartbeats 400000 in
theorem bitD_ok (b:Bool) (w:World) :
    Calls Tryd.prog 118 [bo_ b].toArray w fun en w'=>en=.returned (str (if b then [49] else [48]))∧Below w.heap.size w w':=by
 refine fnStart (n:=4) (e:=[(0,bo_ b)]) Tryd.func118 Z Z Z Z Ends.both (zD (zA (zE (v:=str ([])) Z (xY Z Z) (zG (zC [0] [_] Z (zD (zD (zA (zB 1 Z (zG (zC [3] [_] Z (qT (b:=b) Z (fun h3=>?_) (fun h3=>?_)))))))))))))
 ·
  refine zD (zA (zE (v:=str ([49])) Z (xY Z Z) (zG (zC [2] [_] Z (qE (zY Z Z fun w' hw=>?_))))))
  exact ⟨by rw [‹b=_›];rfl,hw.below⟩
 refine qK (zC [] [] Z (zD (zA (zE (v:=str ([48])) Z (xY Z Z) (zG (zC [2] [_] Z (qE (zY Z Z fun w' hw=>?_))))))))
 exact ⟨by rw [‹b=_›];rfl,hw.below⟩
set_option maxHeartbeats 400000 in
theorem pick_ok (B:Nat) (w0:World) (hs:List (Nat×Obj)) (rp p:Nat) (bv:Value) (L:List Int) (n:Int) (w:World) (hb:∀ w,Own B w0 hs w→Row w bv (u8s L)) (hL8:Bytes8 L) (hL:L.length≤2000) (hp:p≤1000000) (hw:Own B w0 ((rp,.cells #[bv,.int .i64 (p:Int)] 104 (0,0))::hs) w) :
    Calls Tryd.prog 64 [pt_ rp,i6_ n].toArray w fun en w'=>∃ k:Int,∃ p':Nat,en=.returned (i6_ k)∧(0≤k∧(1≤n→k<n)∧p'=p+1)∧Own B w0 (((rp,.cells #[bv,.int .i64 (p':Int)] 104 (0,0))::hs)) w':=by
 refine fnStartC (Own B w0 ((rp,.cells #[bv,.int .i64 (p:Int)] 104 (0,0))::hs)) (n:=99) (e:=[(0,pt_ rp),(1,i6_ n)]) Tryd.func64 Z Z Z Z Ends.both hw (zD (zA (zB 1 Z (zG (zC [0,1] [_,_] Z (zD (zS (qB 2 Z (qG (v:=pt_ rp) Z (xF Z Z) (qG Z (zM Z yJ Z zR Z Z) (qG Z (zO 0 Z zX Z Z Z) (qG Z (qR Z Z Z (by omega) (by omega)) (qG (v:=pt_ rp) Z (xF Z Z) (qG Z (zM Z yJ Z zR Z Z) (qZ (v:=i6_ ((p:Int)+(1:Int))) (hs':=(bk_ rp #[bv,i6_ ((p:Int)+(1:Int))] 104::hs)) 0 Z Z Z Z Z Z zR Z (by simp) Z (zN (zC [0,1] [_,_] Z (zD (zD (zA (zB 3 Z (yL fun b17 hg17=>?_))))))))))))))))))))))
 cases b17
 ·
  replace hg17:=zJ hg17;refine zB 1 Z (zE (v:=pt_ rp) Z (xF Z Z) (zE Z (zM Z yJ Z xS Z Z) (zE Z (zO 0 Z xZ Z Z Z) (zE (v:=i6_ (L.length:Int)) Z (yF Z yM Z (u8s_length _) (fun w1 hw1=>hb _ (qF (f:=[_]) hw1))) (zB 2 Z (zG (zC [0,1,24] [_,_,_] Z (qT (b:=decide ((L.length:Int)=(0:Int))) Z (fun h24=>?_) (fun h24=>?_)))))))))
  ·
   replace h24:=zL h24;refine zD (zA (zB 1 Z (zG (zC [4] [_] Z (qE (zY Z Z fun w' hw=>?_))))))
   exact ⟨0,p+1,rfl,⟨Int.le_refl 0,fun _=>by omega,rfl⟩,hw⟩
  replace h24:=zJ h24
  have hlp:0<L.length:=by omega
  refine qK (zC [0,1] [_,_] Z (zD (zA (zB 1 Z (zE (v:=pt_ rp) Z (xF Z Z) (zE Z (zM Z yJ Z zR Z Z) (zE Z (zO 0 Z zX Z Z Z) (zE (v:=i6_ (p:Int)) Z (yG (by congr 1;omega) (OpQ.sub Z Z Z (by omega) (by omega))) (zB 1 Z (zG (zC [0,1,5] [_,_,_] Z (zD (zD (zA (zB 2 Z (zE (v:=pt_ rp) Z (xF Z Z) (zE Z (zM Z yJ Z xS Z Z) (zE Z (zO 0 Z xZ Z Z Z) (zE (v:=i6_ (L.length:Int)) Z (yF Z yM Z (u8s_length _) (fun w1 hw1=>hb _ (qF (f:=[_]) hw1))) (zB 1 Z (zG (zC [0,1,5,36] [_,_,_,_] Z (qT (b:=decide ((p:Int)<(L.length:Int))) Z (fun h36=>?_) (fun h36=>?_))))))))))))))))))))))))
  ·
   replace h36:=zL h36
   have hb0:=hL8.at (i:=(p:Int).toNat) (by omega);refine zD (zA (zB 1 Z (zE (v:=pt_ rp) Z (xF Z Z) (zE Z (zM Z yJ Z xS Z Z) (zE Z (zO 0 Z xZ Z Z Z) (zB 1 Z (zE (v:=.pointer (some (sAt bv (p:Int)))) Z (yD Z yM Tryd.sizeOf5 Z Z (by omega) (by rw [u8s_length];omega) (fun w1 hw1=>hb _ (qF (f:=[_]) hw1))) (zE (v:=.int .u8 (L.getD ((p:Int).toNat) 0)) Z (qX Z Tryd.isAgg5 Z (fun w1 hw1=>u8s_cell (hb _ (qF (f:=[_]) hw1)) (by omega) (by omega))) (zE (v:=i6_ (L.getD ((p:Int).toNat) 0)) Z (OpQ.convInt .i64 Z xA xN Z (IntWalk.i64_in _ (by omega))) (zB 1 Z (zE (v:=i6_ ((L.getD ((p:Int).toNat) 0) % n)) Z (OpQ.rem Z Z Z (by omega) (by omega)) (zB 1 Z (zG (zC [4] [_] Z (qE (zY Z Z fun w' hw=>?_))))))))))))))))
   exact ⟨_,p+1,rfl,⟨Int.emod_nonneg _ (by omega),fun _=>Int.emod_lt_of_pos _ (by omega),rfl⟩,hw⟩
  replace h36:=zJ h36
  have hm1:=Int.emod_nonneg (p:Int) (b:=(L.length:Int)) (by omega)
  have hm2:=Int.emod_lt_of_pos (p:Int) (b:=(L.length:Int)) (by omega)
  have hm3:=Int.emod_nonneg ((p:Int)*(7:Int)+(3:Int)) (b:=(L.length:Int)) (by omega)
  have hm4:=Int.emod_lt_of_pos ((p:Int)*(7:Int)+(3:Int)) (b:=(L.length:Int)) (by omega)
  have hd1:=Int.ediv_nonneg (a:=(p:Int)) (b:=(L.length:Int)) (by omega) (by omega)
  have hd2:=Int.ediv_le_self (L.length:Int) (show (0:Int)≤(p:Int) by omega)
  have hb1:=hL8.at (i:=((p:Int) % (L.length:Int)).toNat) (by omega)
  have hb2:=hL8.at (i:=(((p:Int)*(7:Int)+(3:Int)) % (L.length:Int)).toNat) (by omega);refine qK (zC [0,1,5] [_,_,_] Z (zD (xR yO (fun _ h=>h.drawn) (by kernel_rfl) (zB 1 Z (zE (v:=pt_ rp) Z (xF Z Z) (zE Z (zM Z yJ Z xS Z Z) (zE Z (zO 0 Z xZ Z Z Z) (zB 2 Z (zE (v:=pt_ rp) Z (xF Z Z) (zE Z (zM Z yJ Z xS Z Z) (zE Z (zO 0 Z xZ Z Z Z) (zE (v:=i6_ (L.length:Int)) Z (yF Z yM Z (u8s_length _) (fun w1 hw1=>hb _ (qF (f:=[_]) hw1))) (zE (v:=i6_ ((p:Int) % (L.length:Int))) Z (OpQ.rem Z Z Z (by omega) (by omega)) (zE (v:=.pointer (some (sAt bv ((p:Int) % (L.length:Int))))) Z (yD Z yM Tryd.sizeOf5 Z Z (by omega) (by rw [u8s_length];omega) (fun w1 hw1=>hb _ (qF (f:=[_]) hw1))) (zE (v:=.int .u8 (L.getD (((p:Int) % (L.length:Int)).toNat) 0)) Z (qX Z Tryd.isAgg5 Z (fun w1 hw1=>u8s_cell (hb _ (qF (f:=[_]) hw1)) (by omega) (by omega))) (zE (v:=i6_ (L.getD (((p:Int) % (L.length:Int)).toNat) 0)) Z (OpQ.convInt .i64 Z xA xN Z (IntWalk.i64_in _ (by omega))) (zE Z (OpQ.mul Z Z Z (by omega) (by omega)) (zB 1 Z ?_))))))))))))))))));refine zE (v:=pt_ rp) Z (xF Z Z) (zE Z (zM Z yJ Z xS Z Z) (zE Z (zO 0 Z xZ Z Z Z) (zB 1 Z (zE Z (OpQ.mul Z Z Z (by omega) (by omega)) (zE Z (qR Z Z Z (by omega) (by omega)) (zB 1 Z (zE (v:=pt_ rp) Z (xF Z Z) (zE Z (zM Z yJ Z xS Z Z) (zE Z (zO 0 Z xZ Z Z Z) (zE (v:=i6_ (L.length:Int)) Z (yF Z yM Z (u8s_length _) (fun w1 hw1=>hb _ (qF (f:=[_]) hw1))) (zE (v:=i6_ ((((p:Int)*(7:Int))+(3:Int)) % (L.length:Int))) Z (OpQ.rem Z Z Z (by omega) (by omega)) (zE (v:=.pointer (some (sAt bv ((((p:Int)*(7:Int))+(3:Int)) % (L.length:Int))))) Z (yD Z yM Tryd.sizeOf5 Z Z (by omega) (by rw [u8s_length];omega) (fun w1 hw1=>hb _ (qF (f:=[_]) hw1))) (zE (v:=.int .u8 (L.getD (((((p:Int)*(7:Int))+(3:Int)) % (L.length:Int)).toNat) 0)) Z (qX Z Tryd.isAgg5 Z (fun w1 hw1=>u8s_cell (hb _ (qF (f:=[_]) hw1)) (by omega) (by omega))) (zE (v:=i6_ (L.getD (((((p:Int)*(7:Int))+(3:Int)) % (L.length:Int)).toNat) 0)) Z (OpQ.convInt .i64 Z xA xN Z (IntWalk.i64_in _ (by omega))) (zE Z (OpQ.mul Z Z Z (by omega) (by omega)) (zE Z (qR Z Z Z (by omega) (by omega)) (zB 1 Z (zE Z (OpQ.mul Z Z Z (by omega) (by omega)) (zE Z (qR Z Z Z (by omega) (by omega)) (zB 2 Z (zE (v:=pt_ rp) Z (xF Z Z) (zE Z (zM Z yJ Z xS Z Z) (zE Z (zO 0 Z xZ Z Z Z) (zE (v:=i6_ (L.length:Int)) Z (yF Z yM Z (u8s_length _) (fun w1 hw1=>hb _ (qF (f:=[_]) hw1))) (zE (v:=i6_ ((p:Int) / (L.length:Int))) Z (OpQ.quo Z Z Z (by omega) (by omega) (by omega)) (zE Z (OpQ.mul Z Z Z (by omega) (by omega)) (zE Z (qR Z Z Z (by omega) (by omega)) (zB 1 Z (zG (zC [1,6] [_,_] Z (zD (zA (zB 2 Z (zE (v:=i6_ ((((((L.getD (((p:Int) % (L.length:Int)).toNat) 0)*(131:Int))+((L.getD (((((p:Int)*(7:Int))+(3:Int)) % (L.length:Int)).toNat) 0)*(1117:Int)))+((p:Int)*(29:Int)))+(((p:Int) / (L.length:Int))*(53:Int))) / (64:Int))) Z (OpQ.quo Z Z Z (by omega) (by omega) (by decide)) (zE (v:=i6_ (bits .xor .i64 (((((L.getD (((p:Int) % (L.length:Int)).toNat) 0)*(131:Int))+((L.getD (((((p:Int)*(7:Int))+(3:Int)) % (L.length:Int)).toNat) 0)*(1117:Int)))+((p:Int)*(29:Int)))+(((p:Int) / (L.length:Int))*(53:Int))) ((((((L.getD (((p:Int) % (L.length:Int)).toNat) 0)*(131:Int))+((L.getD (((((p:Int)*(7:Int))+(3:Int)) % (L.length:Int)).toNat) 0)*(1117:Int)))+((p:Int)*(29:Int)))+(((p:Int) / (L.length:Int))*(53:Int))) / (64:Int)))) Z (OpQ.xor Z Z Z) (zB 1 Z (zG (zC [1,6] [_,_] Z (zD (zA ?_))))))))))))))))))))))))))))))))))))))))
  have hx0:0≤bits .xor .i64 (((((L.getD (((p:Int) % (L.length:Int)).toNat) 0)*(131:Int))+((L.getD (((((p:Int)*(7:Int))+(3:Int)) % (L.length:Int)).toNat) 0)*(1117:Int)))+((p:Int)*(29:Int)))+(((p:Int) / (L.length:Int))*(53:Int))) ((((((L.getD (((p:Int) % (L.length:Int)).toNat) 0)*(131:Int))+((L.getD (((((p:Int)*(7:Int))+(3:Int)) % (L.length:Int)).toNat) 0)*(1117:Int)))+((p:Int)*(29:Int)))+(((p:Int) / (L.length:Int))*(53:Int))) / (64:Int)):=xor_pos (by omega) (by omega) (Int.ediv_nonneg (by omega) (by decide)) (by omega);refine zB 2 Z (zE (v:=i6_ ((bits .xor .i64 (((((L.getD (((p:Int) % (L.length:Int)).toNat) 0)*(131:Int))+((L.getD (((((p:Int)*(7:Int))+(3:Int)) % (L.length:Int)).toNat) 0)*(1117:Int)))+((p:Int)*(29:Int)))+(((p:Int) / (L.length:Int))*(53:Int))) ((((((L.getD (((p:Int) % (L.length:Int)).toNat) 0)*(131:Int))+((L.getD (((((p:Int)*(7:Int))+(3:Int)) % (L.length:Int)).toNat) 0)*(1117:Int)))+((p:Int)*(29:Int)))+(((p:Int) / (L.length:Int))*(53:Int))) / (64:Int))) % n)) Z (OpQ.rem Z Z Z hx0 (by omega)) (zB 1 Z (zG (zC [4] [_] Z (qE (zY Z Z fun w' hw=>?_))))))
  exact ⟨_,p+1,rfl,⟨Int.emod_nonneg _ (by omega),fun _=>Int.emod_lt_of_pos _ (by omega),rfl⟩,hw⟩
 replace hg17:=zL hg17;refine zH Z (zH Z (zH Z (zH Z (zH Z (zH Z (zB 1 Z (zG (zC [0,1,24] [_,_,_] Z (xV Z (zD (zA (zB 1 Z (zG (zC [4] [_] Z (qE (zY Z Z fun w' hw=>?_))))))))))))))))
 exact ⟨0,p+1,rfl,⟨Int.le_refl 0,fun _=>by omega,rfl⟩,hw⟩
set_option maxHeartbeats 400000 in
theorem num_ok (B:Nat) (w0:World) (hs:List (Nat×Obj)) (rp p:Nat) (bv:Value) (L:List Int) (va:Value) (xs:List Int) (w:World) (hb:∀ w,Own B w0 hs w→Row w bv (u8s L)) (hL8:Bytes8 L) (hL:L.length≤2000) (hva:∀ w,Own B w0 hs w→Ints w va xs) (hne:0<xs.length) (hp:p≤1000000) (hw:Own B w0 ((rp,.cells #[bv,.int .i64 (p:Int)] 104 (0,0))::hs) w) :
    Calls Tryd.prog 33 [pt_ rp,va].toArray w fun en w'=>∃ v:Int,∃ p':Nat,en=.returned (i6_ v)∧(v∈xs∧p'=p+1)∧Own B w0 (((rp,.cells #[bv,.int .i64 (p':Int)] 104 (0,0))::hs)) w':=by
 refine fnStartC (Own B w0 ((rp,.cells #[bv,.int .i64 (p:Int)] 104 (0,0))::hs)) (n:=12) (e:=[(0,pt_ rp),(1,va)]) Tryd.func33 Z Z Z Z Ends.both hw (zD (zA (zB 1 Z (zG (zC [0,1] [_,_] Z (zD (zS (qB 3 Z (qG (v:=i6_ (xs.length:Int)) Z (yF Z zI Z (ints_length _) (fun w1 hw1=>hva _ (qF (f:=[_]) hw1))) (yT (rp:=rp) (RT:=104) (p:=p) (bv:=bv) (hs:=hs) (ok:=fun (k:Int) p'=>0≤k∧(1≤(xs.length:Int)→k<(xs.length:Int))∧p'=p+1) (v:=fun (k:Int)=>i6_ k) (new:=fun (k:Int)=>[]) (xs:=[.tmp 6,.tmp 8]) (vs:=[pt_ rp,i6_ (xs.length:Int)]) ([]:List (Nat×Obj)) Z Z Z Z Tryd.call64 Z (fun w1 hw1=>(pick_ok B w0 (([]:List (Nat×Obj))++hs) rp p bv L (xs.length:Int) w1 (fun w2 hw2=>hb w2 (qF (f:=([]:List (Nat×Obj))) hw2)) hL8 hL (by omega) hw1).mono fun en w' ⟨k',p',h1,h2,h3⟩=>⟨k',p',h1,h2,h3⟩) fun k9 p_9 hKp_9=>?_))))))))))
 show Ll _ _ (Own _ _ (_::hs)) _ _ ((9,i6_ k9)::_) _ _ _
 obtain ⟨h0k9,h1k9,hep_9⟩:=hKp_9
 try have hltk9:=h1k9 (by first | omega | (split <;> omega) | decide);refine qG (v:=.pointer (some (sAt va k9))) Z (yD Z zI zR Z Z (by omega) (by rw [ints_length];omega) (fun w1 hw1=>hva _ (qF (f:=[_]) hw1))) (qG (v:=i6_ (xs.getD ((k9).toNat) 0)) Z (qX Z zX Z (fun w1 hw1=>Ints.cell (hva _ (qF (f:=[_]) hw1)) (by omega) (by omega))) (qB 1 Z (zN (zC [4] [_] Z (qE (zY Z Z fun w' hw=>?_))))))
 exact ⟨_,p_9,rfl,⟨by rw [getD_at (by omega)];exact List.getElem_mem _,hep_9⟩,hw⟩
set_option maxHeartbeats 400000 in
theorem of_ok (B:Nat) (w0:World) (hs:List (Nat×Obj)) (rp p:Nat) (bv:Value) (L:List Int) (va:Value) (xs:List (List UInt8)) (w:World) (hb:∀ w,Own B w0 hs w→Row w bv (u8s L)) (hL8:Bytes8 L) (hL:L.length≤2000) (hva:∀ w,Own B w0 hs w→Strs w va xs) (hne:0<xs.length) (hp:p≤1000000) (hw:Own B w0 ((rp,.cells #[bv,.int .i64 (p:Int)] 104 (0,0))::hs) w) :
    Calls Tryd.prog 63 [pt_ rp,va].toArray w fun en w'=>∃ v:List UInt8,∃ p':Nat,en=.returned (str v)∧(v∈xs∧p'=p+1)∧Own B w0 (((rp,.cells #[bv,.int .i64 (p':Int)] 104 (0,0))::hs)) w':=by
 refine fnStartC (Own B w0 ((rp,.cells #[bv,.int .i64 (p:Int)] 104 (0,0))::hs)) (n:=12) (e:=[(0,pt_ rp),(1,va)]) Tryd.func63 Z Z Z Z Ends.both hw (zD (zA (zE (v:=str ([])) Z (xY Z Z) (zG (zC [0,1] [_,_] Z (zD (zS (qB 3 Z (qG (v:=i6_ (xs.length:Int)) Z (yF Z Tryd.runUnderlying83 Z (strs_length _) (fun w1 hw1=>hva _ (qF (f:=[_]) hw1))) (yT (rp:=rp) (RT:=104) (p:=p) (bv:=bv) (hs:=hs) (ok:=fun (k:Int) p'=>0≤k∧(1≤(xs.length:Int)→k<(xs.length:Int))∧p'=p+1) (v:=fun (k:Int)=>i6_ k) (new:=fun (k:Int)=>[]) (xs:=[.tmp 6,.tmp 8]) (vs:=[pt_ rp,i6_ (xs.length:Int)]) ([]:List (Nat×Obj)) Z Z Z Z Tryd.call64 Z (fun w1 hw1=>(pick_ok B w0 (([]:List (Nat×Obj))++hs) rp p bv L (xs.length:Int) w1 (fun w2 hw2=>hb w2 (qF (f:=([]:List (Nat×Obj))) hw2)) hL8 hL (by omega) hw1).mono fun en w' ⟨k',p',h1,h2,h3⟩=>⟨k',p',h1,h2,h3⟩) fun k9 p_9 hKp_9=>?_))))))))))
 show Ll _ _ (Own _ _ (_::hs)) _ _ ((9,i6_ k9)::_) _ _ _
 obtain ⟨h0k9,h1k9,hep_9⟩:=hKp_9
 try have hltk9:=h1k9 (by first | omega | (split <;> omega) | decide);refine qG (v:=.pointer (some (sAt va k9))) Z (yD Z Tryd.runUnderlying83 zZ Z Z (by omega) (by rw [strs_length];omega) (fun w1 hw1=>hva _ (qF (f:=[_]) hw1))) (qG (v:=str (xs.getD ((k9).toNat) [])) Z (qX Z qS Z (fun w1 hw1=>Strs.cell (hva _ (qF (f:=[_]) hw1)) (by omega) (by omega))) (qB 1 Z (zN (zC [4] [_] Z (qE (zY Z Z fun w' hw=>?_))))))
 exact ⟨_,p_9,rfl,⟨by rw [getD_at (by omega)];exact List.getElem_mem _,hep_9⟩,hw⟩
set_option maxHeartbeats 400000 in
theorem many_ok (s:List UInt8) (w:World) (n:Int) (hn0:0≤n) (hn:n≤100) (hs1:s.length=1) :
    Calls Tryd.prog 113 [str s,i6_ n].toArray w fun en w'=>∃ t:List UInt8,en=.returned (str t)∧(t.length≤40000)∧Below w.heap.size w w':=by
 refine fnStart (n:=20) (e:=[(0,str s),(1,i6_ n)]) Tryd.func113 Z Z Z Z Ends.both (zD (zA (zE (v:=str ([])) Z (xY Z Z) (zG (zC [0,1] [_,_] Z (zD (zA (zE (v:=str ([])) Z (xY Z Z) (zG (zC [0,1,5] [_,_,_] Z (zD (qI (yP (σ:=Nat×List UInt8×List UInt8×Int) (fun ⟨i,t,u,m⟩=>(0≤m∧m≤100)∧m.toNat*2 ^ i≤100∧u.length=2 ^ i∧t.length≤2 ^ i∧i≤7) (fun ⟨i,t,u,m⟩=>[(0,str u),(1,i6_ m),(5,str t)]) (fun ⟨i,t,u,m⟩=>Own w.heap.size w []) (fun ⟨i,t,u,m⟩=>m.toNat) (0,[],s,n) ⟨by omega,by omega,hs1,by simp,by omega⟩ (Sub.sel [0,1,5] Z) (fun _ h=>h) ?_)))))))))))))
 rintro ⟨i,t,u,m⟩ ⟨⟨hm0,hm9⟩,hm1,hu,ht,hi⟩
 dsimp only;refine zD (zD (zA (zB 2 Z (zG (zC [0,1,5,7] [_,_,_,_] Z (qT (b:=decide ((0:Int)<m)) Z (fun h7=>?_) (fun h7=>?_)))))))
 ·
  replace h7:=zL h7
  have h128:2 ^ i≤128:=Nat.le_trans (Nat.pow_le_pow_right (by decide) hi) (by decide);refine qK (zC [0,1,5] [_,_,_] Z (qI (zD (zD (zA (zB 1 Z (zE (v:=i6_ (m % (2:Int))) Z (OpQ.rem Z Z Z (by omega) (by decide)) (zB 1 Z (zG (zC [0,1,5,10] [_,_,_,_] Z (yY Z (fun h10=>?_) (fun h10=>?_))))))))))))
  ·
   refine zA (zB 2 Z (zE Z (yH Z Z Z (by first | omega | (simp only [zT,qL,qM];omega))) (zB 1 Z (zG (zC [0,1,5] [_,_,_] Z (zD (zA (zB 2 Z (zE Z (yH Z Z Z (by first | omega | (simp only [zT,qL,qM];omega))) (zB 1 Z (zG (zC [0,1,5] [_,_,_] Z (zA (zB 1 Z (zE (v:=i6_ (m / (2:Int))) Z (OpQ.quo Z Z Z (by omega) (by omega) (by decide)) (zB 1 Z (zG (qW (i+1,t++u,u++u,m / (2:Int)) ⟨by dsimp only;omega,many_half hm0 hm1,by rw [zT,hu,Nat.pow_succ];omega,by dsimp only;(try rw [zT]);rw [Nat.pow_succ];omega,many_more hm1 (by omega)⟩ (by dsimp only;omega) (Sub.sel [0,1,5] Z) (fun _ h=>h)))))))))))))))))))
  refine qK (zC [0,1,5] [_,_,_] Z (zD (zA (zB 2 Z (zE Z (yH Z Z Z (by first | omega | (simp only [zT,qL,qM];omega))) (zB 1 Z (zG (zC [0,1,5] [_,_,_] Z (zA (zB 1 Z (zE (v:=i6_ (m / (2:Int))) Z (OpQ.quo Z Z Z (by omega) (by omega) (by decide)) (zB 1 Z (zG (qW (i+1,t,u++u,m / (2:Int)) ⟨by dsimp only;omega,many_half hm0 hm1,by rw [zT,hu,Nat.pow_succ];omega,by dsimp only;(try rw [zT]);rw [Nat.pow_succ];omega,many_more hm1 (by omega)⟩ (by dsimp only;omega) (Sub.sel [0,1,5] Z) (fun _ h=>h)))))))))))))))
 replace h7:=zJ h7;refine yK Z (zC [5] [_] Z (zD (zA (zB 2 Z (zG (zC [4] [_] Z (qE (zY Z Z fun w' hw=>?_))))))))
 exact ⟨t,rfl,Nat.le_trans ht (Nat.le_trans (Nat.pow_le_pow_right (by decide) hi) (by decide)),hw.below⟩
end Go.Proofs.YtagbocafnliabaaDoor
namespace Go.Proofs.YtagbocafnliabaaDoor
open Go.RowKit Go.Wk
set_option linter.unusedSimpArgs false
set_option maxHeartbeats 400000 in
theorem areElements_ok (a:St) (va:Value) (xs:List Int) (w:World) (hva:Ints w va xs) (hs:xs.length≤140737488355328) :
    Calls Tryd.prog 72 [vS a,va].toArray w fun en w'=>en=.returned (.bool (xs.all (elB a)))∧Below w.heap.size w w':=by
 refine fnStart (n:=9) (e:=[(0,vS a),(1,va)]) Tryd.func72 Z Z Z Z Ends.both (zD (zS (yE (v:=vS a) Z Z Z Z Z fun p2 hp2=>?_)))
 show Ll _ _ (Own _ _ [_]) _ _ ((2,pt_ p2)::_) _ _ _;refine qB 1 Z (zN (zC [1,2] [_,_] Z (zD (zA (zB 1 Z (zE (v:=.func (.func 111) #[] #[pt_ p2]) Z (OpQ.func' (cap:=[.tmp 2]) Z Z) (zE (v:=bo_ (xs.any fun x=>!elB a x)) Z (qH Z Tryd.call110 Z zW (fun w1 hw1=>containsFunc_ok va xs w1 (Row.own hva hw1) hs 111 #[.pointer (some ⟨p2,0,none⟩)] (fun x=>!elB a x) Tryd.call111 (fun w2 hb x=>noEl_ok a p2 _ x w2 ((hw1.stable _ _ hb).has 0 _ _ Z).2))) (zB 2 Z (zG (zC [4] [_] Z (qE (zY Z Z fun w' hw=>?_))))))))))))
 exact ⟨ret_b (not_any_elB a xs),hw.below⟩
set_option maxHeartbeats 400000 in
theorem isList_ok (a:St) (va:Value) (xs:List Int) (w:World) (hsa:a.Small) (hva:Ints w va xs) (hs:xs.length≤140737488355328) :
    Calls Tryd.prog 89 [vS a,va].toArray w fun en w'=>en=.returned (.bool (listB a xs))∧Below w.heap.size w w':=by
 refine fnStart (n:=17) (e:=[(0,vS a),(1,va)]) Tryd.func89 Z Z Z Z Ends.both (zD (zS (yE (v:=vS a) Z Z Z Z Z fun p2 hp2=>?_)))
 show Ll _ _ (Own _ _ [_]) _ _ ((2,pt_ p2)::_) _ _ _;refine qB 1 Z (zN (zC [1,2] [_,_] Z (zD (zA (zE Z (zV (cs:=#[i6_ a.n,str a.set,str a.rel]) 0 Z zQ Z Z zP) (zE (v:=bo_ (validB a)) Z (qH Z Tryd.call34 Z zW (fun w1 hw1=>isStructure_ok a w1 hsa)) (zB 1 Z (yL fun b7 hg7=>?_))))))))
 cases b7
 ·
  refine zH Z (zH Z (zH Z (zB 2 Z (zH Z (zH Z (zH Z (zB 2 Z (zG (zC [4] [_] Z (qE (zY Z Z fun w' hw=>?_)))))))))))
  exact ⟨ret_b (by unfold listB;simp [*]),hw.below⟩
 refine zB 1 Z (zE (v:=i6_ (xs.length:Int)) Z (yF Z zI Z (ints_length _) (fun w1 hw1=>Row.own hva hw1)) (zB 3 Z (yL fun b12 hg12=>?_)))
 cases b12
 ·
  replace hg12:=zJ hg12;refine zH Z (zH Z (zH Z (zB 2 Z (zG (zC [4] [_] Z (qE (zY Z Z fun w' hw=>?_)))))))
  exact ⟨ret_b (by unfold listB;simp [*]),hw.below⟩
 replace hg12:=zL hg12;refine zE Z (zV (cs:=#[i6_ a.n,str a.set,str a.rel]) 0 Z zQ Z Z zP) (zB 1 Z (zE (v:=bo_ (xs.all (elB a))) Z (qH Z Tryd.call72 Z zW (fun w1 hw1=>areElements_ok a va xs w1 (Row.own hva hw1) (by first | (simp;done) | (simp;omega) | omega))) (zB 2 Z (zG (zC [4] [_] Z (qE (zY Z Z fun w' hw=>?_)))))))
 exact ⟨ret_b (by unfold listB;simp [*]),hw.below⟩
set_option maxHeartbeats 400000 in
theorem areLists_ok (a b:St) (xs ys:List Int) (va vb:Value) (w:World) (hsa:a.Small) (hsb:b.Small) (hva:Ints w va xs) (hvb:Ints w vb ys) (hs1:xs.length≤140737488355328) (hs2:ys.length≤140737488355328) :
    Calls Tryd.prog 50 [vS a,va,vS b,vb].toArray w fun en w'=>en=.returned (.bool (listsB a xs b ys))∧Below w.heap.size w w':=by
 refine fnStart (n:=24) (e:=[(0,vS a),(1,va),(2,vS b),(3,vb)]) Tryd.func50 Z Z Z Z Ends.both (zD (zS (yE (v:=vS a) Z Z Z Z Z fun p4 hp4=>?_)))
 show Ll _ _ (Own _ _ [_]) _ _ ((4,pt_ p4)::_) _ _ _;refine yE (v:=vS b) Z Z Z Z Z fun p6 hp6=>?_
 show Ll _ _ (Own _ _ [_,_]) _ _ ((6,pt_ p6)::_) _ _ _;refine qB 1 Z (zN (zC [1,3,4,6] [_,_,_,_] Z (zD (zA (zE Z (zV (cs:=#[i6_ a.n,str a.set,str a.rel]) 1 Z zQ Z Z zP) (zB 1 Z (zE (v:=bo_ (listB a xs)) Z (qH Z Tryd.call89 Z zW (fun w1 hw1=>isList_ok a va xs w1 hsa (Row.own hva hw1) (by first | (simp;done) | (simp;omega) | omega))) (zB 1 Z (yL fun b12 hg12=>?_)))))))))
 cases b12
 ·
  refine zH Z (zH Z (zH Z (zB 2 Z (zH Z (zH Z (zH Z (zH Z (zH Z (zB 2 Z (zG (zC [8] [_] Z (qE (zY Z Z fun w' hw=>?_)))))))))))))
  exact ⟨ret_b (by unfold listsB;simp [*]),hw.below⟩
 refine zE Z (zV (cs:=#[i6_ b.n,str b.set,str b.rel]) 0 Z zQ Z Z zP) (zB 1 Z (zE (v:=bo_ (listB b ys)) Z (qH Z Tryd.call89 Z zW (fun w1 hw1=>isList_ok b vb ys w1 hsb (Row.own hvb hw1) (by first | (simp;done) | (simp;omega) | omega))) (zB 2 Z (yL fun b17 hg17=>?_))))
 cases b17
 ·
  refine zH Z (zH Z (zH Z (zH Z (zH Z (zB 2 Z (zG (zC [8] [_] Z (qE (zY Z Z fun w' hw=>?_)))))))))
  exact ⟨ret_b (by unfold listsB;simp [*]),hw.below⟩
 refine zB 1 Z (zE (v:=i6_ (xs.length:Int)) Z (yF Z zI Z (ints_length _) (fun w1 hw1=>Row.own hva hw1)) (zB 1 Z (zE (v:=i6_ (ys.length:Int)) Z (yF Z zI Z (ints_length _) (fun w1 hw1=>Row.own hvb hw1)) (zB 3 Z (zG (zC [8] [_] Z (qE (zY Z Z fun w' hw=>?_))))))))
 exact ⟨ret_b (by unfold listsB;simp [*]),hw.below⟩
end Go.Proofs.YtagbocafnliabaaDoor
namespace Go.Proofs.YtagbocafnliabaaDoor
open Go.RowKit Go.Wk
set_option linter.unusedSimpArgs false
set_option maxHeartbeats 400000 in
theorem listsOf_ok (B:Nat) (w0:World) (hs:List (Nat×Obj)) (N W:Int) (w:World) (hN0:0≤N) (hN8:N≤8) (hW0:0≤W) (hW3:W≤3) (hw:Own B w0 hs w) :
    Calls Tryd.prog 46 [i6_ N,i6_ W].toArray w fun en w'=>∃ (g cap:Nat) (cur:Array Value) (rr:List RR),en=.returned (.slice (some ⟨g,0,none⟩) rr.length cap)∧(RowsOk rr cur cap∧rr.map RR.xs=listsL N.toNat W.toNat)∧Own B w0 ((g,.cells cur 27 (0,0))::(rowsB 3 rr++hs)) w':=by
 refine fnStartC (Own B w0 hs) (n:=40) (e:=[(0,i6_ N),(1,i6_ W)]) Tryd.func46 Z Z Z Z Ends.both hw (zD (zA (zB 1 Z (zG (zC [0,1] [_,_] Z (zD (zS (qV (xs:=[]) (vs:=[]) qA Z Z Z Z Z Z (by decide) Z fun p10 hp10=>(qV (xs:=[.tmp 10]) (vs:=[sl_ p10 0 0]) Base.elem63 Z Z Z Z Z Z (by decide) Z fun p11 hp11=>(qB 1 Z (zN (zC [0,1,5] [_,_,_] Z (zD (zD (zA (zB 2 Z (zG (zC [0,5,12,13] [_,_,_,_] Z (qI (yP (σ:=Nat×Nat×Nat×Array Value×List RR) (fun ⟨r,gO,cO,uO,rr⟩=>r≤W.toNat∧RowsOk rr uO cO∧rr.map RR.xs=listsL N.toNat r) (fun ⟨r,gO,cO,uO,rr⟩=>[(0,i6_ N),(5,sl_ gO rr.length cO),(12,i6_ W),(13,i6_ (r:Int))]) (fun ⟨r,gO,cO,uO,rr⟩=>Own B w0 (bk_ gO uO 27::(rowsB 3 rr++hs))) (fun ⟨r,gO,cO,uO,rr⟩=>W.toNat - r) (0,p11,1,_,[⟨p10,0,#[],[]⟩]) ⟨by omega,RowsOk.one p10,rfl⟩ (Sub.sel [0,5,12,13] Z) (fun _ h=>h) ?_))))))))))))))))))))
 rintro ⟨r,gO,cO,uO,rr⟩ ⟨hr,hR,hXr⟩
 dsimp only
 have hrl:rr.length=N.toNat ^ r:=by rw [← listsL_length N.toNat r,← hXr,List.length_map]
 have h512:=pow8 (size:=N.toNat) (w:=r) (by omega) (by omega);refine zD (zA (zB 1 Z (zG (zC [0,5,12,13,14] [_,_,_,_,_] Z (zD (yY Z (fun h14=>?_) (fun h14=>?_)))))))
 ·
  refine qK (zC [0,5,12,13] [_,_,_,_] Z (zD (qI (zD (zS (qV (xs:=[]) (vs:=[]) Base.elem63 Z Z Z Z Z Z (by decide) Z fun p15 hp15=>(qB 1 Z (zN (zC [0,5,6,12,13] [_,_,_,_,_] Z (zD (zD (zA (zB 1 Z (zE Z (jD Z xO Z) (zB 1 Z (zG (zC [0,6,12,13,16,17,18] [_,_,_,_,_,_,_] Z (qI (yP (σ:=Nat×Nat×Nat×Array Value×List RR) (fun ⟨i,gN,cN,uN,nn⟩=>i≤rr.length∧RowsOk nn uN cN∧nn.map RR.xs=nextL N.toNat ((listsL N.toNat r).take i)) (fun ⟨i,gN,cN,uN,nn⟩=>[(0,i6_ N),(6,sl_ gN nn.length cN),(12,i6_ W),(13,i6_ (r:Int)),(16,sl_ gO rr.length cO),(17,i6_ (rr.length:Int)),(18,i6_ (i:Int))]) (fun ⟨i,gN,cN,uN,nn⟩=>Own B w0 (bk_ gN uN 27::bk_ gO uO 27::(rowsB 3 nn++(rowsB 3 rr++hs)))) (fun ⟨i,gN,cN,uN,nn⟩=>rr.length - i) (0,p15,0,#[],[]) ⟨by omega,RowsOk.nil,rfl⟩ (Sub.sel [0,6,12,13,16,17,18] Z) (fun _ h=>h) ?_)))))))))))))))))))
  rintro ⟨i,gN,cN,uN,nn⟩ ⟨hi,hN,hX⟩
  dsimp only;refine zD (zA (zB 1 Z (zG (zC [0,6,12,13,16,17,18,19] [_,_,_,_,_,_,_,_] Z (zD (qT (b:=decide ((i:Int)<(rr.length:Int))) Z (fun h19=>?_) (fun h19=>?_)))))))
  ·
   replace h19:=zL h19;refine qK (zC [0,6,12,13,16,17,18] [_,_,_,_,_,_,_] Z (zD (qI (zD (zA (zE (v:=pf_ gO i) Z (yG (v':=pf_ gO i) (by simp) (qU (i:=(i:Int)) Z xO xG Z Z (by omega) (by omega))) (zE (v:=rv (rr.getD i rd)) Z (yV (v:=rv (rr.getD i rd)) 1 Z yX Z Z (by have:=rvs_at (rr:=rr) (i:=i) (by omega);rw [← hR.vals,List.getElem?_take,if_pos (by omega)] at this;simpa using this)) ?_)))))));refine zB 1 Z (zG (zC [0,6,8,12,13,16,17,18] [_,_,_,_,_,_,_,_] Z (zD (zA (zB 2 Z (zG (zC [0,6,8,12,13,16,17,18,22,23] [_,_,_,_,_,_,_,_,_,_] Z (qI (yP (σ:=Nat×Nat×Nat×Array Value×List RR) (fun ⟨k,gM,cM,uM,nm⟩=>k≤N.toNat∧RowsOk nm uM cM∧nm.map RR.xs=nextTo N.toNat (listsL N.toNat r) i k) (fun ⟨k,gM,cM,uM,nm⟩=>[(0,i6_ N),(6,sl_ gM nm.length cM),(8,rv (rr.getD i rd)),(12,i6_ W),(13,i6_ (r:Int)),(16,sl_ gO rr.length cO),(17,i6_ (rr.length:Int)),(18,i6_ (i:Int)),(22,i6_ N),(23,i6_ (k:Int))]) (fun ⟨k,gM,cM,uM,nm⟩=>Own B w0 (bk_ gM uM 27::bk_ gO uO 27::(rowsB 3 nm++(rowsB 3 rr++hs)))) (fun ⟨k,gM,cM,uM,nm⟩=>N.toNat - k) (0,gN,cN,uN,nn) ⟨by omega,hN,by rw [nextTo_zero];exact hX⟩ (Sub.sel [0,6,8,12,13,16,17,18,22,23] Z) (fun _ h=>h) ?_)))))))))
   rintro ⟨k,gM,cM,uM,nm⟩ ⟨hk,hN,hXm⟩
   dsimp only
   have hxl:=xs_len hXr (i:=i)
   have hnl:=next_len hXm (by rw [listsL_length];omega) (by omega) (by omega);refine zD (zA (zB 1 Z (zG (zC [0,6,8,12,13,16,17,18,22,23,24] [_,_,_,_,_,_,_,_,_,_,_] Z (zD (qT (b:=decide ((k:Int)<N)) Z (fun h24=>?_) (fun h24=>?_)))))))
   ·
    replace h24:=zL h24
    have hkn:k<N.toNat:=by omega
    refine qK (zC [0,6,8,12,13,16,17,18,22,23] [_,_,_,_,_,_,_,_,_,_] Z (zD (qI (zD (zA (zB 2 Z (zG (zC [0,6,8,9,12,13,16,17,18,22,23] [_,_,_,_,_,_,_,_,_,_,_] Z (zS (qB 1 Z (qV (xs:=[]) (vs:=[]) qA Z Z Z Z Z Z (by decide) Z fun p27 hp27=>(qB 1 Z (qY (xs:=[]) (ys:=(rr.getD i rd).xs) qA 0 Z Z Z Z Z Z Z Z (by decide) Z (fun w1 hw1=>(Own.ofRows (qF (f:=bk_ p27 #[] 3::bk_ gM uM 27::bk_ gO uO 27::(rowsB 3 nm)) hw1) hR.ok (i:=i) (by omega))) (((rr.getD i rd).xs).length) (by first | (simp;done) | (simp;omega)) (by first | (simp;done) | (simp;omega) | omega) fun p29 cap29 cur29 hp29 hcp29 hlp29 htp29=>?_)))))))))))))
    show Ll _ _ (Own _ _ (_::_::_::(rowsB 3 nm++(rowsB 3 rr++hs)))) _ _ ((29,sl_ p29 ((((rr.getD i rd).xs).length)) cap29)::_) _ _ _;refine qB 1 Z (qV (xs:=[.tmp 30]) (vs:=[i6_ (k:Int)]) qA Z Z Z Z Z Z (by decide) Z fun p31 hp31=>(qY (xs:=(rr.getD i rd).xs) (ys:=[(k:Int)]) qA 1 Z Z Z Z Z Z Z hcp29 hlp29 (by simpa using htp29) (fun w1 hw1=>(yB hw1 (i:=0) Z (n:=1) (cap:=1) (vs:=ints [(k:Int)]) Z Z (by decide))) ((((rr.getD i rd).xs)++([(k:Int)])).length) (by first | (simp;done) | (simp;omega)) (by rw [zT,List.length_singleton];omega) fun p32 cap32 cur32 hp32 hcp32 hlp32 htp32=>?_))
    show Ll _ _ (Own _ _ (_::_::_::_::(rowsB 3 nm++(rowsB 3 rr++hs)))) _ _ ((32,sl_ p32 (((((rr.getD i rd).xs)++([(k:Int)])).length)) cap32)::_) _ _ _;refine qV (xs:=[.tmp 32]) (vs:=[sl_ p32 (((((rr.getD i rd).xs)++([(k:Int)])).length)) cap32]) Base.elem63 Z Z Z Z Z Z (by decide) Z fun p33 hp33=>(Ll.append Base.elem63 3 [sl_ p32 (((((rr.getD i rd).xs)++([(k:Int)])).length)) cap32] Z Z Z Z Z Z Z hN.size hN.len Z (fun h=>by cases h) (fun w1 hw1 ad had j u hj=>by injection had with had;subst had;rw [Addr.add_lit,Nat.zero_add,hw1.cell (i:=0) rfl];simpa using hj) (by simp [Value.oneCell']) (by omega) fun gq capq curq hgq hcgq hlgq htgq=>?_)
    show Ll _ _ (Own _ _ (_::_::_::_::_::(rowsB 3 nm++(rowsB 3 rr++hs)))) _ _ ((34,sl_ gq (nm.length+1) capq)::_) _ _ _;refine qB 1 Z (zN (zC [0,6,8,12,13,16,17,18,22,23] [_,_,_,_,_,_,_,_,_,_] Z (zA (zE Z (qR Z Z Z (by omega) (by omega)) (zB 1 Z (zG (qW ((k+1,gq,capq,curq,nm++[(RR.mk p32 cap32 cur32 ((rr.getD i rd).xs++[(k:Int)]))])) ⟨by omega,hN.add (r:=(RR.mk p32 cap32 cur32 ((rr.getD i rd).xs++[(k:Int)]))) ⟨hcp32,hlp32,by simpa using htp32⟩ hcgq hlgq htgq,by rw [List.map_append,hXm,nextTo_step,← hXr,map_xs (by omega)];rfl⟩ (by omega) (Sub.cons Z (Sub.cons (by rw [zT];rfl) (Sub.sel [8,12,13,16,17,18,22,23] Z))) (fun _ h=>rows_more (cap:=cap32) (xs:=(rr.getD i rd).xs++[(k:Int)]) (f:=[_,_]) (h.sub (zU _ (zU _ (zF _ (zF _ (zF _ (qD _)))))))))))))))
   replace h24:=zJ h24;refine yK Z (zC [0,6,12,13,16,17,18] [_,_,_,_,_,_,_] Z (zA (zE Z (qR Z Z Z (by omega) (by omega)) (zB 1 Z (zG (qW (i+1,gM,cM,uM,nm) ⟨by omega,hN,by rw [hXm,show k=N.toNat from by omega,nextTo_end (by rw [listsL_length];omega)]⟩ (by omega) (Sub.sel [0,6,12,13,16,17,18] Z) (fun _ h=>h)))))))
  replace h19:=zJ h19
  have hend:nextL N.toNat ((listsL N.toNat r).take i)=nextL N.toNat (listsL N.toNat r):=by rw [List.take_of_length_le (by rw [listsL_length];omega)]
  refine yK Z (zC [0,6,12,13] [_,_,_,_] Z (zA (zB 2 Z (zG (zC [0,5,12,13] [_,_,_,_] Z (zA (zE Z (qR Z Z Z (by omega) (by omega)) (zB 1 Z (zG (qW (r+1,gN,cN,uN,nn) ⟨by omega,hN,by rw [hX,hend];rfl⟩ (by omega) (Sub.sel [0,5,12,13] Z) (fun _ h=>rows_forget h)))))))))))
 refine yK Z (zC [5] [_] Z (zD (zA (zB 2 Z (zG (zC [4] [_] Z (qE (zY Z Z fun w' hw=>?_))))))))
 obtain rfl:r=W.toNat:=by omega
 exact ⟨_,_,_,rr,rfl,⟨hR,hXr⟩,hw⟩
end Go.Proofs.YtagbocafnliabaaDoor
namespace Go.Proofs.YtagbocafnliabaaDoor
open Go.RowKit Go.Wk
set_option linter.unusedSimpArgs false
set_option maxHeartbeats 400000 in
theorem l5Atoms_ok (a:St) (va:Value) (xs:List Int) (w:World) (ha:a.Fine) (hva:Ints w va xs) (hA:a.Els xs) (hl7:xs.length≤7) :
    Calls Tryd.prog 82 [vS a,va].toArray w fun en w'=>en=.returned (str (atomBits a xs))∧Below w.heap.size w w':=by
 refine fnStart (n:=65) (e:=[(0,vS a),(1,va)]) Tryd.func82 Z Z Z Z Ends.both (zD (zS (yE (v:=vS a) Z Z Z Z Z fun p2 hp2=>?_)))
 show Ll _ _ (Own _ _ [_]) _ _ ((2,pt_ p2)::_) _ _ _;refine qG (v:=str ([])) Z (xY Z Z) (zN (zC [1,2] [_,_] Z (zD (zA (zE (v:=str ([])) Z (xY Z Z) (zG (zC [1,2,5] [_,_,_] Z (zD (zD (zA (zB 1 Z (zG (zC [1,2,5,6] [_,_,_,_] Z (qI (yP (σ:=Nat) (fun k=>k≤xs.length) (fun k=>[(1,va),(2,pt_ p2),(5,str (bitsTo a xs k)),(6,i6_ (k:Int))]) (fun k=>Own w.heap.size w [bk_ p2 #[i6_ a.n,str a.set,str a.rel] 24]) (fun k=>xs.length - k) (0) (by omega) (Sub.cons Z (Sub.cons Z (Sub.cons Z (Sub.sel [6] Z)))) (fun _ h=>h) ?_)))))))))))))))
 rintro k hk;refine zD (zD (zA (zB 2 Z (zE (v:=i6_ (xs.length:Int)) Z (yF Z zI Z (ints_length _) (fun w1 hw1=>Row.own hva hw1)) (zB 1 Z (zG (zC [1,2,5,6,11] [_,_,_,_,_] Z (qT (b:=decide ((k:Int)<(xs.length:Int))) Z (fun h11=>?_) (fun h11=>?_)))))))))
 ·
  replace h11:=zL h11
  have hb:=bits_small (a:=a) (xs:=xs) (i:=k) (by omega);refine qK (zC [1,2,5,6] [_,_,_,_] Z (zD (qI (zD (xR yO (fun _ h=>h.drawn) (by kernel_rfl) (zB 1 Z (zE Z (zV (cs:=#[i6_ a.n,str a.set,str a.rel]) 0 Z zQ Z Z zP) (zB 2 Z (zE (v:=.pointer (some (sAt va (k:Int)))) Z (yD Z zI zR Z Z (by omega) (by rw [ints_length];omega) (fun w1 hw1=>Row.own hva hw1)) (zE (v:=i6_ (xs.getD ((k:Int).toNat) 0)) Z (qX Z zX Z (fun w1 hw1=>Ints.cell (Row.own hva hw1) (by omega) (by omega))) (zE (v:=bo_ (a.inSet (xs.getD ((k:Int).toNat) 0))) Z (qH Z Tryd.call119 Z zW (fun w1 hw1=>l1Set_ok a (xs.getD ((k:Int).toNat) 0) w1 ha (by first | assumption | exact St.Els.at (by assumption) (by omega) (by omega)))) (zE (v:=str ((if a.inSet (xs.getD ((k:Int).toNat) 0) then [49] else [48]))) Z (qH Z xC Z zW (fun w1 hw1=>bitD_ok (a.inSet (xs.getD ((k:Int).toNat) 0)) w1 )) (zE Z (yH Z Z Z (by simp only [zT,pairBits_length,bit_len,bitS_length,qL,qM];omega)) (zB 1 Z (zG (zC [1,2,5,6] [_,_,_,_] Z (zD (zA (zB 1 Z (zG (zC [1,2,5,6,7] [_,_,_,_,_] Z (qI (yP (σ:=Nat) (fun j=>j≤k+1) (fun j=>[(1,va),(2,pt_ p2),(5,str ((bitsTo a xs k++bitS (a.inSet (xs.getD k 0)))++pairBits a xs k j)),(6,i6_ (k:Int)),(7,i6_ (j:Int))]) (fun j=>Own w.heap.size w [bk_ p2 #[i6_ a.n,str a.set,str a.rel] 24]) (fun j=>k+1 - j) (0) (by omega) (Sub.cons Z (Sub.cons Z (Sub.cons (by simp [pairBits,List.lookup];rfl) (Sub.sel [6,7] Z)))) (fun _ h=>h) ?_)))))))))))))))))))))))
  rintro j hj;refine zD (zD (zA (zB 3 Z (zG (zC [1,2,5,6,7,25] [_,_,_,_,_,_] Z (yY Z (fun h25=>?_) (fun h25=>?_)))))))
  ·
   refine qK (zC [1,2,5,6,7] [_,_,_,_,_] Z ?_);refine zD (qI (xR yO (fun _ h=>h.drawn) (by kernel_rfl) (zB 3 Z (zE (v:=.pointer (some (sAt va (k:Int)))) Z (yD Z zI zR Z Z (by omega) (by rw [ints_length];omega) (fun w1 hw1=>Row.own hva hw1)) (zE (v:=i6_ (xs.getD ((k:Int).toNat) 0)) Z (qX Z zX Z (fun w1 hw1=>Ints.cell (Row.own hva hw1) (by omega) (by omega))) (zB 2 Z (zE (v:=.pointer (some (sAt va (j:Int)))) Z (yD Z zI zR Z Z (by omega) (by rw [ints_length];omega) (fun w1 hw1=>Row.own hva hw1)) (zE (v:=i6_ (xs.getD ((j:Int).toNat) 0)) Z (qX Z zX Z (fun w1 hw1=>Ints.cell (Row.own hva hw1) (by omega) (by omega))) (zB 1 Z (zE (v:=str ((if decide ((xs.getD ((k:Int).toNat) 0)=(xs.getD ((j:Int).toNat) 0)) then [49] else [48]))) Z (qH Z xC Z zW (fun w1 hw1=>bitD_ok (decide ((xs.getD ((k:Int).toNat) 0)=(xs.getD ((j:Int).toNat) 0))) w1 )) (zE Z (yH Z Z Z (by simp only [zT,pairBits_length,bit_len,bitS_length,qL,qM];omega)) (zE Z (zV (cs:=#[i6_ a.n,str a.set,str a.rel]) 0 Z zQ Z Z zP) (zB 2 Z (zE (v:=.pointer (some (sAt va (k:Int)))) Z (yD Z zI zR Z Z (by omega) (by rw [ints_length];omega) (fun w1 hw1=>Row.own hva hw1)) (zE (v:=i6_ (xs.getD ((k:Int).toNat) 0)) Z (qX Z zX Z (fun w1 hw1=>Ints.cell (Row.own hva hw1) (by omega) (by omega))) (zB 2 Z (zE (v:=.pointer (some (sAt va (j:Int)))) Z (yD Z zI zR Z Z (by omega) (by rw [ints_length];omega) (fun w1 hw1=>Row.own hva hw1)) (zE (v:=i6_ (xs.getD ((j:Int).toNat) 0)) Z (qX Z zX Z (fun w1 hw1=>Ints.cell (Row.own hva hw1) (by omega) (by omega))) (zE (v:=bo_ (a.inRel (xs.getD ((k:Int).toNat) 0) (xs.getD ((j:Int).toNat) 0))) Z (qH Z Tryd.call120 Z zW (fun w1 hw1=>l1Rel_ok a (xs.getD ((k:Int).toNat) 0) (xs.getD ((j:Int).toNat) 0) w1 ha (by first | assumption | exact St.Els.at (by assumption) (by omega) (by omega)) (by first | assumption | exact St.Els.at (by assumption) (by omega) (by omega)))) (zE (v:=str ((if a.inRel (xs.getD ((k:Int).toNat) 0) (xs.getD ((j:Int).toNat) 0) then [49] else [48]))) Z (qH Z xC Z zW (fun w1 hw1=>bitD_ok (a.inRel (xs.getD ((k:Int).toNat) 0) (xs.getD ((j:Int).toNat) 0)) w1 )) (zE Z (yH Z Z Z (by simp only [zT,pairBits_length,bit_len,bitS_length,qL,qM];omega)) (zE Z (zV (cs:=#[i6_ a.n,str a.set,str a.rel]) 0 Z zQ Z Z zP) (zB 2 Z (zE (v:=.pointer (some (sAt va (j:Int)))) Z (yD Z zI zR Z Z (by omega) (by rw [ints_length];omega) (fun w1 hw1=>Row.own hva hw1)) (zE (v:=i6_ (xs.getD ((j:Int).toNat) 0)) Z (qX Z zX Z (fun w1 hw1=>Ints.cell (Row.own hva hw1) (by omega) (by omega))) (zB 2 Z (zE (v:=.pointer (some (sAt va (k:Int)))) Z (yD Z zI zR Z Z (by omega) (by rw [ints_length];omega) (fun w1 hw1=>Row.own hva hw1)) (zE (v:=i6_ (xs.getD ((k:Int).toNat) 0)) Z (qX Z zX Z (fun w1 hw1=>Ints.cell (Row.own hva hw1) (by omega) (by omega))) (zE (v:=bo_ (a.inRel (xs.getD ((j:Int).toNat) 0) (xs.getD ((k:Int).toNat) 0))) Z (qH Z Tryd.call120 Z zW (fun w1 hw1=>l1Rel_ok a (xs.getD ((j:Int).toNat) 0) (xs.getD ((k:Int).toNat) 0) w1 ha (by first | assumption | exact St.Els.at (by assumption) (by omega) (by omega)) (by first | assumption | exact St.Els.at (by assumption) (by omega) (by omega)))) (zE (v:=str ((if a.inRel (xs.getD ((j:Int).toNat) 0) (xs.getD ((k:Int).toNat) 0) then [49] else [48]))) Z (qH Z xC Z zW (fun w1 hw1=>bitD_ok (a.inRel (xs.getD ((j:Int).toNat) 0) (xs.getD ((k:Int).toNat) 0)) w1 )) (zE Z (yH Z Z Z (by simp only [zT,pairBits_length,bit_len,bitS_length,qL,qM];omega)) (zB 1 Z (zG (zC [1,2,5,6,7] [_,_,_,_,_] Z (zA (zB 1 Z (zE Z (qR Z Z Z (by omega) (by omega)) (zB 1 Z (zG (qW (j+1) (by omega) (by omega) (Sub.cons Z (Sub.cons Z (Sub.cons (by rw [pair_step];rfl) (Sub.sel [6,7] Z)))) (fun _ h=>h)))))))))))))))))))))))))))))))))))))))))
  refine yK Z (zC [1,2,5,6] [_,_,_,_] Z (zA (zB 1 Z (zE Z (qR Z Z Z (by omega) (by omega)) (zB 1 Z (zG (qW (k+1) (by omega) (by omega) (Sub.cons Z (Sub.cons Z (Sub.cons (by rw [show j=k+1 from by omega];rfl) (Sub.sel [6] Z)))) (fun _ h=>h))))))))
 replace h11:=zJ h11;refine yK Z (zC [5] [_] Z (zD (zA (zB 2 Z (zG (zC [4] [_] Z (qE (zY Z Z fun w' hw=>?_))))))))
 exact ⟨ret_s (by rw [show k=xs.length from by omega];rfl),hw.below⟩
end Go.Proofs.YtagbocafnliabaaDoor
namespace Go.Proofs.YtagbocafnliabaaDoor
open Go.RowKit Go.Wk
set_option linter.unusedSimpArgs false
set_option maxHeartbeats 400000 in
theorem l15Dec_ok (x:Int) (w:World) (h0:0≤x) (h1:x<1000000000000) :
    Calls Tryd.prog 85 [i6_ x].toArray w fun en w'=>en=.returned (str (decS x.toNat))∧Below w.heap.size w w':=by
 refine fnStart (n:=31) (e:=[(0,i6_ x)]) Tryd.func85 Z Z Z Z Ends.both ?_
 have hdl:=decS_len x.toNat 12 (show x.toNat<1000000000000 by omega) (by decide);refine zD (zA (zE (v:=str ([])) Z (xY Z Z) (zG (zC [0] [_] Z (zD (zD (zA (zB 2 Z (zG (zC [0,5] [_,_] Z (qT (b:=decide (x<(-9223372036854775807:Int))) Z (fun h5=>?_) (fun h5=>?_))))))))))))
 ·
  replace h5:=zL h5
  omega
 replace h5:=zJ h5;refine qK (zC [0] [_] Z (zD (zD (zA (zB 2 Z (zG (zC [0,7] [_,_] Z (qT (b:=decide (x<(0:Int))) Z (fun h7=>?_) (fun h7=>?_)))))))))
 ·
  replace h7:=zL h7
  omega
 replace h7:=zJ h7;refine qK (zC [0] [_] Z (zD (zA (zE (v:=str ([])) Z (xY Z Z) (zG (zC [0,3] [_,_] Z (zD (qI (yP (σ:=Nat×List UInt8) (fun ⟨n,o⟩=>decS x.toNat=decS n++o∧n≤x.toNat) (fun ⟨n,o⟩=>[(0,i6_ (n:Int)),(3,str o)]) (fun ⟨n,o⟩=>Own w.heap.size w []) (fun ⟨n,o⟩=>n) (x.toNat,[]) ⟨by simp,Nat.le_refl _⟩ (Sub.cons (by rw [Int.toNat_of_nonneg h0];rfl) (Sub.sel [3] Z)) (fun _ h=>h) ?_)))))))))
 rintro ⟨n,o⟩ ⟨ho,hn⟩
 dsimp only
 have hol:=dec_len ho hdl;refine zD (zD (zA (zB 2 Z (zG (zC [0,3,13] [_,_,_] Z (yY Z (fun h13=>?_) (fun h13=>?_)))))))
 ·
  refine qK (zC [0,3] [_,_] Z (qI (zD (zS (qB 1 Z (qG (v:=i6_ ((n:Int) % (10:Int))) Z (OpQ.rem Z Z Z (by omega) (by decide)) (qG Z (qR Z Z Z (by omega) (by omega)) (qG (v:=.int .u8 ((48:Int)+((n:Int) % (10:Int)))) Z (OpQ.convInt .u8 Z xN xA Z (IntWalk.u8_in _ (by omega))) (qV (xs:=[.tmp 17]) (vs:=[.int .u8 ((48:Int)+((n:Int) % (10:Int)))]) Base.elem22 Z Z Z Z Z Z (by decide) Z fun p18 hp18=>(qG (v:=str ([UInt8.ofNat (48+n % 10)])) Z (OpQ.byteStr (b:=UInt8.ofNat (48+n % 10)) 0 Z Tryd.underlying22 xA yN Z Z (by rw [toNat_dig (by omega)];omega)) (qB 1 Z (qG Z (yH Z Z Z (by first | omega | (simp only [zT,qL,qM];omega))) (qB 1 Z (zN (zC [0,3] [_,_] Z (zA (zB 1 Z (zE (v:=i6_ ((n / 10:Nat):Int)) Z (yG (by simp) (OpQ.quo Z Z Z (by omega) (by omega) (by decide))) (zB 1 Z (zG (qW (n / 10,[UInt8.ofNat (48+n % 10)]++o) ⟨dec_step ho (by omega),by omega⟩ (by omega) (Sub.sel [0,3] Z) (fun _ h=>h.tail))))))))))))))))))))))
 refine yK Z (zC [0,3] [_,_] Z (zD (zS (qB 1 Z (qG Z (qR Z Z Z (by omega) (by omega)) (qG (v:=.int .u8 ((48:Int)+(n:Int))) Z (OpQ.convInt .u8 Z xN xA Z (IntWalk.u8_in _ (by omega))) (qV (xs:=[.tmp 26]) (vs:=[.int .u8 ((48:Int)+(n:Int))]) Base.elem22 Z Z Z Z Z Z (by decide) Z fun p27 hp27=>(qG (v:=str ([UInt8.ofNat (48+n)])) Z (OpQ.byteStr (b:=UInt8.ofNat (48+n)) 0 Z Tryd.underlying22 xA yN Z Z (by rw [toNat_dig (by omega)];omega)) (qB 1 Z (qG Z (yH Z Z Z (by first | omega | (simp only [zT,qL,qM];omega))) (qB 1 Z (zN (zC [2] [_] Z (qE (zY Z Z fun w' hw=>?_)))))))))))))))
 exact ⟨ret_s (by rw [ho,decS,if_pos (by omega)]),hw.below⟩
set_option maxHeartbeats 400000 in
theorem l5Insert_ok (B:Nat) (w0:World) (hs:List (Nat×Obj)) (g cap:Nat) (cur:Array Value) (xs:List Int) (m:Int) (w:World) (hc:cur.size=cap*1) (hle:xs.length≤cap) (ht:cur.toList.take xs.length=ints xs) (hs1:xs.length≤1000) (hw:Own B w0 ((g,.cells cur 3 (0,0))::hs) w) :
    Calls Tryd.prog 83 [sl_ g xs.length cap,i6_ m].toArray w fun en w'=>∃ (g' cap':Nat) (cur':Array Value),en=.returned (.slice (some ⟨g',0,none⟩) (insS xs m).length cap')∧(cur'.size=cap'*1∧(insS xs m).length≤cap'∧cur'.toList.take (insS xs m).length=ints (insS xs m))∧Own B w0 ((g',.cells cur' 3 (0,0))::hs) w':=by
 refine fnStartC (Own B w0 ((g,.cells cur 3 (0,0))::hs)) (n:=41) (e:=[(0,sl_ g xs.length cap),(1,i6_ m)]) Tryd.func83 Z Z Z Z Ends.both hw (zD (zA (zB 1 Z (zG (zC [0,1] [_,_] Z (zD (zD (zA (zB 1 Z (zG (zC [0,1,5] [_,_,_] Z (qI (yP (σ:=Nat) (fun k=>k≤xs.length∧∀ j:Nat,j<k→¬ xs.getD j 0=m∧¬ m<xs.getD j 0) (fun k=>[(0,sl_ g xs.length cap),(1,i6_ m),(5,i6_ (k:Int))]) (fun k=>Own B w0 (bk_ g cur 3::hs)) (fun k=>xs.length - k) (0) ⟨by omega,fun i hi=>absurd hi (by omega)⟩ (Sub.sel [0,1,5] Z) (fun _ h=>h) ?_)))))))))))))
 rintro k ⟨hk,hall⟩;refine zD (zD (zA (zB 2 Z (zE Z (jD Z zI Z) (zB 1 Z (zG (zC [0,1,5,9] [_,_,_,_] Z (qT (b:=decide ((k:Int)<(xs.length:Int))) Z (fun h9=>?_) (fun h9=>?_)))))))))
 ·
  replace h9:=zL h9
  have hk2:k<xs.length:=by omega
  refine qK (zC [0,1,5] [_,_,_] Z (zD (qI (zD (zD (zA (zB 2 Z (zE (v:=pf_ g k) Z (yG (by simp) (qU Z zI zR Z Z (by omega) (by omega))) (zE (v:=i6_ (xs.getD (k) 0)) Z (yV 0 Z zX Z Z (cur_at ht (ints_at2 (by omega)))) (zB 2 Z (zG (zC [0,1,5,17] [_,_,_,_] Z (yY Z (fun h17=>?_) (fun h17=>?_))))))))))))))
  ·
   refine zD (zA (zB 2 Z (zG (zC [4] [_] Z (qE (zY Z Z fun w' hw=>?_))))))
   have e:=insS_at (n:=m) hk2 hall (by simpa using h17)
   exact ⟨g,cap,cur,by rw [e],⟨hc,by rw [e];exact hle,by rw [e];exact ht⟩,hw⟩
  refine qK (zC [0,1,5] [_,_,_] Z (zD (zA (zB 2 Z (zE (v:=pf_ g k) Z (yG (by simp) (qU Z zI zR Z Z (by omega) (by omega))) (zE (v:=i6_ (xs.getD (k) 0)) Z (yV 0 Z zX Z Z (cur_at ht (ints_at2 (by omega)))) (zB 2 Z (zG (zC [0,1,5,24] [_,_,_,_] Z (yY Z (fun h24=>?_) (fun h24=>?_)))))))))))
  ·
   refine zD (Wk.regionT (S:=Own B w0 [bk_ g cur 3]) (.take 1 (.take 2 (.take 3 (.take 5 (.take 8 (.take 9 (.take 10 (.two 0 (.two 4 (.one 6 (.one 7 (.one 11 (.take 12 .done)))) 6 (.one 4 (.one 7 (.one 11 (.take 12 .done))))) 6 (.one 0 (.one 4 (.one 7 (.one 11 (.take 12 .done))))))))))))) yO (fun _ h=>h.drawn) (by kernel_rfl) (Lt.run 2 Z (pk [0] Z Z) (xP (v:=sl_ g ((k:Int).toNat) cap) Z Z Z Z Z (OpQ.takeS (i:=(k:Int)) Z zI zR Z Z (by omega) (by omega)) (pk [0] Z Z) (Lt.run 3 Z (pk [0] Z Z) (xP (v:=.slice (some ⟨g,(k:Int).toNat,none⟩) (xs.length - (k:Int).toNat) (cap - (k:Int).toNat)) Z Z Z Z Z (OpQ.dropS Z zI zR Z Z (by omega) (by omega) (by omega)) (pk [0] Z Z) (Lt.two Z Z ?_ ?_))))))
   ·
    refine qV (xs:=[]) (vs:=[]) qA Z Z Z Z Z Z (by decide) Z fun p25 hp25=>(zN (yR (pk [1] Z Z) ?_));refine Lt.two Z Z ?_ ?_
    ·
     refine qY (xs:=[]) (ys:=(xs).take ((k:Int).toNat)) qA 0 Z Z Z Z Z Z Z Z (by decide) Z (fun w1 hw1=>(Own.rowTake hw1 (i:=1) Z ht (by omega) hle)) (((xs).take ((k:Int).toNat)).length) (by first | (simp;done) | (simp;omega)) (by first | (simp;done) | (simp;omega) | omega) fun p29 cap29 cur29 hp29 hcp29 hlp29 htp29=>?_
     show Ll _ _ (Own _ _ (_::_::hs)) _ _ ((29,sl_ p29 ((((xs).take ((k:Int).toNat)).length)) cap29)::_) _ _ _;refine zN (yR (pk [1] Z Z) ?_);refine xH Z (qV (xs:=[.tmp 30]) (vs:=[i6_ m]) qA Z Z Z Z Z Z (by decide) Z fun p31 hp31=>(zN (yR (pk [2] Z Z) ?_)));refine xH Z (qY (xs:=(xs).take ((k:Int).toNat)) (ys:=[m]) qA 1 Z Z Z Z Z Z Z hcp29 hlp29 (by simpa using htp29) (fun w1 hw1=>(yB hw1 (i:=0) Z (n:=1) (cap:=1) (vs:=ints [m]) Z Z (by decide))) ((((xs).take ((k:Int).toNat))++([m])).length) (by first | (simp;done) | (simp;omega)) (by first | (simp;done) | (simp;omega) | omega) fun p32 cap32 cur32 hp32 hcp32 hlp32 htp32=>?_)
     show Ll _ _ (Own _ _ (_::_::_::hs)) _ _ ((32,sl_ p32 (((((xs).take ((k:Int).toNat))++([m])).length)) cap32)::_) _ _ _;refine zN (yR (pk [2] Z Z) ?_);refine xH Z (qY (xs:=((xs).take ((k:Int).toNat))++([m])) (ys:=(xs).drop ((k:Int).toNat)) qA 1 Z Z Z Z Z Z Z hcp32 hlp32 (by simpa using htp32) (fun w1 hw1=>(Own.rowDrop hw1 (i:=2) Z ht (by omega) hle)) (((((xs).take ((k:Int).toNat))++([m]))++((xs).drop ((k:Int).toNat))).length) (by first | (simp;done) | (simp;omega)) (by first | (simp;done) | (simp;omega) | omega) fun p36 cap36 cur36 hp36 hcp36 hlp36 htp36=>?_)
     show Ll _ _ (Own _ _ (_::_::_::hs)) _ _ ((36,sl_ p36 ((((((xs).take ((k:Int).toNat))++([m]))++((xs).drop ((k:Int).toNat))).length)) cap36)::_) _ _ _;refine zN (yR (pk [2] Z Z) ?_);refine Lt.run 1 Z (pk [2] Z Z) (Lt.nil (zC [4] [_] Z (qE (zY Z Z fun w' hw=>?_))))
     have e:=insS_mid (n:=m) hk2 hall (by simpa using h24)
     simp only [Int.toNat_natCast,Nat.mul_one] at *
     exact ⟨p36,cap36,cur36,by rw [e],⟨by simpa using hcp36,by rw [e];exact hlp36,by rw [e];exact htp36⟩,hw.sub (zU _ (zF _ (zU _ (qD _))))⟩
    refine qV (xs:=[.tmp 30]) (vs:=[i6_ m]) qA Z Z Z Z Z Z (by decide) Z fun p31_1 hp31_1=>(zN (yR (pk [2] Z Z) ?_));refine xH Z (qY (xs:=[]) (ys:=(xs).take ((k:Int).toNat)) qA 1 Z Z Z Z Z Z Z Z (by decide) Z (fun w1 hw1=>(Own.rowTake hw1 (i:=2) Z ht (by omega) hle)) (((xs).take ((k:Int).toNat)).length) (by first | (simp;done) | (simp;omega)) (by first | (simp;done) | (simp;omega) | omega) fun p29_1 cap29_1 cur29_1 hp29_1 hcp29_1 hlp29_1 htp29_1=>?_)
    show Ll _ _ (Own _ _ (_::_::_::hs)) _ _ ((29,sl_ p29_1 ((((xs).take ((k:Int).toNat)).length)) cap29_1)::_) _ _ _;refine zN (yR (pk [2] Z Z) ?_);refine xH Z (qY (xs:=(xs).take ((k:Int).toNat)) (ys:=[m]) qA 1 Z Z Z Z Z Z Z hcp29_1 hlp29_1 (by simpa using htp29_1) (fun w1 hw1=>(yB hw1 (i:=0) Z (n:=1) (cap:=1) (vs:=ints [m]) Z Z (by decide))) ((((xs).take ((k:Int).toNat))++([m])).length) (by first | (simp;done) | (simp;omega)) (by first | (simp;done) | (simp;omega) | omega) fun p32_1 cap32_1 cur32_1 hp32_1 hcp32_1 hlp32_1 htp32_1=>?_)
    show Ll _ _ (Own _ _ (_::_::_::hs)) _ _ ((32,sl_ p32_1 (((((xs).take ((k:Int).toNat))++([m])).length)) cap32_1)::_) _ _ _;refine zN (yR (pk [2] Z Z) ?_);refine xH Z (qY (xs:=((xs).take ((k:Int).toNat))++([m])) (ys:=(xs).drop ((k:Int).toNat)) qA 1 Z Z Z Z Z Z Z hcp32_1 hlp32_1 (by simpa using htp32_1) (fun w1 hw1=>(Own.rowDrop hw1 (i:=2) Z ht (by omega) hle)) (((((xs).take ((k:Int).toNat))++([m]))++((xs).drop ((k:Int).toNat))).length) (by first | (simp;done) | (simp;omega)) (by first | (simp;done) | (simp;omega) | omega) fun p36_1 cap36_1 cur36_1 hp36_1 hcp36_1 hlp36_1 htp36_1=>?_)
    show Ll _ _ (Own _ _ (_::_::_::hs)) _ _ ((36,sl_ p36_1 ((((((xs).take ((k:Int).toNat))++([m]))++((xs).drop ((k:Int).toNat))).length)) cap36_1)::_) _ _ _;refine zN (yR (pk [2] Z Z) ?_);refine Lt.run 1 Z (pk [2] Z Z) (Lt.nil (zC [4] [_] Z (qE (zY Z Z fun w' hw=>?_))))
    have e:=insS_mid (n:=m) hk2 hall (by simpa using h24)
    simp only [Int.toNat_natCast,Nat.mul_one] at *
    exact ⟨p36_1,cap36_1,cur36_1,by rw [e],⟨by simpa using hcp36_1,by rw [e];exact hlp36_1,by rw [e];exact htp36_1⟩,hw.sub (zU _ (zF _ (zU _ (qD _))))⟩
   refine qV (xs:=[.tmp 30]) (vs:=[i6_ m]) qA Z Z Z Z Z Z (by decide) Z fun p31_2 hp31_2=>(zN (yR (pk [1] Z Z) ?_));refine xH Z (qV (xs:=[]) (vs:=[]) qA Z Z Z Z Z Z (by decide) Z fun p25_1 hp25_1=>(zN (yR (pk [2] Z Z) ?_)));refine xH Z (qY (xs:=[]) (ys:=(xs).take ((k:Int).toNat)) qA 0 Z Z Z Z Z Z Z Z (by decide) Z (fun w1 hw1=>(Own.rowTake hw1 (i:=2) Z ht (by omega) hle)) (((xs).take ((k:Int).toNat)).length) (by first | (simp;done) | (simp;omega)) (by first | (simp;done) | (simp;omega) | omega) fun p29_2 cap29_2 cur29_2 hp29_2 hcp29_2 hlp29_2 htp29_2=>?_)
   show Ll _ _ (Own _ _ (_::_::_::hs)) _ _ ((29,sl_ p29_2 ((((xs).take ((k:Int).toNat)).length)) cap29_2)::_) _ _ _;refine zN (yR (pk [2] Z Z) ?_);refine xH Z (qY (xs:=(xs).take ((k:Int).toNat)) (ys:=[m]) qA 0 Z Z Z Z Z Z Z hcp29_2 hlp29_2 (by simpa using htp29_2) (fun w1 hw1=>(yB hw1 (i:=1) Z (n:=1) (cap:=1) (vs:=ints [m]) Z Z (by decide))) ((((xs).take ((k:Int).toNat))++([m])).length) (by first | (simp;done) | (simp;omega)) (by first | (simp;done) | (simp;omega) | omega) fun p32_2 cap32_2 cur32_2 hp32_2 hcp32_2 hlp32_2 htp32_2=>?_)
   show Ll _ _ (Own _ _ (_::_::_::hs)) _ _ ((32,sl_ p32_2 (((((xs).take ((k:Int).toNat))++([m])).length)) cap32_2)::_) _ _ _;refine zN (yR (pk [2] Z Z) ?_);refine xH Z (qY (xs:=((xs).take ((k:Int).toNat))++([m])) (ys:=(xs).drop ((k:Int).toNat)) qA 0 Z Z Z Z Z Z Z hcp32_2 hlp32_2 (by simpa using htp32_2) (fun w1 hw1=>(Own.rowDrop hw1 (i:=2) Z ht (by omega) hle)) (((((xs).take ((k:Int).toNat))++([m]))++((xs).drop ((k:Int).toNat))).length) (by first | (simp;done) | (simp;omega)) (by first | (simp;done) | (simp;omega) | omega) fun p36_2 cap36_2 cur36_2 hp36_2 hcp36_2 hlp36_2 htp36_2=>?_)
   show Ll _ _ (Own _ _ (_::_::_::hs)) _ _ ((36,sl_ p36_2 ((((((xs).take ((k:Int).toNat))++([m]))++((xs).drop ((k:Int).toNat))).length)) cap36_2)::_) _ _ _;refine zN (yR (pk [2] Z Z) ?_);refine Lt.run 1 Z (pk [2] Z Z) (Lt.nil (zC [4] [_] Z (qE (zY Z Z fun w' hw=>?_))))
   have e:=insS_mid (n:=m) hk2 hall (by simpa using h24)
   simp only [Int.toNat_natCast,Nat.mul_one] at *
   exact ⟨p36_2,cap36_2,cur36_2,by rw [e],⟨by simpa using hcp36_2,by rw [e];exact hlp36_2,by rw [e];exact htp36_2⟩,hw.sub (zF _ (zU _ (zU _ (qD _))))⟩
  refine qK (zC [0,1,5] [_,_,_] Z (zA (zB 1 Z (zE Z (qR Z Z Z (by omega) (by omega)) (zB 1 Z (zG (qW (k+1) ⟨by omega,fun i hi=>(Nat.lt_succ_iff_lt_or_eq.1 hi).elim (hall i) (fun e=>by subst e;exact ⟨by simpa using h17,by simpa using h24⟩)⟩ (by omega) (Sub.sel [0,1,5] Z) (fun _ h=>h))))))))
 replace h9:=zJ h9;refine yK Z (zC [0,1] [_,_] Z (zD (zS (qB 2 Z (qV (xs:=[.tmp 38]) (vs:=[i6_ m]) qA Z Z Z Z Z Z (by decide) Z fun p39 hp39=>(qY (xs:=xs) (ys:=[m]) qA 1 Z Z Z Z Z Z Z hc hle ht (fun w1 hw1=>(yB hw1 (i:=0) Z (n:=1) (cap:=1) (vs:=ints [m]) Z Z (by decide))) ((xs++([m])).length) (by first | (simp;done) | (simp;omega)) (by first | (simp;done) | (simp;omega) | omega) fun p40 cap40 cur40 hp40 hcp40 hlp40 htp40=>?_))))))
 show Ll _ _ (Own _ _ (_::_::hs)) _ _ ((40,sl_ p40 (((xs++([m])).length)) cap40)::_) _ _ _;refine qB 1 Z (zN (zC [4] [_] Z (qE (zY Z Z fun w' hw=>?_))))
 have e:=insS_end (l:=xs) (n:=m) (fun j hj=>hall j (by omega))
 simp only [Int.toNat_natCast,Nat.mul_one] at *
 exact ⟨p40,cap40,cur40,by rw [e],⟨by simpa using hcp40,by rw [e];exact hlp40,by rw [e];exact htp40⟩,hw.sub (zU _ (zF _ (qD _)))⟩
set_option maxHeartbeats 400000 in
theorem l5New_ok (B:Nat) (w0:World) (hs:List (Nat×Obj)) (w:World) (hw:Own B w0 hs w) :
    Calls Tryd.prog 40 [].toArray w fun en w'=>∃ q c:Nat,en=.returned (.agg #[.slice (some ⟨q,0,none⟩) 997 997,.slice (some ⟨c,0,none⟩) 1 1])∧Own B w0 (tabL 145 3 147 q c (List.replicate 997 none) []++hs) w':=by
 refine fnStartC (Own B w0 hs) (n:=4) (e:=[]) Tryd.func40 Z Z Z Z Ends.both hw (zD (zS (xW Z Z Z Z Tryd.zeroValue59 fun p0 hp0=>?_)))
 show Ll _ _ (Own _ _ (bk_ p0 #[.slice none 0 0,.slice none 0 0] 59::hs)) _ _ ((0,pt_ p0)::_) _ _ _;refine zN (zC [0] [_] Z (zD (zS (Ll.make (k:=997) Base.elem57 Tryd.zeroValue145 Z Z Z Z Z (by omega) fun p1 hp1=>?_))))
 rw [show madeCells (Value.cells (.slice none 0 0)) (997*1)=(List.replicate 997 (.slice none 0 0)).toArray from made_list _ _ rfl];refine qV (xs:=[.const (i6_ 0)]) (vs:=[i6_ 0]) qA Z Z Z Z Z Z (by decide) Z fun p2 hp2=>(qG (v:=.agg #[sl_ p1 997 997,sl_ p2 1 1]) Z (OpQ.build (xs:=[.tmp 1,.tmp 2]) (vs:=[sl_ p1 997 997,sl_ p2 1 1]) Z Z (by kernel_rfl)) (xL (cs':=#[sl_ p1 997 997,sl_ p2 1 1]) (hs':=(_::_::bk_ p0 #[sl_ p1 997 997,sl_ p2 1 1] 59::hs)) 2 Z Z Z Z Z (by kernel_rfl:_=some Tryd.t59) Z Z Z Z Z (zN (zC [0] [_] Z (qE (Kt.endBox (cs:=#[sl_ p1 997 997,sl_ p2 1 1]) 2 Z Z Z Tryd.isAgg59 Tryd.sizeOf59 fun w' hw=>?_))))));refine ⟨p1,p2,rfl,?_⟩
 show Own B w0 (_::_::(blks _ _++hs)) w'
 rw [blks_new,← new_bkts]
 exact (hw.perm (List.Perm.swap _ _ _)).sub (zF _ (zF _ (zU _ (qD _))))
set_option maxHeartbeats 400000 in
theorem number_nil (B:Nat) (w0:World) (hs:List (Nat×Obj)) (q c:Nat) (bs:List Bkt) (T:List (List UInt8)) (s:List UInt8) (w:World) (hT:TabOk bs T) (hlT:T.length≤1000000) (hls:s.length≤1000) (hb:bs.getD (hashS s) none=none) (hw:Own B w0 (bk_ q ((bs.map bktV).toArray) 145::bk_ c #[i6_ (T.length:Int)] 3::hs) w) :
    Calls Tryd.prog 86 [.agg #[sl_ q 997 997,sl_ c 1 1],str s].toArray w fun en w'=>en=.returned (.int .i64 (T.length:Int))∧s ∉ T∧∃ (g' cap':Nat) (cur':Array Value),cur'.size=cap'*2∧1≤cap'∧cur'.toList.take (1*2)=entC (s,T.length)∧Own B w0 ((g',.cells cur' 147 (0,0))::(q,.cells ((bs.set (hashS s) (some (g',1,cap',cur'))).map bktV).toArray 145 (0,0))::(c,.cells #[.int .i64 ((T.length:Int)+1)] 3 (0,0))::hs) w':=by
 refine fnStartC (Own B w0 (bk_ q ((bs.map bktV).toArray) 145::bk_ c #[i6_ (T.length:Int)] 3::hs)) (n:=77) (e:=[(0,.agg #[sl_ q 997 997,sl_ c 1 1]),(1,str s)]) Tryd.func86 Z Z Z Z Ends.both hw ?_
 have h997:=hash_lt s
 have hkl:hashS s<bs.length:=by rw [hT.len];exact h997
 have hE:=hT.no _ h997 hb
 have hEl:(ents T (hashS s)).length=0:=by rw [hE];rfl
 refine zD (zS (yE (v:=.agg #[sl_ q 997 997,sl_ c 1 1]) Z Z Z Z Z fun p2 hp2=>?_))
 show Ll _ _ (Own _ _ (_::_::_::hs)) _ _ ((2,pt_ p2)::_) _ _ _;refine qB 1 Z (zN (zC [1,2] [_,_] Z (zD (zA (zB 1 Z (zG (zC [1,2,5] [_,_,_] Z (zD (zD (zA (zB 1 Z (zG (zC [1,2,5,6] [_,_,_,_] Z (qI (yP (σ:=Nat) (fun k=>k≤s.length) (fun k=>[(1,str s),(2,pt_ p2),(5,i6_ (((hashS (s.take k):Nat):Int))),(6,i6_ (k:Int))]) (fun k=>Own B w0 (bk_ p2 #[sl_ q 997 997,sl_ c 1 1] 59::bk_ q ((bs.map bktV).toArray) 145::bk_ c #[i6_ (T.length:Int)] 3::hs)) (fun k=>s.length - k) (0) (by omega) (Sub.cons Z (Sub.cons Z (Sub.cons Z (Sub.sel [6] Z)))) (fun _ h=>h) ?_)))))))))))))))
 rintro k hk;refine zD (zD (zA (zB 2 Z (zE (v:=i6_ (s.length:Int)) Z (xD Z qN Z) (zB 1 Z (zG (zC [1,2,5,6,12] [_,_,_,_,_] Z (qT (b:=decide ((k:Int)<(s.length:Int))) Z (fun h12=>?_) (fun h12=>?_)))))))))
 ·
  replace h12:=zL h12
  have hk2:k<s.length:=by omega
  have hkh:=hash_lt (s.take k)
  have hby:=UInt8.toNat_lt (s.getD k 0);refine qK (zC [1,2,5,6] [_,_,_,_] Z (zD (qI (zA (zB 1 Z (zE Z (OpQ.mul Z Z Z (by omega) (by omega)) (zB 2 Z (zE (v:=.int .u8 (((s.getD ((k:Int).toNat) 0).toNat:Int))) Z (xX Z qN Z Z (by omega) (by omega)) (zE (v:=i6_ (((s.getD ((k:Int).toNat) 0).toNat:Int))) Z (OpQ.convInt .i64 Z xA xN Z (IntWalk.i64_in _ (by have:=UInt8.toNat_lt (s.getD ((k:Int).toNat) 0);omega))) (zE Z (qR Z Z Z (by simp only [Int.toNat_natCast];omega) (by simp only [Int.toNat_natCast];omega)) (zE (v:=i6_ (((hashS (s.take (k+1)):Nat):Int))) Z (yG (by rw [Wk.hash_step hk2];simp) (OpQ.rem Z Z Z (by omega) (by decide))) (zB 1 Z (zG (zC [1,2,5,6] [_,_,_,_] Z (zA (zB 1 Z (zE Z (qR Z Z Z (by omega) (by omega)) (zB 1 Z (zG (qW (k+1) (by omega) (by omega) (Sub.sel [1,2,5,6] Z) (fun _ h=>h)))))))))))))))))))))
 replace h12:=zJ h12
 obtain rfl:k=s.length:=by omega
 rw [List.take_length];refine yK Z (zC [1,2,5] [_,_,_] Z (zD (zD (zA (zB 1 Z (zG (zC [1,2,5,7] [_,_,_,_] Z (qI (yP (σ:=Nat) (fun j=>j≤0∧∀ i:Nat,i<j→¬ ((ents T (hashS s)).getD i ([],0)).1=s) (fun j=>[(1,str s),(2,pt_ p2),(5,i6_ ((hashS s:Nat):Int)),(7,i6_ (j:Int))]) (fun j=>Own B w0 (bk_ p2 #[sl_ q 997 997,sl_ c 1 1] 59::bk_ q ((bs.map bktV).toArray) 145::bk_ c #[i6_ (T.length:Int)] 3::hs)) (fun j=>0 - j) (0) ⟨by omega,fun i hi=>absurd hi (by omega)⟩ (Sub.sel [1,2,5,7] Z) (fun _ h=>h) ?_)))))))))
 rintro j ⟨hj0,hall⟩;refine zD (zD (zA (zB 1 Z (zE Z (zM Z yI Z xT Z Z) (zE Z (zO 0 Z jA Z Z Z) (zB 1 Z (zE (v:=pf_ q (hashS s)) Z (yG (by simp) (qU Z yS yU Z Z (by omega) (by omega))) (zE (v:=.slice none 0 0) Z (yV (v:=.slice none 0 0) 1 Z xU Z Z (bkt_at (b:=none) hkl hb)) (zE Z (jD Z Tryd.runUnderlying145 Z) (zB 1 Z (zG (zC [1,2,5,7,30] [_,_,_,_,_] Z (qT (b:=decide ((j:Int)<(0:Int))) Z (fun h30=>?_) (fun h30=>?_))))))))))))))
 ·
  replace h30:=zL h30
  omega
 replace h30:=zJ h30;refine yK Z (zC [1,2,5] [_,_,_] Z (zD (zA (zE Z (zM Z yI Z xG Z Z) (zE Z (zO 0 Z yX Z Z Z) (zE (v:=pt_ c) Z (yG Z (qU (i:=0) Z zI zR Z Z (by decide) (by decide))) (zE Z (zO 2 Z zX Z Z Z) (zB 1 Z (zG (zC [1,2,5,8] [_,_,_,_] Z (zD (zS (qG Z (zM Z yI Z xG Z Z) (qG Z (zO 0 Z yX Z Z Z) (qB 1 Z (qG Z (qR Z Z Z (by omega) (by omega)) (qG (v:=pt_ c) Z (yG Z (qU (i:=0) Z zI zR Z Z (by decide) (by decide))) (qZ (v:=i6_ ((T.length:Int)+(1:Int))) (hs':=(_::_::bk_ c #[i6_ ((T.length:Int)+(1:Int))] 3::hs)) 2 Z Z Z Z Z Z zR Z (by simp) Z (zN (zC [1,2,5,8] [_,_,_,_] Z (zD (Wk.regionT (S:=Own B w0 [bk_ p2 #[sl_ q 997 997,sl_ c 1 1] 59,bk_ c #[i6_ ((T.length:Int)+(1:Int))] 3]) (.take 0 (.take 1 (.take 2 (.take 3 (.take 4 (.take 5 (.take 6 (.take 8 (.take 9 (.take 10 (.two 7 (.one 11 (.one 12 (.take 13 (.one 14 .done)))) 11 (.one 7 (.one 12 (.take 13 (.one 14 .done))))))))))))))) yO (fun _ h=>h.drawn) (by kernel_rfl) (xP Z Z Z Z Z (zM Z yI Z xT Z Z) (pk [0,2] Z Z) (xP Z Z Z Z Z (zO 0 Z jA Z Z Z) (pk [0,2] Z Z) (Lt.run 1 Z (pk [0,2] Z Z) (xP Z Z Z Z Z (zM Z yI Z xT Z Z) (pk [0,2] Z Z) (xP Z Z Z Z Z (zO 0 Z jA Z Z Z) (pk [0,2] Z Z) (Lt.run 1 Z (pk [0,2] Z Z) (xP (v:=pf_ q (hashS s)) Z Z Z Z Z (yG (by simp) (qU Z yS yU Z Z (by omega) (by omega))) (pk [0,2] Z Z) (Lt.run 2 Z (pk [0,2] Z Z) (xP (v:=.agg #[str s,i6_ (T.length:Int)]) Z Z Z Z Z (OpQ.build (xs:=[.tmp 70,.tmp 71]) (vs:=[str s,i6_ (T.length:Int)]) Z Z (by kernel_rfl)) (pk [0,2] Z Z) (Lt.two Z Z ?_ ?_))))))))))))))))))))))))))))))))
 ·
  refine qG (v:=.slice none 0 0) Z (yV (v:=.slice none 0 0) 1 Z xU Z Z (bkt_at (b:=none) hkl hb)) (zN (yR (pk [0,2] Z Z) ?_));refine xH Z (Ll.slice2 jB Z Z Z Z Z fun p73 hp73=>(zN (yR (pk [1,3] Z Z) ?_)));refine xH Z (Ll.appendNil jB (entC (s,T.length)) Z Z Z Z Z Z (by decide) (by simp) Z (fun w1 hw1 ad had j u hj=>by injection had with had;subst had;rw [Addr.add_lit,Nat.zero_add,hw1.cell (i:=0) rfl];simpa [entC] using hj) (by decide) fun g2 cap2 cur2 hg2 hcg2 hlg2 htg2=>?_)
  show Ll _ _ (Own _ _ (_::_::_::_::_::hs)) _ _ ((74,sl_ g2 1 cap2)::_) _ _ _;refine zN (yR (pk [2,4] Z Z) ?_);refine xP (v:=pf_ q (hashS s)) Z Z Z Z Z (yG (by simp) (qU Z yS yU Z Z (by omega) (by omega))) (pk [2,4] Z Z) (xH Z (qZ (v:=sl_ g2 1 cap2) (hs':=(_::_::_::bk_ q (((bs.set (hashS s) (some (g2,1,cap2,cur2))).map bktV).toArray) 145::_::hs)) 3 Z Z Z Z Z Z yU Z (by simpa using hkl) (by rw [← set_bkt];rfl) (zN (yR (pk [2,4] Z Z) ?_))));refine Lt.nil (zC [8] [_] Z (zD (zA (zB 2 Z (zG (zC [4] [_] Z (qE (zY Z Z fun w' hw=>?_))))))))
  exact ⟨rfl,ents_not (fun e he=>by obtain ⟨i,hi,rfl⟩:=List.mem_iff_getElem.1 he;have:=hall i (by omega);rwa [getD_at hi] at this),g2,cap2,cur2,hcg2,hlg2,htg2,hw.sub (zF _ (zU _ (zU _ (zF _ (zF _ (qD _))))))⟩
 refine Ll.slice2 jB Z Z Z Z Z fun p73_1 hp73_1=>(zN (yR (pk [1,3] Z Z) ?_));refine xH Z (qG (v:=.slice none 0 0) Z (yV (v:=.slice none 0 0) 2 Z xU Z Z (bkt_at (b:=none) hkl hb)) (zN (yR (pk [1,3] Z Z) ?_)));refine xH Z (Ll.appendNil jB (entC (s,T.length)) Z Z Z Z Z Z (by decide) (by simp) Z (fun w1 hw1 ad had j u hj=>by injection had with had;subst had;rw [Addr.add_lit,Nat.zero_add,hw1.cell (i:=0) rfl];simpa [entC] using hj) (by decide) fun g2_1 cap2_1 cur2_1 hg2_1 hcg2_1 hlg2_1 htg2_1=>?_)
 show Ll _ _ (Own _ _ (_::_::_::_::_::hs)) _ _ ((74,sl_ g2_1 1 cap2_1)::_) _ _ _;refine zN (yR (pk [2,4] Z Z) ?_);refine xP (v:=pf_ q (hashS s)) Z Z Z Z Z (yG (by simp) (qU Z yS yU Z Z (by omega) (by omega))) (pk [2,4] Z Z) (xH Z (qZ (v:=sl_ g2_1 1 cap2_1) (hs':=(_::_::_::bk_ q (((bs.set (hashS s) (some (g2_1,1,cap2_1,cur2_1))).map bktV).toArray) 145::_::hs)) 3 Z Z Z Z Z Z yU Z (by simpa using hkl) (by rw [← set_bkt];rfl) (zN (yR (pk [2,4] Z Z) ?_))));refine Lt.nil (zC [8] [_] Z (zD (zA (zB 2 Z (zG (zC [4] [_] Z (qE (zY Z Z fun w' hw=>?_))))))))
 exact ⟨rfl,ents_not (fun e he=>by obtain ⟨i,hi,rfl⟩:=List.mem_iff_getElem.1 he;have:=hall i (by omega);rwa [getD_at hi] at this),g2_1,cap2_1,cur2_1,hcg2_1,hlg2_1,htg2_1,hw.sub (zF _ (zU _ (zU _ (zF _ (zF _ (qD _))))))⟩
set_option maxHeartbeats 400000 in
theorem number_some (B:Nat) (w0:World) (hs:List (Nat×Obj)) (q c:Nat) (bs:List Bkt) (T:List (List UInt8)) (s:List UInt8) (w:World) (hT:TabOk bs T) (hlT:T.length≤1000000) (hls:s.length≤1000) (g m cap:Nat) (cur:Array Value) (hb:bs.getD (hashS s) none=some (g,m,cap,cur)) (hw:Own B w0 (bk_ g cur 147::bk_ q ((bs.map bktV).toArray) 145::bk_ c #[i6_ (T.length:Int)] 3::hs) w) :
    Calls Tryd.prog 86 [.agg #[sl_ q 997 997,sl_ c 1 1],str s].toArray w fun en w'=>(∃ n:Nat,en=.returned (.int .i64 (n:Int))∧T[n]?=some s∧Own B w0 (bk_ g cur 147::bk_ q ((bs.map bktV).toArray) 145::bk_ c #[i6_ (T.length:Int)] 3::hs) w')∨(en=.returned (.int .i64 (T.length:Int))∧s ∉ T∧∃ (g' cap':Nat) (cur':Array Value),cur'.size=cap'*2∧m+1≤cap'∧cur'.toList.take ((m+1)*2)=flatE (ents T (hashS s))++entC (s,T.length)∧Own B w0 ((g',.cells cur' 147 (0,0))::(q,.cells ((bs.set (hashS s) (some (g',m+1,cap',cur'))).map bktV).toArray 145 (0,0))::(c,.cells #[.int .i64 ((T.length:Int)+1)] 3 (0,0))::hs) w'):=by
 refine fnStartC (Own B w0 (bk_ g cur 147::bk_ q ((bs.map bktV).toArray) 145::bk_ c #[i6_ (T.length:Int)] 3::hs)) (n:=77) (e:=[(0,.agg #[sl_ q 997 997,sl_ c 1 1]),(1,str s)]) Tryd.func86 Z Z Z Z Ends.both hw ?_
 have h997:=hash_lt s
 have hkl:hashS s<bs.length:=by rw [hT.len];exact h997
 obtain ⟨hm,hc,hle,ht⟩:=hT.yes _ h997 _ _ _ _ hb
 have hmT:=ents_le T (hashS s);refine zD (zS (yE (v:=.agg #[sl_ q 997 997,sl_ c 1 1]) Z Z Z Z Z fun p2 hp2=>?_))
 show Ll _ _ (Own _ _ (_::_::_::_::hs)) _ _ ((2,pt_ p2)::_) _ _ _;refine qB 1 Z (zN (zC [1,2] [_,_] Z (zD (zA (zB 1 Z (zG (zC [1,2,5] [_,_,_] Z (zD (zD (zA (zB 1 Z (zG (zC [1,2,5,6] [_,_,_,_] Z (qI (yP (σ:=Nat) (fun k=>k≤s.length) (fun k=>[(1,str s),(2,pt_ p2),(5,i6_ (((hashS (s.take k):Nat):Int))),(6,i6_ (k:Int))]) (fun k=>Own B w0 (bk_ p2 #[sl_ q 997 997,sl_ c 1 1] 59::bk_ g cur 147::bk_ q ((bs.map bktV).toArray) 145::bk_ c #[i6_ (T.length:Int)] 3::hs)) (fun k=>s.length - k) (0) (by omega) (Sub.cons Z (Sub.cons Z (Sub.cons Z (Sub.sel [6] Z)))) (fun _ h=>h) ?_)))))))))))))))
 rintro k hk;refine zD (zD (zA (zB 2 Z (zE (v:=i6_ (s.length:Int)) Z (xD Z qN Z) (zB 1 Z (zG (zC [1,2,5,6,12] [_,_,_,_,_] Z (qT (b:=decide ((k:Int)<(s.length:Int))) Z (fun h12=>?_) (fun h12=>?_)))))))))
 ·
  replace h12:=zL h12
  have hk2:k<s.length:=by omega
  have hkh:=hash_lt (s.take k)
  have hby:=UInt8.toNat_lt (s.getD k 0);refine qK (zC [1,2,5,6] [_,_,_,_] Z (zD (qI (zA (zB 1 Z (zE Z (OpQ.mul Z Z Z (by omega) (by omega)) (zB 2 Z (zE (v:=.int .u8 (((s.getD ((k:Int).toNat) 0).toNat:Int))) Z (xX Z qN Z Z (by omega) (by omega)) (zE (v:=i6_ (((s.getD ((k:Int).toNat) 0).toNat:Int))) Z (OpQ.convInt .i64 Z xA xN Z (IntWalk.i64_in _ (by have:=UInt8.toNat_lt (s.getD ((k:Int).toNat) 0);omega))) (zE Z (qR Z Z Z (by simp only [Int.toNat_natCast];omega) (by simp only [Int.toNat_natCast];omega)) (zE (v:=i6_ (((hashS (s.take (k+1)):Nat):Int))) Z (yG (by rw [Wk.hash_step hk2];simp) (OpQ.rem Z Z Z (by omega) (by decide))) (zB 1 Z (zG (zC [1,2,5,6] [_,_,_,_] Z (zA (zB 1 Z (zE Z (qR Z Z Z (by omega) (by omega)) (zB 1 Z (zG (qW (k+1) (by omega) (by omega) (Sub.sel [1,2,5,6] Z) (fun _ h=>h)))))))))))))))))))))
 replace h12:=zJ h12
 obtain rfl:k=s.length:=by omega
 rw [List.take_length];refine yK Z (zC [1,2,5] [_,_,_] Z (zD (zD (zA (zB 1 Z (zG (zC [1,2,5,7] [_,_,_,_] Z (qI (yP (σ:=Nat) (fun j=>j≤m∧∀ i:Nat,i<j→¬ ((ents T (hashS s)).getD i ([],0)).1=s) (fun j=>[(1,str s),(2,pt_ p2),(5,i6_ ((hashS s:Nat):Int)),(7,i6_ (j:Int))]) (fun j=>Own B w0 (bk_ p2 #[sl_ q 997 997,sl_ c 1 1] 59::bk_ g cur 147::bk_ q ((bs.map bktV).toArray) 145::bk_ c #[i6_ (T.length:Int)] 3::hs)) (fun j=>m - j) (0) ⟨by omega,fun i hi=>absurd hi (by omega)⟩ (Sub.sel [1,2,5,7] Z) (fun _ h=>h) ?_)))))))))
 rintro j ⟨hj0,hall⟩;refine zD (zD (zA (zB 1 Z (zE Z (zM Z yI Z xT Z Z) (zE Z (zO 0 Z jA Z Z Z) (zB 1 Z (zE (v:=pf_ q (hashS s)) Z (yG (by simp) (qU Z yS yU Z Z (by omega) (by omega))) (zE (v:=sl_ g m cap) Z (yV (v:=sl_ g m cap) 2 Z xU Z Z (bkt_at (b:=some (g,m,cap,cur)) hkl hb)) (zE Z (jD Z Tryd.runUnderlying145 Z) (zB 1 Z (zG (zC [1,2,5,7,30] [_,_,_,_,_] Z (qT (b:=decide ((j:Int)<(m:Int))) Z (fun h30=>?_) (fun h30=>?_))))))))))))))
 ·
  replace h30:=zL h30
  have hj:j<m:=by omega
  refine qK (zC [1,2,5,7] [_,_,_,_] Z (zD (qI (zD (zA (zE Z (zM Z yI Z xT Z Z) (zE Z (zO 0 Z jA Z Z Z) (zB 1 Z (zE (v:=pf_ q (hashS s)) Z (yG (by simp) (qU Z yS yU Z Z (by omega) (by omega))) (zE (v:=sl_ g m cap) Z (yV (v:=sl_ g m cap) 2 Z xU Z Z (bkt_at (b:=some (g,m,cap,cur)) hkl hb)) (zB 1 Z (zE (v:=pf_ g (j*2)) Z (yG (v':=pf_ g (j*2)) (by simp) (OpQ.indexAddr (i:=(j:Int)) Z Tryd.runUnderlying145 Tryd.sizeOf147 Z Z (by omega) (by omega))) (zE Z (zM Z Tryd.runUnderlying147 Z zZ Z Z) (zE (v:=str (((ents T (hashS s)).getD j ([],0)).1)) Z (yV (v:=str (((ents T (hashS s)).getD j ([],0)).1)) 1 Z qS Z Z (ent_at ht hm hj).1) (zB 1 Z (zE Z (OpQ.seql Z Z Z) (zG (zC [1,2,5,7,43] [_,_,_,_,_] Z (qT (b:=(((ents T (hashS s)).getD j ([],0)).1)==s) Z (fun h43=>?_) (fun h43=>?_))))))))))))))))))))
  ·
   refine zD (zA (zE Z (zM Z yI Z xT Z Z) (zE Z (zO 0 Z jA Z Z Z) (zB 1 Z (zE (v:=pf_ q (hashS s)) Z (yG (by simp) (qU Z yS yU Z Z (by omega) (by omega))) (zE (v:=sl_ g m cap) Z (yV (v:=sl_ g m cap) 2 Z xU Z Z (bkt_at (b:=some (g,m,cap,cur)) hkl hb)) (zB 1 Z (zE (v:=pf_ g (j*2)) Z (yG (v':=pf_ g (j*2)) (by simp) (OpQ.indexAddr (i:=(j:Int)) Z Tryd.runUnderlying145 Tryd.sizeOf147 Z Z (by omega) (by omega))) (zE Z (zM Z Tryd.runUnderlying147 Z zR Z Z) (zE (v:=i6_ ((((ents T (hashS s)).getD j ([],0)).2:Int))) Z (yV (v:=i6_ ((((ents T (hashS s)).getD j ([],0)).2:Int))) 1 Z zX Z Z (ent_at ht hm hj).2) (zB 1 Z (zG (zC [4] [_] Z (qE (zY Z Z fun w' hw=>?_)))))))))))))))
   exact .inl ⟨_,rfl,ents_mem (e:=(ents T (hashS s)).getD j ([],0)) (by rw [getD_at (by omega)];exact List.getElem_mem _) |>.trans (by rw [show ((ents T (hashS s)).getD j ([],0)).1=s from by simpa using h43]),hw.sub ((zU _ (zF _ (zF _ (zF _ (qD _))))))⟩
  refine qK (zC [1,2,5,7] [_,_,_,_] Z (zA (zB 1 Z (zE Z (qR Z Z Z (by omega) (by omega)) (zB 1 Z (zG (qW (j+1) ⟨by omega,fun i hi=>(Nat.lt_succ_iff_lt_or_eq.1 hi).elim (hall i) (fun e=>by subst e;simpa using h43)⟩ (by omega) (Sub.sel [1,2,5,7] Z) (fun _ h=>h))))))))
 replace h30:=zJ h30;refine yK Z (zC [1,2,5] [_,_,_] Z (zD (zA (zE Z (zM Z yI Z xG Z Z) (zE Z (zO 0 Z yX Z Z Z) (zE (v:=pt_ c) Z (yG Z (qU (i:=0) Z zI zR Z Z (by decide) (by decide))) (zE Z (zO 3 Z zX Z Z Z) (zB 1 Z (zG (zC [1,2,5,8] [_,_,_,_] Z (zD (zS (qG Z (zM Z yI Z xG Z Z) (qG Z (zO 0 Z yX Z Z Z) (qB 1 Z (qG Z (qR Z Z Z (by omega) (by omega)) (qG (v:=pt_ c) Z (yG Z (qU (i:=0) Z zI zR Z Z (by decide) (by decide))) (qZ (v:=i6_ ((T.length:Int)+(1:Int))) (hs':=(_::_::_::bk_ c #[i6_ ((T.length:Int)+(1:Int))] 3::hs)) 3 Z Z Z Z Z Z zR Z (by simp) Z (zN (zC [1,2,5,8] [_,_,_,_] Z (zD (Wk.regionT (S:=Own B w0 [bk_ p2 #[sl_ q 997 997,sl_ c 1 1] 59,bk_ c #[i6_ ((T.length:Int)+(1:Int))] 3]) (.take 0 (.take 1 (.take 2 (.take 3 (.take 4 (.take 5 (.take 6 (.take 8 (.take 9 (.take 10 (.two 7 (.one 11 (.one 12 (.take 13 (.one 14 .done)))) 11 (.one 7 (.one 12 (.take 13 (.one 14 .done))))))))))))))) yO (fun _ h=>h.drawn) (by kernel_rfl) (xP Z Z Z Z Z (zM Z yI Z xT Z Z) (pk [0,3] Z Z) (xP Z Z Z Z Z (zO 0 Z jA Z Z Z) (pk [0,3] Z Z) (Lt.run 1 Z (pk [0,3] Z Z) (xP Z Z Z Z Z (zM Z yI Z xT Z Z) (pk [0,3] Z Z) (xP Z Z Z Z Z (zO 0 Z jA Z Z Z) (pk [0,3] Z Z) (Lt.run 1 Z (pk [0,3] Z Z) (xP (v:=pf_ q (hashS s)) Z Z Z Z Z (yG (by simp) (qU Z yS yU Z Z (by omega) (by omega))) (pk [0,3] Z Z) (Lt.run 2 Z (pk [0,3] Z Z) (xP (v:=.agg #[str s,i6_ (T.length:Int)]) Z Z Z Z Z (OpQ.build (xs:=[.tmp 70,.tmp 71]) (vs:=[str s,i6_ (T.length:Int)]) Z Z (by kernel_rfl)) (pk [0,3] Z Z) (Lt.two Z Z ?_ ?_))))))))))))))))))))))))))))))))
 ·
  refine qG (v:=sl_ g m cap) Z (yV (v:=sl_ g m cap) 2 Z xU Z Z (bkt_at (b:=some (g,m,cap,cur)) hkl hb)) (zN (yR (pk [0,3] Z Z) ?_));refine xH Z (Ll.slice2 jB Z Z Z Z Z fun p73 hp73=>(zN (yR (pk [1,4] Z Z) ?_)));refine xH Z (Ll.append jB 2 (entC (s,T.length)) Z Z Z Z Z Z Z hc hle Z (fun h=>by cases h) (fun w1 hw1 ad had j u hj=>by injection had with had;subst had;rw [Addr.add_lit,Nat.zero_add,hw1.cell (i:=0) rfl];simpa [entC] using hj) (by simp [entC,str,Value.oneCell']) (by omega) fun g2 cap2 cur2 hg2 hcg2 hlg2 htg2=>?_)
  show Ll _ _ (Own _ _ (_::_::_::_::_::hs)) _ _ ((74,sl_ g2 (m+1) cap2)::_) _ _ _;refine zN (yR (pk [1,4] Z Z) ?_);refine xP (v:=pf_ q (hashS s)) Z Z Z Z Z (yG (by simp) (qU Z yS yU Z Z (by omega) (by omega))) (pk [1,4] Z Z) (xH Z (qZ (v:=sl_ g2 (m+1) cap2) (hs':=(_::_::_::bk_ q (((bs.set (hashS s) (some (g2,(m+1),cap2,cur2))).map bktV).toArray) 145::_::hs)) 3 Z Z Z Z Z Z yU Z (by simpa using hkl) (by rw [← set_bkt];rfl) (zN (yR (pk [1,4] Z Z) ?_))));refine Lt.nil (zC [8] [_] Z (zD (zA (zB 2 Z (zG (zC [4] [_] Z (qE (zY Z Z fun w' hw=>?_))))))))
  exact .inr ⟨rfl,ents_not (fun e he=>by obtain ⟨i,hi,rfl⟩:=List.mem_iff_getElem.1 he;have:=hall i (by omega);rwa [getD_at hi] at this),g2,cap2,cur2,hcg2,hlg2,by rw [htg2,ht],hw.sub (zU _ (zU _ (zF _ (zF _ (zF _ (qD _))))))⟩
 refine Ll.slice2 jB Z Z Z Z Z fun p73_1 hp73_1=>(zN (yR (pk [1,4] Z Z) ?_));refine xH Z (qG (v:=sl_ g m cap) Z (yV (v:=sl_ g m cap) 3 Z xU Z Z (bkt_at (b:=some (g,m,cap,cur)) hkl hb)) (zN (yR (pk [1,4] Z Z) ?_)));refine xH Z (Ll.append jB 2 (entC (s,T.length)) Z Z Z Z Z Z Z hc hle Z (fun h=>by cases h) (fun w1 hw1 ad had j u hj=>by injection had with had;subst had;rw [Addr.add_lit,Nat.zero_add,hw1.cell (i:=0) rfl];simpa [entC] using hj) (by simp [entC,str,Value.oneCell']) (by omega) fun g2_1 cap2_1 cur2_1 hg2_1 hcg2_1 hlg2_1 htg2_1=>?_)
 show Ll _ _ (Own _ _ (_::_::_::_::_::hs)) _ _ ((74,sl_ g2_1 (m+1) cap2_1)::_) _ _ _;refine zN (yR (pk [1,4] Z Z) ?_);refine xP (v:=pf_ q (hashS s)) Z Z Z Z Z (yG (by simp) (qU Z yS yU Z Z (by omega) (by omega))) (pk [1,4] Z Z) (xH Z (qZ (v:=sl_ g2_1 (m+1) cap2_1) (hs':=(_::_::_::bk_ q (((bs.set (hashS s) (some (g2_1,(m+1),cap2_1,cur2_1))).map bktV).toArray) 145::_::hs)) 3 Z Z Z Z Z Z yU Z (by simpa using hkl) (by rw [← set_bkt];rfl) (zN (yR (pk [1,4] Z Z) ?_))));refine Lt.nil (zC [8] [_] Z (zD (zA (zB 2 Z (zG (zC [4] [_] Z (qE (zY Z Z fun w' hw=>?_))))))))
 exact .inr ⟨rfl,ents_not (fun e he=>by obtain ⟨i,hi,rfl⟩:=List.mem_iff_getElem.1 he;have:=hall i (by omega);rwa [getD_at hi] at this),g2_1,cap2_1,cur2_1,hcg2_1,hlg2_1,by rw [htg2_1,ht],hw.sub (zU _ (zU _ (zF _ (zF _ (zF _ (qD _))))))⟩
theorem number_ok (B:Nat) (w0:World) (hs:List (Nat×Obj)) (q c:Nat) (bs:List Bkt) (T:List (List UInt8)) (s:List UInt8) (w:World) (hT:TabOk bs T) (hlT:T.length≤1000000) (hls:s.length≤1000) (hw:Own B w0 (tabL 145 3 147 q c bs T++hs) w) :
    Calls Tryd.prog 86 [.agg #[.slice (some ⟨q,0,none⟩) 997 997,.slice (some ⟨c,0,none⟩) 1 1],str s].toArray w fun en w'=>∃ (n:Nat) (bs':List Bkt) (T':List (List UInt8)),en=.returned (.int .i64 (n:Int))∧(TabTo T bs' T' 1∧T'[n]?=some s)∧Own B w0 (tabL 145 3 147 q c bs' T'++hs) w':=by
  have h997:=hash_lt s
  have hkl:hashS s<bs.length:=by rw [hT.len];exact h997
  cases hb:bs.getD (hashS s) none with
  | none =>
    refine (number_nil B w0 (blks 147 bs++hs) q c bs T s w hT hlT hls hb hw).mono fun en w' ⟨h1,h2,g',cap',cur',h3,h4,h5,h6⟩=>(⟨T.length,bs.set (hashS s) (some (g',1,cap',cur')),T++[s],h1,⟨⟨hT.add h2 (by rw [hT.no _ h997 hb];rfl) h3 h4 (by rw [hT.no _ h997 hb];exact h5),List.prefix_append _ _,by simp⟩,by simp⟩,?_⟩)
    have hp:=(blks_put (E:=147) (g:=g') (m:=1) (cap:=cap') (cur:=cur') hkl)
    rw [blks_none hkl hb] at hp
    have e1:((T++[s]).length:Int)=(T.length:Int)+1:=by simp
    show Own B w0 (_::(_,.cells #[.int .i64 ((T++[s]).length:Int)] _ (0,0))::(blks _ _++hs)) w'
    rw [e1]
    exact h6.perm ((perm_back [_] [_,_] _).trans (List.Perm.cons _ (List.Perm.cons _ (hp.symm.append_right hs))))
  | some b =>
    obtain ⟨g,m,cap,cur⟩:=b
    have hp:=(blks_take (E:=147) hkl hb)
    have hw2:Own B w0 ((g,.cells cur 147 (0,0))::(q,.cells (bs.map bktV).toArray 145 (0,0))::(c,.cells #[.int .i64 (T.length:Int)] 3 (0,0))::(blks 147 (bs.set (hashS s) none)++hs)) w :=
      hw.perm ((List.Perm.cons _ (List.Perm.cons _ (hp.append_right hs))).trans (perm_back [_,_] [_] _))
    refine (number_some B w0 (blks 147 (bs.set (hashS s) none)++hs) q c bs T s w hT hlT hls g m cap cur hb hw2).mono fun en w' h=>?_
    rcases h with ⟨n,h1,h2,h3⟩ | ⟨h1,h2,g',cap',cur',h3,h4,h5,h6⟩
    · exact ⟨n,bs,T,h1,⟨⟨hT,List.prefix_refl _,by omega⟩,h2⟩,h3.perm ((perm_back [_] [_,_] _).trans (List.Perm.cons _ (List.Perm.cons _ (hp.symm.append_right hs))))⟩
    · refine ⟨T.length,bs.set (hashS s) (some (g',m+1,cap',cur')),T++[s],h1,⟨⟨hT.add h2 (by rw [(hT.yes _ h997 _ _ _ _ hb).1]) h3 h4 h5,List.prefix_append _ _,by simp⟩,by simp⟩,?_⟩
      have hp2:=(blks_put (E:=147) (g:=g') (m:=m+1) (cap:=cap') (cur:=cur') hkl)
      have e1:((T++[s]).length:Int)=(T.length:Int)+1:=by simp
      show Own B w0 (_::(_,.cells #[.int .i64 ((T++[s]).length:Int)] _ (0,0))::(blks _ _++hs)) w'
      rw [e1]
      exact h6.perm ((perm_back [_] [_,_] _).trans (List.Perm.cons _ (List.Perm.cons _ (hp2.symm.append_right hs))))
end Go.Proofs.YtagbocafnliabaaDoor
namespace Go.Proofs.YtagbocafnliabaaDoor
open Go.RowKit Go.Wk
set_option linter.unusedSimpArgs false
set_option maxHeartbeats 400000 in
theorem l4With_ok (va:Value) (xs:List Int) (x:Int) (w:World) (hva:Ints w va xs) (hs:xs.length≤1048576) :
    Calls Tryd.prog 84 [va,i6_ x].toArray w fun en w'=>∃ v,en=.returned v∧Below w.heap.size w w'∧NewRow w.heap.size 3 1 w' v (xs++[x]).length (ints (xs++[x])):=by
 refine fnStart (n:=11) (e:=[(0,va),(1,i6_ x)]) Tryd.func84 Z Z Z Z Ends.both (zD (zA (zB 1 Z (zG (zC [0,1] [_,_] Z (zD (zS (qV (xs:=[]) (vs:=[]) qA Z Z Z Z Z Z (by decide) Z fun p5 hp5=>(qB 1 Z (qY (xs:=[]) (ys:=xs) qA 0 Z Z Z Z Z Z Z Z (by decide) Z (fun w1 hw1=>(Row.own hva hw1)) ((xs).length) (by first | (simp;done) | (simp;omega)) (by first | (simp;done) | (simp;omega) | omega) fun p7 cap7 cur7 hp7 hcp7 hlp7 htp7=>?_))))))))))
 show Ll _ _ (Own _ _ [_]) _ _ ((7,sl_ p7 ((xs).length) cap7)::_) _ _ _;refine qB 1 Z (qV (xs:=[.tmp 8]) (vs:=[i6_ x]) qA Z Z Z Z Z Z (by decide) Z fun p9 hp9=>(qY (xs:=xs) (ys:=[x]) qA 1 Z Z Z Z Z Z Z hcp7 hlp7 (by simpa using htp7) (fun w1 hw1=>(yB hw1 (i:=0) Z (n:=1) (cap:=1) (vs:=ints [x]) Z Z (by decide))) ((xs++([x])).length) (by first | (simp;done) | (simp;omega)) (by first | (simp;done) | (simp;omega) | omega) fun p10 cap10 cur10 hp10 hcp10 hlp10 htp10=>?_))
 show Ll _ _ (Own _ _ [_,_]) _ _ ((10,sl_ p10 (((xs++([x])).length)) cap10)::_) _ _ _;refine qB 1 Z (zN (zC [4] [_] Z (qE (zY Z Z fun w' hw=>?_))))
 exact ⟨_,rfl,hw.below,hw.newRow (i:=1) (n:=_) rfl (by assumption) (by assumption) (by assumption)⟩
set_option maxHeartbeats 400000 in
theorem with_ok (va:Value) (xs:List Int) (x:Int) (w:World) (hva:Ints w va xs) (hs:xs.length≤1048576) :
    Calls Tryd.prog 149 [va,i6_ x].toArray w fun en w'=>∃ v,en=.returned v∧Below w.heap.size w w'∧NewRow w.heap.size 3 1 w' v (xs++[x]).length (ints (xs++[x])):=by
 refine fnStart (n:=11) (e:=[(0,va),(1,i6_ x)]) Tryd.func149 Z Z Z Z Ends.both (zD (zA (zB 1 Z (zG (zC [0,1] [_,_] Z (zD (zS (qV (xs:=[]) (vs:=[]) qA Z Z Z Z Z Z (by decide) Z fun p5 hp5=>(qB 1 Z (qY (xs:=[]) (ys:=xs) qA 0 Z Z Z Z Z Z Z Z (by decide) Z (fun w1 hw1=>(Row.own hva hw1)) ((xs).length) (by first | (simp;done) | (simp;omega)) (by first | (simp;done) | (simp;omega) | omega) fun p7 cap7 cur7 hp7 hcp7 hlp7 htp7=>?_))))))))))
 show Ll _ _ (Own _ _ [_]) _ _ ((7,sl_ p7 ((xs).length) cap7)::_) _ _ _;refine qB 1 Z (qV (xs:=[.tmp 8]) (vs:=[i6_ x]) qA Z Z Z Z Z Z (by decide) Z fun p9 hp9=>(qY (xs:=xs) (ys:=[x]) qA 1 Z Z Z Z Z Z Z hcp7 hlp7 (by simpa using htp7) (fun w1 hw1=>(yB hw1 (i:=0) Z (n:=1) (cap:=1) (vs:=ints [x]) Z Z (by decide))) ((xs++([x])).length) (by first | (simp;done) | (simp;omega)) (by first | (simp;done) | (simp;omega) | omega) fun p10 cap10 cur10 hp10 hcp10 hlp10 htp10=>?_))
 show Ll _ _ (Own _ _ [_,_]) _ _ ((10,sl_ p10 (((xs++([x])).length)) cap10)::_) _ _ _;refine qB 1 Z (zN (zC [4] [_] Z (qE (zY Z Z fun w' hw=>?_))))
 exact ⟨_,rfl,hw.below,hw.newRow (i:=1) (n:=_) rfl (by assumption) (by assumption) (by assumption)⟩
set_option maxHeartbeats 400000 in
theorem reply_of (n:Nat) (ih:∀ (a b:St) (xs ys:List Int) (va vb:Value) (w:World),a.Fine→b.Fine→Ints w va xs→Ints w vb ys→a.Els xs→b.Els ys→xs.length=ys.length→xs.length+n≤7→Calls Tryd.prog 80 #[vS a,va,vS b,vb,.int .i64 (n:Int)] w fun en w'=>en=.returned (.bool (goB n a xs b ys))∧Below w.heap.size w w') (a b:St) (xs ys:List Int) (va vb:Value) (w:World) (ha:a.Fine) (hb:b.Fine) (hva:Ints w va xs) (hvb:Ints w vb ys) (hA:a.Els xs) (hB:b.Els ys) (hlen:xs.length=ys.length) (h7:xs.length+(n+1)≤7) (x:Int) (hx:a.El x) :
    Calls Tryd.prog 117 [vS a,va,vS b,vb,i6_ ((n:Int)+1),i6_ x].toArray w fun en w'=>en=.returned (.tuple #[.int .i64 (((rep (goB n) a xs b ys x).getD 0:Nat):Int),.bool (rep (goB n) a xs b ys x).isSome])∧Below w.heap.size w w':=by
 refine fnStart (n:=48) (e:=[(0,vS a),(1,va),(2,vS b),(3,vb),(4,i6_ ((n:Int)+1)),(5,i6_ x)]) Tryd.func117 Z Z Z Z Ends.both ?_
 have hn8:=hb.hi
 have hn1:=hb.lo
 have hL:=rep_law (g:=goB n) (a:=a) (xs:=xs) (b:=b) (ys:=ys) (x:=x);refine zD (zS (yE (v:=vS a) Z Z Z Z Z fun p6 hp6=>?_))
 show Ll _ _ (Own _ _ [_]) _ _ ((6,pt_ p6)::_) _ _ _;refine yE (v:=vS b) Z Z Z Z Z fun p8 hp8=>?_
 show Ll _ _ (Own _ _ [_,_]) _ _ ((8,pt_ p8)::_) _ _ _;refine qB 2 Z (zN (zC [1,3,4,5,6,8] [_,_,_,_,_,_] Z (zD (zD (zA (zE Z (zV (cs:=#[i6_ a.n,str a.set,str a.rel]) 1 Z zQ Z Z zP) (zB 1 Z (zE Z (zV (cs:=#[i6_ b.n,str b.set,str b.rel]) 0 Z zQ Z Z zP) (zB 1 Z (zE (v:=bo_ (sameB a xs b ys)) Z (qH Z Tryd.call79 Z zW (fun w1 hw1=>sameWay_ok a b xs ys va vb w1 ha hb (Row.own hva hw1) (Row.own hvb hw1) hA hB (by omega) (by omega))) (zB 1 Z (zG (zC [1,3,4,5,6,8,20] [_,_,_,_,_,_,_] Z (qT (b:=!(sameB a xs b ys)) Z (fun h20=>?_) (fun h20=>?_)))))))))))))))
 ·
  replace h20:=not_true h20;refine zD (zA (zB 2 Z (zG (zC [12,13] [_,_] Z (qE (Kt.end2 Z Z Z fun w' hw=>?_))))))
  exact ⟨by rw [hL.1 (by simpa using h20)];rfl,hw.below⟩
 replace h20:=not_false h20;refine qK (zC [1,3,4,5,6,8] [_,_,_,_,_,_] Z (zD (zD (zA (zE Z (zM Z zK Z zR Z Z) (zE Z (zO 0 Z zX Z Z Z) (zB 1 Z (zG (zC [1,3,4,5,6,8,22,23] [_,_,_,_,_,_,_,_] Z (qI (yP (σ:=Nat) (fun k=>(k:Int)≤b.n∧∀ i:Nat,i<k→(stillB a xs b ys x i&&goB n a (xs++[x]) b (ys++[(i:Int)]))=false) (fun k=>[(1,va),(3,vb),(4,i6_ ((n:Int)+1)),(5,i6_ x),(6,pt_ p6),(8,pt_ p8),(22,i6_ b.n),(23,i6_ (k:Int))]) (fun k=>Own w.heap.size w [bk_ p8 #[i6_ b.n,str b.set,str b.rel] 24,bk_ p6 #[i6_ a.n,str a.set,str a.rel] 24]) (fun k=>(b.n - k).toNat) (0) ⟨by omega,fun i hi=>absurd hi (by omega)⟩ (Sub.sel [1,3,4,5,6,8,22,23] Z) (fun _ h=>h) ?_)))))))))))
 rintro k ⟨hk,hall⟩;refine zD (zA (zB 1 Z (zG (zC [1,3,4,5,6,8,22,23,24] [_,_,_,_,_,_,_,_,_] Z (zD (qT (b:=decide ((k:Int)<b.n)) Z (fun h24=>?_) (fun h24=>?_)))))))
 ·
  replace h24:=zL h24
  have hy:b.El k:=⟨by omega,by omega⟩;refine qK (zC [1,3,4,5,6,8,22,23] [_,_,_,_,_,_,_,_] Z (zD (qI (zD (zA (zB 2 Z (zG (zC [1,3,4,5,6,8,14,22,23] [_,_,_,_,_,_,_,_,_] Z (zD (Wk.regionO [(0,true),(1,true),(2,true),(3,true),(4,true),(5,true),(6,false),(7,true),(8,true),(9,true),(10,true),(12,true),(13,true),(14,true),(16,true),(17,true),(11,false),(15,false),(18,false),(19,true)] yO (fun _ h=>h.drawn) (by kernel_rfl) (xK Z Z Z Z Z (zV (cs:=#[i6_ a.n,str a.set,str a.rel]) 1 Z zQ Z Z zP) (fun _ h=>h) (jE 1 Z (fun _ h=>h) (xK Z Z Z Z Z (zV (cs:=#[i6_ b.n,str b.set,str b.rel]) 0 Z zQ Z Z zP) (fun _ h=>h) (jE 3 Z (fun _ h=>h) (xQ Z (qG (v:=bo_ (stillB a xs b ys x (k:Int))) Z (qH Z Tryd.call116 Z zW (fun w1 hw1=>stillSame_ok a b xs ys va vb x (k:Int) w1 (ha) (hb) (Row.own hva hw1) (Row.own hvb hw1) (hA) (hB) (by first | (simp;done) | (simp;omega) | omega) (by first | (simp;done) | (simp;omega) | omega) (by first | assumption | exact St.Els.at (by assumption) (by omega) (by omega)) (by first | assumption | exact St.Els.at (by assumption) (by omega) (by omega)))) (zN (xI (fun _ h=>h) ?_))))))))))))))))));refine jE 1 Z (fun _ h=>h) (Ld.bool fun b33 hg33=>?_)
  cases b33
  ·
   refine Ld.pass Z Z Z Z (fun _ h=>h) (Ld.pass Z Z Z Z (fun _ h=>h) (Ld.pass Z Z Z Z (fun _ h=>h) (Ld.pass Z Z Z Z (fun _ h=>h) (Ld.pass Z Z Z Z (fun _ h=>h) (Ld.pass Z Z Z Z (fun _ h=>h) (Ld.pass Z Z Z Z (fun _ h=>h) (Ld.pass Z Z Z Z (fun _ h=>h) (xQ Z (xJ Z (zN (xI (fun _ h=>h) ?_)))))))))));refine xQ Z (xJ Z (zN (xI (fun _ h=>h) ?_)));refine xQ Z (xJ Z (zN (xI (fun _ h=>h) ?_)));refine jE 1 Z (fun _ h=>h) (Ld.nil (zC [1,3,4,5,6,8,14,22,23,45] [_,_,_,_,_,_,_,_,_,_] Z (Wk.condF Z (qK (zC [1,3,4,5,6,8,22,23] [_,_,_,_,_,_,_,_] Z (zA (zE Z (qR Z Z Z (by omega) (by omega)) (zB 1 Z (zG (qW (k+1) ⟨by omega,fun i hi=>(Nat.lt_succ_iff_lt_or_eq.1 hi).elim (hall i) (fun e=>by subst e;simp_all)⟩ (by omega) (Sub.sel [1,3,4,5,6,8,22,23] Z) (fun _ h=>h)))))))))))
  refine xK Z Z Z Z Z (zV (cs:=#[i6_ a.n,str a.set,str a.rel]) 1 Z zQ Z Z zP) (fun _ h=>h) (jE 2 Z (fun _ h=>h) (xK Z Z Z Z Z (zV (cs:=#[i6_ b.n,str b.set,str b.rel]) 0 Z zQ Z Z zP) (fun _ h=>h) (jE 3 Z (fun _ h=>h) (xK (v:=i6_ (n:Int)) Z Z Z Z Z (yG (by congr 1;omega) (OpQ.sub Z Z Z (by omega) (by omega))) (fun _ h=>h) (xQ Z (Ll.callRow (xs:=[.tmp 35,.tmp 36]) (m:=(xs++[x]).length) (vs:=ints (xs++[x])) (el:=3) (size:=1) Z Z Z Z Tryd.call149 Z (fun w1 hw1=>with_ok va xs x w1 (Row.own hva hw1) (by omega)) fun p37 cap37 cur37 hp37 hcp37 hlp37 htp37=>(zN (xI (fun _ h=>h.tail) ?_))))))));refine xQ Z (Ll.callRow (xs:=[.tmp 39,.tmp 40]) (m:=(ys++[(k:Int)]).length) (vs:=ints (ys++[(k:Int)])) (el:=3) (size:=1) Z Z Z Z Tryd.call149 Z (fun w1 hw1=>with_ok vb ys (k:Int) w1 (Row.own hvb hw1) (by omega)) fun p41 cap41 cur41 hp41 hcp41 hlp41 htp41=>(zN (xI (fun _ h=>h.tail.tail) ?_)));refine xQ Z (qG (v:=bo_ (goB n a (xs++[x]) b (ys++[(k:Int)]))) Z (qH Z Tryd.call80 Z zW (fun w1 hw1=>ih a b (xs++[x]) (ys++[(k:Int)]) (sl_ p37 ((xs++[x]).length) cap37) (sl_ p41 ((ys++[(k:Int)]).length) cap41) w1 ha hb (yB hw1 (i:=1) Z (by simpa using htp37) (by simp) hlp37) (yB hw1 (i:=0) Z (by simpa using htp41) (by simp) hlp41) (els_more hA hx) (els_more hB hy) (by first | (simp;done) | (simp;omega) | omega) (by first | (simp;done) | (simp;omega) | omega))) (zN (xI (fun _ h=>h.tail.tail) ?_)));refine jE 1 Z (fun _ h=>h.tail.tail) (Ld.nil (zC [1,3,4,5,6,8,14,22,23,45] [_,_,_,_,_,_,_,_,_,_] Z (qT (b:=goB n a (xs++[x]) b (ys++[(k:Int)])) Z (fun h45=>?_) (fun h45=>?_))))
  ·
   refine zD (zA (zB 3 Z (zG (zC [12,13] [_,_] Z (qE (Kt.end2 Z Z Z fun w' hw=>?_))))))
   exact ⟨by rw [hL.2.1 (by simpa using h20) k (by omega) hall (by simp [*])];rfl,hw.below⟩
  refine qK (zC [1,3,4,5,6,8,22,23] [_,_,_,_,_,_,_,_] Z (zA (zE Z (qR Z Z Z (by omega) (by omega)) (zB 1 Z (zG (qW (k+1) ⟨by omega,fun i hi=>(Nat.lt_succ_iff_lt_or_eq.1 hi).elim (hall i) (fun e=>by subst e;simp_all)⟩ (by omega) (Sub.sel [1,3,4,5,6,8,22,23] Z) (fun _ h=>h.tail.tail)))))))
 replace h24:=zJ h24;refine yK Z (zC [] [] Z (zD (zA (zB 2 Z (zG (zC [12,13] [_,_] Z (qE (Kt.end2 Z Z Z fun w' hw=>?_))))))))
 exact ⟨by rw [hL.2.2 (fun i hi=>hall i (by omega))];rfl,hw.below⟩
set_option maxHeartbeats 400000 in
theorem goes_zero (a b:St) (xs ys:List Int) (va vb:Value) (w:World) :
    Calls Tryd.prog 80 [vS a,va,vS b,vb,i6_ 0].toArray w fun en w'=>en=.returned (.bool (goB 0 a xs b ys))∧Below w.heap.size w w':=by
 refine fnStart (n:=55) (e:=[(0,vS a),(1,va),(2,vS b),(3,vb),(4,i6_ 0)]) Tryd.func80 Z Z Z Z Ends.both (zD (zS (yE (v:=vS a) Z Z Z Z Z fun p5 hp5=>?_)))
 show Ll _ _ (Own _ _ [_]) _ _ ((5,pt_ p5)::_) _ _ _;refine yE (v:=vS b) Z Z Z Z Z fun p7 hp7=>?_
 show Ll _ _ (Own _ _ [_,_]) _ _ ((7,pt_ p7)::_) _ _ _;refine qB 1 Z (zN (zC [1,3,4,5,7] [_,_,_,_,_] Z (zD (zD (zA (zB 2 Z (zG (zC [1,3,4,5,7,18] [_,_,_,_,_,_] Z (qT (b:=decide ((0:Int)=(0:Int))) Z (fun h18=>?_) (fun h18=>?_))))))))))
 ·
  replace h18:=zL h18;refine zD (zA (zB 1 Z (zG (zC [10] [_] Z (qE (zY Z Z fun w' hw=>?_))))))
  exact ⟨rfl,hw.below⟩
 replace h18:=zJ h18
 exact absurd rfl h18
set_option maxHeartbeats 400000 in
theorem goes_of (n:Nat) (ih:∀ (a b:St) (xs ys:List Int) (va vb:Value) (w:World),a.Fine→b.Fine→Ints w va xs→Ints w vb ys→a.Els xs→b.Els ys→xs.length=ys.length→xs.length+(n+1)≤7→∀ x:Int,a.El x→Calls Tryd.prog 117 #[vS a,va,vS b,vb,.int .i64 ((n:Int)+1),.int .i64 x] w fun en w'=>en=.returned (.tuple #[.int .i64 (((rep (goB n) a xs b ys x).getD 0:Nat):Int),.bool (rep (goB n) a xs b ys x).isSome])∧Below w.heap.size w w') (a b:St) (xs ys:List Int) (va vb:Value) (w:World) (ha:a.Fine) (hb:b.Fine) (hva:Ints w va xs) (hvb:Ints w vb ys) (hA:a.Els xs) (hB:b.Els ys) (hlen:xs.length=ys.length) (h7:xs.length+(n+1)≤7) :
    Calls Tryd.prog 80 [vS a,va,vS b,vb,i6_ ((n:Int)+1)].toArray w fun en w'=>en=.returned (.bool (goB (n+1) a xs b ys))∧Below w.heap.size w w':=by
 refine fnStart (n:=55) (e:=[(0,vS a),(1,va),(2,vS b),(3,vb),(4,i6_ ((n:Int)+1))]) Tryd.func80 Z Z Z Z Ends.both ?_
 have hn8:=hb.hi
 have hn1:=hb.lo
 have hm8:=ha.hi
 have hm1:=ha.lo;refine zD (zS (yE (v:=vS a) Z Z Z Z Z fun p5 hp5=>?_))
 show Ll _ _ (Own _ _ [_]) _ _ ((5,pt_ p5)::_) _ _ _;refine yE (v:=vS b) Z Z Z Z Z fun p7 hp7=>?_
 show Ll _ _ (Own _ _ [_,_]) _ _ ((7,pt_ p7)::_) _ _ _;refine qB 1 Z (zN (zC [1,3,4,5,7] [_,_,_,_,_] Z (zD (zD (zA (zB 2 Z (zG (zC [1,3,4,5,7,18] [_,_,_,_,_,_] Z (qT (b:=decide (((n:Int)+1)=(0:Int))) Z (fun h18=>?_) (fun h18=>?_))))))))))
 ·
  replace h18:=zL h18
  omega
 replace h18:=zJ h18;refine qK (zC [1,3,4,5,7] [_,_,_,_,_] Z (zD (zD (zA (zE Z (zM Z zK Z zR Z Z) (zE Z (zO 1 Z zX Z Z Z) (zB 1 Z (zG (zC [1,3,4,5,7,20,21] [_,_,_,_,_,_,_] Z (qI (yP (σ:=Nat) (fun k=>(k:Int)≤a.n∧∀ i:Nat,i<k→(rep (goB n) a xs b ys i).isSome=true) (fun k=>[(1,va),(3,vb),(4,i6_ ((n:Int)+1)),(5,pt_ p5),(7,pt_ p7),(20,i6_ a.n),(21,i6_ (k:Int))]) (fun k=>Own w.heap.size w [bk_ p7 #[i6_ b.n,str b.set,str b.rel] 24,bk_ p5 #[i6_ a.n,str a.set,str a.rel] 24]) (fun k=>(a.n - k).toNat) (0) ⟨by omega,fun i hi=>absurd hi (by omega)⟩ (Sub.sel [1,3,4,5,7,20,21] Z) (fun _ h=>h) ?_)))))))))))
 rintro k ⟨hk1,hall1⟩;refine zD (zA (zB 1 Z (zG (zC [1,3,4,5,7,20,21,22] [_,_,_,_,_,_,_,_] Z (zD (qT (b:=decide ((k:Int)<a.n)) Z (fun h22=>?_) (fun h22=>?_)))))))
 ·
  replace h22:=zL h22
  have hx:a.El k:=⟨by omega,by omega⟩;refine qK (zC [1,3,4,5,7,20,21] [_,_,_,_,_,_,_] Z (zD (qI (zD (zA (zB 2 Z (zG (zC [1,3,4,5,7,11,20,21] [_,_,_,_,_,_,_,_] Z (zD (zA (zE Z (zV (cs:=#[i6_ a.n,str a.set,str a.rel]) 1 Z zQ Z Z zP) (zB 1 Z (zE Z (zV (cs:=#[i6_ b.n,str b.set,str b.rel]) 0 Z zQ Z Z zP) (zB 3 Z (zE (v:=.tuple #[i6_ ((((rep (goB n) a xs b ys (k:Int)).getD 0:Nat):Int)),bo_ ((rep (goB n) a xs b ys (k:Int)).isSome)]) Z (qH Z Tryd.call117 Z zW (fun w1 hw1=>ih a b xs ys va vb w1 ha hb (Row.own hva hw1) (Row.own hvb hw1) hA hB (by first | (simp;done) | (simp;omega) | omega) (by first | (simp;done) | (simp;omega) | omega) (k:Int) hx)) (zB 1 Z (zE (v:=i6_ ((((rep (goB n) a xs b ys (k:Int)).getD 0:Nat):Int))) Z (OpQ.extract Z Z Z) (zE (v:=bo_ ((rep (goB n) a xs b ys (k:Int)).isSome)) Z (OpQ.extract Z Z Z) (zB 2 Z (zG (zC [1,3,4,5,7,13,20,21] [_,_,_,_,_,_,_,_] Z (zD (zA (zB 2 Z (zG (zC [1,3,4,5,7,20,21,35] [_,_,_,_,_,_,_,_] Z (qT (b:=!((rep (goB n) a xs b ys (k:Int)).isSome)) Z (fun h35=>?_) (fun h35=>?_))))))))))))))))))))))))))))
  ·
   replace h35:=not_true h35;refine zD (zA (zB 1 Z (zG (zC [10] [_] Z (qE (zY Z Z fun w' hw=>?_))))))
   exact ⟨ret_b (go_no1 (x:=k) (by omega) (by simpa using h35)).symm,hw.below⟩
  replace h35:=not_false h35;refine qK (zC [1,3,4,5,7,20,21] [_,_,_,_,_,_,_] Z (zA (zE Z (qR Z Z Z (by omega) (by omega)) (zB 1 Z (zG (qW (k+1) ⟨by omega,fun i hi=>(Nat.lt_succ_iff_lt_or_eq.1 hi).elim (hall1 i) (fun e=>by subst e;assumption)⟩ (by omega) (Sub.sel [1,3,4,5,7,20,21] Z) (fun _ h=>h)))))))
 replace h22:=zJ h22;refine yK Z (zC [1,3,4,5,7] [_,_,_,_,_] Z (zD (zD (zA (zE Z (zM Z zK Z zR Z Z) (zE Z (zO 0 Z zX Z Z Z) (zB 1 Z (zG (zC [1,3,4,5,7,38,39] [_,_,_,_,_,_,_] Z (qI (yP (σ:=Nat) (fun m=>(m:Int)≤b.n∧∀ i:Nat,i<m→(rep (goB n) b ys a xs i).isSome=true) (fun m=>[(1,va),(3,vb),(4,i6_ ((n:Int)+1)),(5,pt_ p5),(7,pt_ p7),(38,i6_ b.n),(39,i6_ (m:Int))]) (fun m=>Own w.heap.size w [bk_ p7 #[i6_ b.n,str b.set,str b.rel] 24,bk_ p5 #[i6_ a.n,str a.set,str a.rel] 24]) (fun m=>(b.n - m).toNat) (0) ⟨by omega,fun i hi=>absurd hi (by omega)⟩ (Sub.sel [1,3,4,5,7,38,39] Z) (fun _ h=>h) ?_)))))))))))
 rintro m ⟨hk2,hall2⟩;refine zD (zA (zB 1 Z (zG (zC [1,3,4,5,7,38,39,40] [_,_,_,_,_,_,_,_] Z (zD (qT (b:=decide ((m:Int)<b.n)) Z (fun h40=>?_) (fun h40=>?_)))))))
 ·
  replace h40:=zL h40
  have hy:b.El m:=⟨by omega,by omega⟩;refine qK (zC [1,3,4,5,7,38,39] [_,_,_,_,_,_,_] Z (zD (qI (zD (zA (zB 2 Z (zG (zC [1,3,4,5,7,14,38,39] [_,_,_,_,_,_,_,_] Z (zD (zA (zE Z (zV (cs:=#[i6_ b.n,str b.set,str b.rel]) 0 Z zQ Z Z zP) (zB 1 Z (zE Z (zV (cs:=#[i6_ a.n,str a.set,str a.rel]) 1 Z zQ Z Z zP) (zB 3 Z (zE (v:=.tuple #[i6_ ((((rep (goB n) b ys a xs (m:Int)).getD 0:Nat):Int)),bo_ ((rep (goB n) b ys a xs (m:Int)).isSome)]) Z (qH Z Tryd.call117 Z zW (fun w1 hw1=>ih b a ys xs vb va w1 hb ha (Row.own hvb hw1) (Row.own hva hw1) hB hA (by first | (simp;done) | (simp;omega) | omega) (by first | (simp;done) | (simp;omega) | omega) (m:Int) hy)) (zB 1 Z (zE (v:=i6_ ((((rep (goB n) b ys a xs (m:Int)).getD 0:Nat):Int))) Z (OpQ.extract Z Z Z) (zE (v:=bo_ ((rep (goB n) b ys a xs (m:Int)).isSome)) Z (OpQ.extract Z Z Z) (zB 2 Z (zG (zC [1,3,4,5,7,16,38,39] [_,_,_,_,_,_,_,_] Z (zD (zA (zB 2 Z (zG (zC [1,3,4,5,7,38,39,53] [_,_,_,_,_,_,_,_] Z (qT (b:=!((rep (goB n) b ys a xs (m:Int)).isSome)) Z (fun h53=>?_) (fun h53=>?_))))))))))))))))))))))))))))
  ·
   replace h53:=not_true h53;refine zD (zA (zB 1 Z (zG (zC [10] [_] Z (qE (zY Z Z fun w' hw=>?_))))))
   exact ⟨ret_b (go_no2 (y:=m) (by omega) (by simpa using h53)).symm,hw.below⟩
  replace h53:=not_false h53;refine qK (zC [1,3,4,5,7,38,39] [_,_,_,_,_,_,_] Z (zA (zE Z (qR Z Z Z (by omega) (by omega)) (zB 1 Z (zG (qW (m+1) ⟨by omega,fun i hi=>(Nat.lt_succ_iff_lt_or_eq.1 hi).elim (hall2 i) (fun e=>by subst e;assumption)⟩ (by omega) (Sub.sel [1,3,4,5,7,38,39] Z) (fun _ h=>h)))))))
 replace h40:=zJ h40;refine yK Z (zC [] [] Z (zD (zA (zB 1 Z (zG (zC [10] [_] Z (qE (zY Z Z fun w' hw=>?_))))))))
 exact ⟨ret_b (go_yes (fun i hi=>hall1 i (by omega)) (fun i hi=>hall2 i (by omega))).symm,hw.below⟩
theorem goes_ok:∀ n:Nat,∀ (a b:St) (xs ys:List Int) (va vb:Value) (w:World),a.Fine→b.Fine→Ints w va xs→Ints w vb ys→a.Els xs→b.Els ys→xs.length=ys.length→xs.length+n≤7→Calls Tryd.prog 80 #[vS a,va,vS b,vb,.int .i64 (n:Int)] w fun en w'=>en=.returned (.bool (goB n a xs b ys))∧Below w.heap.size w w'
  | 0=>fun a b xs ys va vb w _ _ _ _ _ _ _ _=>goes_zero a b xs ys va vb w
  | n+1=>fun a b xs ys va vb w ha hb hva hvb hA hB hl h7 =>
    goes_of n (fun a b xs ys va vb w ha hb hva hvb hA hB hl h7 x hx=>reply_of n (goes_ok n) a b xs ys va vb w ha hb hva hvb hA hB hl h7 x hx) a b xs ys va vb w ha hb hva hvb hA hB hl h7
theorem goes_at (r:Int) (h0:0≤r):∀ (a b:St) (xs ys:List Int) (va vb:Value) (w:World),a.Fine→b.Fine→Ints w va xs→Ints w vb ys→a.Els xs→b.Els ys→xs.length=ys.length→xs.length+r.toNat≤7→Calls Tryd.prog 80 #[vS a,va,vS b,vb,.int .i64 r] w fun en w'=>en=.returned (.bool (goB r.toNat a xs b ys))∧Below w.heap.size w w':=by
  have h:=goes_ok r.toNat
  rw [Int.toNat_of_nonneg h0] at h
  exact h
set_option maxHeartbeats 400000 in
theorem isGame_ok (a b:St) (xs ys:List Int) (va vb:Value) (w:World) (hsa:a.Small) (hsb:b.Small) (hva:Ints w va xs) (hvb:Ints w vb ys) (hs1:xs.length≤140737488355328) (hs2:ys.length≤140737488355328) (r:Int) :
    Calls Tryd.prog 43 [vS a,va,vS b,vb,i6_ r].toArray w fun en w'=>en=.returned (.bool (gameB a xs b ys r))∧Below w.heap.size w w':=by
 refine fnStart (n:=24) (e:=[(0,vS a),(1,va),(2,vS b),(3,vb),(4,i6_ r)]) Tryd.func43 Z Z Z Z Ends.both (zD (zS (yE (v:=vS a) Z Z Z Z Z fun p5 hp5=>?_)))
 show Ll _ _ (Own _ _ [_]) _ _ ((5,pt_ p5)::_) _ _ _;refine yE (v:=vS b) Z Z Z Z Z fun p7 hp7=>?_
 show Ll _ _ (Own _ _ [_,_]) _ _ ((7,pt_ p7)::_) _ _ _;refine qB 1 Z (zN (zC [1,3,4,5,7] [_,_,_,_,_] Z (zD (zA (zE Z (zV (cs:=#[i6_ a.n,str a.set,str a.rel]) 1 Z zQ Z Z zP) (zB 1 Z (zE Z (zV (cs:=#[i6_ b.n,str b.set,str b.rel]) 0 Z zQ Z Z zP) (zB 1 Z (zE (v:=bo_ (listsB a xs b ys)) Z (qH Z Tryd.call50 Z zW (fun w1 hw1=>areLists_ok a b xs ys va vb w1 hsa hsb (Row.own hva hw1) (Row.own hvb hw1) (by first | (simp;done) | (simp;omega) | omega) (by first | (simp;done) | (simp;omega) | omega))) (zB 1 Z (yL fun b16 hg16=>?_)))))))))))
 cases b16
 ·
  refine zH Z (zH Z (zB 2 Z (zH Z (zH Z (zB 2 Z (zG (zC [10] [_] Z (qE (zY Z Z fun w' hw=>?_)))))))))
  exact ⟨ret_b (by unfold gameB inB;first | (simp_all;done) | (simp_all;omega)),hw.below⟩
 refine zB 4 Z (yL fun b20 hg20=>?_)
 cases b20
 ·
  replace hg20:=zJ hg20;refine zH Z (zH Z (zB 2 Z (zG (zC [10] [_] Z (qE (zY Z Z fun w' hw=>?_))))))
  exact ⟨ret_b (by unfold gameB inB;first | (simp_all;done) | (simp_all;omega)),hw.below⟩
 replace hg20:=zL hg20;refine zB 4 Z (zG (zC [10] [_] Z (qE (zY Z Z fun w' hw=>?_))))
 exact ⟨ret_b (by unfold gameB inB;first | (simp_all;done) | (simp_all;omega)),hw.below⟩
set_option maxHeartbeats 400000 in
theorem wins_ok (a b:St) (xs ys:List Int) (va vb:Value) (w:World) (ha:a.Fine) (hb:b.Fine) (hva:Ints w va xs) (hvb:Ints w vb ys) (hA:a.Els xs) (hB:b.Els ys) (hlen:xs.length=ys.length) (h4:xs.length≤4) (r:Int) (h0:0≤r) (h3:r≤3) :
    Calls Tryd.prog 37 [vS a,va,vS b,vb,i6_ r].toArray w fun en w'=>en=.returned (.bool (winB r.toNat a xs b ys))∧Below w.heap.size w w':=by
 refine fnStart (n:=24) (e:=[(0,vS a),(1,va),(2,vS b),(3,vb),(4,i6_ r)]) Tryd.func37 Z Z Z Z Ends.both (zD (zS (yE (v:=vS a) Z Z Z Z Z fun p5 hp5=>?_)))
 show Ll _ _ (Own _ _ [_]) _ _ ((5,pt_ p5)::_) _ _ _;refine yE (v:=vS b) Z Z Z Z Z fun p7 hp7=>?_
 show Ll _ _ (Own _ _ [_,_]) _ _ ((7,pt_ p7)::_) _ _ _;refine qB 1 Z (zN (zC [1,3,4,5,7] [_,_,_,_,_] Z (zD (zA (zE Z (zV (cs:=#[i6_ a.n,str a.set,str a.rel]) 1 Z zQ Z Z zP) (zB 1 Z (zE Z (zV (cs:=#[i6_ b.n,str b.set,str b.rel]) 0 Z zQ Z Z zP) (zB 1 Z (zE (v:=bo_ (sameB a xs b ys)) Z (qH Z Tryd.call79 Z zW (fun w1 hw1=>sameWay_ok a b xs ys va vb w1 ha hb (Row.own hva hw1) (Row.own hvb hw1) hA hB (by omega) (by omega))) (zB 1 Z (yL fun b16 hg16=>?_)))))))))))
 cases b16
 ·
  refine zH Z (zH Z (zH Z (zH Z (zH Z (zH Z (zB 2 Z (zG (zC [10] [_] Z (qE (zY Z Z fun w' hw=>?_))))))))))
  exact ⟨ret_b (by unfold winB;simp [*]),hw.below⟩
 refine zE Z (zV (cs:=#[i6_ a.n,str a.set,str a.rel]) 1 Z zQ Z Z zP) (zB 1 Z (zE Z (zV (cs:=#[i6_ b.n,str b.set,str b.rel]) 0 Z zQ Z Z zP) (zB 2 Z (zE (v:=bo_ (goB r.toNat a xs b ys)) Z (qH Z Tryd.call80 Z zW (fun w1 hw1=>goes_at r h0 a b xs ys va vb w1 ha hb (Row.own hva hw1) (Row.own hvb hw1) hA hB (by first | (simp;done) | (simp;omega) | omega) (by first | (simp;done) | (simp;omega) | omega))) (zB 2 Z (zG (zC [10] [_] Z (qE (zY Z Z fun w' hw=>?_)))))))))
 exact ⟨ret_b (by unfold winB;simp [*]),hw.below⟩
set_option maxHeartbeats 400000 in
theorem iWins_ok (a b:St) (xs ys:List Int) (va vb:Value) (w:World) (hsa:a.Small) (hsb:b.Small) (hva:Ints w va xs) (hvb:Ints w vb ys) (hs1:xs.length≤140737488355328) (hs2:ys.length≤140737488355328) (r:Int) :
    Calls Tryd.prog 12 [vS a,va,vS b,vb,i6_ r].toArray w fun en w'=>en=.returned (.bool (secB a xs b ys r))∧Below w.heap.size w w':=by
 refine fnStart (n:=25) (e:=[(0,vS a),(1,va),(2,vS b),(3,vb),(4,i6_ r)]) Tryd.func12 Z Z Z Z Ends.both (zD (zS (yE (v:=vS a) Z Z Z Z Z fun p5 hp5=>?_)))
 show Ll _ _ (Own _ _ [_]) _ _ ((5,pt_ p5)::_) _ _ _;refine yE (v:=vS b) Z Z Z Z Z fun p7 hp7=>?_
 show Ll _ _ (Own _ _ [_,_]) _ _ ((7,pt_ p7)::_) _ _ _;refine qB 1 Z (zN (zC [1,3,4,5,7] [_,_,_,_,_] Z (zD (zA (zE Z (zV (cs:=#[i6_ a.n,str a.set,str a.rel]) 1 Z zQ Z Z zP) (zB 1 Z (zE Z (zV (cs:=#[i6_ b.n,str b.set,str b.rel]) 0 Z zQ Z Z zP) (zB 2 Z (zE (v:=bo_ (gameB a xs b ys r)) Z (qH Z Tryd.call43 Z zW (fun w1 hw1=>isGame_ok a b xs ys va vb w1 hsa hsb (Row.own hva hw1) (Row.own hvb hw1) (by first | (simp;done) | (simp;omega) | omega) (by first | (simp;done) | (simp;omega) | omega) r)) (zB 1 Z (yL fun b17 hg17=>?_)))))))))))
 cases b17
 ·
  refine zH Z (zH Z (zH Z (zH Z (zH Z (zH Z (zB 2 Z (zG (zC [10] [_] Z (qE (zY Z Z fun w' hw=>?_))))))))))
  exact ⟨ret_b (by unfold secB;simp [*]),hw.below⟩
 replace hg17:gameB a xs b ys r=true:=by simpa using hg17
 obtain ⟨hLL,hr0,hr3⟩:=gameB_true hg17
 obtain ⟨LA,LB,hlen⟩:=listsB_true hLL
 have ha:=LA.fine
 have hb:=LB.fine
 have hA:=LA.els
 have hB:=LB.els
 have hl4:=LA.len;refine zE Z (zV (cs:=#[i6_ a.n,str a.set,str a.rel]) 1 Z zQ Z Z zP) (zB 1 Z (zE Z (zV (cs:=#[i6_ b.n,str b.set,str b.rel]) 0 Z zQ Z Z zP) (zB 2 Z (zE (v:=bo_ (winB r.toNat a xs b ys)) Z (qH Z Tryd.call37 Z zW (fun w1 hw1=>wins_ok a b xs ys va vb w1 ha hb (Row.own hva hw1) (Row.own hvb hw1) hA hB (by first | (simp;done) | (simp;omega) | omega) (by first | (simp;done) | (simp;omega) | omega) r (by omega) (by omega))) (zB 2 Z (zG (zC [10] [_] Z (qE (zY Z Z fun w' hw=>?_)))))))))
 exact ⟨ret_b (by unfold secB;simp [*]),hw.below⟩
set_option maxHeartbeats 400000 in
theorem type_zero (B:Nat) (w0:World) (hs:List (Nat×Obj)) (q c:Nat) (bs:List Bkt) (T:List (List UInt8)) (a:St) (va:Value) (xs:List Int) (w:World) (hT:TabOk bs T) (ha:a.Fine) (hva:∀ w,Own B w0 hs w→Ints w va xs) (hA:a.Els xs) (h7:xs.length+0≤7) (hcap:T.length+cnt 0≤1000000) (hw:Own B w0 (tabL 145 3 147 q c bs T++hs) w) :
    Calls Tryd.prog 41 [.agg #[sl_ q 997 997,sl_ c 1 1],vS a,va,i6_ 0].toArray w fun en w'=>∃ (m:Nat) (bs':List Bkt) (T':List (List UInt8)),en=.returned (.int .i64 (m:Int))∧(TabTo T bs' T' (cnt 0)∧Means T' 0 a xs m)∧Own B w0 (tabL 145 3 147 q c bs' T'++hs) w':=by
 refine fnStartC (Own B w0 (tabL 145 3 147 q c bs T++hs)) (n:=56) (e:=[(0,.agg #[sl_ q 997 997,sl_ c 1 1]),(1,vS a),(2,va),(3,i6_ 0)]) Tryd.func41 Z Z Z Z Ends.both hw ?_
 have hc0:cnt 0=1:=rfl
 have hbits:(atomBits a xs).length≤175:=bits_small (by omega)
 have hd0:=decS_len 0 12 (by decide) (by decide);refine zD (zS (yE (v:=.agg #[sl_ q 997 997,sl_ c 1 1]) Z Z Z Z Z fun p4 hp4=>?_))
 show Ll _ _ (Own _ _ (_::_::_::(blks 147 bs++hs))) _ _ ((4,pt_ p4)::_) _ _ _;refine yE (v:=vS a) Z Z Z Z Z fun p5 hp5=>?_
 show Ll _ _ (Own _ _ (_::_::_::_::(blks 147 bs++hs))) _ _ ((5,pt_ p5)::_) _ _ _;refine qB 1 Z (zN (zC [2,3,4,5] [_,_,_,_] Z (zD (zA (zE Z (zV (cs:=#[i6_ a.n,str a.set,str a.rel]) 0 Z zQ Z Z zP) (zB 1 Z (zE (v:=str (atomBits a xs)) Z (qH Z Tryd.call82 Z zW (fun w1 hw1=>l5Atoms_ok a va xs w1 ha (hva _ (qF (f:=bk_ p5 #[i6_ a.n,str a.set,str a.rel] 24::bk_ p4 #[sl_ q 997 997,sl_ c 1 1] 59::bk_ q ((bs.map bktV).toArray) 145::bk_ c #[i6_ (T.length:Int)] 3::blks 147 (bs)) hw1)) hA (by first | (simp;done) | (simp;omega) | omega))) (zB 1 Z (zG (zC [2,3,4,5,9] [_,_,_,_,_] Z (zD (zD (zA (zB 2 Z (zG (zC [2,3,4,5,9,17] [_,_,_,_,_,_] Z (qT (b:=decide ((0:Int)<(0:Int))) Z (fun h17=>?_) (fun h17=>?_))))))))))))))))))
 ·
  replace h17:=zL h17
  exact absurd h17 (by decide)
 replace h17:=zJ h17;refine qK (zC [3,4,9] [_,_,_] Z (zD (Wk.regionS (S:=Own B w0 [bk_ p5 #[i6_ a.n,str a.set,str a.rel] 24,bk_ p4 #[sl_ q 997 997,sl_ c 1 1] 59]) [(0,true),(1,true),(4,true),(2,false),(3,true),(5,true),(6,false),(7,true)] yO (fun _ h=>h.drawn) (by kernel_rfl) (xK Z Z Z Z Z (zV (cs:=#[sl_ q 997 997,sl_ c 1 1]) 1 Z Tryd.isAgg59 Z Z Tryd.sizeOf59) (pk [0,1] Z Z) (jE 2 Z (pk [0,1] Z Z) (xQ Z (qG (v:=str (decS 0)) Z (yG Z (qH Z Tryd.call85 Z zW (fun w1 hw1=>l15Dec_ok 0 w1 (by omega) (by omega)))) (zN (xI (pk [0,1] Z Z) ?_)))))))));refine xK Z Z Z Z Z (yH Z Z Z (by simp only [zT,qL,qM];omega)) (pk [0,1] Z Z) (xK Z Z Z Z Z (yH Z Z Z (by simp only [zT,qL,qM];omega)) (pk [0,1] Z Z) (xQ Z (Ll.callTab (S:=145) (I:=3) (E:=147) (q:=q) (c:=c) (bs:=bs) (T:=T) (hs:=hs) (ok:=fun m bs' T'=>TabTo T bs' T' 1∧T'[m]?=some (((decS 0)++([58]))++(atomBits a xs))) (xs:=[.tmp 49,.tmp 54]) (vs:=[.agg #[sl_ q 997 997,sl_ c 1 1],str (((decS 0)++([58]))++(atomBits a xs))]) [bk_ p5 #[i6_ a.n,str a.set,str a.rel] 24,bk_ p4 #[sl_ q 997 997,sl_ c 1 1] 59] Z Z Z Z Tryd.call86 Z (fun w1 hw1=>number_ok B w0 ([bk_ p5 #[i6_ a.n,str a.set,str a.rel] 24,bk_ p4 #[sl_ q 997 997,sl_ c 1 1] 59]++hs) q c bs T (((decS 0)++([58]))++(atomBits a xs)) w1 hT (by omega) (by simp only [zT,qL,qM];omega) hw1) fun m bs_ T_ hKm=>?_)))
 show Ll _ _ (Own _ _ (_::_::_::_::(blks 147 bs_++hs))) _ _ ((55,i6_ (m:Int))::_) _ _ _;refine zN (xI (pk [0,1] Z Z) ?_);refine jE 1 Z (pk [0,1] Z Z) (Ld.nil (zC [8] [_] Z (qE (zY Z Z fun w' hw=>?_))))
 exact ⟨m,bs_,T_,rfl,⟨hKm.1,by show _=some (descr 0 _ []);simpa [descr,commas] using hKm.2⟩,hw.drop (f:=[bk_ p5 #[i6_ a.n,str a.set,str a.rel] 24,bk_ p4 #[sl_ q 997 997,sl_ c 1 1] 59])⟩
set_option maxHeartbeats 400000 in
theorem type_of (n:Nat) (ih:∀ (B:Nat) (w0:World) (hs:List (Nat×Obj)) (q c:Nat) (bs:List Bkt) (T:List (List UInt8)) (a:St) (va:Value) (xs:List Int) (w:World),TabOk bs T→a.Fine→(∀ w,Own B w0 hs w→Ints w va xs)→a.Els xs→xs.length+n≤7→T.length+cnt n≤1000000→Own B w0 (tabL 145 3 147 q c bs T++hs) w→Calls Tryd.prog 41 #[.agg #[.slice (some ⟨q,0,none⟩) 997 997,.slice (some ⟨c,0,none⟩) 1 1],vS a,va,.int .i64 (n:Int)] w fun en w'=>∃ (m:Nat) (bs':List Bkt) (T':List (List UInt8)),en=.returned (.int .i64 (m:Int))∧(TabTo T bs' T' (cnt n)∧Means T' n a xs m)∧Own B w0 (tabL 145 3 147 q c bs' T'++hs) w') (B:Nat) (w0:World) (hs:List (Nat×Obj)) (q c:Nat) (bs:List Bkt) (T:List (List UInt8)) (a:St) (va:Value) (xs:List Int) (w:World) (hT:TabOk bs T) (ha:a.Fine) (hva:∀ w,Own B w0 hs w→Ints w va xs) (hA:a.Els xs) (h7:xs.length+(n+1)≤7) (hcap:T.length+cnt (n+1)≤1000000) (hw:Own B w0 (tabL 145 3 147 q c bs T++hs) w) :
    Calls Tryd.prog 41 [.agg #[sl_ q 997 997,sl_ c 1 1],vS a,va,i6_ ((n:Int)+1)].toArray w fun en w'=>∃ (m:Nat) (bs':List Bkt) (T':List (List UInt8)),en=.returned (.int .i64 (m:Int))∧(TabTo T bs' T' (cnt (n+1))∧Means T' (n+1) a xs m)∧Own B w0 (tabL 145 3 147 q c bs' T'++hs) w':=by
 refine fnStartC (Own B w0 (tabL 145 3 147 q c bs T++hs)) (n:=56) (e:=[(0,.agg #[sl_ q 997 997,sl_ c 1 1]),(1,vS a),(2,va),(3,i6_ ((n:Int)+1))]) Tryd.func41 Z Z Z Z Ends.both hw ?_
 have hcs:=cnt_succ n
 have hbits:(atomBits a xs).length≤175:=bits_small (by omega)
 have hm8:=ha.hi
 have hm1:=ha.lo
 have hdn:=decS_len (n+1) 12 (show n+1<1000000000000 by omega) (by decide);refine zD (zS (yE (v:=.agg #[sl_ q 997 997,sl_ c 1 1]) Z Z Z Z Z fun p4 hp4=>?_))
 show Ll _ _ (Own _ _ (_::_::_::(blks 147 bs++hs))) _ _ ((4,pt_ p4)::_) _ _ _;refine yE (v:=vS a) Z Z Z Z Z fun p5 hp5=>?_
 show Ll _ _ (Own _ _ (_::_::_::_::(blks 147 bs++hs))) _ _ ((5,pt_ p5)::_) _ _ _;refine qB 1 Z (zN (zC [2,3,4,5] [_,_,_,_] Z (zD (zA (zE Z (zV (cs:=#[i6_ a.n,str a.set,str a.rel]) 0 Z zQ Z Z zP) (zB 1 Z (zE (v:=str (atomBits a xs)) Z (qH Z Tryd.call82 Z zW (fun w1 hw1=>l5Atoms_ok a va xs w1 ha (hva _ (qF (f:=bk_ p5 #[i6_ a.n,str a.set,str a.rel] 24::bk_ p4 #[sl_ q 997 997,sl_ c 1 1] 59::bk_ q ((bs.map bktV).toArray) 145::bk_ c #[i6_ (T.length:Int)] 3::blks 147 (bs)) hw1)) hA (by first | (simp;done) | (simp;omega) | omega))) (zB 1 Z (zG (zC [2,3,4,5,9] [_,_,_,_,_] Z (zD (zD (zA (zB 2 Z (zG (zC [2,3,4,5,9,17] [_,_,_,_,_,_] Z (qT (b:=decide ((0:Int)<((n:Int)+1))) Z (fun h17=>?_) (fun h17=>?_))))))))))))))))))
 ·
  replace h17:=zL h17;refine zD (zS (qV (xs:=[]) (vs:=[]) qA Z Z Z Z Z Z (by decide) Z fun p18 hp18=>(qB 1 Z (zN (zC [2,3,4,5,9,10] [_,_,_,_,_,_] Z (zD (zD (zA (zB 1 Z (zG (zC [2,3,4,5,9,10,11] [_,_,_,_,_,_,_] Z (qI (yP (σ:=Nat×List Bkt×List (List UInt8)×Nat×Nat×Array Value×List Int) (fun ⟨k,bs1,T1,g,cap,cur,L⟩=>(k:Int)≤a.n∧TabTo T bs1 T1 (k*cnt n)∧FoundL T1 n a xs L k∧cur.size=cap*1∧L.length≤cap∧cur.toList.take L.length=ints L) (fun ⟨k,bs1,T1,g,cap,cur,L⟩=>[(2,va),(3,i6_ ((n:Int)+1)),(4,pt_ p4),(5,pt_ p5),(9,str (atomBits a xs)),(10,sl_ g L.length cap),(11,i6_ (k:Int))]) (fun ⟨k,bs1,T1,g,cap,cur,L⟩=>Own B w0 (bk_ g cur 3::bk_ p5 #[i6_ a.n,str a.set,str a.rel] 24::bk_ p4 #[sl_ q 997 997,sl_ c 1 1] 59::bk_ q ((bs1.map bktV).toArray) 145::bk_ c #[i6_ (T1.length:Int)] 3::(blks 147 bs1++hs))) (fun ⟨k,bs1,T1,g,cap,cur,L⟩=>(a.n - k).toNat) (0,bs,T,p18,0,#[],[]) ⟨by omega,⟨hT,List.prefix_refl _,by omega⟩,FoundL.zero,rfl,Nat.le_refl _,rfl⟩ (Sub.sel [2,3,4,5,9,10,11] Z) (fun _ h=>h) ?_)))))))))))))
  rintro ⟨k,bs1,T1,g,cap,cur,L⟩ ⟨hk,hTT,hF,hc,hle,ht⟩
  dsimp only
  have hFl:=hF.len
  have hTl:=hTT.len
  have hk8:=cnt_le k n (by omega);refine zD (zD (zA (zB 1 Z (zE Z (zM Z zK Z zR Z Z) (zE Z (zO 1 Z zX Z Z Z) (zB 1 Z (zG (zC [2,3,4,5,9,10,11,22] [_,_,_,_,_,_,_,_] Z (qT (b:=decide ((k:Int)<a.n)) Z (fun h22=>?_) (fun h22=>?_))))))))))
  ·
   replace h22:=zL h22
   have hx:a.El k:=⟨by omega,by omega⟩
   have hk8b:=cnt_le (k+1) n (by omega)
   rw [Nat.add_mul,Nat.one_mul] at hk8b;refine qK (zC [2,3,4,5,9,10,11] [_,_,_,_,_,_,_] Z (zD (qI (Wk.regionS (S:=Own B w0 [bk_ p5 #[i6_ a.n,str a.set,str a.rel] 24,bk_ p4 #[sl_ q 997 997,sl_ c 1 1] 59]) [(0,true),(1,true),(2,true),(3,true),(4,true),(6,true),(7,true),(5,false),(8,false),(9,false),(10,true)] yO (fun _ h=>h.drawn) (by kernel_rfl) (jE 1 Z (pk [1,2] Z Z) (xK Z Z Z Z Z (zV (cs:=#[sl_ q 997 997,sl_ c 1 1]) 1 Z Tryd.isAgg59 Z Z Tryd.sizeOf59) (pk [1,2] Z Z) (xK Z Z Z Z Z (zV (cs:=#[i6_ a.n,str a.set,str a.rel]) 0 Z zQ Z Z zP) (pk [1,2] Z Z) (jE 3 Z (pk [1,2] Z Z) (xK (v:=i6_ (n:Int)) Z Z Z Z Z (yG (by congr 1;omega) (OpQ.sub Z Z Z (by omega) (by omega))) (pk [1,2] Z Z) (xQ Z (Ll.callRow (xs:=[.tmp 28,.tmp 29]) (m:=(xs++[(k:Int)]).length) (vs:=ints (xs++[(k:Int)])) (el:=3) (size:=1) Z Z Z Z Tryd.call84 Z (fun w1 hw1=>l4With_ok va xs (k:Int) w1 (hva _ (qF (f:=bk_ g cur 3::bk_ p5 #[i6_ a.n,str a.set,str a.rel] 24::bk_ p4 #[sl_ q 997 997,sl_ c 1 1] 59::bk_ q ((bs1.map bktV).toArray) 145::bk_ c #[i6_ (T1.length:Int)] 3::blks 147 (bs1)) hw1)) (by omega)) fun p30 cap30 cur30 hp30 hcp30 hlp30 htp30=>(zN (xI (pk [2,3] Z Z) ?_)))))))))))));refine xQ Z (Ll.callTab (S:=145) (I:=3) (E:=147) (q:=q) (c:=c) (bs:=bs1) (T:=T1) (hs:=hs) (ok:=fun m bs' T'=>TabTo T1 bs' T' (cnt n)∧Means T' n a (xs++[(k:Int)]) m) (xs:=[.tmp 26,.tmp 27,.tmp 30,.tmp 32]) (vs:=[.agg #[sl_ q 997 997,sl_ c 1 1],vS a,sl_ p30 ((xs++[(k:Int)]).length) cap30,i6_ (n:Int)]) [bk_ p30 cur30 3,bk_ g cur 3,bk_ p5 #[i6_ a.n,str a.set,str a.rel] 24,bk_ p4 #[sl_ q 997 997,sl_ c 1 1] 59] Z Z Z Z Tryd.call41 Z (fun w1 hw1=>ih B w0 ([bk_ p30 cur30 3,bk_ g cur 3,bk_ p5 #[i6_ a.n,str a.set,str a.rel] 24,bk_ p4 #[sl_ q 997 997,sl_ c 1 1] 59]++hs) q c bs1 T1 a (sl_ p30 ((xs++[(k:Int)]).length) cap30) (xs++[(k:Int)]) w1 hTT.ok ha (fun w2 hw2=>(yB hw2 (i:=0) Z (by simpa using htp30) (by simp) hlp30)) (els_more hA hx) (by first | (simp;done) | (simp;omega) | omega) (by omega) hw1) fun m bs_ T_ hKm=>?_)
   show Ll _ _ (Own _ _ (_::_::_::_::_::_::(blks 147 bs_++hs))) _ _ ((33,i6_ (m:Int))::_) _ _ _;refine zN (xI (pk [2,3] Z Z) ?_);refine xQ Z (Ll.callGet (σ:=Nat×Nat×Array Value) (ok:=fun (g,c',u)=>u.size=c'*1∧(insS L (m:Int)).length≤c'∧u.toList.take (insS L (m:Int)).length=ints (insS L (m:Int))) (v:=fun (g,c',u)=>.slice (some ⟨g,0,none⟩) (insS L (m:Int)).length c') (xs:=[.tmp 25,.tmp 33]) (vs:=[sl_ g L.length cap,i6_ (m:Int)]) (hs':=fun (g,c',u)=>(bk_ p30 cur30 3::bk_ g u 3::bk_ p5 #[i6_ a.n,str a.set,str a.rel] 24::bk_ p4 #[sl_ q 997 997,sl_ c 1 1] 59::bk_ q ((bs_.map bktV).toArray) 145::bk_ c #[i6_ (T_.length:Int)] 3::(blks 147 bs_++hs))) Z Z Z Z Tryd.call83 Z (fun w1 hw1=>(l5Insert_ok _ _ _ g cap cur L (m:Int) w1 hc hle ht (by omega) (hw1.perm (perm_back [bk_ p30 cur30 3] [_] _))).mono fun en w' ⟨g',cap',cur',h1,h2,h3⟩=>⟨(g',cap',cur'),h1,h2,h3.perm (perm_back [_] [bk_ p30 cur30 3] _)⟩) fun ⟨g_,cap_,cur_⟩ ⟨hcg_,hlg_,htg_⟩=>?_)
   show Ll _ _ (Own _ _ (_::_::_::_::_::_::(blks 147 bs_++hs))) _ _ ((34,sl_ g_ ((insS L (m:Int)).length) cap_)::_) _ _ _;refine zN (xI (pk [2,3] Z Z) ?_);refine jE 1 Z (pk [2,3] Z Z) (Ld.nil (zC [2,3,4,5,9,10,11] [_,_,_,_,_,_,_] Z (zA (zB 1 Z (zE Z (qR Z Z Z (by omega) (by omega)) (zB 1 Z (zG (qW ((k+1,bs_,T_,g_,cap_,cur_,(insS L (m:Int)))) ⟨by omega,hTT.trans hKm.1 (by rw [Nat.add_mul,Nat.one_mul];exact Nat.le_refl _),hF.step hKm.1.pre hKm.2,hcg_,hlg_,htg_⟩ (by omega) (Sub.sel [2,3,4,5,9,10,11] Z) (fun _ h=>h.tail)))))))))
  replace h22:=zJ h22
  have hsm:=hF.small (by omega);refine yK Z (zC [3,4,9,10] [_,_,_,_] Z (zD (zA (zB 1 Z (zG (zC [3,4,9,10,12] [_,_,_,_,_] Z (qI (yP (σ:=Nat) (fun i=>i≤L.length) (fun i=>[(3,i6_ ((n:Int)+1)),(4,pt_ p4),(9,str (atomBits a xs++commas (L.take i))),(10,sl_ g L.length cap),(12,i6_ (i:Int))]) (fun i=>Own B w0 (bk_ g cur 3::bk_ p5 #[i6_ a.n,str a.set,str a.rel] 24::bk_ p4 #[sl_ q 997 997,sl_ c 1 1] 59::bk_ q ((bs1.map bktV).toArray) 145::bk_ c #[i6_ (T1.length:Int)] 3::(blks 147 bs1++hs))) (fun i=>L.length - i) (0) (by omega) (Sub.cons Z (Sub.cons Z (Sub.cons (by simp [commas,List.lookup]) (Sub.sel [10,12] Z)))) (fun _ h=>h) ?_))))))))
  rintro i hi;refine zD (zD (zA (zB 2 Z (zE Z (jD Z zI Z) (zB 1 Z (zG (zC [3,4,9,10,12,38] [_,_,_,_,_,_] Z (qT (b:=decide ((i:Int)<(L.length:Int))) Z (fun h38=>?_) (fun h38=>?_)))))))))
  ·
   replace h38:=zL h38
   have hct:=commas_take (i:=i) hsm (by omega)
   obtain ⟨hs0,hs1⟩:=at_small hsm (i:=i) (by omega)
   have hdi:=decS_len (L.getD i 0).toNat 12 (show _<1000000000000 by omega) (by decide);refine qK (zC [3,4,9,10,12] [_,_,_,_,_] Z (zD (qI (zA (zB 1 Z (zE Z (yH Z Z Z (by simp only [zT,qL,qM];omega)) (zB 2 Z (zE (v:=pf_ g i) Z (yG (by simp) (qU Z zI zR Z Z (by omega) (by omega))) (zE (v:=i6_ (L.getD (i) 0)) Z (yV 0 Z zX Z Z (cur_at ht (ints_at2 (by omega)))) (zE (v:=str (decS (L.getD (i) 0).toNat)) Z (qH Z Tryd.call85 Z zW (fun w1 hw1=>l15Dec_ok (L.getD (i) 0) w1 (by omega) (by omega))) (zE Z (yH Z Z Z (by simp only [zT,qL,qM,Int.toNat_natCast] at *;omega)) (zB 1 Z (zG (zC [3,4,9,10,12] [_,_,_,_,_] Z (zA (zB 1 Z (zE Z (qR Z Z Z (by omega) (by omega)) (zB 1 Z (zG (qW (i+1) (by omega) (by omega) (Sub.cons Z (Sub.cons Z (Sub.cons (by rw [commas_step (by omega)];rfl) (Sub.sel [10,12] Z)))) (fun _ h=>h)))))))))))))))))))))
  replace h38:=zJ h38
  obtain rfl:i=L.length:=by omega
  rw [List.take_length]
  have hcl:=commas_len hsm;refine yK Z (zC [3,4,9] [_,_,_] Z (zD (Wk.regionS (S:=Own B w0 [bk_ g cur 3,bk_ p5 #[i6_ a.n,str a.set,str a.rel] 24,bk_ p4 #[sl_ q 997 997,sl_ c 1 1] 59]) [(0,true),(1,true),(4,true),(2,false),(3,true),(5,true),(6,false),(7,true)] yO (fun _ h=>h.drawn) (by kernel_rfl) (xK Z Z Z Z Z (zV (cs:=#[sl_ q 997 997,sl_ c 1 1]) 2 Z Tryd.isAgg59 Z Z Tryd.sizeOf59) (pk [0,1,2] Z Z) (jE 2 Z (pk [0,1,2] Z Z) (xQ Z (qG (v:=str (decS (n+1))) Z (yG (by rw [show ((n:Int)+1).toNat=n+1 from by omega]) (qH Z Tryd.call85 Z zW (fun w1 hw1=>l15Dec_ok ((n:Int)+1) w1 (by omega) (by omega)))) (zN (xI (pk [0,1,2] Z Z) ?_)))))))));refine xK Z Z Z Z Z (yH Z Z Z (by simp only [zT,qL,qM];omega)) (pk [0,1,2] Z Z) (xK Z Z Z Z Z (yH Z Z Z (by simp only [zT,qL,qM];omega)) (pk [0,1,2] Z Z) (xQ Z (Ll.callTab (S:=145) (I:=3) (E:=147) (q:=q) (c:=c) (bs:=bs1) (T:=T1) (hs:=hs) (ok:=fun m bs' T'=>TabTo T1 bs' T' 1∧T'[m]?=some (((decS (n+1))++([58]))++(atomBits a xs++commas L))) (xs:=[.tmp 49,.tmp 54]) (vs:=[.agg #[sl_ q 997 997,sl_ c 1 1],str (((decS (n+1))++([58]))++(atomBits a xs++commas L))]) [bk_ g cur 3,bk_ p5 #[i6_ a.n,str a.set,str a.rel] 24,bk_ p4 #[sl_ q 997 997,sl_ c 1 1] 59] Z Z Z Z Tryd.call86 Z (fun w1 hw1=>number_ok B w0 ([bk_ g cur 3,bk_ p5 #[i6_ a.n,str a.set,str a.rel] 24,bk_ p4 #[sl_ q 997 997,sl_ c 1 1] 59]++hs) q c bs1 T1 (((decS (n+1))++([58]))++(atomBits a xs++commas L)) w1 hTT.ok (by omega) (by simp only [zT,qL,qM];omega) hw1) fun m_1 bs__1 T__1 hKm_1=>?_)))
  show Ll _ _ (Own _ _ (_::_::_::_::_::(blks 147 bs__1++hs))) _ _ ((55,i6_ (m_1:Int))::_) _ _ _;refine zN (xI (pk [0,1,2] Z Z) ?_);refine jE 1 Z (pk [0,1,2] Z Z) (Ld.nil (zC [8] [_] Z (qE (zY Z Z fun w' hw=>?_))))
  obtain rfl:k=a.n.toNat:=by omega
  exact ⟨m_1,bs__1,T__1,rfl,⟨hTT.trans hKm_1.1 (by rw [cnt_succ];omega),hF.means hKm_1.1.pre hKm_1.2⟩,hw.drop (f:=[bk_ g cur 3,bk_ p5 #[i6_ a.n,str a.set,str a.rel] 24,bk_ p4 #[sl_ q 997 997,sl_ c 1 1] 59])⟩
 replace h17:=zJ h17
 exact absurd h17 (by omega)
theorem type_ok:∀ n:Nat,∀ (B:Nat) (w0:World) (hs:List (Nat×Obj)) (q c:Nat) (bs:List Bkt) (T:List (List UInt8)) (a:St) (va:Value) (xs:List Int) (w:World),TabOk bs T→a.Fine→(∀ w,Own B w0 hs w→Ints w va xs)→a.Els xs→xs.length+n≤7→T.length+cnt n≤1000000→Own B w0 (tabL 145 3 147 q c bs T++hs) w→Calls Tryd.prog 41 #[.agg #[.slice (some ⟨q,0,none⟩) 997 997,.slice (some ⟨c,0,none⟩) 1 1],vS a,va,.int .i64 (n:Int)] w fun en w'=>∃ (m:Nat) (bs':List Bkt) (T':List (List UInt8)),en=.returned (.int .i64 (m:Int))∧(TabTo T bs' T' (cnt n)∧Means T' n a xs m)∧Own B w0 (tabL 145 3 147 q c bs' T'++hs) w'
  | 0=>fun B w0 hs q c bs T a va xs w hT ha hva hA h7 hcap hw=>type_zero B w0 hs q c bs T a va xs w hT ha hva hA h7 hcap hw
  | n+1=>fun B w0 hs q c bs T a va xs w hT ha hva hA h7 hcap hw=>type_of n (type_ok n) B w0 hs q c bs T a va xs w hT ha hva hA h7 hcap hw
theorem type_at (r:Int) (h0:0≤r):∀ (B:Nat) (w0:World) (hs:List (Nat×Obj)) (q c:Nat) (bs:List Bkt) (T:List (List UInt8)) (a:St) (va:Value) (xs:List Int) (w:World),TabOk bs T→a.Fine→(∀ w,Own B w0 hs w→Ints w va xs)→a.Els xs→xs.length+r.toNat≤7→T.length+cnt r.toNat≤1000000→Own B w0 (tabL 145 3 147 q c bs T++hs) w→Calls Tryd.prog 41 #[.agg #[.slice (some ⟨q,0,none⟩) 997 997,.slice (some ⟨c,0,none⟩) 1 1],vS a,va,.int .i64 r] w fun en w'=>∃ (m:Nat) (bs':List Bkt) (T':List (List UInt8)),en=.returned (.int .i64 (m:Int))∧(TabTo T bs' T' (cnt r.toNat)∧Means T' r.toNat a xs m)∧Own B w0 (tabL 145 3 147 q c bs' T'++hs) w':=by
  have h:=type_ok r.toNat
  rw [Int.toNat_of_nonneg h0] at h
  exact h
end Go.Proofs.YtagbocafnliabaaDoor
namespace Go.Proofs.YtagbocafnliabaaDoor
open Go.RowKit Go.Wk
set_option linter.unusedSimpArgs false
set_option maxHeartbeats 400000 in
theorem cc1_ok (a:St) (g h p gL cap T1 T2 T3:Nat) (cur:Array Value) (rr:List RR) (r:Int) (wd y x:Nat) (w:World) (hg:w.heap[g]?=some (.cells #[.int .i64 a.n,str a.set,str a.rel] T1 (0,0))) (hh:w.heap[h]?=some (.cells #[.int .i64 r] T2 (0,0))) (hp:w.heap[p]?=some (.cells #[.slice (some ⟨gL,0,none⟩) rr.length cap] T3 (0,0))) (hL:w.heap[gL]?=some (.cells cur 27 (0,0))) (hR:RowsOk rr cur cap) (hX:rr.map RR.xs=listsL a.n.toNat wd) (hrow:∀ e∈rr,w.heap[e.g]?=some (.cells e.cur 3 (0,0))) (ha:a.Fine) (h0:0≤r) (h3:r≤3) (hwd:wd≤3) (hyl:y<rr.length) (hxl:x<rr.length) :
    Calls Tryd.prog 48 [i6_ (y:Int),i6_ (x:Int),.pointer (some ⟨g,0,none⟩),.pointer (some ⟨p,0,none⟩),.pointer (some ⟨h,0,none⟩)].toArray w fun en w'=>en=.returned (.bool (winB r.toNat a (rr.getD y rd).xs a (rr.getD x rd).xs))∧Below w.heap.size w w':=by
 refine fnStart (n:=20) (e:=[(0,i6_ (y:Int)),(1,i6_ (x:Int)),(2,.pointer (some ⟨g,0,none⟩)),(3,.pointer (some ⟨p,0,none⟩)),(4,.pointer (some ⟨h,0,none⟩))]) Tryd.func48 Z Z Z Z Ends.both ?_
 have hry:=row_in hR.ok hrow hyl
 have hrx:=row_in hR.ok hrow hxl
 have hm1:=ha.lo
 have hyp:=rows_point (by omega) hX hyl
 have hxp:=rows_point (by omega) hX hxl
 have hyn:(rr.getD y rd).xs.length=wd:=by rw [hyp,pointL_length]
 have hxn:(rr.getD x rd).xs.length=wd:=by rw [hxp,pointL_length]
 refine zD (zA (zB 1 Z (zG (zC [0,1,2,3,4] [_,_,_,_,_] Z (zD (xR yO (fun _ h=>h.drawn) (by kernel_rfl) (zE (v:=vS a) Z (OpQ.loadN (cs:=#[i6_ a.n,str a.set,str a.rel]) Z zQ zP Z (fun w1 hw1 j v hj=>box_cells hg hw1 j v hj)) (zE (v:=sl_ gL rr.length cap) Z (qX Z Tryd.isAgg63 Z (fun w1 hw1=>by have:=box_cells hp hw1 0 (sl_ gL rr.length cap) rfl;rwa [Addr.add_lit] at this)) (zB 1 Z (zE (v:=pf_ gL y) Z (yG (v':=pf_ gL y) (by simp) (qU (i:=(y:Int)) Z xO xG Z Z (by omega) (by omega))) (zE (v:=rv (rr.getD y rd)) Z (qX Z yX Z (fun w1 hw1=>by have:=box_cells hL hw1 y (rv (rr.getD y rd)) (by have:=rvs_at (rr:=rr) (i:=y) hyl;rw [← hR.vals,List.getElem?_take,if_pos hyl] at this;exact this);rwa [Addr.add_lit,Nat.zero_add] at this)) ?_)))))))))));refine zE (v:=vS a) Z (OpQ.loadN (cs:=#[i6_ a.n,str a.set,str a.rel]) Z zQ zP Z (fun w1 hw1 j v hj=>box_cells hg hw1 j v hj)) (zE (v:=sl_ gL rr.length cap) Z (qX Z Tryd.isAgg63 Z (fun w1 hw1=>by have:=box_cells hp hw1 0 (sl_ gL rr.length cap) rfl;rwa [Addr.add_lit] at this)) (zB 1 Z (zE (v:=pf_ gL x) Z (yG (v':=pf_ gL x) (by simp) (qU (i:=(x:Int)) Z xO xG Z Z (by omega) (by omega))) (zE (v:=rv (rr.getD x rd)) Z (qX Z yX Z (fun w1 hw1=>by have:=box_cells hL hw1 x (rv (rr.getD x rd)) (by have:=rvs_at (rr:=rr) (i:=x) hxl;rw [← hR.vals,List.getElem?_take,if_pos hxl] at this;exact this);rwa [Addr.add_lit,Nat.zero_add] at this)) ?_))));refine zE (v:=i6_ r) Z (qX Z zX Z (fun w1 hw1=>by have:=box_cells hh hw1 0 (i6_ r) rfl;rwa [Addr.add_lit] at this)) (zE (v:=bo_ (winB r.toNat a ((rr.getD y rd).xs) a ((rr.getD x rd).xs))) Z (qH Z Tryd.call37 Z zW (fun w1 hw1=>wins_ok a a ((rr.getD y rd).xs) ((rr.getD x rd).xs) (rv (rr.getD y rd)) (rv (rr.getD x rd)) w1 ha ha (Row.own hry hw1) (Row.own hrx hw1) (by rw [hyp];exact point_els ha _ _) (by rw [hxp];exact point_els ha _ _) (by omega) (by omega) r (by omega) (by omega))) (zB 1 Z (zG (zC [7] [_] Z (qE (zY Z Z fun w' hw=>?_))))))
 exact ⟨rfl,hw.below⟩
set_option maxHeartbeats 400000 in
theorem slMax_ok (va:Value) (xs:List Int) (w:World) (hva:Ints w va xs) (hne:0<xs.length) (hs:xs.length≤100000) :
    Calls Tryd.prog 47 [va].toArray w fun en w'=>en=.returned (.int .i64 (maxTo xs (xs.length - 1)))∧Below w.heap.size w w':=by
 refine fnStart (n:=25) (e:=[(0,va)]) Tryd.func47 Z Z Z Z Ends.both (zD (zA (zB 1 Z (zG (zC [0] [_] Z (zD (zD (zA (zB 1 Z (zE (v:=i6_ (xs.length:Int)) Z (yF Z zI Z (ints_length _) (fun w1 hw1=>Row.own hva hw1)) (zB 1 Z (zG (zC [0,7] [_,_] Z (qT (b:=decide ((xs.length:Int)<(1:Int))) Z (fun h7=>?_) (fun h7=>?_)))))))))))))))
 ·
  replace h7:=zL h7
  omega
 replace h7:=zJ h7;refine qK (zC [0] [_] Z (zD (zA (zB 1 Z (zE (v:=.pointer (some (sAt va 0))) Z (yD Z zI zR Z Z (by omega) (by rw [ints_length];omega) (fun w1 hw1=>Row.own hva hw1)) (zE (v:=i6_ (xs.getD ((0:Int).toNat) 0)) Z (qX Z zX Z (fun w1 hw1=>Ints.cell (Row.own hva hw1) (by omega) (by omega))) (zB 1 Z (zG (zC [0,3] [_,_] Z (zD (zD (zA (zB 1 Z (zG (zC [0,3,4] [_,_,_] Z (qI (yP (σ:=Nat) (fun k=>k+1≤xs.length) (fun k=>[(0,va),(3,i6_ (maxTo xs k)),(4,i6_ ((k:Int)+1))]) (fun k=>Own w.heap.size w []) (fun k=>xs.length - k) (0) (by omega) (Sub.cons Z (Sub.cons Z (Sub.cons Z Sub.nil))) (fun _ h=>h) ?_)))))))))))))))))
 rintro k hk;refine zD (zD (zA (zB 2 Z (zE (v:=i6_ (xs.length:Int)) Z (yF Z zI Z (ints_length _) (fun w1 hw1=>Row.own hva hw1)) (zB 1 Z (zG (zC [0,3,4,15] [_,_,_,_] Z (yY Z (fun h15=>?_) (fun h15=>?_)))))))))
 ·
  refine qK (zC [0,3,4] [_,_,_] Z (zD (qI (zA (zB 3 Z (zE (v:=.pointer (some (sAt va ((k:Int)+1)))) Z (yD Z zI zR Z Z (by omega) (by rw [ints_length];omega) (fun w1 hw1=>Row.own hva hw1)) (zE (v:=i6_ (xs.getD (k+1) 0)) Z (yG (by rw [show ((k:Int)+1).toNat=k+1 from by omega]) (qX Z zX Z (fun w1 hw1=>Ints.cell (Row.own hva hw1) (by omega) (by omega)))) (zE (v:=i6_ (if (xs.getD (k+1) 0) > (maxTo xs k) then (xs.getD (k+1) 0) else (maxTo xs k))) Z (OpQ.max2 Z Z Z) (zB 1 Z (zG (zC [0,3,4] [_,_,_] Z (zA (zB 1 Z (zE Z (qR Z Z Z (by omega) (by omega)) (zB 1 Z (zG (qW (k+1) (by omega) (by omega) (Sub.cons Z (Sub.cons (by rw [maxTo];rfl) (Sub.cons (by simp [List.lookup]) Sub.nil))) (fun _ h=>h))))))))))))))))))
 refine yK Z (zC [3] [_] Z (zD (zA (zB 2 Z (zG (zC [2] [_] Z (qE (zY Z Z fun w' hw=>?_))))))))
 exact ⟨ret_i (by rw [show xs.length - 1=k from by omega]),hw.below⟩
set_option maxHeartbeats 400000 in
theorem classesBy_ok (N:Int) (w:World) (hN:N≤100000) (F:FuncId) (caps:Array Value) (q:Nat→Nat→Bool) (hF:∀ args w,(callFunc F args).run Tryd.prog w=.ok (.enter F args) w) (hq:∀ w1,Below w.heap.size w w1→∀ y x:Nat,y<N.toNat→x<N.toNat→Calls Tryd.prog F (#[.int .i64 y,.int .i64 x]++caps) w1 fun en w'=>en=.returned (.bool (q y x))∧Below w1.heap.size w1 w') :
    Calls Tryd.prog 35 [i6_ N,.func (.func F) #[] caps].toArray w fun en w'=>∃ v,en=.returned v∧Below w.heap.size w w'∧NewRow w.heap.size 3 1 w' v (clsN q N.toNat).1.length (ints (clsN q N.toNat).1):=by
 refine fnStart (n:=39) (e:=[(0,i6_ N),(1,.func (.func F) #[] caps)]) Tryd.func35 Z Z Z Z Ends.both (zD (zA (zB 1 Z (zG (zC [0,1] [_,_] Z (zD (zS (qV (xs:=[]) (vs:=[]) qA Z Z Z Z Z Z (by decide) Z fun p10 hp10=>(qB 1 Z (zN (zC [0,1,5] [_,_,_] Z (zD (zA (zB 1 Z (zG (zC [0,1,5,6] [_,_,_,_] Z (zD (zD (zA (zB 2 Z (zG (zC [1,5,6,11,12] [_,_,_,_,_] Z (qI (yP (σ:=Nat×Nat×Nat×Array Value) (fun ⟨x,g,c,cur⟩=>x≤N.toNat∧cur.size=c*1∧(clsN q x).1.length≤c∧cur.toList.take (clsN q x).1.length=ints (clsN q x).1) (fun ⟨x,g,c,cur⟩=>[(1,.func (.func F) #[] caps),(5,sl_ g ((clsN q x).1.length) c),(6,i6_ ((clsN q x).2:Int)),(11,i6_ N),(12,i6_ (x:Int))]) (fun ⟨x,g,c,cur⟩=>Own w.heap.size w [bk_ g cur 3]) (fun ⟨x,g,c,cur⟩=>N.toNat - x) (0,p10,0,#[]) ⟨by omega,rfl,Nat.le_refl 0,rfl⟩ (Sub.sel [1,5,6,11,12] Z) (fun _ h=>h) ?_))))))))))))))))))))))))
 rintro ⟨x,g,c,cur⟩ ⟨hx,hc,hle,ht⟩
 dsimp only
 have hxl:=cls_length q x
 have hxs:=(cls_small q x).1;refine zD (zA (zB 1 Z (zG (zC [1,5,6,11,12,13] [_,_,_,_,_,_] Z (zD (yY Z (fun h13=>?_) (fun h13=>?_)))))))
 ·
  refine qK (zC [1,5,6,11,12] [_,_,_,_,_] Z (zD (qI (zD (zA (zB 2 Z (zG (zC [1,5,6,7,11,12] [_,_,_,_,_,_] Z (zD (zA (zB 1 Z (zG (zC [1,5,6,7,8,11,12] [_,_,_,_,_,_,_] Z (zD (zD (zA (zB 2 Z (zG (zC [1,5,6,7,8,11,12,15,16] [_,_,_,_,_,_,_,_,_] Z (qI (yP (σ:=Nat) (fun y=>y≤x∧∀ i:Nat,i<y→q i x=false) (fun y=>[(1,.func (.func F) #[] caps),(5,sl_ g ((clsN q x).1.length) c),(6,i6_ ((clsN q x).2:Int)),(7,i6_ (x:Int)),(8,i6_ (-1)),(11,i6_ N),(12,i6_ (x:Int)),(15,i6_ (x:Int)),(16,i6_ (y:Int))]) (fun y=>Own w.heap.size w [bk_ g cur 3]) (fun y=>x - y) (0) ⟨by omega,fun i hi=>absurd hi (by omega)⟩ (Sub.sel [1,5,6,7,8,11,12,15,16] Z) (fun _ h=>h) ?_)))))))))))))))))))))
  rintro y ⟨hy,hall2⟩;refine zD (zA (zB 1 Z (zG (zC [1,5,6,7,8,11,12,15,16,17] [_,_,_,_,_,_,_,_,_,_] Z (zD (yY Z (fun h17=>?_) (fun h17=>?_)))))))
  ·
   refine qK (zC [1,5,6,7,8,11,12,15,16] [_,_,_,_,_,_,_,_,_] Z (zD (qI (zD (zA (zB 2 Z (zG (zC [1,5,6,7,8,9,11,12,15,16] [_,_,_,_,_,_,_,_,_,_] Z (zD (zA (zB 3 Z (zE (v:=bo_ (q y x)) Z (OpQ.callFn Z Z hF Z zW (fun w1 hw1=>hq w1 hw1.below y x (by omega) (by omega))) (zG (zC [1,5,6,7,8,9,11,12,15,16,22] [_,_,_,_,_,_,_,_,_,_,_] Z (qT (b:=q y x) Z (fun h22=>?_) (fun h22=>?_))))))))))))))))
   ·
    have hyx:y<x:=by omega
    have hyn:=cls_at (q:=q) hyx;refine zD (zA (zB 2 Z (zE (v:=pf_ g y) Z (yG (v':=pf_ g y) (by simp) (qU (i:=(y:Int)) Z zI zR Z Z (by omega) (by omega))) (zE (v:=i6_ ((clsN q x).1.getD (y) 0)) Z (yV 0 Z zX Z Z (cur_at ht (ints_at2 (by omega)))) (zB 1 Z (zG (zC [1,5,6,8,11,12] [_,_,_,_,_,_] Z (yK Z (zC [1,5,6,8,11,12] [_,_,_,_,_,_] Z (zD (zD (zA (zB 2 Z (zG (zC [1,5,6,8,11,12,29] [_,_,_,_,_,_,_] Z (qT (b:=decide (((clsN q x).1.getD (y) 0)<(0:Int))) Z (fun h29=>?_) (fun h29=>?_)))))))))))))))))
    ·
     replace h29:=zL h29
     omega
    replace h29:=zJ h29;refine qK (zC [1,5,6,8,11,12] [_,_,_,_,_,_] Z (zS (qB 2 Z (qV (xs:=[.tmp 34]) (vs:=[i6_ ((clsN q x).1.getD (y) 0)]) qA Z Z Z Z Z Z (by decide) Z fun p35 hp35=>(qY (xs:=(clsN q x).1) (ys:=[(clsN q x).1.getD (y) 0]) qA 1 Z Z Z Z Z Z Z hc hle ht (fun w1 hw1=>(yB hw1 (i:=0) Z (n:=1) (cap:=1) (vs:=ints [(clsN q x).1.getD (y) 0]) Z Z (by decide))) ((((clsN q x).1)++([(clsN q x).1.getD (y) 0])).length) (by first | (simp;done) | (simp;omega)) (by first | (simp;done) | (simp;omega) | omega) fun p36 cap36 cur36 hp36 hcp36 hlp36 htp36=>?_)))))
    show Ll _ _ (Own _ _ [_,_]) _ _ ((36,sl_ p36 (((((clsN q x).1)++([(clsN q x).1.getD (y) 0])).length)) cap36)::_) _ _ _;refine qB 1 Z (zN (zC [1,5,6,11,12] [_,_,_,_,_] Z (zA (zE Z (qR Z Z Z (by omega) (by omega)) (zB 1 Z (zG (qW (x+1,p36,cap36,cur36) ⟨by omega,by simpa using hcp36,by rw [cls_old hyx hall2 h22];exact hlp36,by rw [cls_old hyx hall2 h22];simpa using htp36⟩ (by omega) (Sub.cons Z (Sub.cons (by rw [cls_old hyx hall2 h22];rfl) (Sub.cons (by rw [cls_old hyx hall2 h22];first | rfl | (simp [List.lookup];done)) (Sub.sel [11,12] Z)))) (fun _ h=>h.tail))))))))
   refine qK (zC [1,5,6,7,8,11,12,15,16] [_,_,_,_,_,_,_,_,_] Z (zA (zE Z (qR Z Z Z (by omega) (by omega)) (zB 1 Z (zG (qW (y+1) ⟨by omega,fun i hi=>(Nat.lt_succ_iff_lt_or_eq.1 hi).elim (hall2 i) (fun e=>by subst e;simpa using h22)⟩ (by omega) (Sub.sel [1,5,6,7,8,11,12,15,16] Z) (fun _ h=>h)))))))
  refine yK Z (zC [1,5,6,8,11,12] [_,_,_,_,_,_] Z (zD (zD (zA (zB 2 Z (zG (zC [1,5,6,8,11,12,29] [_,_,_,_,_,_,_] Z (qT (b:=decide ((-1:Int)<(0:Int))) Z (fun h29_1=>?_) (fun h29_1=>?_)))))))))
  ·
   replace h29_1:=zL h29_1;refine zD (zA (zB 2 Z (zG (zC [1,5,6,8,11,12] [_,_,_,_,_,_] Z (zA (zB 1 Z (zE Z (qR Z Z Z (by omega) (by omega)) (zB 1 Z (zG (zC [1,5,6,8,11,12] [_,_,_,_,_,_] Z (zS (qB 2 Z (qV (xs:=[.tmp 34]) (vs:=[i6_ ((clsN q x).2:Int)]) qA Z Z Z Z Z Z (by decide) Z fun p35_1 hp35_1=>(qY (xs:=(clsN q x).1) (ys:=[((clsN q x).2:Int)]) qA 1 Z Z Z Z Z Z Z hc hle ht (fun w1 hw1=>(yB hw1 (i:=0) Z (n:=1) (cap:=1) (vs:=ints [((clsN q x).2:Int)]) Z Z (by decide))) ((((clsN q x).1)++([((clsN q x).2:Int)])).length) (by first | (simp;done) | (simp;omega)) (by first | (simp;done) | (simp;omega) | omega) fun p36_1 cap36_1 cur36_1 hp36_1 hcp36_1 hlp36_1 htp36_1=>?_))))))))))))))
   show Ll _ _ (Own _ _ [_,_]) _ _ ((36,sl_ p36_1 (((((clsN q x).1)++([((clsN q x).2:Int)])).length)) cap36_1)::_) _ _ _;refine qB 1 Z (zN (zC [1,5,6,11,12] [_,_,_,_,_] Z (zA (zE Z (qR Z Z Z (by omega) (by omega)) (zB 1 Z (zG (qW (x+1,p36_1,cap36_1,cur36_1) ⟨by omega,by simpa using hcp36_1,by rw [cls_new (fun i hi=>hall2 i (by omega))];exact hlp36_1,by rw [cls_new (fun i hi=>hall2 i (by omega))];simpa using htp36_1⟩ (by omega) (Sub.cons Z (Sub.cons (by rw [cls_new (fun i hi=>hall2 i (by omega))];rfl) (Sub.cons (by rw [cls_new (fun i hi=>hall2 i (by omega))];first | rfl | (simp [List.lookup];done)) (Sub.sel [11,12] Z)))) (fun _ h=>h.tail))))))))
  replace h29_1:=zJ h29_1
  exact absurd (by decide) h29_1
 refine yK Z (zC [5] [_] Z (zD (zA (zB 2 Z (zG (zC [4] [_] Z (qE (zY Z Z fun w' hw=>?_))))))))
 obtain rfl:x=N.toNat:=by omega
 exact ⟨_,rfl,hw.below,hw.newRow (i:=0) (n:=_) rfl hc hle (by simpa using ht)⟩
set_option maxHeartbeats 400000 in
theorem iCount_ok (a:St) (W R:Int) (w:World) (hsa:a.Small) :
    Calls Tryd.prog 14 [vS a,i6_ W,i6_ R].toArray w fun en w'=>en=.returned (.int .i64 (countC a W R))∧Below w.heap.size w w':=by
 refine fnStart (n:=37) (e:=[(0,vS a),(1,i6_ W),(2,i6_ R)]) Tryd.func14 Z Z Z Z Ends.both (zD (zS (yE (v:=vS a) Z Z Z Z Z fun p3 hp3=>?_)))
 show Ll _ _ (Own _ _ [_]) _ _ ((3,pt_ p3)::_) _ _ _;refine yE (v:=i6_ R) Z Z Z Z Z fun p5 hp5=>?_
 show Ll _ _ (Own _ _ [_,_]) _ _ ((5,pt_ p5)::_) _ _ _;refine qB 1 Z (zN (zC [1,3,5] [_,_,_] Z (zD (zD (zA (zE Z (zV (cs:=#[i6_ a.n,str a.set,str a.rel]) 1 Z zQ Z Z zP) (zE (v:=bo_ (validB a)) Z (qH Z Tryd.call34 Z zW (fun w1 hw1=>isStructure_ok a w1 hsa)) (zB 2 Z (yL fun b11 hg11=>?_)))))))))
 cases b11
 ·
  replace hg11:=not_false hg11;refine zB 4 Z (yL fun b15 hg15=>?_)
  cases b15
  ·
   replace hg15:=zJ hg15;refine zB 4 Z (yL fun b19 hg19=>?_)
   cases b19
   ·
    replace hg19:=zJ hg19;refine zE Z (zO 0 Z zX Z Z Z) (zB 3 Z (yL fun b23 hg23=>?_))
    cases b23
    ·
     replace hg23:=zJ hg23;refine zE Z (zO 0 Z zX Z Z Z) (zB 2 Z (zG (zC [1,3,5,26] [_,_,_,_] Z (qT (b:=decide ((2:Int)<R)) Z (fun h26=>?_) (fun h26=>?_)))))
     ·
      replace h26:=zL h26;refine zD (zA (zB 1 Z (zG (zC [6] [_] Z (qE (zY Z Z fun w' hw=>?_))))))
      exact ⟨ret_i (by unfold countC;rw [if_neg (by first | (simp_all;done) | (unfold inB at *;simp_all;done) | (unfold inB at *;simp_all;omega))]),hw.below⟩
     replace h26:=zJ h26
     have hV:validB a=true:=by simp_all
     have ha:=validB_fine hV
     have hm8:=ha.hi
     have hm1:=ha.lo
     have h0:0≤W:=by omega
     have h3:W≤2:=by omega
     have h0r:0≤R:=by omega
     have h3r:R≤3:=by omega
     have h2r:R≤2:=by omega
     have h512:=pow8 (size:=a.n.toNat) (w:=W.toNat) (by omega) (by omega)
     have hpos:0<a.n.toNat ^ W.toNat:=Nat.pow_pos (by omega);refine qK (zC [1,3,5] [_,_,_] Z (zD (zS (qG Z (zM Z zK Z zR Z Z) (qG Z (zO 1 Z zX Z Z Z) (qB 1 Z (Ll.callGet (σ:=Nat×Nat×Array Value×List RR) (ok:=fun (g,c',u,rr)=>RowsOk rr u c'∧rr.map RR.xs=listsL (a.n).toNat (W).toNat) (v:=fun (g,c',u,rr)=>.slice (some ⟨g,0,none⟩) rr.length c') (xs:=[.tmp 28,.tmp 29]) (vs:=[i6_ a.n,i6_ W]) (hs':=fun (g,c',u,rr)=>[bk_ p5 #[i6_ R] 3,bk_ p3 #[i6_ a.n,str a.set,str a.rel] 24]++((g,.cells u 27 (0,0))::(rowsB 3 rr++[]))) Z Z Z Z Tryd.call46 Z (fun w1 hw1=>(listsOf_ok _ _ _ a.n W w1 (by omega) hm8 h0 (by omega) hw1).mono fun en w' ⟨g,c',u,rr,h1,h2,h3⟩=>⟨(g,c',u,rr),h1,h2,h3.perm (rows_behind _ _ _)⟩) fun ⟨gL,cL,uL,rrL⟩ ⟨hL,hLX⟩=>?_)))))))
     show Ll _ _ (Own _ _ (_::_::_::(rowsB 3 rrL++[]))) _ _ ((30,sl_ gL rrL.length cL)::_) _ _ _;refine xW Z Z Z Z Tryd.zeroValue63 fun p7 hp7=>?_
     show Ll _ _ (Own _ _ (bk_ p7 #[.slice none 0 0] 63::_::_::_::(rowsB 3 rrL++[]))) _ _ ((7,pt_ p7)::_) _ _ _;refine qZ (v:=sl_ gL rrL.length cL) (hs':=(bk_ p7 #[sl_ gL rrL.length cL] 63::_::_::_::(rowsB 3 rrL++[]))) 0 Z Z Z Z Z Z Tryd.sizeOf63 Z (by simp) Z (zN (zC [3,5,7] [_,_,_] Z (zD (zS (qG Z (zO 0 Z Tryd.isAgg63 Z Z Z) ?_)))))
     have hrl:rrL.length=a.n.toNat ^ W.toNat:=by rw [← listsL_length a.n.toNat W.toNat,← hLX,List.length_map]
     have hqq:clsN (fun y x=>winB R.toNat a (rrL.getD y rd).xs a (rrL.getD x rd).xs) (a.n.toNat ^ W.toNat)=clsN (qP a R.toNat W.toNat) (a.n.toNat ^ W.toNat):=cls_congr fun y x hyx hx=>by rw [rows_point (by omega) hLX (by omega),rows_point (by omega) hLX (by omega)];rfl
     have hmx:maxTo (clsN (fun y x=>winB R.toNat a (rrL.getD y rd).xs a (rrL.getD x rd).xs) (rrL.length:Int).toNat).1 ((clsN (fun y x=>winB R.toNat a (rrL.getD y rd).xs a (rrL.getD x rd).xs) (rrL.length:Int).toNat).1.length - 1)=((clsN (qP a R.toNat W.toNat) (a.n.toNat ^ W.toNat)).2:Int) - 1:=by
      rw [Int.toNat_natCast,hrl,hqq,cls_length];exact max_cls _ hpos
     have hcs:=(cls_small (qP a R.toNat W.toNat) (a.n.toNat ^ W.toNat)).1;refine qG Z (jD Z xO Z) (qG (v:=.func (.func 48) #[] #[pt_ p3,pt_ p7,pt_ p5]) Z (OpQ.func' (cap:=[.tmp 3,.tmp 7,.tmp 5]) Z Z) (Ll.callRow (xs:=[.tmp 32,.tmp 33]) (m:=(clsN (fun y x=>winB R.toNat a (rrL.getD y rd).xs a (rrL.getD x rd).xs) (rrL.length:Int).toNat).1.length) (vs:=ints ((clsN (fun y x=>winB R.toNat a (rrL.getD y rd).xs a (rrL.getD x rd).xs) (rrL.length:Int).toNat).1)) (el:=3) (size:=1) Z Z Z Z Tryd.call35 Z (fun w1 hw1=>classesBy_ok (rrL.length:Int) w1 (by omega) 48 #[pt_ p3,pt_ p7,pt_ p5] (fun y x=>winB R.toNat a (rrL.getD y rd).xs a (rrL.getD x rd).xs) Tryd.call48 (fun w2 hb y x hy hx=>cc1_ok a p3 p5 p7 gL cL _ _ _ uL rrL R W.toNat y x w2 ((hw1.stable _ _ hb).has 2 _ _ Z).2 ((hw1.stable _ _ hb).has 1 _ _ Z).2 ((hw1.stable _ _ hb).has 0 _ _ Z).2 ((hw1.stable _ _ hb).has 3 _ _ Z).2 hL hLX (Own.rowsHas (f:=[bk_ p7 #[sl_ gL rrL.length cL] 63,bk_ p5 #[i6_ R] 3,bk_ p3 #[i6_ a.n,str a.set,str a.rel] 24,bk_ gL uL 27]) (hw1.stable _ _ hb)) ha h0r h3r (by omega) (by omega) (by omega))) fun p34 cap34 cur34 hp34 hcp34 hlp34 htp34=>(qG (v:=i6_ (maxTo ((clsN (fun y x=>winB R.toNat a (rrL.getD y rd).xs a (rrL.getD x rd).xs) (rrL.length:Int).toNat).1) (((clsN (fun y x=>winB R.toNat a (rrL.getD y rd).xs a (rrL.getD x rd).xs) (rrL.length:Int).toNat).1).length - 1))) Z (qH Z Tryd.call47 Z zW (fun w1 hw1=>slMax_ok (sl_ p34 ((clsN (fun y x=>winB R.toNat a (rrL.getD y rd).xs a (rrL.getD x rd).xs) (rrL.length:Int).toNat).1.length) cap34) ((clsN (fun y x=>winB R.toNat a (rrL.getD y rd).xs a (rrL.getD x rd).xs) (rrL.length:Int).toNat).1) w1 (yB hw1 (i:=0) Z (by simpa using htp34) (by simp) hlp34) (by rw [cls_length];omega) (by rw [cls_length];omega))) (qG Z (qR Z Z Z (by rw [hmx];omega) (by rw [hmx];omega)) (qB 1 Z (zN (zC [6] [_] Z (qE (zY Z Z fun w' hw=>?_)))))))))
     first | exact ⟨ret_i (by unfold countC;rw [if_neg (by first | (simp_all;done) | (unfold inB at *;simp_all;done) | (unfold inB at *;simp_all;omega))]),hw.below⟩ | exact ⟨ret_i (by unfold countC;rw [hmx,if_pos (by unfold inB;simp [hV,h0,h3,h0r,h2r])];omega),hw.below⟩
    replace hg23:=zL hg23;refine zH Z (zH Z (zB 1 Z (zG (zC [1,3,5,26] [_,_,_,_] Z (xV Z (zD (zA (zB 1 Z (zG (zC [6] [_] Z (qE (zY Z Z fun w' hw=>?_))))))))))))
    first | exact ⟨ret_i (by unfold countC;rw [if_neg (by first | (simp_all;done) | (unfold inB at *;simp_all;done) | (unfold inB at *;simp_all;omega))]),hw.below⟩ | exact ⟨ret_i (by unfold countC;rw [hmx,if_pos (by unfold inB;simp [hV,h0,h3,h0r,h2r])];omega),hw.below⟩
   replace hg19:=zL hg19;refine zH Z (zH Z (zB 2 Z (zH Z (zH Z (zB 1 Z (zG (zC [1,3,5,26] [_,_,_,_] Z (xV Z (zD (zA (zB 1 Z (zG (zC [6] [_] Z (qE (zY Z Z fun w' hw=>?_)))))))))))))))
   first | exact ⟨ret_i (by unfold countC;rw [if_neg (by first | (simp_all;done) | (unfold inB at *;simp_all;done) | (unfold inB at *;simp_all;omega))]),hw.below⟩ | exact ⟨ret_i (by unfold countC;rw [hmx,if_pos (by unfold inB;simp [hV,h0,h3,h0r,h2r])];omega),hw.below⟩
  replace hg15:=zL hg15;refine zH Z (zH Z (zB 2 Z (zH Z (zH Z (zB 2 Z (zH Z (zH Z (zB 1 Z (zG (zC [1,3,5,26] [_,_,_,_] Z (xV Z (zD (zA (zB 1 Z (zG (zC [6] [_] Z (qE (zY Z Z fun w' hw=>?_))))))))))))))))))
  first | exact ⟨ret_i (by unfold countC;rw [if_neg (by first | (simp_all;done) | (unfold inB at *;simp_all;done) | (unfold inB at *;simp_all;omega))]),hw.below⟩ | exact ⟨ret_i (by unfold countC;rw [hmx,if_pos (by unfold inB;simp [hV,h0,h3,h0r,h2r])];omega),hw.below⟩
 replace hg11:=not_true hg11;refine zH Z (zH Z (zB 2 Z (zH Z (zH Z (zB 2 Z (zH Z (zH Z (zB 2 Z (zH Z (zH Z (zB 1 Z (zG (zC [1,3,5,26] [_,_,_,_] Z (xV Z (zD (zA (zB 1 Z (zG (zC [6] [_] Z (qE (zY Z Z fun w' hw=>?_)))))))))))))))))))))
 first | exact ⟨ret_i (by unfold countC;rw [if_neg (by first | (simp_all;done) | (unfold inB at *;simp_all;done) | (unfold inB at *;simp_all;omega))]),hw.below⟩ | exact ⟨ret_i (by unfold countC;rw [hmx,if_pos (by unfold inB;simp [hV,h0,h3,h0r,h2r])];omega),hw.below⟩
end Go.Proofs.YtagbocafnliabaaDoor
namespace Go.Proofs.YtagbocafnliabaaDoor
open Go.RowKit Go.Wk
set_option linter.unusedSimpArgs false
set_option maxHeartbeats 400000 in
theorem cls1_ok (a:St) (g h T1 T2:Nat) (r x y:Int) (w:World) (hg:w.heap[g]?=some (.cells #[.int .i64 a.n,str a.set,str a.rel] T1 (0,0))) (hh:w.heap[h]?=some (.cells #[.int .i64 r] T2 (0,0))) (ha:a.Fine) (h0:0≤r) (h3:r≤3) (hx:a.El x) (hy:a.El y) :
    Calls Tryd.prog 36 [i6_ x,i6_ y,.pointer (some ⟨g,0,none⟩),.pointer (some ⟨h,0,none⟩)].toArray w fun en w'=>en=.returned (.bool (winB r.toNat a [x] a [y]))∧Below w.heap.size w w':=by
 refine fnStart (n:=15) (e:=[(0,i6_ x),(1,i6_ y),(2,.pointer (some ⟨g,0,none⟩)),(3,.pointer (some ⟨h,0,none⟩))]) Tryd.func36 Z Z Z Z Ends.both (zD (zA (zB 1 Z (zG (zC [0,1,2,3] [_,_,_,_] Z (zD (zS (qG (v:=vS a) Z (OpQ.loadN (cs:=#[i6_ a.n,str a.set,str a.rel]) Z zQ zP Z (fun w1 hw1 j v hj=>box_cells hg hw1 j v hj)) (qB 1 Z (qV (xs:=[.tmp 8]) (vs:=[i6_ x]) qA Z Z Z Z Z Z (by decide) Z fun p9 hp9=>(qG (v:=vS a) Z (OpQ.loadN (cs:=#[i6_ a.n,str a.set,str a.rel]) Z zQ zP Z (fun w1 hw1 j v hj=>box_cells hg hw1 j v hj)) (qB 1 Z (qV (xs:=[.tmp 11]) (vs:=[i6_ y]) qA Z Z Z Z Z Z (by decide) Z fun p12 hp12=>(qG (v:=i6_ r) Z (qX Z zX Z (fun w1 hw1=>by have:=box_cells hh hw1 0 (i6_ r) rfl;rwa [Addr.add_lit] at this)) (qG (v:=bo_ (winB r.toNat a ([x]) a ([y]))) Z (qH Z Tryd.call37 Z zW (fun w1 hw1=>wins_ok a a ([x]) ([y]) (sl_ p9 1 1) (sl_ p12 1 1) w1 ha ha (yB hw1 (i:=1) Z (n:=1) (cap:=1) (vs:=ints [x]) Z Z (by decide)) (yB hw1 (i:=0) Z (n:=1) (cap:=1) (vs:=ints [y]) Z Z (by decide)) (els_one hx) (els_one hy) Z (by simp) r (by omega) (by omega))) (qB 1 Z (zN (zC [6] [_] Z (qE (zY Z Z fun w' hw=>?_))))))))))))))))))))
 exact ⟨rfl,hw.below⟩
set_option maxHeartbeats 400000 in
theorem iCls_yes (a:St) (r:Int) (w:World) (hsa:a.Small) (hv:clsOk a r=true) :
    Calls Tryd.prog 8 [vS a,i6_ r].toArray w fun en w'=>∃ v,en=.returned v∧Below w.heap.size w w'∧NewRow w.heap.size 3 1 w' v (clsOf a r).length (ints (clsOf a r)):=by
 refine fnStart (n:=20) (e:=[(0,vS a),(1,i6_ r)]) Tryd.func8 Z Z Z Z Ends.both ?_
 obtain ⟨hV,h0,h3⟩:=clsOk_true hv
 have ha:=validB_fine hV
 have hm8:=ha.hi
 have hm1:=ha.lo;refine zD (zS (yE (v:=vS a) Z Z Z Z Z fun p2 hp2=>?_))
 show Ll _ _ (Own _ _ [_]) _ _ ((2,pt_ p2)::_) _ _ _;refine yE (v:=i6_ r) Z Z Z Z Z fun p3 hp3=>?_
 show Ll _ _ (Own _ _ [_,_]) _ _ ((3,pt_ p3)::_) _ _ _;refine qB 1 Z (zN (zC [2,3] [_,_] Z (zD (zD (zA (zE Z (zV (cs:=#[i6_ a.n,str a.set,str a.rel]) 1 Z zQ Z Z zP) (zE (v:=bo_ true) Z (qH Z Tryd.call34 Z zW (fun w1 hw1=>known_b hV (isStructure_ok a w1 hsa))) (zB 2 Z (zE Z (zO 0 Z zX Z Z Z) (zB 3 Z (yL fun b12 hg12=>?_)))))))))))
 cases b12
 ·
  replace hg12:=zJ hg12;refine zE Z (zO 0 Z zX Z Z Z) (zB 2 Z (zG (zC [2,3,15] [_,_,_] Z (qT (b:=decide ((3:Int)<r)) Z (fun h15=>?_) (fun h15=>?_)))))
  ·
   replace h15:=zL h15
   omega
  replace h15:=zJ h15;refine qK (zC [2,3] [_,_] Z (zD (zS (qG Z (zM Z zK Z zR Z Z) (qG Z (zO 1 Z zX Z Z Z) (qG (v:=.func (.func 36) #[] #[pt_ p2,pt_ p3]) Z (OpQ.func' (cap:=[.tmp 2,.tmp 3]) Z Z) (Ll.callRow (xs:=[.tmp 17,.tmp 18]) (m:=(clsOf a r).length) (vs:=ints (clsOf a r)) (el:=3) (size:=1) Z Z Z Z Tryd.call35 Z (fun w1 hw1=>classesBy_ok a.n w1 (by omega) 36 #[pt_ p2,pt_ p3] (fun y x=>winB r.toNat a [(y:Int)] a [(x:Int)]) Tryd.call36 (fun w2 hb y x hy hx=>cls1_ok a p2 p3 _ _ r y x w2 ((hw1.stable _ _ hb).has 1 _ _ Z).2 ((hw1.stable _ _ hb).has 0 _ _ Z).2 ha h0 h3 ⟨by omega,by omega⟩ ⟨by omega,by omega⟩)) fun p19 cap19 cur19 hp19 hcp19 hlp19 htp19=>(qB 1 Z (zN (zC [4] [_] Z (qE (zY Z Z fun w' hw=>?_))))))))))))
  exact ⟨_,rfl,hw.below,hw.newRow (i:=0) (n:=_) rfl hcp19 hlp19 (by simpa using htp19)⟩
 replace hg12:=zL hg12
 omega
set_option maxHeartbeats 400000 in
theorem iCls_no (a:St) (r:Int) (w:World) (hsa:a.Small) (hv:clsOk a r=false) :
    Calls Tryd.prog 8 [vS a,i6_ r].toArray w fun en w'=>en=.returned (.slice none 0 0)∧Below w.heap.size w w':=by
 refine fnStart (n:=20) (e:=[(0,vS a),(1,i6_ r)]) Tryd.func8 Z Z Z Z Ends.both (zD (zS (yE (v:=vS a) Z Z Z Z Z fun p2 hp2=>?_)))
 show Ll _ _ (Own _ _ [_]) _ _ ((2,pt_ p2)::_) _ _ _;refine yE (v:=i6_ r) Z Z Z Z Z fun p3 hp3=>?_
 show Ll _ _ (Own _ _ [_,_]) _ _ ((3,pt_ p3)::_) _ _ _;refine qB 1 Z (zN (zC [2,3] [_,_] Z (zD (zD (zA (zE Z (zV (cs:=#[i6_ a.n,str a.set,str a.rel]) 1 Z zQ Z Z zP) (zE (v:=bo_ (validB a)) Z (qH Z Tryd.call34 Z zW (fun w1 hw1=>isStructure_ok a w1 hsa)) (zB 2 Z (yL fun b8 hg8=>?_)))))))))
 cases b8
 ·
  replace hg8:=not_false hg8;refine zE Z (zO 0 Z zX Z Z Z) (zB 3 Z (yL fun b12 hg12=>?_))
  cases b12
  ·
   replace hg12:=zJ hg12;refine zE Z (zO 0 Z zX Z Z Z) (zB 2 Z (zG (zC [2,3,15] [_,_,_] Z (qT (b:=decide ((3:Int)<r)) Z (fun h15=>?_) (fun h15=>?_)))))
   ·
    replace h15:=zL h15;refine zD (zA (zB 1 Z (zG (zC [4] [_] Z (qE (zY Z Z fun w' hw=>?_))))))
    exact ⟨rfl,hw.below⟩
   replace h15:=zJ h15
   exact absurd hv (by unfold clsOk inB;first | (simp_all;done) | (simp_all;omega))
  replace hg12:=zL hg12;refine zH Z (zH Z (zB 1 Z (zG (zC [2,3,15] [_,_,_] Z (xV Z (zD (zA (zB 1 Z (zG (zC [4] [_] Z (qE (zY Z Z fun w' hw=>?_))))))))))))
  exact ⟨rfl,hw.below⟩
 replace hg8:=not_true hg8;refine zH Z (zH Z (zB 2 Z (zH Z (zH Z (zB 1 Z (zG (zC [2,3,15] [_,_,_] Z (xV Z (zD (zA (zB 1 Z (zG (zC [4] [_] Z (qE (zY Z Z fun w' hw=>?_)))))))))))))))
 exact ⟨rfl,hw.below⟩
set_option maxHeartbeats 400000 in
theorem l1Has_ok (va:Value) (xs:List Int) (m:Int) (w:World) (hva:Ints w va xs) (hs:xs.length≤140737488355328) :
    Calls Tryd.prog 42 [va,i6_ m].toArray w fun en w'=>en=.returned (.bool (decide (m∈xs)))∧Below w.heap.size w w':=by
 refine fnStart (n:=18) (e:=[(0,va),(1,i6_ m)]) Tryd.func42 Z Z Z Z Ends.both (zD (zA (zB 1 Z (zG (zC [0,1] [_,_] Z (zD (zD (zA (zB 1 Z (zG (zC [0,1,5] [_,_,_] Z (qI (yP (σ:=Nat) (fun k=>k≤xs.length∧∀ i:Nat,i<k→¬ xs.getD i 0=m) (fun k=>[(0,va),(1,i6_ m),(5,i6_ (k:Int))]) (fun k=>Own w.heap.size w []) (fun k=>xs.length - k) (0) ⟨by omega,fun i hi=>absurd hi (by omega)⟩ (Sub.sel [0,1,5] Z) (fun _ h=>h) ?_)))))))))))))
 rintro k ⟨hk,hall⟩;refine zD (zD (zA (zB 2 Z (zE (v:=i6_ (xs.length:Int)) Z (yF Z zI Z (ints_length _) (fun w1 hw1=>Row.own hva hw1)) (zB 1 Z (zG (zC [0,1,5,9] [_,_,_,_] Z (yY Z (fun h9=>?_) (fun h9=>?_)))))))))
 ·
  refine qK (zC [0,1,5] [_,_,_] Z (zD (qI (zD (zA (zB 2 Z (zE (v:=.pointer (some (sAt va (k:Int)))) Z (yD Z zI zR Z Z (by omega) (by rw [ints_length];omega) (fun w1 hw1=>Row.own hva hw1)) (zE (v:=i6_ (xs.getD ((k:Int).toNat) 0)) Z (qX Z zX Z (fun w1 hw1=>Ints.cell (Row.own hva hw1) (by omega) (by omega))) (zB 2 Z (zG (zC [0,1,5,17] [_,_,_,_] Z (yY Z (fun h17=>?_) (fun h17=>?_)))))))))))))
  ·
   refine zD (zA (zB 1 Z (zG (zC [4] [_] Z (qE (zY Z Z fun w' hw=>?_))))))
   exact ⟨ret_b (has_at (k:=k) (by omega) (by simpa using h17)).symm,hw.below⟩
  refine qK (zC [0,1,5] [_,_,_] Z (zA (zB 1 Z (zE Z (qR Z Z Z (by omega) (by omega)) (zB 1 Z (zG (qW (k+1) ⟨by omega,fun i hi=>(Nat.lt_succ_iff_lt_or_eq.1 hi).elim (hall i) (fun e=>by subst e;simpa using h17)⟩ (by omega) (Sub.sel [0,1,5] Z) (fun _ h=>h))))))))
 refine yK Z (zC [] [] Z (zD (zA (zB 1 Z (zG (zC [4] [_] Z (qE (zY Z Z fun w' hw=>?_))))))))
 exact ⟨ret_b (has_no (fun i hi=>hall i (by omega))).symm,hw.below⟩
set_option maxHeartbeats 400000 in
theorem sCls_yes (a:St) (r:Int) (w:World) (hsa:a.Small) (hv:clsOk a r=true) :
    Calls Tryd.prog 10 [vS a,i6_ r].toArray w fun en w'=>∃ v,en=.returned v∧Below w.heap.size w w'∧NewRow w.heap.size 3 1 w' v (clsOf a r).length (ints (clsOf a r)):=by
 refine fnStart (n:=60) (e:=[(0,vS a),(1,i6_ r)]) Tryd.func10 Z Z Z Z Ends.both ?_
 obtain ⟨hV,h0,h3⟩:=clsOk_true hv
 have ha:=validB_fine hV
 have hm8:=ha.hi
 have hm1:=ha.lo
 have hcn:=cnt_small (n:=r.toNat) (by omega);refine zD (zS (yE (v:=vS a) Z Z Z Z Z fun p2 hp2=>?_))
 show Ll _ _ (Own _ _ [_]) _ _ ((2,pt_ p2)::_) _ _ _;refine qB 1 Z (zN (zC [1,2] [_,_] Z (zD (zS (qV (xs:=[]) (vs:=[]) qA Z Z Z Z Z Z (by decide) Z fun p11 hp11=>(qB 1 Z (zN (zC [1,2,5] [_,_,_] Z (zD (zS (qV (xs:=[]) (vs:=[]) qA Z Z Z Z Z Z (by decide) Z fun p12 hp12=>(qB 1 Z (zN (zC [1,2,5,6] [_,_,_,_] Z (zD (zD (zA (zE Z (zV (cs:=#[i6_ a.n,str a.set,str a.rel]) 2 Z zQ Z Z zP) (zE (v:=bo_ true) Z (qH Z Tryd.call38 Z zW (fun w1 hw1=>known_b hV (sValid_ok a w1 hsa))) (zB 3 Z (zE (v:=bo_ true) Z (qH Z Tryd.call39 Z zW (fun w1 hw1=>known_b (by unfold inB;simp [h0,h3]) (l1In_ok r 0 3 w1 ))) (zB 2 Z (zG (zC [1,2,5,6,20] [_,_,_,_,_] Z (Wk.condF Z (qK (zC [1,2,5,6] [_,_,_,_] Z (zD (zS (Ll.callGet (σ:=Nat×Nat×List Bkt) (ok:=fun s=>TabOk s.2.2 []) (v:=fun s=>.agg #[.slice (some ⟨s.1,0,none⟩) 997 997,.slice (some ⟨s.2.1,0,none⟩) 1 1]) (xs:=[]) (vs:=[]) (hs':=fun s=>[bk_ p12 #[] 3,bk_ p11 #[] 3,bk_ p2 #[i6_ a.n,str a.set,str a.rel] 24]++(tabL 145 3 147 s.1 s.2.1 s.2.2 []++[])) Z Z Z Z Tryd.call40 Z (fun w1 hw1=>(l5New_ok _ _ _ w1 hw1).mono fun en w' ⟨q,c,h1,h2⟩=>⟨(q,c,_),h1,TabOk.new,by dsimp only;rw [List.append_nil];exact h2.perm perm_front⟩) fun ⟨q,c,bs0⟩ hT0=>?_))))))))))))))))))))))))))))))
 show Ll _ _ (Own _ _ (_::_::_::_::_::(blks 147 bs0++[]))) _ _ ((22,.agg #[sl_ q 997 997,sl_ c 1 1])::_) _ _ _;refine xW Z Z Z Z Tryd.zeroValue59 fun p7 hp7=>?_
 show Ll _ _ (Own _ _ (bk_ p7 #[.slice none 0 0,.slice none 0 0] 59::_::_::_::_::_::(blks 147 bs0++[]))) _ _ ((7,pt_ p7)::_) _ _ _;refine xL (cs':=#[sl_ q 997 997,sl_ c 1 1]) (hs':=(bk_ p7 #[sl_ q 997 997,sl_ c 1 1] 59::_::_::_::_::_::(blks 147 bs0++[]))) 0 Z Z Z Z Z (by kernel_rfl:_=some Tryd.t59) Z Z Z Z Z (zN (zC [1,2,5,6,7] [_,_,_,_,_] Z (zD (zD (zA (zB 1 Z (zG (zC [1,2,5,6,7,8] [_,_,_,_,_,_] Z (qI (yP (σ:=Nat×List Bkt×List (List UInt8)×Nat×Nat×Array Value×Nat×Nat×Array Value×List Int×List Int) (fun ⟨k,bs1,T1,gs,cs,us,go,co,uo,S,O⟩=>(k:Int)≤a.n∧TabTo ([]:List (List UInt8)) bs1 T1 (k*cnt r.toNat)∧SeenL T1 r.toNat a k S O∧us.size=cs*1∧S.length≤cs∧us.toList.take S.length=ints S∧uo.size=co*1∧O.length≤co∧uo.toList.take O.length=ints O) (fun ⟨k,bs1,T1,gs,cs,us,go,co,uo,S,O⟩=>[(1,i6_ r),(2,pt_ p2),(5,sl_ go O.length co),(6,sl_ gs S.length cs),(7,pt_ p7),(8,i6_ (k:Int))]) (fun ⟨k,bs1,T1,gs,cs,us,go,co,uo,S,O⟩=>Own w.heap.size w (bk_ p7 #[sl_ q 997 997,sl_ c 1 1] 59::bk_ gs us 3::bk_ go uo 3::bk_ p2 #[i6_ a.n,str a.set,str a.rel] 24::bk_ q ((bs1.map bktV).toArray) 145::bk_ c #[i6_ (T1.length:Int)] 3::(blks 147 bs1++[]))) (fun ⟨k,bs1,T1,gs,cs,us,go,co,uo,S,O⟩=>(a.n - k).toNat) (0,bs0,[],p12,0,#[],p11,0,#[],[],[]) ⟨by omega,⟨hT0,List.prefix_refl _,by omega⟩,SeenL.zero,rfl,Nat.le_refl 0,rfl,rfl,Nat.le_refl 0,rfl⟩ (Sub.sel [1,2,5,6,7,8] Z) (fun _ h=>h) ?_))))))))))
 rintro ⟨k,bs1,T1,gs,cs,us,go,co,uo,S,O⟩ ⟨hk,hTT,hSn,hcs,hls,hts,hco,hlo,hto⟩
 dsimp only
 obtain ⟨hOl,hSl⟩:=hSn.len
 have hTl:=hTT.len
 simp only [qM] at hTl
 have hk8:=cnt_le k r.toNat (by omega);refine zD (zD (zA (zB 1 Z (zE Z (zM Z zK Z zR Z Z) (zE Z (zO 3 Z zX Z Z Z) (zB 1 Z (zG (zC [1,2,5,6,7,8,26] [_,_,_,_,_,_,_] Z (qT (b:=decide ((k:Int)<a.n)) Z (fun h26=>?_) (fun h26=>?_))))))))))
 ·
  replace h26:=zL h26
  have hx:a.El k:=⟨by omega,by omega⟩;refine qK (zC [1,2,5,6,7,8] [_,_,_,_,_,_] Z (zD (qI (zD (zS (qG Z (zV (cs:=#[sl_ q 997 997,sl_ c 1 1]) 0 Z Tryd.isAgg59 Z Z Tryd.sizeOf59) (qG Z (zV (cs:=#[i6_ a.n,str a.set,str a.rel]) 3 Z zQ Z Z zP) (qB 1 Z (qV (xs:=[.tmp 31]) (vs:=[i6_ (k:Int)]) qA Z Z Z Z Z Z (by decide) Z fun p32 hp32=>(qB 1 Z (Ll.callTab (S:=145) (I:=3) (E:=147) (q:=q) (c:=c) (bs:=bs1) (T:=T1) (hs:=[]) (ok:=fun m bs' T'=>TabTo T1 bs' T' (cnt r.toNat)∧Means T' r.toNat a ([(k:Int)]) m) (xs:=[.tmp 29,.tmp 30,.tmp 32,.tmp 33]) (vs:=[.agg #[sl_ q 997 997,sl_ c 1 1],vS a,sl_ p32 1 1,i6_ r]) [bk_ p32 #[i6_ (k:Int)] 3,bk_ p7 #[sl_ q 997 997,sl_ c 1 1] 59,bk_ gs us 3,bk_ go uo 3,bk_ p2 #[i6_ a.n,str a.set,str a.rel] 24] Z Z Z Z Tryd.call41 Z (fun w1 hw1=>type_at r h0 w.heap.size w ([bk_ p32 #[i6_ (k:Int)] 3,bk_ p7 #[sl_ q 997 997,sl_ c 1 1] 59,bk_ gs us 3,bk_ go uo 3,bk_ p2 #[i6_ a.n,str a.set,str a.rel] 24]++[]) q c bs1 T1 a (sl_ p32 1 1) ([(k:Int)]) w1 hTT.ok ha (fun w2 hw2=>(yB hw2 (i:=0) Z (n:=1) (cap:=1) (vs:=ints [(k:Int)]) Z Z (by decide))) (els_one hx) (by simp;omega) (by omega) hw1) fun m bs_ T_ hKm=>?_)))))))))))
  show Ll _ _ (Own _ _ (_::_::_::_::_::_::_::(blks 147 bs_++[]))) _ _ ((34,i6_ (m:Int))::_) _ _ _;refine qB 1 Z (zN (zC [1,2,5,6,7,8,9] [_,_,_,_,_,_,_] Z (zD (zD (zA (zB 2 Z (zE (v:=bo_ (decide ((m:Int)∈S))) Z (qH Z Tryd.call42 Z zW (fun w1 hw1=>l1Has_ok (sl_ gs S.length cs) S (m:Int) w1 (yB hw1 (i:=2) Z hts (by simp) hls) (by first | (simp;done) | (simp;omega) | omega))) (zB 1 Z (zG (zC [1,2,5,6,7,8,9,38] [_,_,_,_,_,_,_,_] Z (qT (b:=!(decide ((m:Int)∈S))) Z (fun h38=>?_) (fun h38=>?_))))))))))))
  ·
   replace h38:=not_true h38
   replace h38:=zJ h38
   obtain ⟨kk,hkk,hix,hSN⟩:=hSn.step_new hKm.1.pre hKm.1.ok.nodup hKm.2 (by simpa using h38)
   have hS2:(S++[(m:Int)]).length≤9:=by simp;omega
   refine zS (qB 2 Z (qV (xs:=[.tmp 40]) (vs:=[i6_ (m:Int)]) qA Z Z Z Z Z Z (by decide) Z fun p41 hp41=>(qY (xs:=S) (ys:=[(m:Int)]) qA 3 Z Z Z Z Z Z Z hcs hls hts (fun w1 hw1=>(yB hw1 (i:=0) Z (n:=1) (cap:=1) (vs:=ints [(m:Int)]) Z Z (by decide))) ((S++([(m:Int)])).length) (by first | (simp;done) | (simp;omega)) (by first | (simp;done) | (simp;omega) | omega) fun p42 cap42 cur42 hp42 hcp42 hlp42 htp42=>?_)))
   show Ll _ _ (Own _ _ (_::_::_::_::_::_::_::_::(blks 147 bs_++[]))) _ _ ((42,sl_ p42 (((S++([(m:Int)])).length)) cap42)::_) _ _ _;refine qB 1 Z (zN (zC [1,2,5,6,7,8,9] [_,_,_,_,_,_,_] Z (zD (zA (zB 1 Z (zG (zC [1,2,5,6,7,8,9,10] [_,_,_,_,_,_,_,_] Z (qI (yP (σ:=Nat×Nat×Nat×Array Value) (fun ⟨j,g3,c3,u3⟩=>j≤((S++([(m:Int)])).length)∧u3.size=c3*1∧(outAt O kk j).length≤c3∧u3.toList.take (outAt O kk j).length=ints (outAt O kk j)) (fun ⟨j,g3,c3,u3⟩=>[(1,i6_ r),(2,pt_ p2),(5,sl_ g3 ((outAt O kk j).length) c3),(6,sl_ p42 (((S++([(m:Int)])).length)) cap42),(7,pt_ p7),(8,i6_ (k:Int)),(9,i6_ (m:Int)),(10,i6_ (j:Int))]) (fun ⟨j,g3,c3,u3⟩=>Own w.heap.size w (bk_ p41 #[i6_ (m:Int)] 3::bk_ p32 #[i6_ (k:Int)] 3::bk_ p7 #[sl_ q 997 997,sl_ c 1 1] 59::bk_ p42 cur42 3::bk_ g3 u3 3::bk_ p2 #[i6_ a.n,str a.set,str a.rel] 24::bk_ q ((bs_.map bktV).toArray) 145::bk_ c #[i6_ (T_.length:Int)] 3::(blks 147 bs_++[]))) (fun ⟨j,g3,c3,u3⟩=>((S++([(m:Int)])).length) - j) (0,go,co,uo) ⟨by omega,hco,by rw [outAt_zero];exact hlo,by rw [outAt_zero];exact hto⟩ (Sub.cons Z (Sub.cons Z (Sub.cons (by rw [outAt_zero];rfl) (Sub.sel [6,7,8,9,10] Z)))) (fun _ h=>h) ?_)))))))))
   rintro ⟨j,g3,c3,u3⟩ ⟨hj,hcg,hlg,htg⟩
   dsimp only
   have hol:=outAt_le O kk j;refine zD (zD (zA (zB 2 Z (zE Z (jD Z zI Z) (zB 1 Z (zG (zC [1,2,5,6,7,8,9,10,46] [_,_,_,_,_,_,_,_,_] Z (qT (b:=decide ((j:Int)<((((S++([(m:Int)])).length):Int)))) Z (fun h46=>?_) (fun h46=>?_)))))))))
   ·
    replace h46:=zL h46;refine qK (zC [1,2,5,6,7,8,9,10] [_,_,_,_,_,_,_,_] Z (zD (qI (zD (zA (zB 2 Z (zE (v:=pf_ p42 j) Z (yG (v':=pf_ p42 j) (by simp) (qU (i:=(j:Int)) Z zI zR Z Z (by omega) (by omega))) (zE (v:=i6_ ((S++([(m:Int)])).getD (j) 0)) Z (yV 3 Z zX Z Z (cur_at (by simpa using htp42) (ints_at2 (by omega)))) (zB 2 Z (zG (zC [1,2,5,6,7,8,9,10,54] [_,_,_,_,_,_,_,_,_] Z (qT (b:=decide (((S++([(m:Int)])).getD (j) 0)=(m:Int))) Z (fun h54=>?_) (fun h54=>?_)))))))))))))
    ·
     replace h54:=zL h54
     have hjk:=(hix j (by omega)).1 h54;refine zS (qB 2 Z (qV (xs:=[.tmp 56]) (vs:=[i6_ (j:Int)]) qA Z Z Z Z Z Z (by decide) Z fun p57 hp57=>(qY (xs:=outAt O kk j) (ys:=[(j:Int)]) qA 5 Z Z Z Z Z Z Z hcg hlg htg (fun w1 hw1=>(yB hw1 (i:=0) Z (n:=1) (cap:=1) (vs:=ints [(j:Int)]) Z Z (by decide))) (((outAt O kk j)++([(j:Int)])).length) (by first | (simp;done) | (simp;omega)) (by first | (simp;done) | (simp;omega) | omega) fun p58 cap58 cur58 hp58 hcp58 hlp58 htp58=>?_)))
     show Ll _ _ (Own _ _ (_::_::_::_::_::_::_::_::_::(blks 147 bs_++[]))) _ _ ((58,sl_ p58 ((((outAt O kk j)++([(j:Int)])).length)) cap58)::_) _ _ _;refine qB 1 Z (zN (zC [1,2,5,6,7,8,9,10] [_,_,_,_,_,_,_,_] Z (zA (zB 1 Z (zE Z (qR Z Z Z (by omega) (by omega)) (zB 1 Z (zG (qW (j+1,p58,cap58,cur58) ⟨by omega,hcp58,by rw [outAt_yes hjk];exact hlp58,by rw [outAt_yes hjk];simpa using htp58⟩ (by omega) (Sub.cons Z (Sub.cons Z (Sub.cons (by rw [outAt_yes hjk];rfl) (Sub.sel [6,7,8,9,10] Z)))) (fun _ h=>h.tail)))))))))
    replace h54:=zJ h54
    have hjk:¬ j=kk:=fun e=>h54 ((hix j (by omega)).2 e);refine qK (zC [1,2,5,6,7,8,9,10] [_,_,_,_,_,_,_,_] Z (zA (zB 1 Z (zE Z (qR Z Z Z (by omega) (by omega)) (zB 1 Z (zG (qW (j+1,g3,c3,u3) ⟨by omega,hcg,by rw [outAt_no hjk];exact hlg,by rw [outAt_no hjk];exact htg⟩ (by omega) (Sub.cons Z (Sub.cons Z (Sub.cons (by rw [outAt_no hjk];rfl) (Sub.sel [6,7,8,9,10] Z)))) (fun _ h=>h))))))))
   replace h46:=zJ h46
   have hO:=outAt_end (O:=O) (kk:=kk) (k:=j) (by omega);refine yK Z (zC [1,2,5,6,7,8] [_,_,_,_,_,_] Z (zA (zB 1 Z (zE Z (qR Z Z Z (by omega) (by omega)) (zB 1 Z (zG (qW ((k+1,bs_,T_,p42,cap42,cur42,g3,c3,u3,S++([(m:Int)]),O++[(kk:Int)])) ⟨by omega,hTT.trans hKm.1 (by rw [Nat.add_mul,Nat.one_mul];exact Nat.le_refl _),hSN,hcp42,hlp42,by simpa using htp42,hcg,by rw [← hO];exact hlg,by rw [← hO];exact htg⟩ (by omega) (Sub.cons Z (Sub.cons Z (Sub.cons (by rw [← hO];rfl) (Sub.sel [6,7,8] Z)))) (fun _ h=>h.tail.tail))))))))
  replace h38:=not_false h38
  replace h38:=zL h38
  obtain ⟨kk,hkk,hix,hSN⟩:=hSn.step_old hKm.1.pre hKm.1.ok.nodup hKm.2 (by simpa using h38);refine qK (zC [1,2,5,6,7,8,9] [_,_,_,_,_,_,_] Z (zD (zA (zB 1 Z (zG (zC [1,2,5,6,7,8,9,10] [_,_,_,_,_,_,_,_] Z (qI (yP (σ:=Nat×Nat×Nat×Array Value) (fun ⟨j,g3,c3,u3⟩=>j≤S.length∧u3.size=c3*1∧(outAt O kk j).length≤c3∧u3.toList.take (outAt O kk j).length=ints (outAt O kk j)) (fun ⟨j,g3,c3,u3⟩=>[(1,i6_ r),(2,pt_ p2),(5,sl_ g3 ((outAt O kk j).length) c3),(6,sl_ gs S.length cs),(7,pt_ p7),(8,i6_ (k:Int)),(9,i6_ (m:Int)),(10,i6_ (j:Int))]) (fun ⟨j,g3,c3,u3⟩=>Own w.heap.size w (bk_ p32 #[i6_ (k:Int)] 3::bk_ p7 #[sl_ q 997 997,sl_ c 1 1] 59::bk_ gs us 3::bk_ g3 u3 3::bk_ p2 #[i6_ a.n,str a.set,str a.rel] 24::bk_ q ((bs_.map bktV).toArray) 145::bk_ c #[i6_ (T_.length:Int)] 3::(blks 147 bs_++[]))) (fun ⟨j,g3,c3,u3⟩=>S.length - j) (0,go,co,uo) ⟨by omega,hco,by rw [outAt_zero];exact hlo,by rw [outAt_zero];exact hto⟩ (Sub.cons Z (Sub.cons Z (Sub.cons (by rw [outAt_zero];rfl) (Sub.sel [6,7,8,9,10] Z)))) (fun _ h=>h) ?_))))))))
  rintro ⟨j,g3,c3,u3⟩ ⟨hj,hcg,hlg,htg⟩
  dsimp only
  have hol:=outAt_le O kk j;refine zD (zD (zA (zB 2 Z (zE Z (jD Z zI Z) (zB 1 Z (zG (zC [1,2,5,6,7,8,9,10,46] [_,_,_,_,_,_,_,_,_] Z (qT (b:=decide ((j:Int)<(S.length:Int))) Z (fun h46_1=>?_) (fun h46_1=>?_)))))))))
  ·
   replace h46_1:=zL h46_1;refine qK (zC [1,2,5,6,7,8,9,10] [_,_,_,_,_,_,_,_] Z (zD (qI (zD (zA (zB 2 Z (zE (v:=pf_ gs j) Z (yG (v':=pf_ gs j) (by simp) (qU (i:=(j:Int)) Z zI zR Z Z (by omega) (by omega))) (zE (v:=i6_ ((S).getD (j) 0)) Z (yV 2 Z zX Z Z (cur_at hts (ints_at2 (by omega)))) (zB 2 Z (zG (zC [1,2,5,6,7,8,9,10,54] [_,_,_,_,_,_,_,_,_] Z (qT (b:=decide (((S).getD (j) 0)=(m:Int))) Z (fun h54_1=>?_) (fun h54_1=>?_)))))))))))))
   ·
    replace h54_1:=zL h54_1
    have hjk:=(hix j (by omega)).1 h54_1;refine zS (qB 2 Z (qV (xs:=[.tmp 56]) (vs:=[i6_ (j:Int)]) qA Z Z Z Z Z Z (by decide) Z fun p57_1 hp57_1=>(qY (xs:=outAt O kk j) (ys:=[(j:Int)]) qA 4 Z Z Z Z Z Z Z hcg hlg htg (fun w1 hw1=>(yB hw1 (i:=0) Z (n:=1) (cap:=1) (vs:=ints [(j:Int)]) Z Z (by decide))) (((outAt O kk j)++([(j:Int)])).length) (by first | (simp;done) | (simp;omega)) (by first | (simp;done) | (simp;omega) | omega) fun p58_1 cap58_1 cur58_1 hp58_1 hcp58_1 hlp58_1 htp58_1=>?_)))
    show Ll _ _ (Own _ _ (_::_::_::_::_::_::_::_::(blks 147 bs_++[]))) _ _ ((58,sl_ p58_1 ((((outAt O kk j)++([(j:Int)])).length)) cap58_1)::_) _ _ _;refine qB 1 Z (zN (zC [1,2,5,6,7,8,9,10] [_,_,_,_,_,_,_,_] Z (zA (zB 1 Z (zE Z (qR Z Z Z (by omega) (by omega)) (zB 1 Z (zG (qW (j+1,p58_1,cap58_1,cur58_1) ⟨by omega,hcp58_1,by rw [outAt_yes hjk];exact hlp58_1,by rw [outAt_yes hjk];simpa using htp58_1⟩ (by omega) (Sub.cons Z (Sub.cons Z (Sub.cons (by rw [outAt_yes hjk];rfl) (Sub.sel [6,7,8,9,10] Z)))) (fun _ h=>h.tail)))))))))
   replace h54_1:=zJ h54_1
   have hjk:¬ j=kk:=fun e=>h54_1 ((hix j (by omega)).2 e);refine qK (zC [1,2,5,6,7,8,9,10] [_,_,_,_,_,_,_,_] Z (zA (zB 1 Z (zE Z (qR Z Z Z (by omega) (by omega)) (zB 1 Z (zG (qW (j+1,g3,c3,u3) ⟨by omega,hcg,by rw [outAt_no hjk];exact hlg,by rw [outAt_no hjk];exact htg⟩ (by omega) (Sub.cons Z (Sub.cons Z (Sub.cons (by rw [outAt_no hjk];rfl) (Sub.sel [6,7,8,9,10] Z)))) (fun _ h=>h))))))))
  replace h46_1:=zJ h46_1
  have hO:=outAt_end (O:=O) (kk:=kk) (k:=j) (by omega);refine yK Z (zC [1,2,5,6,7,8] [_,_,_,_,_,_] Z (zA (zB 1 Z (zE Z (qR Z Z Z (by omega) (by omega)) (zB 1 Z (zG (qW (k+1,bs_,T_,gs,cs,us,g3,c3,u3,S,O++[(kk:Int)]) ⟨by omega,hTT.trans hKm.1 (by rw [Nat.add_mul,Nat.one_mul];exact Nat.le_refl _),hSN,hcs,hls,hts,hcg,by rw [← hO];exact hlg,by rw [← hO];exact htg⟩ (by omega) (Sub.cons Z (Sub.cons Z (Sub.cons (by rw [← hO];rfl) (Sub.sel [6,7,8] Z)))) (fun _ h=>h.tail))))))))
 replace h26:=zJ h26;refine yK Z (zC [5] [_] Z (zD (zA (zB 2 Z (zG (zC [4] [_] Z (qE (zY Z Z fun w' hw=>?_))))))))
 obtain rfl:k=a.n.toNat:=by omega
 have hcl:clsOf a r=O:=congrArg Prod.fst hSn.cls
 subst hcl
 exact ⟨_,rfl,hw.below,hw.newRow (i:=2) (n:=_) rfl hco hlo (by simpa using hto)⟩
set_option maxHeartbeats 400000 in
theorem sCls_no (a:St) (r:Int) (w:World) (hsa:a.Small) (hv:clsOk a r=false) :
    Calls Tryd.prog 10 [vS a,i6_ r].toArray w fun en w'=>∃ v,en=.returned v∧Below w.heap.size w w'∧NewRow w.heap.size 3 1 w' v 0 (ints []):=by
 refine fnStart (n:=60) (e:=[(0,vS a),(1,i6_ r)]) Tryd.func10 Z Z Z Z Ends.both (zD (zS (yE (v:=vS a) Z Z Z Z Z fun p2 hp2=>?_)))
 show Ll _ _ (Own _ _ [_]) _ _ ((2,pt_ p2)::_) _ _ _;refine qB 1 Z (zN (zC [1,2] [_,_] Z (zD (zS (qV (xs:=[]) (vs:=[]) qA Z Z Z Z Z Z (by decide) Z fun p11 hp11=>(qB 1 Z (zN (zC [1,2,5] [_,_,_] Z (zD (zS (qV (xs:=[]) (vs:=[]) qA Z Z Z Z Z Z (by decide) Z fun p12 hp12=>(qB 1 Z (zN (zC [1,2,5,6] [_,_,_,_] Z (zD (zD (zA (zE Z (zV (cs:=#[i6_ a.n,str a.set,str a.rel]) 2 Z zQ Z Z zP) (zE (v:=bo_ (validB a)) Z (qH Z Tryd.call38 Z zW (fun w1 hw1=>sValid_ok a w1 hsa)) (zB 2 Z (yL fun b16 hg16=>?_)))))))))))))))))))))
 cases b16
 ·
  replace hg16:=not_false hg16;refine zB 1 Z (zE (v:=bo_ (inB r 0 3)) Z (qH Z Tryd.call39 Z zW (fun w1 hw1=>l1In_ok r 0 3 w1 )) (zB 2 Z (zG (zC [1,2,5,6,20] [_,_,_,_,_] Z (qT (b:=!(inB r 0 3)) Z (fun h20=>?_) (fun h20=>?_))))))
  ·
   replace h20:=not_true h20;refine zD (zA (zB 2 Z (zG (zC [4] [_] Z (qE (zY Z Z fun w' hw=>?_))))))
   exact ⟨_,rfl,hw.below,hw.newRow (i:=1) (n:=0) rfl (by simp) (by omega) (by simp [ints])⟩
  replace h20:=not_false h20
  exact absurd hv (by unfold clsOk;simp_all)
 replace hg16:=not_true hg16;refine zH Z (zH Z (zH Z (zB 1 Z (zG (zC [1,2,5,6,20] [_,_,_,_,_] Z (xV Z (zD (zA (zB 2 Z (zG (zC [4] [_] Z (qE (zY Z Z fun w' hw=>?_)))))))))))))
 exact ⟨_,rfl,hw.below,hw.newRow (i:=1) (n:=0) rfl (by simp) (by omega) (by simp [ints])⟩
theorem iCls_all (a:St) (r:Int) (B:Nat) (w0:World) (hs:List (Nat×Obj)) (w:World) (hsa:a.Small) (hw:Own B w0 hs w) :
    Calls Tryd.prog 8 [vS a,.int .i64 r].toArray w fun en w'=>∃ (v:Value) (new:List (Nat×Obj)),en=.returned v∧(∀ w1,Own B w0 new w1→Ints w1 v (clsL a r))∧Own B w0 (new++hs) w':=by
  cases hv:clsOk a r with
  | true =>
    refine (iCls_yes a r w hsa hv).mono fun en w' ⟨v,h1,h2,g,cap,cur,h3,h4,h5,h6,h7,h8⟩=>?_
    subst h3
    exact ⟨_,[(g,.cells cur 3 (0,0))],h1,fun w1 h=>by rw [clsL,if_pos hv];exact yB h (i:=0) rfl (by simpa using h8) (by simp) h7,hw.learn h2 h4 h5⟩
  | false =>
    refine (iCls_no a r w hsa hv).mono fun en w' ⟨h1,h2⟩=>?_
    exact ⟨_,[],h1,fun w1 h=>by rw [clsL,if_neg (by rw [hv];decide)];exact Ints.nil,hw.calls h2⟩
theorem sCls_all (a:St) (r:Int) (B:Nat) (w0:World) (hs:List (Nat×Obj)) (w:World) (hsa:a.Small) (hw:Own B w0 hs w) :
    Calls Tryd.prog 10 [vS a,.int .i64 r].toArray w fun en w'=>∃ (v:Value) (new:List (Nat×Obj)),en=.returned v∧(∀ w1,Own B w0 new w1→Ints w1 v (clsL a r))∧Own B w0 (new++hs) w':=by
  cases hv:clsOk a r with
  | true =>
    refine (sCls_yes a r w hsa hv).mono fun en w' ⟨v,h1,h2,g,cap,cur,h3,h4,h5,h6,h7,h8⟩=>?_
    subst h3
    exact ⟨_,[(g,.cells cur 3 (0,0))],h1,fun w1 h=>by rw [clsL,if_pos hv];exact yB h (i:=0) rfl (by simpa using h8) (by simp) h7,hw.learn h2 h4 h5⟩
  | false =>
    refine (sCls_no a r w hsa hv).mono fun en w' ⟨v,h1,h2,g,cap,cur,h3,h4,h5,h6,h7,h8⟩=>?_
    subst h3
    exact ⟨_,[(g,.cells cur 3 (0,0))],h1,fun w1 h=>by rw [clsL,if_neg (by rw [hv];decide)];exact yB h (i:=0) rfl (by simpa using h8) (by simp) h7,hw.learn h2 h4 h5⟩
end Go.Proofs.YtagbocafnliabaaDoor
