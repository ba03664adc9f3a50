/-
  FnDefinedSet: all that its proof names (part 2)
-/
import Derived.Test.YtagbocafnliabaaDoorKFnDefinedSeta
import Derived.MapKept
import Derived.Laws.Cover3
import Derived.LoopN
import Derived.Lib.Bytealg
import Derived.LaidEqlPtr
import Derived.Shelf.Strings.SlTrimAscii
import Derived.Shelf.Strings.Trim
import Derived.Test.YtagbocafnliabaaDoorProg
namespace Go.Wk
open Go.RowKit
def formO (f:List UInt8):Option Fm:=if f.length≤4000 then (match parse f with | some (p,[])=>some p | _=>none) else none
theorem formO_long {f:List UInt8} (h:¬ f.length≤4000):formO f=none:=by unfold formO;rw [if_neg h]
theorem formO_parse {f:List UInt8} {p:Fm} (h:formO f=some p):f.length≤4000∧parse f=some (p,[]):=by
  unfold formO at h
  by_cases hl:f.length≤4000
  · rw [if_pos hl] at h
    refine ⟨hl,?_⟩
    split at h
    · injection h with h;subst h;assumption
    · cases h
  · rw [if_neg hl] at h;cases h
theorem parse_formO {f:List UInt8} {p:Fm} (hl:f.length≤4000) (h:parse f=some (p,[])):formO f=some p:=by
 unfold formO;rw [if_pos hl,h]
theorem formO_pa {f:List UInt8} {p:Fm} (h:formO f=some p):Pa f 0 p f.length:=by
 obtain ⟨_,h⟩:=formO_parse h
 refine ⟨by rw [List.drop_zero,h,List.drop_length],?_,Nat.le_refl _⟩
 cases f with
 | nil=>cases h
 | cons c s=>simp
theorem formO_some {f:List UInt8}:(formO f).isSome=(decide ((f.length:Int)≤4000)&&decide (endI f 0=(f.length:Int))):=by
  unfold formO
  by_cases hl:f.length≤4000
  · rw [if_pos hl,decide_eq_true (show (f.length:Int)≤4000 by omega),Bool.true_and]
    have e0:endI f 0=endI f ((0:Nat):Int):=rfl
    rw [e0]
    cases e:parse f with
    | none =>
      have h1:=endI_none (f:=f) (i:=0) (by rw [List.drop_zero];exact e)
      rw [h1,decide_eq_false (by omega)];rfl
    | some x =>
      obtain ⟨p,r⟩:=x
      have h1:=endI_some (f:=f) (i:=0) (by rw [List.drop_zero];exact e)
      have h2:=parse_rest (f:=f) (i:=0) (by rw [List.drop_zero];exact e)
      rw [h1]
      cases r with
      | nil=>rw [decide_eq_true (by simp)];rfl
      | cons z r =>
        have h3:=h2.2.2
        simp only [List.length_cons] at h3
        rw [decide_eq_false (by simp only [List.length_cons];omega)];rfl
  · rw [if_neg hl,decide_eq_false (by omega)];rfl
theorem formO_wf {f:List UInt8} {p:Fm} (h:formO f=some p):wfF p:=(formO_pa h).wf
def envL (xs:List Int):List Int:=xs++List.replicate (4 - xs.length) 0
theorem envL_len {xs:List Int} (h:xs.length≤4):(envL xs).length=4:=by unfold envL;rw [List.length_append,List.length_replicate];omega
theorem envL_ok {a:St} {xs:List Int} (h1:1≤a.n) (h:xs.length≤4) (hx:a.Els xs):EnvA a (envL xs):=by
  refine ⟨envL_len h,fun i hi=>?_⟩
  unfold envL
  rw [List.getD_eq_getElem?_getD,List.getElem?_append]
  split
  · rename_i hl
    rw [List.getElem?_eq_getElem hl]
    exact hx _ (List.getElem_mem _)
  · rename_i hl
    rw [List.getElem?_replicate,if_pos (by omega)]
    exact ⟨by decide,by show (0:Int)<a.n;omega⟩
open Classical in
noncomputable def holdO (a:St) (f:List UInt8) (xs:List Int):Option Bool :=
 match formO f with
 | none=>none
 | some p=>if validB a=true∧xs.length≤4∧(∀ x∈xs,a.El x)∧frB p / 2 ^ xs.length=0 then some (ev a p (envL xs)) else none
noncomputable def holdV (a:St) (f:List UInt8) (xs:List Int):Bool:=(holdO a f xs).getD false
noncomputable def holdK (a:St) (f:List UInt8) (xs:List Int):Bool:=(holdO a f xs).isSome
theorem holdO_none {a:St} {f:List UInt8} {xs:List Int} (h:∀ p,formO f=some p→¬ (validB a=true∧xs.length≤4∧(∀ x∈xs,a.El x)∧frB p / 2 ^ xs.length=0)):holdO a f xs=none:=by
 unfold holdO
 cases e:formO f with
 | none=>rfl
 | some p=>dsimp only;rw [if_neg (h p e)]
theorem holdO_some {a:St} {f:List UInt8} {xs:List Int} {p:Fm} (e:formO f=some p) (h:validB a=true∧xs.length≤4∧(∀ x∈xs,a.El x)∧frB p / 2 ^ xs.length=0):holdO a f xs=some (ev a p (envL xs)):=by
 unfold holdO;rw [e];dsimp only;rw [if_pos h]
theorem hold_yes {a:St} {f:List UInt8} {xs:List Int} {b:Bool} (h:holdO a f xs=some b):holdV a f xs=b∧holdK a f xs=true:=by
 unfold holdV holdK;rw [h];exact ⟨rfl,rfl⟩
theorem op_cases {c:UInt8} (h:isOp c=true):c=116∨c=102∨c=80∨c=61∨c=69∨c=33∨c=38∨c=124∨c=65∨c=83∨c=50∨c=51∨c=52:=by
 unfold isOp at h
 rw [decide_eq_true_eq] at h
 simpa only [List.mem_cons,List.not_mem_nil,or_false] using h
theorem one_no_var {c:UInt8} {p:Fm} (h:wfF (.one c [] p)):c=33:=by
 obtain ⟨h1,h2,h3,_⟩:=h
 have h4:arV c=0:=h3.symm
 rcases op_cases h1 with rfl | rfl | rfl | rfl | rfl | rfl | rfl | rfl | rfl | rfl | rfl | rfl | rfl <;> first | rfl | exact absurd h2 (by decide) | exact absurd h4 (by decide)
theorem one_var {c:UInt8} {v:UInt8} {vs:List UInt8} {p:Fm} (h:wfF (.one c (v::vs) p)):(c=65∨c=83∨c=50∨c=51∨c=52)∧vs=[]∧isV v=true:=by
 obtain ⟨h1,h2,h3,h4,_⟩:=h
 have hv:=h4 v (by simp)
 rw [List.length_cons] at h3
 rcases op_cases h1 with rfl | rfl | rfl | rfl | rfl | rfl | rfl | rfl | rfl | rfl | rfl | rfl | rfl <;> first | exact absurd h2 (by decide) | exact absurd h3 (fun e=>by have e':vs.length+1=0:=e;omega) | exact ⟨by simp,List.length_eq_zero_iff.1 (by have:vs.length+1=1:=h3;omega),hv⟩
theorem two_op {c:UInt8} {p q:Fm} (h:wfF (.two c p q)):c=38∨c=124:=by
 obtain ⟨h1,h2,h3,_⟩:=h
 rcases op_cases h1 with rfl | rfl | rfl | rfl | rfl | rfl | rfl | rfl | rfl | rfl | rfl | rfl | rfl <;> first | exact .inl rfl | exact .inr rfl | exact absurd rfl h2 | exact absurd rfl h3
theorem len_two {vs:List UInt8} (h:vs.length=2):∃ v u,vs=[v,u]:=by
 match vs,h with
 | [v,u],_=>exact ⟨v,u,rfl⟩
theorem leaf_op {c:UInt8} {vs:List UInt8} (h:wfF (.leaf c vs)):(c=116∨c=102)∨(c=80∧∃ v,vs=[v])∨((c=61∨c=69)∧∃ v u,vs=[v,u]):=by
  obtain ⟨h1,h2,h3,h4⟩:=h
  rcases op_cases h1 with rfl | rfl | rfl | rfl | rfl | rfl | rfl | rfl | rfl | rfl | rfl | rfl | rfl <;> first | exact absurd h2 (by decide) | skip
  · exact .inl (.inl rfl)
  · exact .inl (.inr rfl)
  · exact .inr (.inl ⟨rfl,List.length_eq_one_iff.1 h3⟩)
  · exact .inr (.inr ⟨.inl rfl,len_two h3⟩)
  · exact .inr (.inr ⟨.inr rfl,len_two h3⟩)
end Go.Wk
namespace Go.Wk
open Go.RowKit
def clsN (q:Nat→Nat→Bool):Nat→List Int×Nat
 | 0=>([],0)
 | x+1=>match (List.range x).find? (fun y=>q y x) with
  | some y=>((clsN q x).1++[(clsN q x).1.getD y 0],(clsN q x).2)
  | none=>((clsN q x).1++[((clsN q x).2:Int)],(clsN q x).2+1)
section
variable {q:Nat→Nat→Bool}
theorem cls_old {x y:Nat} (hy:y<x) (hall:∀ i,i<y→q i x=false) (h:q y x=true):clsN q (x+1)=((clsN q x).1++[(clsN q x).1.getD y 0],(clsN q x).2):=by
 rw [clsN,find_at (f:=fun y=>q y x) hy hall h]
theorem cls_new {x:Nat} (hall:∀ i,i<x→q i x=false):clsN q (x+1)=((clsN q x).1++[((clsN q x).2:Int)],(clsN q x).2+1):=by
 have:(List.range x).find? (fun y=>q y x)=none:=by rw [List.find?_eq_none];intro i hi;rw [hall i (List.mem_range.1 hi)];simp
 rw [clsN,this]
theorem cls_cases (q:Nat→Nat→Bool) (x:Nat):(∃ y,y<x∧(∀ i,i<y→q i x=false)∧q y x=true)∨∀ i,i<x→q i x=false:=by
 cases h:(List.range x).find? (fun y=>q y x) with
 | none=>exact .inr fun i hi=>by simpa using List.find?_eq_none.1 h i (List.mem_range.2 hi)
 | some y =>
  rw [List.find?_range_eq_some] at h
  exact .inl ⟨y,List.mem_range.1 h.2.1,fun i hi=>by simpa using h.2.2 i hi,h.1⟩
theorem cls_length (q:Nat→Nat→Bool):∀ x,(clsN q x).1.length=x
  | 0=>rfl
  | x+1=>by
    rcases cls_cases q x with ⟨y,h1,h2,h3⟩ | h
    · rw [cls_old h1 h2 h3];simp [cls_length q x]
    · rw [cls_new h];simp [cls_length q x]
theorem cls_small (q:Nat→Nat→Bool):∀ x,(clsN q x).2≤x∧∀ m∈(clsN q x).1,0≤m∧m<((clsN q x).2:Int)
  | 0=>⟨Nat.le_refl _,fun m hm=>by cases hm⟩
  | x+1=>by
    obtain ⟨i1,i2⟩:=cls_small q x
    rcases cls_cases q x with ⟨y,h1,h2,h3⟩ | h
    · rw [cls_old h1 h2 h3]
      refine ⟨by dsimp only;omega,fun m hm=>?_⟩
      rcases List.mem_append.1 hm with h4 | h4
      · exact i2 m h4
      · rw [List.mem_singleton.1 h4]
        have hl:=cls_length q x
        rw [getD_at (by omega)];exact i2 _ (List.getElem_mem _)
    · rw [cls_new h]
      refine ⟨by dsimp only;omega,fun m hm=>?_⟩
      rcases List.mem_append.1 hm with h4 | h4
      · have:=i2 m h4;dsimp only;omega
      · rw [List.mem_singleton.1 h4];dsimp only;omega
end
structure SeenL (T:List (List UInt8)) (n:Nat) (a:St) (x:Nat) (S O:List Int):Prop where
 cls:clsN (fun y x=>winB n a [(y:Int)] a [(x:Int)]) x=(O,S.length)
 nodup:S.Nodup
 out:∀ y:Nat,y<x→∃ m k:Nat,Means T n a [(y:Int)] m∧O.getD y 0=(k:Int)∧S[k]?=some (m:Int)
 seen:∀ s∈S,∃ m y:Nat,s=(m:Int)∧y<x∧Means T n a [(y:Int)] m
theorem SeenL.zero {T:List (List UInt8)} {n:Nat} {a:St}:SeenL T n a 0 [] []:=⟨rfl,List.nodup_nil,fun y hy=>absurd hy (by omega),fun s hs=>by cases hs⟩
theorem SeenL.len {T:List (List UInt8)} {n:Nat} {a:St} {x:Nat} {S O:List Int} (h:SeenL T n a x S O):O.length=x∧S.length≤x:=by
 have h1:=cls_length (fun y x=>winB n a [(y:Int)] a [(x:Int)]) x
 have h2:=(cls_small (fun y x=>winB n a [(y:Int)] a [(x:Int)]) x).1
 rw [h.cls] at h1 h2
 exact ⟨h1,h2⟩
theorem getD_app1 {l r:List Int} {i:Nat} (h:i<l.length):(l++r).getD i 0=l.getD i 0:=by
 rw [List.getD_eq_getElem?_getD,List.getElem?_append_left h,← List.getD_eq_getElem?_getD]
theorem els_one {a:St} {x:Int} (h:a.El x):a.Els [x]:=fun y hy=>by rw [List.mem_singleton.1 hy];exact h
end Go.Wk
namespace Go.Wk
open Go.RowKit
section
variable {P:Program} {n:Nat} {C:World→Prop} {B:Nat} {w0:World} {hs hs':List (Nat×Obj)} {N R:Act→World→Prop} {X:List (Nat×(Act→World→Prop))} {e:Env} {ops:Array Oper} {l:List Oper} {o:Oper}
theorem OpQ.indexArr {t el:TypeId} {m:Nat} {x y:Operand} {b:Nat} {k:IntKind} {i:Int} (h:o.op=.indexAddr t x y) (hu:∀ w,(underlying t).run P w=.ok (.array m el) w) (hz:∀ w,(sizeOf el).run P w=.ok 1 w)
  (hx:opd e x=some (.pointer (some ⟨b,0,none⟩))) (hy:opd e y=some (.int k i)) (h0:0≤i) (h1:i<m):OpQ P n C e o (.pointer (some ⟨b,i.toNat,none⟩)):=OpQ.val fun A hF w=>by
 unfold execOp;rw [h];simp only [hF.opd hx,hF.opd hy]
 simp only [Instr.indexAt,Instr.sureAddr,asIntOf,Sem.run_bind,Sem.run_pure,hu,Result.andThen,hz,if_pos (And.intro h0 h1),Addr.add_lit,Nat.mul_one,Nat.zero_add]
def entM (x:List UInt8×Nat):MapEntry:={ key:=str x.1,val:=.bool true,born:=x.2 }
def mapO (ks:List (List UInt8)):Obj:=.map ((ks.zipIdx.map entM).toArray) ks.length
def addK (ks:List (List UInt8)) (s:List UInt8):List (List UInt8):=if s∈ks then ks else ks++[s]
theorem Own.setObj {w:World} (h:Own B w0 hs w) {i p:Nat} {u:Obj} (hi:hs[i]?=some (p,u)) (u':Obj):Own B w0 (hs.set i (p,u')) { w with heap:=w.heap.setIfInBounds p u' }:=by
  obtain ⟨hB,hp⟩:=h.has i p u hi
  obtain ⟨hh,hne⟩:=MapKept.heap_set (o':=u') hp
  have hil:i<hs.length:=(List.getElem?_eq_some_iff.1 hi).1
  refine Own.of_mem ⟨h.below.os,h.below.tape,h.below.output,by have:=h.below.size;simpa using this,fun k hk=>?_⟩ (by have:=h.base;simpa using this) (fun x hx=>?_) ?_
  · have:=h.below.block k hk
    rw [← this];exact hne k (by omega)
  · obtain ⟨j,hj⟩:=List.mem_iff_getElem?.1 hx
    rw [List.getElem?_set] at hj
    split at hj
    · rename_i e1;subst e1
      injection hj with hj;subst hj
      exact ⟨hB,hh⟩
    · rename_i e1
      obtain ⟨h1,h2⟩:=h.has j x.1 x.2 hj
      exact ⟨h1,by rw [← h2];exact hne _ (fun e2=>h.apart j i x.1 x.2 p u hj hi (fun e3=>e1 e3.symm) e2)⟩
  · have:(hs.set i (p,u')).map Prod.fst=hs.map Prod.fst:=by
      rw [List.map_set]
      refine set_same ?_
      rw [List.getElem?_map,hi];rfl
    rw [this];exact h.nodup
theorem Ll.makeMap {d t:Nat} (hd:Nat.blt d n=true) (hdst:o.dst=some d) (hg:wantE ops e o.guard=some true) (h:o.op=.makeMap t none)
  (k:∀ p,B≤p→Ll P n (Own B w0 ((p,mapO [])::hs)) ops l ((d,.map (some p))::e) N R X):Ll P n (Own B w0 hs) ops (o::l) e N R X :=
 Ll.turn hd hdst hg fun a w hF hw=>⟨.map (some w.heap.size),w.alloc (mapO []),by
  unfold execOp;rw [h];rfl,fun a' ha=>by
  have:=k _ hw.base
  unfold Ll at this
  exact this a' _ ha (hw.alloc _)⟩
end
structure RR where
 g:Nat
 cap:Nat
 cur:Array Value
 xs:List Int
def rd:RR:=⟨0,0,#[],[]⟩
def rv (r:RR):Value:=.slice (some ⟨r.g,0,none⟩) r.xs.length r.cap
structure RR.Ok (r:RR):Prop where
 size:r.cur.size=r.cap*1
 len:r.xs.length≤r.cap
 vals:r.cur.toList.take r.xs.length=ints r.xs
def rowsB (I:TypeId) (rr:List RR):List (Nat×Obj):=rr.map fun r=>(r.g,.cells r.cur I (0,0))
def rvs (rr:List RR):List Value:=rr.map rv
@[simp] theorem rvs_length (rr:List RR):(rvs rr).length=rr.length:=by simp [rvs]
theorem rvs_at {rr:List RR} {i:Nat} (h:i<rr.length):(rvs rr)[i]?=some (rv (rr.getD i rd)):=by
 rw [rvs,List.getElem?_map,List.getElem?_eq_getElem h,getD_at h];rfl
section
variable {B:Nat} {w0:World} {hs:List (Nat×Obj)}
theorem Own.ofRows {w:World} {I:TypeId} {rr:List RR} (h:Own B w0 (rowsB I rr++hs) w) (hok:∀ r∈rr,r.Ok) {i:Nat} (hi:i<rr.length):Ints w (rv (rr.getD i rd)) (rr.getD i rd).xs:=by
  have hm:rr.getD i rd∈rr:=by rw [getD_at hi];exact List.getElem_mem _
  have hk:=hok _ hm
  have hb:=h.mem (x:=((rr.getD i rd).g,.cells (rr.getD i rd).cur I (0,0))) (List.mem_append_left _ (List.mem_map.2 ⟨_,hm,rfl⟩))
  refine ⟨_,(rr.getD i rd).cap,by rw [ints_length];rfl,by rw [ints_length];exact hk.len,fun h=>(by cases h),fun ad had=>?_⟩
  injection had with had
  subst had
  refine ⟨rfl,fun j u hj=>?_⟩
  show w.cell? ⟨(rr.getD i rd).g,0+j,none⟩=some u
  rw [Nat.zero_add]
  unfold World.cell?
  rw [hb.2]
  rw [← hk.vals,List.getElem?_take] at hj
  split at hj
  · simpa using hj
  · cases hj
theorem rows_more {w:World} {I:TypeId} {rr:List RR} {g cap:Nat} {cur:Array Value} {xs:List Int} {f R:List (Nat×Obj)} (h:Own B w0 ((g,.cells cur I (0,0))::(f++(rowsB I rr++R))) w):Own B w0 (f++(rowsB I (rr++[⟨g,cap,cur,xs⟩])++R)) w:=by
 refine h.perm ?_
 unfold rowsB
 rw [List.map_append,List.append_assoc]
 have h1:=perm_back [(g,Obj.cells cur I (0,0))] f (rr.map (fun r=>(r.g,Obj.cells r.cur I (0,0)))++R)
 have h2:=perm_back [(g,Obj.cells cur I (0,0))] (rr.map (fun r=>(r.g,Obj.cells r.cur I (0,0)))) R
 exact h1.trans (h2.append_left f)
end
structure RowsOk (rr:List RR) (u:Array Value) (c:Nat):Prop where
 size:u.size=c*1
 len:rr.length≤c
 vals:u.toList.take rr.length=rvs rr
 ok:∀ r∈rr,r.Ok
theorem RowsOk.nil:RowsOk [] #[] 0:=⟨rfl,Nat.le_refl 0,rfl,fun r hr=>by cases hr⟩
theorem RowsOk.one (p:Nat):RowsOk [⟨p,0,#[],[]⟩] #[.slice (some ⟨p,0,none⟩) 0 0] 1:=⟨rfl,Nat.le_refl 1,rfl,fun r hr=>by rw [List.mem_singleton.1 hr];exact ⟨rfl,Nat.le_refl 0,rfl⟩⟩
theorem RowsOk.add {rr:List RR} {u u':Array Value} {c c':Nat} {r:RR} (h:RowsOk rr u c) (hr:r.Ok) (hs:u'.size=c'*1) (hl:rr.length+1≤c') (hv:u'.toList.take ((rr.length+1)*1)=u.toList.take (rr.length*1)++[rv r]):RowsOk (rr++[r]) u' c':=by
  refine ⟨hs,by simpa using hl,?_,fun x hx=>?_⟩
  · have h1:=h.vals
    rw [Nat.mul_one,Nat.mul_one,h1] at hv
    rw [List.length_append,List.length_singleton,hv];simp [rvs]
  · rcases List.mem_append.1 hx with h1 | h1
    · exact h.ok x h1
    · rw [List.mem_singleton.1 h1];exact hr
theorem rows_forget {B:Nat} {w0 w:World} {I:TypeId} {nn rr:List RR} {x y:Nat×Obj} {hs:List (Nat×Obj)} (h:Own B w0 (x::y::(rowsB I nn++(rowsB I rr++hs))) w):Own B w0 (x::(rowsB I nn++hs)) w :=
 h.sub (List.Sublist.cons_cons _ (List.Sublist.cons _ ((List.Sublist.refl _).append (List.sublist_append_right _ _))))
def nextL (size:Nat) (Ls:List (List Int)):List (List Int):=Ls.flatMap fun l=>(List.range size).map fun x:Nat=>l++[(x:Int)]
def listsL (size:Nat):Nat→List (List Int)
 | 0=>[[]]
 | w+1=>nextL size (listsL size w)
def nextTo (size:Nat) (Ls:List (List Int)) (i k:Nat):List (List Int):=nextL size (Ls.take i)++(List.range k).map fun x:Nat=>(Ls.getD i [])++[(x:Int)]
theorem nextTo_zero (size:Nat) (Ls:List (List Int)) (i:Nat):nextTo size Ls i 0=nextL size (Ls.take i):=by simp [nextTo]
theorem nextTo_step (size:Nat) (Ls:List (List Int)) (i k:Nat):nextTo size Ls i (k+1)=nextTo size Ls i k++[(Ls.getD i [])++[(k:Int)]]:=by
 simp [nextTo,List.range_succ,List.append_assoc]
theorem nextTo_end {size:Nat} {Ls:List (List Int)} {i:Nat} (h:i<Ls.length):nextTo size Ls i size=nextL size (Ls.take (i+1)):=by
 unfold nextTo nextL
 rw [List.take_succ_eq_append_getElem h,List.flatMap_append,getD_at h]
 simp
theorem nextL_length (size:Nat):∀ Ls:List (List Int),(nextL size Ls).length=Ls.length*size
 | []=>by simp [nextL]
 | l::Ls=>by
  have:=nextL_length size Ls
  simp only [nextL,List.flatMap_cons,List.length_append,List.length_map,List.length_range,List.length_cons] at this ⊢
  rw [this,Nat.add_mul,Nat.one_mul];omega
theorem listsL_length (size:Nat):∀ w,(listsL size w).length=size ^ w
 | 0=>rfl
 | w+1=>by rw [listsL,nextL_length,listsL_length size w,Nat.pow_succ]
theorem pow8 {size w:Nat} (h:size≤8) (hw:w≤3):size ^ w≤512 :=
 Nat.le_trans (Nat.pow_le_pow_left h w) (Nat.le_trans (Nat.pow_le_pow_right (by decide) hw) (by decide))
def pointL (size:Nat):Nat→Nat→List Int
 | 0,_=>[]
 | w+1,k=>pointL size w (k / size)++[((k % size:Nat):Int)]
@[simp] theorem pointL_length (size:Nat):∀ w k,(pointL size w k).length=w
 | 0,_=>rfl
 | w+1,k=>by simp [pointL,pointL_length size w]
theorem nextL_at {size:Nat} (h0:0<size):∀ {Ls:List (List Int)} {k:Nat},k<Ls.length*size→(nextL size Ls).getD k []=Ls.getD (k / size) []++[((k % size:Nat):Int)]
  | [],k,h=>by simp at h
  | l::Ls,k,h=>by
    have key:nextL size (l::Ls)=((List.range size).map fun x:Nat=>l++[(x:Int)])++nextL size Ls:=rfl
    rw [key]
    rcases Nat.lt_or_ge k size with h1 | h1
    · rw [List.getD_eq_getElem?_getD,List.getElem?_append_left (by simpa using h1),List.getElem?_map,List.getElem?_range h1,Nat.div_eq_of_lt h1,Nat.mod_eq_of_lt h1]
      rfl
    · have h2:k - size<Ls.length*size:=by
        rw [List.length_cons,Nat.add_mul,Nat.one_mul] at h;omega
      have ih:=nextL_at h0 h2
      rw [List.getD_eq_getElem?_getD,List.getElem?_append_right (by simpa using h1),← List.getD_eq_getElem?_getD]
      simp only [List.length_map,List.length_range]
      rw [ih,Nat.div_eq_sub_div h0 h1,Nat.mod_eq_sub_mod h1]
      rfl
theorem lists_point {size:Nat} (h0:0<size):∀ {w k:Nat},k<size ^ w→(listsL size w).getD k []=pointL size w k
  | 0, k, h => by obtain rfl : k = 0 := by simpa using h
                  rfl
  | w+1,k,h=>by
    rw [listsL,nextL_at h0 (by rw [listsL_length,← Nat.pow_succ];exact h),lists_point h0 (by rw [Nat.pow_succ] at h;exact Nat.div_lt_of_lt_mul (by rw [Nat.mul_comm];exact h)),pointL]
def dedup (l:List (List UInt8)):List (List UInt8):=l.foldl addK []
end Go.Wk
namespace Go.Wk
open Go.RowKit
theorem map_xs {rr:List RR} {i:Nat} (h:i<rr.length):(rr.map RR.xs).getD i []=(rr.getD i rd).xs:=by
 rw [getD_at (by simpa using h),getD_at h,List.getElem_map]
theorem listsL_len {size:Nat}:∀ {w:Nat} {l:List Int},l∈listsL size w→l.length=w
 | 0,l,h=>by rw [List.mem_singleton.1 h];rfl
 | w+1,l,h=>by
  obtain ⟨m,hm,h2⟩:=List.mem_flatMap.1 h
  obtain ⟨x,_,rfl⟩:=List.mem_map.1 h2
  rw [List.length_append,listsL_len hm];rfl
theorem xs_len {rr:List RR} {size r:Nat} (h:rr.map RR.xs=listsL size r) {i:Nat}:(rr.getD i rd).xs.length≤r:=by
  rcases Nat.lt_or_ge i rr.length with h1 | h1
  · rw [← map_xs h1,h,getD_at (by rw [← h];simpa using h1)]
    exact Nat.le_of_eq (listsL_len (List.getElem_mem _))
  · rw [List.getD_eq_getElem?_getD,List.getElem?_eq_none h1];exact Nat.zero_le _
theorem next_len {nm:List RR} {size i k:Nat} {Ls:List (List Int)} (h:nm.map RR.xs=nextTo size Ls i k) (hL:Ls.length≤512) (hk:k≤8) (h8:size≤8):nm.length≤4104:=by
 have h1:=congrArg List.length h
 unfold nextTo at h1
 rw [List.length_map,List.length_append,nextL_length,List.length_map,List.length_range,List.length_take] at h1
 have h2:min i Ls.length*size≤512*8:=Nat.mul_le_mul (by omega) h8
 omega
theorem rows_point {rr:List RR} {size w k:Nat} (h0:0<size) (h:rr.map RR.xs=listsL size w) (hk:k<rr.length):(rr.getD k rd).xs=pointL size w k:=by
 rw [← map_xs hk,h,lists_point h0 (by rw [← listsL_length size w,← h];simpa using hk)]
end Go.Wk
namespace Go.Wk
open Go.RowKit
def qP (a:St) (r w:Nat) (y x:Nat):Bool:=winB r a (pointL a.n.toNat w y) a (pointL a.n.toNat w x)
structure CountL (T:List (List UInt8)) (r:Nat) (a:St) (w k:Nat) (S:List Int):Prop where
  cls:(clsN (qP a r w) k).2=S.length
  sorted:S.Pairwise (·<·)
  all:∀ y:Nat,y<k→∃ i:Nat,(i:Int)∈S∧Means T r a (pointL a.n.toNat w y) i
  only:∀ m∈S,∃ i y:Nat,m=i∧y<k∧Means T r a (pointL a.n.toNat w y) i
theorem CountL.zero {T:List (List UInt8)} {r:Nat} {a:St} {w:Nat}:CountL T r a w 0 []:=⟨rfl,List.Pairwise.nil,fun y hy=>absurd hy (by omega),fun m hm=>by cases hm⟩
theorem CountL.len {T:List (List UInt8)} {r:Nat} {a:St} {w k:Nat} {S:List Int} (h:CountL T r a w k S):S.length≤k:=by rw [← h.cls];exact (cls_small _ k).1
end Go.Wk
namespace Go.Wk
abbrev vO := @OpQ.indexArr
end Go.Wk
namespace Go.Wk
open Go.RowKit
section
variable {τ:Type}
def shLoop (f:Nat→τ→τ×Bool):Nat→τ→τ×Bool
 | 0,t=>(t,true)
 | k+1,t=>if (shLoop f k t).2 then f k (shLoop f k t).1 else shLoop f k t
def shF (a b:St) (go:List Int→τ→τ×Bool) (os:List Int) (x:Nat) (t:τ):τ×Bool :=
 if stillB a os b (upto os.length) (x:Int) os.length then go (os++[(x:Int)]) t else (t,true)
def shS (a b:St) (step:List Int→τ→τ×Bool):Nat→List Int→τ→τ×Bool
 | 0,os,t=>step os t
 | m+1,os,t=>shLoop (shF a b (shS a b step m) os) a.n.toNat t
theorem shLoop_stop {f:Nat→τ→τ×Bool} {k:Nat} {t:τ} (h:(shLoop f k t).2=false):∀ n,k≤n→shLoop f n t=shLoop f k t:=fun n=>by
  induction n with
  | zero=>intro hn;rw [show k=0 from by omega]
  | succ n ih =>
    intro hn
    rcases Nat.lt_or_ge n k with h1 | h1
    · rw [show k=n+1 from by omega]
    · have:=ih h1
      rw [shLoop,this,h];rfl
theorem shLoop_step {f:Nat→τ→τ×Bool} {k:Nat} {t u:τ} (h:shLoop f k t=(u,true)):shLoop f (k+1) t=f k u:=by
 rw [shLoop,h];rfl
end
def placedB (a b:St) (os:List Int) (x:Int):Bool :=
 ((a.inSet x==b.inSet os.length)&&(a.inRel x x==b.inRel os.length os.length))&&(List.range os.length).all fun k=>(a.inRel x (os.getD k 0)==b.inRel os.length k)&&(a.inRel (os.getD k 0) x==b.inRel k os.length)
theorem upto_at {n k:Nat} (h:k<n):(upto n).getD k 0=k:=by
 unfold upto
 rw [List.getD_eq_getElem?_getD,List.getElem?_map,List.getElem?_range h];rfl
theorem still_placed (a b:St) (os:List Int) (x:Int):stillB a os b (upto os.length) x os.length=(!decide (x∈os)&&placedB a b os x):=by
  rw [Bool.eq_iff_iff,stillB_true (by simp),Bool.and_eq_true,Bool.not_eq_true',decide_eq_false_iff_not]
  unfold placedB
  rw [Bool.and_eq_true,Bool.and_eq_true,beq_iff_eq,beq_iff_eq,List.all_eq_true]
  constructor
  · rintro ⟨h1,h2,h3⟩
    refine ⟨fun hx=>?_,⟨h1,h2⟩,fun k hk=>?_⟩
    · obtain ⟨k,hk,e⟩:=List.mem_iff_getElem.1 hx
      have h4:=(pairOk_true.1 (h3 k hk)).1
      rw [upto_at hk,decide_eq_decide,getD_at hk] at h4
      have:=h4.1 e
      omega
    · have hk':=List.mem_range.1 hk
      have h4:=pairOk_true.1 (h3 k hk')
      rw [upto_at hk'] at h4
      rw [Bool.and_eq_true,beq_iff_eq,beq_iff_eq]
      exact ⟨h4.2.2,h4.2.1⟩
  · rintro ⟨h0,⟨h1,h2⟩,h3⟩
    refine ⟨h1,h2,fun k hk=>pairOk_true.2 ?_⟩
    have h4:=h3 k (List.mem_range.2 hk)
    rw [Bool.and_eq_true,beq_iff_eq,beq_iff_eq] at h4
    rw [upto_at hk]
    refine ⟨decide_eq_decide.2 ⟨fun e=>?_,fun e=>by omega⟩,h4.2,h4.1⟩
    exact absurd (by rw [← e,getD_at hk];exact List.getElem_mem _) h0
theorem placed_no {a b:St} {os:List Int} {x:Int} {k:Nat} (hk:k<os.length) (h:(a.inRel x (os.getD k 0) != b.inRel os.length k)=true∨(a.inRel (os.getD k 0) x != b.inRel k os.length)=true):placedB a b os x=false:=by
  cases hp:placedB a b os x with
  | false=>rfl
  | true =>
    unfold placedB at hp
    rw [Bool.and_eq_true,List.all_eq_true] at hp
    have h4:=hp.2 k (List.mem_range.2 hk)
    rw [Bool.and_eq_true,beq_iff_eq,beq_iff_eq] at h4
    rcases h with h | h
    · rw [h4.1] at h;simp at h
    · rw [h4.2] at h;simp at h
theorem placed_head {a b:St} {os:List Int} {x:Int} (h:(a.inSet x != b.inSet os.length)=true∨(a.inRel x x != b.inRel os.length os.length)=true):placedB a b os x=false:=by
  unfold placedB
  rcases h with h | h
  · rw [show (a.inSet x==b.inSet os.length)=false from by simpa using h];rfl
  · rw [show (a.inRel x x==b.inRel os.length os.length)=false from by simpa using h];simp
theorem placed_yes {a b:St} {os:List Int} {x:Int} (h1:(a.inSet x != b.inSet os.length)=false) (h2:(a.inRel x x != b.inRel os.length os.length)=false)
  (h3:∀ k:Nat,k<os.length→(a.inRel x (os.getD k 0) != b.inRel os.length k)=false∧(a.inRel (os.getD k 0) x != b.inRel k os.length)=false):placedB a b os x=true:=by
 unfold placedB
 rw [Bool.and_eq_true,Bool.and_eq_true,List.all_eq_true]
 refine ⟨⟨by simpa using h1,by simpa using h2⟩,fun k hk=>?_⟩
 have:=h3 k (List.mem_range.1 hk)
 rw [Bool.and_eq_true]
 exact ⟨by simpa using this.1,by simpa using this.2⟩
theorem same_grown {a b:St} {os:List Int} {x:Int} (h:sameB a os b (upto os.length)=true) (h2:stillB a os b (upto os.length) x os.length=true):sameB a (os++[x]) b (upto (os++[x]).length)=true:=by
 rw [List.length_append,List.length_singleton,upto_succ,same_more (by simp),h,h2];rfl
theorem has_idx (xs:List Int) (y:Int):decide (0≤idxI xs fun z=>decide (y=z))=decide (y∈xs):=by
  rw [idxI_any,Bool.eq_iff_iff,decide_eq_true_iff,List.any_eq_true]
  constructor
  · rintro ⟨z,hz,e⟩;rw [of_decide_eq_true e];exact hz
  · exact fun h=>⟨y,h,decide_eq_true rfl⟩
section
variable {P:Program} {n:Nat} {B:Nat} {w0:World} {hs:List (Nat×Obj)} {N R:Act→World→Prop} {X:List (Nat×(Act→World→Prop))} {e:Env} {ops:Array Oper} {l:List Oper} {o:Oper}
theorem Ll.callFnGet {σ:Type} {ok:σ→Prop} {v:σ→Value} {hs':σ→List (Nat×Obj)} {d:Nat} {f:FuncId} {c:Operand} {captured:Array Value} {xs:List Operand} {ts:Array TypeId} {vs:List Value} (hd:Nat.blt d n=true) (hdst:o.dst=some d) (hg:wantE ops e o.guard=some true) (h:o.op=.call ⟨.value c,xs.toArray,ts⟩)
  (hcl:opd e c=some (.func (.func f) #[] captured)) (hcf:∀ args w,(callFunc f args).run P w=.ok (.enter f args) w) (hx:opds e xs=some vs)
  (hc:∀ w,Own B w0 hs w→Calls P f (vs.toArray++captured) w fun en w'=>∃ s,en=.returned (v s)∧ok s∧Own B w0 (hs' s) w')
  (k:∀ s,ok s→Ll P n (Own B w0 (hs' s)) ops l ((d,v s)::e) N R X):Ll P n (Own B w0 hs) ops (o::l) e N R X :=
 Ll.callFn hd hdst hg h hcl hcf hx fun w hw=>(hc w hw).mono fun en w' ⟨s,h1,h2,h3⟩=>⟨v s,h1,fun a' ha=>by
  have:=k s h2
  unfold Ll at this
  exact this a' w' ha h3⟩
end
def Tells (P:Program) (tf:FuncId) (tcap:Array Value) (a b:St) (B:Nat) (w0:World) {τ α:Type} (D:τ→α→List (Nat×Obj)) (okD:τ→α→Prop) (step:List Int→τ→τ×Bool):Prop :=
 ∀ (fr:List (Nat×Obj)) (v:Value) (os:List Int) (t:τ) (al:α) (w:World),okD t al→(∀ w,Own B w0 fr w→Ints w v os)→(os.length:Int)=a.n→sameB a os b (upto os.length)=true→a.Els os→Own B w0 (fr++D t al) w →
  Calls P tf (#[v]++tcap) w fun en w'=>∃ al':α,en=.returned (.bool (step os t).2)∧okD (step os t).1 al'∧Own B w0 (fr++D (step os t).1 al') w'
section
variable {P:Program} {n:Nat} {C:World→Prop} {e:Env} {o:Oper}
end
theorem nodup_le:∀ (m:Nat) (l:List Int),l.Nodup→(∀ x∈l,0≤x∧x<(m:Int))→l.length≤m
  | 0,l,_,h=>by
    cases l with
    | nil=>exact Nat.le_refl _
    | cons x l=>have:=h x (by simp);omega
  | m+1,l,hd,h=>by
    by_cases hm:(m:Int)∈l
    · have h1:=nodup_le m (l.erase (m:Int)) (hd.erase _) fun x hx=>by
        obtain ⟨h2,h3⟩:=(hd.mem_erase_iff).1 hx
        have:=h x h3
        omega
      rw [List.length_erase_of_mem hm] at h1
      omega
    · have:=nodup_le m l hd fun x hx=>by
        have h1:=h x hx
        have h2:x ≠ (m:Int):=fun e=>hm (e ▸ hx)
        omega
      omega
theorem shaped_at {a b:St} {os:List Int} (h:sameB a os b (upto os.length)=true) {i j:Nat} (hi:i<os.length) (hj:j<os.length) :
    a.inSet (os.getD i 0)=b.inSet i∧(os.getD i 0=os.getD j 0↔i=j)∧a.inRel (os.getD i 0) (os.getD j 0)=b.inRel i j:=by
  have key:∀ {i:Nat},i<os.length→a.inSet (os.getD i 0)=b.inSet i∧a.inRel (os.getD i 0) (os.getD i 0)=b.inRel i i∧∀ k:Nat,k<i→pairOk a b (os.getD i 0) i (os.getD k 0) k=true:=fun {i} hi=>by
    unfold sameB at h
    have h1:=List.all_eq_true.1 h i (List.mem_range.2 hi)
    unfold stillAt at h1
    obtain ⟨h2,h3,h4⟩:=(stillB_true (by simp)).1 h1
    rw [upto_at hi] at h2 h3
    refine ⟨h2,h3,fun k hk=>?_⟩
    have h5:=h4 k (by rw [List.length_take];omega)
    rw [upto_at hi] at h5
    rw [show ((os.take i).getD k 0)=os.getD k 0 from take_getD hk,show ((upto os.length).take i).getD k 0=(upto os.length).getD k 0 from take_getD hk,upto_at (by omega)] at h5
    exact h5
  refine ⟨(key hi).1,?_,?_⟩
  · rcases Nat.lt_trichotomy i j with h1 | h1 | h1
    · have:=(pairOk_true.1 ((key hj).2.2 i h1)).1
      rw [decide_eq_decide] at this
      rw [this];omega
    · subst h1;simp
    · have:=(pairOk_true.1 ((key hi).2.2 j h1)).1
      rw [decide_eq_decide] at this
      rw [eq_comm,this];omega
  · rcases Nat.lt_trichotomy i j with h1 | h1 | h1
    · exact (pairOk_true.1 ((key hj).2.2 i h1)).2.1
    · subst h1;exact (key hi).2.1
    · exact (pairOk_true.1 ((key hi).2.2 j h1)).2.2
theorem shaped_onto {a b:St} {os:List Int} (hl:(os.length:Int)=a.n) (hA:a.Els os) (h:sameB a os b (upto os.length)=true) {x:Int} (hx:a.El x):∃ i:Nat,i<os.length∧os.getD i 0=x:=by
  by_cases hm:x∈os
  · obtain ⟨i,hi,e⟩:=List.mem_iff_getElem.1 hm
    exact ⟨i,hi,by rw [getD_at hi];exact e⟩
  · exfalso
    have hd:os.Nodup:=by
      rw [List.nodup_iff_pairwise_ne,List.pairwise_iff_getElem]
      intro i j hi hj hij e
      have:=(shaped_at h hi hj).2.1.1 (by rw [getD_at hi,getD_at hj];exact e)
      omega
    have:=nodup_le os.length (x::os) (List.nodup_cons.2 ⟨hm,hd⟩) fun y hy=>by
      rcases List.mem_cons.1 hy with rfl | hy
      · exact ⟨hx.1,by have:=hx.2;omega⟩
      · exact ⟨(hA y hy).1,by have:=(hA y hy).2;omega⟩
    rw [List.length_cons] at this;omega
end Go.Wk
namespace Go.Wk
open Go.RowKit
theorem same_refl (a:St) (xs:List Int):sameB a xs a xs=true:=by
 rw [← atomBits_same rfl];exact beq_self_eq_true _
section
variable {a b:St} {xs ys:List Int} {r:Int}
end
theorem bools_all (bs:List Bool):((bs.map Value.bool).toArray).toList.take bs.length=bools bs:=by
 show (bs.map Value.bool).take bs.length=bs.map Value.bool
 rw [List.take_of_length_le (by simp)]
end Go.Wk
namespace Go.Wk
open Go.RowKit
def pW:Nat→St→List Int→St→List Int→Prop
 | 0,a,xs,b,ys=>(∀ i:Nat,i<xs.length→(xs.getD i 0<0↔ys.getD i 0<0))∧sameB a (placed xs xs.length) b (placed ys ys.length)=true
 | n+1,a,xs,b,ys=>pW n a xs b ys∧∀ i:Nat,i<xs.length→(∀ x:Nat,x<a.n.toNat→∃ y:Nat,y<b.n.toNat∧pW n a (xs.set i (x:Int)) b (ys.set i (y:Int))) ∧
   (∀ y:Nat,y<b.n.toNat→∃ x:Nat,x<a.n.toNat∧pW n a (xs.set i (x:Int)) b (ys.set i (y:Int)))
def idxP (size:Nat) (xs:List Int):Nat:=xs.foldl (fun n x=>n*(size+1)+(x+1).toNat) 0
def atP (size:Nat):Nat→Nat→List Int
 | 0,_=>[]
 | k+1,n=>atP size k (n / (size+1))++[((n % (size+1):Nat):Int) - 1]
def Peb (size k:Nat) (xs:List Int):Prop:=xs.length=k∧∀ x∈xs,-1≤x∧x<(size:Int)
@[simp] theorem atP_len (size:Nat):∀ k n,(atP size k n).length=k
 | 0,_=>rfl
 | k+1,n=>by simp [atP,atP_len size k]
theorem peb_set {size k i:Nat} {xs:List Int} (h:Peb size k xs) {x:Nat} (hx:x<size):Peb size k (xs.set i (x:Int)):=by
  refine ⟨by rw [List.length_set];exact h.1,fun y hy=>?_⟩
  rcases List.mem_or_eq_of_mem_set hy with h1 | h1
  · exact h.2 y h1
  · rw [h1];omega
def numP (size:Nat) (R:List Int) (xs:List Int):Int:=R.getD (idxP size xs) 0
structure GoodP (n k:Nat) (a b:St) (Ra Rb:List Int):Prop where
 aa:∀ xs ys,Peb a.n.toNat k xs→Peb a.n.toNat k ys→(numP a.n.toNat Ra xs=numP a.n.toNat Ra ys↔pW n a xs a ys)
 ab:∀ xs ys,Peb a.n.toNat k xs→Peb b.n.toNat k ys→(numP a.n.toNat Ra xs=numP b.n.toNat Rb ys↔pW n a xs b ys)
 bb:∀ xs ys,Peb b.n.toNat k xs→Peb b.n.toNat k ys→(numP b.n.toNat Rb xs=numP b.n.toNat Rb ys↔pW n b xs b ys)
theorem pW_comm:∀ (n:Nat) (a:St) (xs:List Int) (b:St) (ys:List Int),xs.length=ys.length→pW n a xs b ys→pW n b ys a xs
 | 0,a,xs,b,ys,hl,h=>by
  have e:=placed_len (xs:=xs) (ys:=ys) xs.length fun i hi=>h.1 i hi
  refine ⟨fun i hi=>(h.1 i (by omega)).symm,?_⟩
  have h2:=h.2
  rwa [sameB_comm (by rw [e,hl])] at h2
 | n+1,a,xs,b,ys,hl,h=>by
  refine ⟨pW_comm n _ _ _ _ hl h.1,fun i hi=>?_⟩
  obtain ⟨h1,h2⟩:=h.2 i (by omega)
  exact ⟨fun y hy=>(h2 y hy).elim fun x hx=>⟨x,hx.1,pW_comm n _ _ _ _ (by simp [hl]) hx.2⟩,fun x hx=>(h1 x hx).elim fun y hy=>⟨y,hy.1,pW_comm n _ _ _ _ (by simp [hl]) hy.2⟩⟩
def NumOf (T:List (List UInt8)) (text:Nat→List UInt8) (R:List Int) (N:Nat):Prop:=R.length=N∧∀ i:Nat,i<N→∃ m:Nat,R.getD i 0=(m:Int)∧T[m]?=some (text i)
theorem NumOf.mono {T T':List (List UInt8)} {text:Nat→List UInt8} {R:List Int} {N:Nat} (h:NumOf T text R N) (hp:T <+: T'):NumOf T' text R N :=
 ⟨h.1,fun i hi=>(h.2 i hi).elim fun m hm=>⟨m,hm.1,prefix_get hp hm.2⟩⟩
end Go.Wk
namespace Go.Wk
open Go.RowKit
end Go.Wk
namespace Go.Wk
open Go.RowKit
def NumTo (T:List (List UInt8)) (text:Nat→List UInt8) (R:List Int) (N k:Nat):Prop:=R.length=N∧∀ i:Nat,i<k→∃ m:Nat,R.getD i 0=(m:Int)∧T[m]?=some (text i)
theorem NumTo.zero (T:List (List UInt8)) (text:Nat→List UInt8) (N:Nat):NumTo T text (List.replicate N 0) N 0:=⟨by simp,fun i hi=>absurd hi (by omega)⟩
theorem NumTo.all {T:List (List UInt8)} {text:Nat→List UInt8} {R:List Int} {N:Nat} (h:NumTo T text R N N):NumOf T text R N:=h
theorem NumOf.small {T:List (List UInt8)} {text:Nat→List UInt8} {R:List Int} {N:Nat} (h:NumOf T text R N) (hT:T.length≤1000000):∀ i:Nat,0≤R.getD i 0∧R.getD i 0<1000000:=fun i=>by
  rcases Nat.lt_or_ge i N with h1 | h1
  · obtain ⟨m,e,h2⟩:=h.2 i h1
    have:=(List.getElem?_eq_some_iff.1 h2).1
    rw [e];omega
  · rw [List.getD_eq_getElem?_getD,List.getElem?_eq_none (by rw [h.1];exact h1)];exact ⟨Int.le_refl 0,by decide⟩
end Go.Wk
namespace Go.Wk
open Go.RowKit
def Onto (T0 T:List (List UInt8)) (R:List Int) (k:Nat):Prop:=∀ m:Nat,T0.length≤m→m<T.length→∃ i:Nat,i<k∧R.getD i 0=(m:Int)
theorem Onto.zero (T:List (List UInt8)) (R:List Int):Onto T T R 0:=fun m h1 h2=>absurd h1 (by omega)
structure LevP (n k:Nat) (a b:St) (Ra Rb:List Int) (K:Nat):Prop where
 good:GoodP n k a b Ra Rb
 la:Ra.length=(a.n.toNat+1) ^ k
 lb:Rb.length=(b.n.toNat+1) ^ k
 sa:∀ i:Nat,i<Ra.length→0≤Ra.getD i 0∧Ra.getD i 0<(K:Int)
 sb:∀ i:Nat,i<Rb.length→0≤Rb.getD i 0∧Rb.getD i 0<(K:Int)
 onto:∀ m:Nat,m<K→(∃ i:Nat,i<Ra.length∧Ra.getD i 0=(m:Int))∨∃ i:Nat,i<Rb.length∧Rb.getD i 0=(m:Int)
def sS (a b:St) (s:Bool×List Int):St:=if s.1 then b else a
def sP (a b:St) (k:Nat) (s:Bool×List Int):Prop:=Peb (sS a b s).n.toNat k s.2
def pF (a:St) (xs:List Int) (b:St) (ys:List Int):Prop:=∀ n,pW n a xs b ys
def Still (n k:Nat) (a b:St):Prop:=∀ s t,sP a b k s→sP a b k t→pW n (sS a b s) s.2 (sS a b t) t.2→pW (n+1) (sS a b s) s.2 (sS a b t) t.2
theorem Still.next {n k:Nat} {a b:St} (h:Still n k a b):Still (n+1) k a b:=fun s t hs ht e=>by
  refine ⟨e,fun i hi=>?_⟩
  obtain ⟨h1,h2⟩:=e.2 i hi
  have put:∀ {u:Bool×List Int} {x:Nat},sP a b k u→x<(sS a b u).n.toNat→sP a b k (u.1,u.2.set i (x:Int)):=fun hu hx=>peb_set hu hx
  refine ⟨fun x hx=>?_,fun y hy=>?_⟩
  · obtain ⟨y,hy,e2⟩:=h1 x hx
    exact ⟨y,hy,h (s.1,s.2.set i (x:Int)) (t.1,t.2.set i (y:Int)) (put hs hx) (put ht hy) e2⟩
  · obtain ⟨x,hx,e2⟩:=h2 y hy
    exact ⟨x,hx,h (s.1,s.2.set i (x:Int)) (t.1,t.2.set i (y:Int)) (put hs hx) (put ht hy) e2⟩
theorem Still.all {n k:Nat} {a b:St} (h:Still n k a b):∀ m:Nat,Still (n+m) k a b
 | 0=>h
 | m+1=>(h.all m).next
end Go.Wk
namespace Go.Wk
open Go.RowKit
structure Levs (k M:Nat) (a b:St) (A B:List (List Int)) (m g:Nat):Prop where
 la:A.length=m+1
 lb:B.length=m+1
 lev:∃ Ks:Nat→Nat,(∀ i:Nat,i≤m→Ks i≤1458∧LevP i k a b (A.getD i []) (B.getD i []) (Ks i))∧(4<M→∀ i:Nat,i<g→Ks i<Ks (i+1))
theorem Levs.at {k M m g:Nat} {a b:St} {A B:List (List Int)} (h:Levs k M a b A B m g) {i:Nat} (hi:i≤m):∃ K,K≤1458∧LevP i k a b (A.getD i []) (B.getD i []) K:=by
 obtain ⟨_,_,Ks,h1,_⟩:=h
 exact ⟨Ks i,h1 i hi⟩
end Go.Wk
namespace Go.Wk
open Go.RowKit
theorem RowsOk.cell {rr:List RR} {u:Array Value} {c i:Nat} (h:RowsOk rr u c) (hi:i<rr.length):u.toList[i]?=some (rv (rr.getD i rd)):=by
 have:=rvs_at hi
 rw [← h.vals,List.getElem?_take,if_pos hi] at this
 exact this
end Go.Wk
namespace Go.Wk
open Go.RowKit
theorem Levs.less {k M m g g':Nat} {a b:St} {A B:List (List Int)} (h:Levs k M a b A B m g) (hg:g'≤g):Levs k M a b A B m g':=by
 obtain ⟨hA,hB,Ks,h1,h2⟩:=h
 exact ⟨hA,hB,Ks,h1,fun hM i hi=>h2 hM i (by omega)⟩
end Go.Wk
namespace Go.Wk
open Go.RowKit
end Go.Wk
namespace Go.Wk
open Go.RowKit
end Go.Wk
namespace Go.Wk
open Go.RowKit
def dig (pr s i:Nat):Nat:=s / pr ^ i % pr
def zer (pr s i:Nat):Nat:=s - pr ^ i*dig pr s i
def xOf (nb d:Nat):Int:=if d=0 then -1 else (((d - 1) / nb:Nat):Int)
def yOf (nb d:Nat):Int:=if d=0 then -1 else (((d - 1) % nb:Nat):Int)
def pX (nb pr k s:Nat):List Int:=(List.range k).map fun i=>xOf nb (dig pr s i)
def pY (nb pr k s:Nat):List Int:=(List.range k).map fun i=>yOf nb (dig pr s i)
@[simp] theorem pX_len (nb pr k s:Nat):(pX nb pr k s).length=k:=by simp [pX]
@[simp] theorem pY_len (nb pr k s:Nat):(pY nb pr k s).length=k:=by simp [pY]
def code (nb:Nat) (x y:Int):Nat:=if 0≤x then 1+x.toNat*nb+y.toNat else 0
end Go.Wk
namespace Go.Wk
open Go.RowKit
def prN (a b:St):Nat:=a.n.toNat*b.n.toNat+1
def stX (a b:St) (k s:Nat):List Int:=pX b.n.toNat (prN a b) k s
def stY (a b:St) (k s:Nat):List Int:=pY b.n.toNat (prN a b) k s
@[simp] theorem stX_len (a b:St) (k s:Nat):(stX a b k s).length=k:=by unfold stX;simp
@[simp] theorem stY_len (a b:St) (k s:Nat):(stY a b k s).length=k:=by unfold stY;simp
open Classical in
noncomputable def winAt (n:Nat) (a b:St) (k s:Nat):Bool:=decide (pW n a (stX a b k s) b (stY a b k s))
noncomputable def WL (n:Nat) (a b:St) (k:Nat):List Bool:=(List.range (prN a b ^ k)).map (winAt n a b k)
@[simp] theorem WL_len (n:Nat) (a b:St) (k:Nat):(WL n a b k).length=prN a b ^ k:=by simp [WL]
def Ans (W:Nat→Bool) (na nb rest step:Nat):Prop:=(∀ x:Nat,x<na→∃ y:Nat,y<nb∧W (rest+step*(1+x*nb+y))=true)∧∀ y:Nat,y<nb→∃ x:Nat,x<na∧W (rest+step*(1+x*nb+y))=true
end Go.Wk
namespace Go.Wk
open Go.RowKit
structure Marks (f:Nat→Nat→Bool) (na nb x y:Nat) (R C:List Bool):Prop where
 rl:R.length=na
 cl:C.length=nb
 rows:∀ i:Nat,i<na→(R.getD i false=true↔∃ j:Nat,j<nb∧(i<x∨i=x∧j<y)∧f i j=true)
 cols:∀ j:Nat,j<nb→(C.getD j false=true↔∃ i:Nat,i<na∧(i<x∨i=x∧j<y)∧f i j=true)
end Go.Wk
namespace Go.Wk
open Go.RowKit
end Go.Wk
namespace Go.Wk
end Go.Wk
namespace Go.Wk
open Go.RowKit
structure TurnAt (fit W:Nat→Bool) (a b:St) (k i S:Nat) (X:List Bool):Prop where
 len:X.length=prN a b ^ k
 at_:∀ s:Nat,s<prN a b ^ k→(X.getD s false=true↔fit s=true∧(∀ j:Nat,j<i→Ans W a.n.toNat b.n.toNat (zer (prN a b) s j) (prN a b ^ j))∧(zer (prN a b) s i<S→Ans W a.n.toNat b.n.toNat (zer (prN a b) s i) (prN a b ^ i)))
structure Cleared (X0 X:List Bool) (S step Q:Nat):Prop where
 len:X.length=X0.length
 at_:∀ s:Nat,s<X0.length→(X.getD s false=true↔X0.getD s false=true∧¬ ∃ q,q<Q∧s=S+step*q)
end Go.Wk
namespace Go.Wk
open Go.RowKit
end Go.Wk
namespace Go.Wk
open Go.RowKit
end Go.Wk
namespace Go.Wk
open Go.RowKit
section
variable {P:Program} {n:Nat} {B:Nat} {w0:World} {N R:Act→World→Prop} {X:List (Nat×(Act→World→Prop))} {e:Env} {ops:Array Oper} {l:List Oper} {o:Oper}
end
section
variable {P:Program} {n:Nat} {C:World→Prop} {e:Env} {o:Oper}
theorem OpQ.eqNilP {t t' q:TypeId} {x y:Operand} {p:Option Addr} (h:o.op=.binOp .eql t x y t') (hu:P.underlying t=some (.pointer q)) (hx:opd e x=some (.pointer p)) (hy:opd e y=some (.pointer none)):OpQ P n C e o (.bool p.isNone):=OpQ.val fun A hf w=>by
 have hu':P.underlying t=some (.pointer (P.pointee t)):=by simp [Program.pointee,hu]
 unfold execOp;rw [h];simp only [hf.opd hx,hf.opd hy]
 rw [show eqGuard .eql t x y (Value.pointer p) (Value.pointer none)=pure () from rfl]
 simp only [Sem.run_bind,run_eql_pointer_nil w t p hu',Sem.run_pure,Result.andThen]
end
end Go.Wk
namespace Go.Wk
abbrev jV := @OpQ.eqNilP
end Go.Wk
namespace Go.Wk
open Go.RowKit
section
variable {P:Program} {n:Nat} {C:World→Prop} {N R:Act→World→Prop} {X:List (Nat×(Act→World→Prop))} {e:Env}
def Rn (P:Program) (c:Code) (N R:Act→World→Prop) (X:List (Nat×(Act→World→Prop))) (k:Nat):Act→World→Prop:=fun a w=>Code.rounds P c (post N R X) k a w
theorem then_post {Nn N R:Act→World→Prop} {X:List (Nat×(Act→World→Prop))}:∀ (x:Exit) (a:Act) (w:World),post Nn R X x a w→Exit.then Nn (post N R X) x a w:=fun x a w hh=>by
  cases x <;> first | exact hh | exact hh.elim
theorem Wk.unroll {c:Code} (k:Nat) (h:Wk P n C c (Rn P c N R X k) R X e):Wk P n C (.loop c) N R X e:=by
 unfold Wk at h ⊢;intro a w hf hc
 exact wp_loop_rounds (k+1) (by rw [rounds_succ];exact Code.wp_mono then_post (h a w hf hc))
theorem Kt.round {c:Code} {k:Nat} {e':Env} (hs:Sub e' e) (h:Wk P n C c (Rn P c N R X k) R X e'):Kt n C e (Rn P c N R X (k+1)):=by
 unfold Wk at h;unfold Kt;intro a w hf hc;unfold Rn;rw [rounds_succ];exact Code.wp_mono then_post (h a w (hf.sub hs) hc)
theorem Own.trans {B:Nat} {w0 w1 w:World} {hs:List (Nat×Obj)} (h:Own B w0 hs w1) (k:Below w1.heap.size w1 w):Own B w0 hs w:=h.calls k
end
section
variable {P:Program} {n:Nat} {B:Nat} {w0:World} {hs:List (Nat×Obj)} {N R:Act→World→Prop} {X:List (Nat×(Act→World→Prop))} {e:Env} {ops:Array Oper} {l:List Oper} {o:Oper}
theorem new_one {i p:Nat} {V:Value} {T:TypeId} (hi:hs[i]?=some (p,.cells #[V] T (0,0))):∀ w,Own B w0 hs w→∀ ad,some (⟨p,0,none⟩:Addr)=some ad→∀ j u,([V])[j]?=some u→w.cell? (ad.add j)=some u:=fun w1 hw1 ad had j u hj=>by
 injection had with had;subst had
 rw [Addr.add_lit,Nat.zero_add,hw1.cell (i:=i) hi]
 simpa using hj
theorem Ll.appendN1 {t el d p:Nat} {T:TypeId} {x y:Operand} {V:Value} (E:Elem P t el 1) (i:Nat) (hd:Nat.blt d n=true) (hdst:o.dst=some d) (hg:wantE ops e o.guard=some true)
  (h:o.op=.call ⟨.builtin .append,#[x,y],#[t,t]⟩) (hx:opd e x=some (.slice none 0 0)) (hy:opd e y=some (.slice (some ⟨p,0,none⟩) 1 1)) (hi:hs[i]?=some (p,.cells #[V] T (0,0)))
  (k:∀ g' c' u',B≤g'→u'.size=c'*1→1≤c'→u'.toList.take 1=[V]→Ll P n (Own B w0 ((g',.cells u' el (0,0))::hs)) ops l ((d,.slice (some ⟨g',0,none⟩) 1 c')::e) N R X):Ll P n (Own B w0 hs) ops (o::l) e N R X :=
 Ll.appendNil E [V] hd hdst hg h hx hy (by decide) (by simp) rfl (new_one hi) (by decide) fun g' c' u' h1 h2 h3 h4=>k g' c' u' h1 h2 h3 h4
theorem Ll.append1 {t el d p g m cap:Nat} {cur:Array Value} {vs:List Value} {T:TypeId} {x y:Operand} {V:Value} (E:Elem P t el 1) (j i:Nat) (hd:Nat.blt d n=true) (hdst:o.dst=some d) (hg:wantE ops e o.guard=some true)
  (h:o.op=.call ⟨.builtin .append,#[x,y],#[t,t]⟩) (hx:opd e x=some (.slice (some ⟨g,0,none⟩) m cap)) (hy:opd e y=some (.slice (some ⟨p,0,none⟩) 1 1)) (hj:hs[j]?=some (g,.cells cur el (0,0))) (hc:cur.size=cap*1) (hl:m≤cap) (ht:cur.toList.take m=vs) (hi:hs[i]?=some (p,.cells #[V] T (0,0))) (hV:V.oneCell'=true) (hb:m≤1000000)
  (k:∀ g' c' u',B≤g'→u'.size=c'*1→m+1≤c'→u'.toList.take (m+1)=vs++[V]→Ll P n (Own B w0 (hs.set j (g',.cells u' el (0,0)))) ops l ((d,.slice (some ⟨g',0,none⟩) (m+1) c')::e) N R X):Ll P n (Own B w0 hs) ops (o::l) e N R X :=
 Ll.append E j [V] hd hdst hg h hx hy hj hc hl rfl (fun h=>by cases h) (new_one hi) (by simpa using hV) (by omega) fun g' c' u' h1 h2 h3 h4=>k g' c' u' h1 h2 h3 (by rw [← ht];simpa using h4)
end
theorem u8_beq (b c:UInt8):(b==c)=decide (b.toNat=c.toNat):=by
 rw [Bool.eq_iff_iff,beq_iff_eq,decide_eq_true_eq]
 exact ⟨fun e=>by rw [e],fun e=>UInt8.toNat.inj e⟩
theorem idx_abcd (c:UInt8):decide ((0:Int)≤Lib.indexByte [97,98,99,100] c)=isV c:=by
  unfold isV
  have e:∀ k:UInt8,(k==c)=decide (k.toNat=c.toNat):=fun k=>u8_beq k c
  simp only [Lib.indexByte,e]
  have h1:(97:UInt8).toNat=97:=rfl
  have h2:(98:UInt8).toNat=98:=rfl
  have h3:(99:UInt8).toNat=99:=rfl
  have h4:(100:UInt8).toNat=100:=rfl
  rw [h1,h2,h3,h4,Bool.eq_iff_iff]
  simp only [decide_eq_true_eq,Bool.and_eq_true]
  by_cases c1:97=c.toNat
  · simp [← c1]
  · by_cases c2:98=c.toNat
    · simp [← c2]
    · by_cases c3:99=c.toNat
      · simp [← c3]
      · by_cases c4:100=c.toNat
        · simp [← c4]
        · simp [c1,c2,c3,c4];omega
theorem idx_quant (c:UInt8):decide ((0:Int)≤Lib.indexByte [65,83,50,51,52] c)=decide (quI (c.toNat:Int)):=by
  rw [decide_eq_decide]
  unfold quI
  have e:∀ k:UInt8,(k==c)=decide (k.toNat=c.toNat):=fun k=>u8_beq k c
  simp only [Lib.indexByte,e]
  have h1:(65:UInt8).toNat=65:=rfl
  have h2:(83:UInt8).toNat=83:=rfl
  have h3:(50:UInt8).toNat=50:=rfl
  have h4:(51:UInt8).toNat=51:=rfl
  have h5:(52:UInt8).toNat=52:=rfl
  rw [h1,h2,h3,h4,h5]
  simp only [decide_eq_true_eq]
  by_cases c1:65=c.toNat
  · simp [← c1]
  · by_cases c2:83=c.toNat
    · simp [← c2]
    · by_cases c3:50=c.toNat
      · simp [← c3]
      · by_cases c4:51=c.toNat
        · simp [← c4]
        · by_cases c5:52=c.toNat
          · simp [← c5]
          · exact ⟨fun h=>absurd h (by simp [c1,c2,c3,c4,c5]),fun h=>by exfalso;rcases h with h | h | h | h | h <;> omega⟩
theorem first_of {s:List UInt8} (h:s ≠ []):0<s.length∧s=s.getD 0 0::s.drop 1:=by
 cases s with
 | nil=>exact absurd rfl h
 | cons c s=>exact ⟨by simp,rfl⟩
theorem pp_by {s : List UInt8} (h : s ≠ []) : parse s = if isOp (s.getD 0 0) then
      match takeV (arV (s.getD 0 0)) (s.drop 1) with
      | none=>none
      | some (vs,r) =>
        if arP (s.getD 0 0)=0 then some (.leaf (s.getD 0 0) vs,r)
        else if arP (s.getD 0 0)=1 then (match parse r with | some (p,r')=>some (.one (s.getD 0 0) vs p,r') | none=>none)
        else (match parse r with
          | some (p,r')=>(match parse r' with | some (q,r2)=>some (.two (s.getD 0 0) p q,r2) | none=>none)
          | none=>none)
    else none:=by
  have:=parse_cons (s.getD 0 0) (s.drop 1)
  rw [← (first_of h).2] at this
  exact this
def okV (s:List UInt8) (k:Nat):Prop:=¬ s.drop k=[]∧isV (s.getD k 0)=true
theorem okV_iff {s:List UInt8} {k:Nat}:¬ varI s (k:Int)<0↔okV s k:=by
 rw [varI_neg,Classical.not_not,Int.toNat_natCast]
 unfold okV
 have h:¬ s.drop k=[]↔k<s.length:=by rw [List.drop_eq_nil_iff];omega
 rw [h]
 exact ⟨fun e=>⟨by omega,e.2.2⟩,fun e=>⟨by omega,by omega,e.2⟩⟩
theorem pp0 {s:List UInt8} (h:s ≠ []) (hc:s.getD 0 0=116∨s.getD 0 0=102):parse s=some (.leaf (s.getD 0 0) [],s.drop 1):=by
 rw [pp_by h];rcases hc with e | e <;> rw [e] <;> rfl
theorem pp1 {s:List UInt8} (h:s ≠ []) (hc:s.getD 0 0=80):(okV s 1→parse s=some (.leaf 80 [s.getD 1 0],s.drop 2))∧(¬ okV s 1→parse s=none):=by
  rw [pp_by h,hc,show arV 80=1 from rfl,takeV_one]
  refine ⟨fun hv=>?_,fun hv=>?_⟩
  · rw [if_neg (show ¬ varI s ((1:Nat):Int)<0 from okV_iff.2 hv)];rfl
  · rw [if_pos (show varI s ((1:Nat):Int)<0 from Classical.byContradiction fun e=>hv (okV_iff.1 e))];rfl
theorem pp2 {s:List UInt8} (h:s ≠ []) (hc:s.getD 0 0=61∨s.getD 0 0=69):(okV s 1→okV s 2→parse s=some (.leaf (s.getD 0 0) [s.getD 1 0,s.getD 2 0],s.drop 3))∧(¬ okV s 1∨¬ okV s 2→parse s=none):=by
  have ha:arV (s.getD 0 0)=2∧arP (s.getD 0 0)=0∧isOp (s.getD 0 0)=true:=by rcases hc with e | e <;> rw [e] <;> exact ⟨rfl,rfl,rfl⟩
  rw [pp_by h,if_pos ha.2.2,ha.1,takeV_two]
  refine ⟨fun h1 h2=>?_,fun hv=>?_⟩
  · rw [if_neg (fun e=>e.elim (fun e=>okV_iff.2 h1 e) (fun e=>okV_iff.2 h2 e))]
    dsimp only
    rw [if_pos ha.2.1]
  · rw [if_pos]
    rcases hv with e | e
    · exact .inl (Classical.byContradiction fun z=>e (okV_iff.1 z))
    · exact .inr (Classical.byContradiction fun z=>e (okV_iff.1 z))
theorem pp3 {s:List UInt8} (h:s ≠ []) (hc:s.getD 0 0=33):(∀ q r,parse (s.drop 1)=some (q,r)→parse s=some (.one 33 [] q,r))∧(parse (s.drop 1)=none→parse s=none):=by
 rw [pp_by h,hc]
 exact ⟨fun q r e=>by rw [show takeV (arV 33) (s.drop 1)=some ([],s.drop 1) from rfl];dsimp only;rw [e];rfl,fun e=>by rw [show takeV (arV 33) (s.drop 1)=some ([],s.drop 1) from rfl];dsimp only;rw [e];rfl⟩
theorem pp4 {s:List UInt8} (h:s ≠ []) (hc:s.getD 0 0=38∨s.getD 0 0=124):(∀ q r q2 r2,parse (s.drop 1)=some (q,r)→parse r=some (q2,r2)→parse s=some (.two (s.getD 0 0) q q2,r2))∧(parse (s.drop 1)=none→parse s=none)∧(∀ q r,parse (s.drop 1)=some (q,r)→parse r=none→parse s=none):=by
 have ha:arV (s.getD 0 0)=0∧arP (s.getD 0 0)=2∧isOp (s.getD 0 0)=true:=by rcases hc with e | e <;> rw [e] <;> exact ⟨rfl,rfl,rfl⟩
 have ht:takeV (arV (s.getD 0 0)) (s.drop 1)=some ([],s.drop 1):=by rw [ha.1];rfl
 rw [pp_by h,if_pos ha.2.2,ht]
 dsimp only
 rw [if_neg (by omega),if_neg (by omega)]
 exact ⟨fun q r q2 r2 e1 e2=>by rw [e1];dsimp only;rw [e2],fun e=>by rw [e],fun q r e1 e2=>by rw [e1];dsimp only;rw [e2]⟩
theorem pp5 {s:List UInt8} (h:s ≠ []) (hc:quI ((s.getD 0 0).toNat:Int)):(∀ q r,okV s 1→parse (s.drop 2)=some (q,r)→parse s=some (.one (s.getD 0 0) [s.getD 1 0] q,r))∧(¬ okV s 1→parse s=none)∧(parse (s.drop 2)=none→parse s=none):=by
  have ha:arV (s.getD 0 0)=1∧arP (s.getD 0 0)=1∧isOp (s.getD 0 0)=true:=by rcases quI_of hc with e | e | e | e | e <;> rw [e] <;> exact ⟨rfl,rfl,rfl⟩
  rw [pp_by h,if_pos ha.2.2,ha.1,takeV_one]
  refine ⟨fun q r hv e=>?_,fun hv=>?_,fun e=>?_⟩
  · rw [if_neg (show ¬ varI s ((1:Nat):Int)<0 from okV_iff.2 hv)]
    dsimp only
    rw [if_neg (by omega),if_pos ha.2.1,e]
  · rw [if_pos (show varI s ((1:Nat):Int)<0 from Classical.byContradiction fun e=>hv (okV_iff.1 e))]
  · split
    · rfl
    · rename_i vs r hh
      split at hh
      · cases hh
      · injection hh with hh;injection hh with _ hh;subst hh
        rw [if_neg (by omega),if_pos ha.2.1,e]
theorem ppX {s:List UInt8} (h:s ≠ []) (hc:isOp (s.getD 0 0)=false):parse s=none:=by
 rw [pp_by h,hc];rfl
theorem isOp_no {c:UInt8} (h1:¬ (c.toNat:Int)=116) (h2:¬ (c.toNat:Int)=102) (h3:¬ (c.toNat:Int)=80) (h4:¬ (c.toNat:Int)=61) (h5:¬ (c.toNat:Int)=69) (h6:¬ (c.toNat:Int)=33) (h7:¬ (c.toNat:Int)=38) (h8:¬ (c.toNat:Int)=124) (h9:¬ quI (c.toNat:Int)):isOp c=false:=by
 cases e:isOp c with
 | false=>rfl
 | true =>
  unfold quI at h9
  unfold isOp at e
  rw [decide_eq_true_eq] at e
  simp only [List.mem_cons,List.not_mem_nil,or_false] at e
  rcases e with e | e | e | e | e | e | e | e | e | e | e | e | e <;> rw [e] at h1 h2 h3 h4 h5 h6 h7 h8 h9 <;> simp at h1 h2 h3 h4 h5 h6 h7 h8 h9
theorem getD_drop {s:List UInt8} {k:Nat}:(s.drop k).getD 0 0=s.getD k 0:=by
 rw [List.getD_eq_getElem?_getD,List.getElem?_drop,Nat.add_zero,← List.getD_eq_getElem?_getD]
theorem take_drop1 {s:List UInt8} {k:Nat} (h:¬ s.drop k=[]):(s.drop k).take 1=[s.getD k 0]:=by
 have h2:=(first_of h).2
 rw [getD_drop] at h2
 rw [h2];rfl
theorem two_of {c:UInt8} {m n:Nat} (hm:m<256) (hn:n<256) (h:(c.toNat:Int)=(m:Int)∨(c.toNat:Int)=(n:Int)):c=UInt8.ofNat m∨c=UInt8.ofNat n :=
 h.elim (fun e=>.inl (u8_of hm e)) (fun e=>.inr (u8_of hn e))
end Go.Wk
namespace Go.Wk
abbrev jY := @Ll.appendN1
abbrev vN := @Wk.unroll
end Go.Wk
namespace Go.Wk
open Go.RowKit
theorem or_lt16 {a b:Nat} (ha:a<16) (hb:b<16):a ||| b<16:=Nat.or_lt_two_pow (n:=4) ha hb
def ptrV (p:Nat):Value:=.pointer (some ⟨p,0,none⟩)
def u8V (v:UInt8):Value:=.int .u8 (v.toNat:Int)
def NodeC (T:TypeId) (w:World) (p:Nat) (c:UInt8) (vs:List UInt8) (ps:List Nat) (fr al:Nat):Prop :=
 ∃ vv pv,w.heap[p]?=some (.cells #[u8V c,vv,pv,.int .i64 (fr:Int),.int .i64 (al:Int)] T (0,0))∧Row w vv (vs.map u8V)∧Row w pv (ps.map ptrV)
def Tree (T:TypeId) (w:World):Fm→Nat→Prop
 | .leaf c vs,p=>NodeC T w p c vs [] (frB (.leaf c vs)) (allB (.leaf c vs))
 | .one c vs q,p=>∃ q',NodeC T w p c vs [q'] (frB (.one c vs q)) (allB (.one c vs q))∧Tree T w q q'
 | .two c q r,p=>∃ q' r',NodeC T w p c [] [q',r'] (frB (.two c q r)) (allB (.two c q r))∧Tree T w q q'∧Tree T w r r'
theorem NodeC.own {T:TypeId} {w w':World} {p:Nat} {c:UInt8} {vs:List UInt8} {ps:List Nat} {fr al:Nat} {hs:List (Nat×Obj)} (h:NodeC T w p c vs ps fr al) (hw:Own w.heap.size w hs w'):NodeC T w' p c vs ps fr al:=by
  obtain ⟨vv,pv,h1,h2,h3⟩:=h
  refine ⟨vv,pv,?_,h2.own hw,h3.own hw⟩
  rw [hw.below.block p ?_]
  · exact h1
  · rcases Nat.lt_or_ge p w.heap.size with h | h
    · exact h
    · rw [Array.getElem?_eq_none h] at h1;cases h1
theorem Tree.own {T:TypeId} {w w':World} {hs:List (Nat×Obj)} (hw:Own w.heap.size w hs w'):∀ {fm:Fm} {p:Nat},Tree T w fm p→Tree T w' fm p
 | .leaf _ _,_,h=>NodeC.own h hw
 | .one _ _ _,_,h=>by obtain ⟨q',h1,h2⟩:=h;exact ⟨q',h1.own hw,Tree.own hw h2⟩
 | .two _ _ _,_,h=>by obtain ⟨q',r',h1,h2,h3⟩:=h;exact ⟨q',r',h1.own hw,Tree.own hw h2,Tree.own hw h3⟩
theorem Tree.node {T:TypeId} {w:World}:∀ {fm:Fm} {p:Nat},Tree T w fm p→∃ c vs ps,NodeC T w p c vs ps (frB fm) (allB fm)
 | .leaf c vs,_,h=>⟨c,vs,[],h⟩
 | .one c vs _,_,h=>by obtain ⟨q',h1,_⟩:=h;exact ⟨c,vs,[q'],h1⟩
 | .two c _ _,_,h=>by obtain ⟨q',r',h1,_⟩:=h;exact ⟨c,[],[q',r'],h1⟩
theorem Row.same {w:World} {v:Value} {vs us:List Value} (h:Row w v vs) (k:Row w v us):vs=us:=by
  obtain ⟨src,cap,h1,_,h3,h4⟩:=h
  obtain ⟨src',cap',k1,_,k3,k4⟩:=k
  rw [h1] at k1
  injection k1 with e1 e2 e3
  subst e1
  cases src with
  | none=>rw [h3 rfl,k3 rfl]
  | some ad =>
    apply List.ext_getElem? ;intro j
    rcases Nat.lt_or_ge j vs.length with hj | hj
    · have a1:=(h4 ad rfl).2 j vs[j] (List.getElem?_eq_getElem hj)
      have a2:=(k4 ad rfl).2 j us[j] (List.getElem?_eq_getElem (by omega))
      rw [List.getElem?_eq_getElem hj,List.getElem?_eq_getElem (show j<us.length by omega)]
      exact a1.symm.trans a2
    · rw [List.getElem?_eq_none hj,List.getElem?_eq_none (by omega)]
theorem u8V_inj {a b:UInt8} (h:u8V a=u8V b):a=b:=by
 unfold u8V at h;injection h with _ h
 exact UInt8.toNat.inj (by omega)
theorem ptrV_inj {a b:Nat} (h:ptrV a=ptrV b):a=b:=by
 unfold ptrV at h;injection h with h;injection h with h;injection h
theorem map_inj' {α β:Type} {f:α→β} (hf:∀ a b,f a=f b→a=b):∀ {xs ys:List α},xs.map f=ys.map f→xs=ys
 | [],[],_=>rfl
 | [],_::_,h=>by cases h
 | _::_,[],h=>by cases h
 | x::xs,y::ys,h=>by
  simp only [List.map_cons,List.cons.injEq] at h
  rw [hf x y h.1,map_inj' hf h.2]
theorem NodeC.same {T:TypeId} {w:World} {p:Nat} {c c':UInt8} {vs vs':List UInt8} {ps ps':List Nat} {fr al fr' al':Nat} (h:NodeC T w p c vs ps fr al) (k:NodeC T w p c' vs' ps' fr' al'):c=c'∧vs=vs'∧ps=ps':=by
 obtain ⟨vv,pv,h1,h2,h3⟩:=h
 obtain ⟨vv',pv',k1,k2,k3⟩:=k
 rw [h1] at k1
 have k4:=Option.some.inj k1
 injection k4 with k5
 have e1:u8V c=u8V c':=by have:=congrArg (fun a:Array Value=>a[0]?) k5;exact Option.some.inj this
 have e2:vv=vv':=by have:=congrArg (fun a:Array Value=>a[1]?) k5;exact Option.some.inj this
 have e3:pv=pv':=by have:=congrArg (fun a:Array Value=>a[2]?) k5;exact Option.some.inj this
 subst e2;subst e3
 exact ⟨u8V_inj e1,map_inj' (fun _ _=>u8V_inj) (h2.same k2),map_inj' (fun _ _=>ptrV_inj) (h3.same k3)⟩
theorem Tree.same {T:TypeId} {w:World}:∀ {fm fm':Fm} {p:Nat},Tree T w fm p→Tree T w fm' p→fm=fm'
 | .leaf c vs,.leaf c' vs',p,h,k=>by obtain ⟨e1,e2,_⟩:=NodeC.same h k;rw [e1,e2]
 | .leaf c vs,.one c' vs' q,p,h,k=>by obtain ⟨q',k1,_⟩:=k;have:=(NodeC.same h k1).2.2;cases this
 | .leaf c vs,.two c' q r,p,h,k=>by obtain ⟨q',r',k1,_⟩:=k;have:=(NodeC.same h k1).2.2;cases this
 | .one c vs q,.leaf c' vs',p,h,k=>by obtain ⟨q',h1,_⟩:=h;have:=(NodeC.same h1 k).2.2;cases this
 | .one c vs q,.one c' vs' r,p,h,k=>by
  obtain ⟨q',h1,h2⟩:=h
  obtain ⟨r',k1,k2⟩:=k
  obtain ⟨e1,e2,e3⟩:=NodeC.same h1 k1
  injection e3 with e3;subst e3
  rw [e1,e2,Tree.same h2 k2]
 | .one c vs q,.two c' r s,p,h,k=>by obtain ⟨q',h1,_⟩:=h;obtain ⟨r',s',k1,_⟩:=k;have:=(NodeC.same h1 k1).2.2;cases this
 | .two c q r,.leaf c' vs',p,h,k=>by obtain ⟨q',r',h1,_⟩:=h;have:=(NodeC.same h1 k).2.2;cases this
 | .two c q r,.one c' vs' s,p,h,k=>by obtain ⟨q',r',h1,_⟩:=h;obtain ⟨s',k1,_⟩:=k;have:=(NodeC.same h1 k1).2.2;cases this
 | .two c q r,.two c' q2 r2,p,h,k=>by
  obtain ⟨q',r',h1,h2,h3⟩:=h
  obtain ⟨q2',r2',k1,k2,k3⟩:=k
  obtain ⟨e1,_,e3⟩:=NodeC.same h1 k1
  injection e3 with e3 e4;injection e4 with e4;subst e3;subst e4
  rw [e1,Tree.same h2 k2,Tree.same h3 k3]
theorem Tree.lt {T:TypeId} {w:World} {fm:Fm} {p:Nat} (h:Tree T w fm p):p<w.heap.size:=by
  obtain ⟨c,vs,ps,vv,pv,h1,_⟩:=h.node
  rcases Nat.lt_or_ge p w.heap.size with h | h
  · exact h
  · rw [Array.getElem?_eq_none h] at h1;cases h1
theorem cell_of {w:World} {p:Nat} {cs:Array Value} {T:TypeId} {v:Value} {off:Nat} (h:w.heap[p]?=some (.cells cs T (0,0))) (hv:cs[off]?=some v):w.cell? ⟨p,off,none⟩=some v:=at_box h (Own.start w) off hv
theorem tree_free {T:TypeId} {w:World} {fm:Fm} {p:Nat} (h:Tree T w fm p):w.cell? ⟨p,3,none⟩=some (.int .i64 (frB fm:Int)):=by
 obtain ⟨c,vs,ps,vv,pv,h1,_⟩:=h.node
 exact cell_of h1 rfl
theorem tree_all {T:TypeId} {w:World} {fm:Fm} {p:Nat} (h:Tree T w fm p):w.cell? ⟨p,4,none⟩=some (.int .i64 (allB fm:Int)):=by
 obtain ⟨c,vs,ps,vv,pv,h1,_⟩:=h.node
 exact cell_of h1 rfl
theorem vI_wrap {v:UInt8} (h:isV v=true):IntKind.u8.wrap ((v.toNat:Int) - 97)=(vI v:Int):=by
 obtain ⟨h1,h2⟩:=vI_lt h
 rw [IntWalk.u8_in _ (by omega)];omega
end Go.Wk
namespace Go.Wk
open Go.RowKit
def entP (x:(Nat×Nat)×Nat):MapEntry:={ key:=ptrV x.1.1,val:=.map (some x.1.2),born:=x.2 }
def mapP (K:List (Nat×Nat)):Obj:=.map ((K.zipIdx.map entP).toArray) K.length
def entI (x:(Int×Bool)×Nat):MapEntry:={ key:=.int .i64 x.1.1,val:=.bool x.1.2,born:=x.2 }
def mapI (L:List (Int×Bool)):Obj:=.map ((L.zipIdx.map entI).toArray) L.length
section
variable {P:Program} {w:World} {kt:TypeId} {k:Value}
theorem asking_no:∀ (l:List MapEntry) (i:Nat),(∀ e∈l,(Op.equal kt k e.key).run P w=.ok false w)→(Instr.findAsking kt k l i).run P w=.ok none w
 | [],_,_=>rfl
 | e::l,i,h=>by
  unfold Instr.findAsking
  simp only [Sem.run_bind,h e (by simp),Result.andThen]
  exact asking_no l (i+1) fun x hx=>h x (List.mem_cons_of_mem _ hx)
theorem asking_at:∀ (l:List MapEntry) (i j:Nat) {e:MapEntry},l[j]?=some e→(Op.equal kt k e.key).run P w=.ok true w→(∀ (q:Nat) (x:MapEntry),q<j→l[q]?=some x→(Op.equal kt k x.key).run P w=.ok false w)→(Instr.findAsking kt k l i).run P w=.ok (some (i+j,e.val)) w
 | [],_,_,_,h,_,_=>by simp at h
 | x::l,i,0,e,h,h1,_=>by
  have hx:x=e:=by simpa using h
  subst hx
  unfold Instr.findAsking
  simp only [Sem.run_bind,h1,Result.andThen]
  rfl
 | x::l,i,j+1,e,h,h1,h2=>by
  unfold Instr.findAsking
  simp only [Sem.run_bind,h2 0 x (by omega) rfl,Result.andThen]
  have:=asking_at l (i+1) j (e:=e) (by simpa using h) h1 fun q y hq hy=>h2 (q+1) y (by omega) (by simpa using hy)
  rw [show i+(j+1)=i+1+j from by omega]
  exact this
theorem findKeyP {te:TypeId} (hkt:P.underlying kt=some (.pointer te)) {l:List MapEntry} {r:Option (Nat×Value)} (h:(Instr.findAsking kt k l 0).run P w=.ok r w):(Instr.findKey kt k l).run P w=.ok r w:=by
 cases l with
 | nil =>
  have e:r=none:=by
   have:Result.ok (none:Option (Nat×Value)) w=.ok r w:=h
   injection this with this;exact this.symm
  subst e
  simp [Instr.findKey,run_underlying hkt,Result.andThen,Instr.findNow]
 | cons x l =>
  simp only [Instr.findKey,Sem.run_bind,run_underlying hkt,Result.andThen]
  simp only [Instr.findNow,Instr.sameNow]
  exact h
theorem ptr_same {te sz p:Nat} (hkt:P.underlying kt=some (.pointer te)) (hsz:∀ w,(sizeOf te).run P w=.ok sz w) (h0:sz ≠ 0):(Op.equal kt (ptrV p) (ptrV p)).run P w=.ok true w:=by
 have h:∀ d:Nat,(Op.equalIn (d+1) kt (ptrV p) (ptrV p)).run P w=.ok true w:=fun d=>by
  simp [Op.equalIn,ptrV,run_underlying hkt,hsz,h0,run_sameAddr_same,Result.andThen]
 exact h 9999
theorem ptr_other {te sz p q:Nat} {cp cq:Array Value} {tp tq:TypeId} (hkt:P.underlying kt=some (.pointer te)) (hsz:∀ w,(sizeOf te).run P w=.ok sz w) (h0:sz ≠ 0) (hne:p ≠ q)
  (hp:w.heap[p]?=some (.cells cp tp (0,0))) (hq:w.heap[q]?=some (.cells cq tq (0,0))):(Op.equal kt (ptrV p) (ptrV q)).run P w=.ok false w:=by
 have h:∀ d:Nat,(Op.equalIn (d+1) kt (ptrV p) (ptrV q)).run P w=.ok false w:=fun d=>by
  simp [Op.equalIn,ptrV,run_underlying hkt,hsz,h0,run_sameAddr_other w (a:=⟨p,0,none⟩) (b:=⟨q,0,none⟩) (fun e=>hne (by injection e)) hp hq,Result.andThen]
 exact h 9999
theorem checkKeyP {te:TypeId} (hkt:P.underlying kt=some (.pointer te)) (p:Nat) (b:Bool):(Instr.checkKey b 10000 kt (ptrV p)).run P w=.ok () w:=by
 show (Instr.checkKey b (9999+1) kt (ptrV p)).run P w=.ok () w
 unfold Instr.checkKey
 simp only [Sem.run_bind,run_underlying hkt,Result.andThen,ptrV]
 rfl
end
theorem zip_get {α:Type} {K:List α} {j:Nat} {x:α} {g:α×Nat→MapEntry} (h:K[j]?=some x):(K.zipIdx.map g)[j]?=some (g (x,j)):=by
 rw [List.getElem?_map,List.getElem?_zipIdx,h];simp
theorem zip_mem {α:Type} {K:List α} {e:MapEntry} {g:α×Nat→MapEntry} (h:e∈K.zipIdx.map g):∃ x j,K[j]?=some x∧e=g (x,j):=by
 obtain ⟨⟨x,j⟩,h1,h2⟩:=List.mem_map.1 h
 exact ⟨x,j,List.mem_zipIdx_iff_getElem?.1 h1,h2.symm⟩
theorem key_case (K:List (Nat×Nat)) (p:Nat):(∀ x∈K,x.1 ≠ p)∨∃ j m,K[j]?=some (p,m)∧∀ (q:Nat) (x:Nat×Nat),q<j→K[q]?=some x→x.1 ≠ p:=by
  induction K with
  | nil=>exact .inl fun x hx=>by cases hx
  | cons y K ih =>
    by_cases e:y.1=p
    · exact .inr ⟨0,y.2,by rw [← e];rfl,fun q x hq=>by omega⟩
    · rcases ih with h | ⟨j,m,h1,h2⟩
      · exact .inl fun x hx=>by
          rcases List.mem_cons.1 hx with rfl | hx
          · exact e
          · exact h x hx
      · refine .inr ⟨j+1,m,h1,fun q x hq hx=>?_⟩
        cases q with
        | zero=>rw [show x=y from by simpa using hx.symm];exact e
        | succ q=>exact h2 q x (by omega) (by simpa using hx)
section
variable {P:Program} {n:Nat} {B:Nat} {w0:World} {hs:List (Nat×Obj)} {N R:Act→World→Prop} {X:List (Nat×(Act→World→Prop))} {e:Env} {ops:Array Oper} {l:List Oper} {o:Oper}
def KeysIn (B:Nat) (w0:World) (hs:List (Nat×Obj)) (p:Nat):Prop:=∀ w,Own B w0 hs w→∃ cs T,w.heap[p]?=some (.cells cs T (0,0))
theorem findP_no {kt te sz p:Nat} {K:List (Nat×Nat)} {w:World} (hkt:P.underlying kt=some (.pointer te)) (hsz:∀ w,(sizeOf te).run P w=.ok sz w) (h0:sz ≠ 0) (hno:∀ x∈K,x.1 ≠ p)
  (hK:∀ x∈K,KeysIn B w0 hs x.1) (hp:KeysIn B w0 hs p) (hw:Own B w0 hs w):(Instr.findKey kt (ptrV p) ((K.zipIdx.map entP).toArray).toList).run P w=.ok none w:=by
 refine findKeyP hkt (asking_no _ 0 fun e he=>?_)
 obtain ⟨x,j,h1,rfl⟩:=zip_mem (show e∈K.zipIdx.map entP from he)
 have hm:=List.mem_of_getElem? h1
 obtain ⟨c1,t1,g1⟩:=hp w hw
 obtain ⟨c2,t2,g2⟩:=hK x hm w hw
 exact ptr_other hkt hsz h0 (fun q=>hno x hm q.symm) g1 g2
theorem findP_at {kt te sz p j m:Nat} {K:List (Nat×Nat)} {w:World} (hkt:P.underlying kt=some (.pointer te)) (hsz:∀ w,(sizeOf te).run P w=.ok sz w) (h0:sz ≠ 0) (hj:K[j]?=some (p,m)) (hf:∀ (q:Nat) (x:Nat×Nat),q<j→K[q]?=some x→x.1 ≠ p)
    (hK:∀ x∈K,KeysIn B w0 hs x.1) (hw:Own B w0 hs w):(Instr.findKey kt (ptrV p) ((K.zipIdx.map entP).toArray).toList).run P w=.ok (some (j,.map (some m))) w:=by
  have:=findKeyP hkt (asking_at (P:=P) (w:=w) (kt:=kt) (k:=ptrV p) (K.zipIdx.map entP) 0 j (zip_get (g:=entP) hj) (ptr_same hkt hsz h0) fun q x hq hx=>?_)
  · rw [Nat.zero_add] at this;exact this
  · obtain ⟨y,i,h1,rfl⟩:=zip_mem (List.mem_of_getElem? hx)
    have hq2:(K.zipIdx.map entP)[q]?=some (entP (y,i)):=hx
    rw [List.getElem?_map,List.getElem?_zipIdx] at hq2
    cases hy:K[q]? with
    | none=>rw [hy] at hq2;simp at hq2
    | some z =>
      rw [hy] at hq2
      have hz:z.1=y.1:=by
        have:=congrArg (Option.map fun u:MapEntry=>u.key) hq2
        simp [entP] at this
        exact ptrV_inj this
      obtain ⟨c1,t1,g1⟩:=hK _ (List.mem_of_getElem? hj) w hw
      obtain ⟨c2,t2,g2⟩:=hK _ (List.mem_of_getElem? h1) w hw
      exact ptr_other hkt hsz h0 (fun u=>hf q z hq hy (by rw [hz];exact u.symm)) g1 g2
theorem OpQ.lookP_no {t kt et te sz r p:Nat} {x y:Operand} {K:List (Nat×Nat)} (i:Nat) (h:o.op=.lookup t x y false) (hm:P.underlying t=some (.map kt et)) (hkt:P.underlying kt=some (.pointer te)) (hsz:∀ w,(sizeOf te).run P w=.ok sz w) (h0:sz ≠ 0) (hz:∀ w,(zeroValue et).run P w=.ok (.map none) w)
  (hx:opd e x=some (.map (some r))) (hy:opd e y=some (ptrV p)) (hi:hs[i]?=some (r,mapP K)) (hno:∀ x∈K,x.1 ≠ p) (hK:∀ x∈K,KeysIn B w0 hs x.1) (hp:KeysIn B w0 hs p):OpQ P n (Own B w0 hs) e o (.map none):=by
 unfold OpQ
 intro a hF w hw
 have hb:w.heap[r]?=some (.map ((K.zipIdx.map entP).toArray) K.length):=(hw.has i r _ hi).2
 unfold Oper.quietAt execOp;rw [h]
 simp only [hF.opd hx,hF.opd hy,Instr.lookup,Sem.run_bind,run_underlying hm,MapKept.run_getObj_map hb,checkKeyP hkt,findP_no hkt hsz h0 hno hK hp hw,hz,Sem.run_pure,Result.andThen]
 exact ⟨rfl,rfl⟩
theorem OpQ.lookP_at {t kt et te sz r p j m:Nat} {x y:Operand} {K:List (Nat×Nat)} (i:Nat) (h:o.op=.lookup t x y false) (hm:P.underlying t=some (.map kt et)) (hkt:P.underlying kt=some (.pointer te)) (hsz:∀ w,(sizeOf te).run P w=.ok sz w) (h0:sz ≠ 0)
  (hx:opd e x=some (.map (some r))) (hy:opd e y=some (ptrV p)) (hi:hs[i]?=some (r,mapP K)) (hj:K[j]?=some (p,m)) (hf:∀ (q:Nat) (x:Nat×Nat),q<j→K[q]?=some x→x.1 ≠ p) (hK:∀ x∈K,KeysIn B w0 hs x.1):OpQ P n (Own B w0 hs) e o (.map (some m)):=by
 unfold OpQ
 intro a hF w hw
 have hb:w.heap[r]?=some (.map ((K.zipIdx.map entP).toArray) K.length):=(hw.has i r _ hi).2
 unfold Oper.quietAt execOp;rw [h]
 simp only [hF.opd hx,hF.opd hy,Instr.lookup,Sem.run_bind,run_underlying hm,MapKept.run_getObj_map hb,checkKeyP hkt,findP_at hkt hsz h0 hj hf hK hw,Sem.run_pure,Result.andThen]
 exact ⟨rfl,rfl⟩
theorem mapP_add (K:List (Nat×Nat)) (p m:Nat):mapP (K++[(p,m)])=.map (((K.zipIdx.map entP).toArray).push { key:=ptrV p,val:=.map (some m),born:=K.length }) (K.length+1):=by
 unfold mapP
 rw [List.zipIdx_append,List.map_append,List.push_toArray]
 simp [entP]
theorem Ll.mapSetP {t kt et te sz r p m:Nat} {x y z:Operand} {K:List (Nat×Nat)} (i:Nat) (hdst:o.dst=none) (hg:wantE ops e o.guard=some true) (h:o.op=.mapUpdate t x y z) (hm:P.underlying t=some (.map kt et)) (hkt:P.underlying kt=some (.pointer te)) (hsz:∀ w,(sizeOf te).run P w=.ok sz w) (h0:sz ≠ 0)
    (hx:opd e x=some (.map (some r))) (hy:opd e y=some (ptrV p)) (hz:opd e z=some (.map (some m))) (hi:hs[i]?=some (r,mapP K)) (hno:∀ x∈K,x.1 ≠ p) (hK:∀ x∈K,KeysIn B w0 hs x.1) (hp:KeysIn B w0 hs p)
    (k:Ll P n (Own B w0 (hs.set i (r,mapP (K++[(p,m)])))) ops l e N R X):Ll P n (Own B w0 hs) ops (o::l) e N R X :=
  Ll.turnN hdst hg fun a w hF hw=>by
    have hb:w.heap[r]?=some (.map ((K.zipIdx.map entP).toArray) K.length):=(hw.has i r _ hi).2
    refine ⟨{ w with heap:=w.heap.setIfInBounds r (mapP (K++[(p,m)])) },?_,fun a' ha=>?_⟩
    · unfold execOp;rw [h];simp only [hF.opd hx,hF.opd hy,hF.opd hz]
      have run:(Instr.mapUpdate t (.map (some r)) (ptrV p) (.map (some m))).run P w=.ok () { w with heap:=w.heap.setIfInBounds r (mapP (K++[(p,m)])) }:=by
        rw [mapP_add]
        simp [Instr.mapUpdate,run_underlying hm,MapKept.run_getObj_map hb,checkKeyP hkt,findP_no hkt hsz h0 hno hK hp hw,MapKept.run_setObj_map _ hb,Result.andThen]
      simp only [Sem.run_bind,run,Result.andThen]
      rfl
    · unfold Ll at k
      exact k a' _ ha (hw.setObj hi _)
theorem Ll.makeMapP {d t:Nat} (hd:Nat.blt d n=true) (hdst:o.dst=some d) (hg:wantE ops e o.guard=some true) (h:o.op=.makeMap t none)
  (k:∀ p,B≤p→Ll P n (Own B w0 ((p,mapP [])::hs)) ops l ((d,.map (some p))::e) N R X):Ll P n (Own B w0 hs) ops (o::l) e N R X:=Ll.makeMap hd hdst hg h k
theorem Ll.makeMapI {d t:Nat} (hd:Nat.blt d n=true) (hdst:o.dst=some d) (hg:wantE ops e o.guard=some true) (h:o.op=.makeMap t none)
  (k:∀ p,B≤p→Ll P n (Own B w0 ((p,mapI [])::hs)) ops l ((d,.map (some p))::e) N R X):Ll P n (Own B w0 hs) ops (o::l) e N R X:=Ll.makeMap hd hdst hg h k
theorem keyI (k:Int):MapKept.IsKey (.int .i64) (.int .i64 k):=rfl
theorem keysI (L:List (Int×Bool)):∀ x∈((L.zipIdx.map entI).toArray).toList,MapKept.IsKey (.int .i64) x.key:=fun x hx=>by
 obtain ⟨y,j,_,rfl⟩:=zip_mem (show x∈L.zipIdx.map entI from hx)
 rfl
theorem findI (k:Int) (L:List (Int×Bool)):(Instr.findNow (.int .i64) (.int .i64 k) ((L.zipIdx.map entI).toArray).toList 0=some none∧∀ x∈L,x.1 ≠ k)∨∃ j b,Instr.findNow (.int .i64) (.int .i64 k) ((L.zipIdx.map entI).toArray).toList 0=some (some (j,.bool b))∧L[j]?=some (k,b):=by
  rcases MapKept.findNow_spec (keyI k) ((L.zipIdx.map entI).toArray).toList 0 (keysI L) with ⟨h1,h2⟩ | ⟨j,e,h1,h2,h3⟩
  · refine .inl ⟨h1,fun x hx q=>?_⟩
    obtain ⟨j,hj⟩:=List.mem_iff_getElem?.1 hx
    exact h2 (entI (x,j)) (List.mem_of_getElem? (zip_get (g:=entI) hj)) (by rw [← q];rfl)
  · have h2':(L.zipIdx.map entI)[j]?=some e:=by simpa using h2
    rw [List.getElem?_map,List.getElem?_zipIdx] at h2'
    cases hy:L[j]? with
    | none=>rw [hy] at h2';simp at h2'
    | some z =>
      rw [hy] at h2'
      simp at h2'
      subst h2'
      have hz:z.1=k:=by
        have:Value.int .i64 z.1=.int .i64 k:=h3
        injection this
      refine .inr ⟨j,z.2,by rw [h1,Nat.zero_add];rfl,by rw [← hz];exact hy⟩
theorem OpQ.lookI_nil {t kt et:Nat} {x y:Operand} {k:Int} (h:o.op=.lookup t x y true) (hm:P.underlying t=some (.map kt et)) (hkt:P.underlying kt=some (.int .i64)) (hz:∀ w,(zeroValue et).run P w=.ok (.bool false) w)
  (hx:opd e x=some (.map none)) (hy:opd e y=some (.int .i64 k)):OpQ P n (Own B w0 hs) e o (.tuple #[.bool false,.bool false]):=by
 unfold OpQ
 intro a hF w hw
 unfold Oper.quietAt execOp;rw [h]
 simp only [hF.opd hx,hF.opd hy,Instr.lookup,Sem.run_bind,run_underlying hm,MapKept.run_checkKey hkt (keyI k),MapKept.run_findKey hkt (show Instr.findNow (.int .i64) (.int .i64 k) (#[]:Array MapEntry).toList 0=some none from rfl),hz,Sem.run_pure,Result.andThen]
 exact ⟨rfl,rfl⟩
theorem OpQ.lookI_no {t kt et r:Nat} {x y:Operand} {k:Int} {L:List (Int×Bool)} (i:Nat) (h:o.op=.lookup t x y true) (hm:P.underlying t=some (.map kt et)) (hkt:P.underlying kt=some (.int .i64)) (hz:∀ w,(zeroValue et).run P w=.ok (.bool false) w)
    (hx:opd e x=some (.map (some r))) (hy:opd e y=some (.int .i64 k)) (hi:hs[i]?=some (r,mapI L)) (hno:∀ x∈L,x.1 ≠ k):OpQ P n (Own B w0 hs) e o (.tuple #[.bool false,.bool false]):=by
  unfold OpQ
  intro a hF w hw
  have hb:w.heap[r]?=some (.map ((L.zipIdx.map entI).toArray) L.length):=(hw.has i r _ hi).2
  unfold Oper.quietAt execOp;rw [h]
  rcases findI k L with ⟨h1,_⟩ | ⟨j,b,h1,h2⟩
  · simp only [hF.opd hx,hF.opd hy,Instr.lookup,Sem.run_bind,run_underlying hm,MapKept.run_getObj_map hb,MapKept.run_checkKey hkt (keyI k),MapKept.run_findKey hkt h1,hz,Sem.run_pure,Result.andThen]
    exact ⟨rfl,rfl⟩
  · exact absurd rfl (hno _ (List.mem_of_getElem? h2))
theorem OpQ.lookI_at {t kt et r:Nat} {x y:Operand} {k:Int} {b:Bool} {L:List (Int×Bool)} (i:Nat) (h:o.op=.lookup t x y true) (hm:P.underlying t=some (.map kt et)) (hkt:P.underlying kt=some (.int .i64))
    (hx:opd e x=some (.map (some r))) (hy:opd e y=some (.int .i64 k)) (hi:hs[i]?=some (r,mapI L)) (hin:∃ x∈L,x.1=k) (hu:∀ c,(k,c)∈L→c=b):OpQ P n (Own B w0 hs) e o (.tuple #[.bool b,.bool true]):=by
  unfold OpQ
  intro a hF w hw
  have hb:w.heap[r]?=some (.map ((L.zipIdx.map entI).toArray) L.length):=(hw.has i r _ hi).2
  unfold Oper.quietAt execOp;rw [h]
  rcases findI k L with ⟨h1,h2⟩ | ⟨j,c,h1,h2⟩
  · obtain ⟨x,hx,q⟩:=hin
    exact absurd q (h2 x hx)
  · have:=hu c (List.mem_of_getElem? h2)
    subst this
    simp only [hF.opd hx,hF.opd hy,Instr.lookup,Sem.run_bind,run_underlying hm,MapKept.run_getObj_map hb,MapKept.run_checkKey hkt (keyI k),MapKept.run_findKey hkt h1,Sem.run_pure,Result.andThen]
    exact ⟨rfl,rfl⟩
theorem mapI_add (L:List (Int×Bool)) (k:Int) (b:Bool):mapI (L++[(k,b)])=.map (((L.zipIdx.map entI).toArray).push { key:=.int .i64 k,val:=.bool b,born:=L.length }) (L.length+1):=by
 unfold mapI
 rw [List.zipIdx_append,List.map_append,List.push_toArray]
 simp [entI]
theorem mapI_set {L:List (Int×Bool)} {k:Int} {b:Bool} {j:Nat}:mapI (L.set j (k,b))=.map (((L.zipIdx.map entI).toArray).modify j fun e=>{ e with key:=.int .i64 k,val:=.bool b }) L.length:=by
  unfold mapI
  rw [List.length_set]
  congr 1
  apply Array.ext
  · simp
  · intro q h1 h2
    rw [Array.getElem_modify]
    simp only [List.getElem_toArray,List.getElem_map,List.getElem_zipIdx,List.getElem_set,entI]
    split
    · rename_i h;subst h;rfl
    · rfl
theorem Ll.mapSetI {t kt et r:Nat} {x y z:Operand} {k:Int} {b:Bool} {L:List (Int×Bool)} (i:Nat) (hdst:o.dst=none) (hg:wantE ops e o.guard=some true) (h:o.op=.mapUpdate t x y z) (hm:P.underlying t=some (.map kt et)) (hkt:P.underlying kt=some (.int .i64))
    (hx:opd e x=some (.map (some r))) (hy:opd e y=some (.int .i64 k)) (hz:opd e z=some (.bool b)) (hi:hs[i]?=some (r,mapI L))
    (kk:∀ L':List (Int×Bool),(∀ x∈L',x∈L∨x=(k,b))→Ll P n (Own B w0 (hs.set i (r,mapI L'))) ops l e N R X):Ll P n (Own B w0 hs) ops (o::l) e N R X :=
  Ll.turnN hdst hg fun a w hF hw=>by
    have hb:w.heap[r]?=some (.map ((L.zipIdx.map entI).toArray) L.length):=(hw.has i r _ hi).2
    rcases findI k L with ⟨h1,h2⟩ | ⟨j,c,h1,h2⟩
    · refine ⟨{ w with heap:=w.heap.setIfInBounds r (mapI (L++[(k,b)])) },?_,fun a' ha=>?_⟩
      · unfold execOp;rw [h];simp only [hF.opd hx,hF.opd hy,hF.opd hz]
        have run:(Instr.mapUpdate t (.map (some r)) (.int .i64 k) (.bool b)).run P w=.ok () { w with heap:=w.heap.setIfInBounds r (mapI (L++[(k,b)])) }:=by
          rw [mapI_add]
          simp [Instr.mapUpdate,run_underlying hm,MapKept.run_getObj_map hb,MapKept.run_checkKey hkt (keyI k),MapKept.run_findKey hkt h1,MapKept.run_setObj_map _ hb,Result.andThen]
        simp only [Sem.run_bind,run,Result.andThen]
        rfl
      · have:=kk (L++[(k,b)]) fun x hx=>by
          rcases List.mem_append.1 hx with hx | hx
          · exact .inl hx
          · exact .inr (List.mem_singleton.1 hx)
        unfold Ll at this
        exact this a' _ ha (hw.setObj hi _)
    · refine ⟨{ w with heap:=w.heap.setIfInBounds r (mapI (L.set j (k,b))) },?_,fun a' ha=>?_⟩
      · unfold execOp;rw [h];simp only [hF.opd hx,hF.opd hy,hF.opd hz]
        have hj:((L.zipIdx.map entI).toArray)[j]?=some (entI ((k,c),j)):=by
          have:=zip_get (g:=entI) h2
          simpa using this
        have run:(Instr.mapUpdate t (.map (some r)) (.int .i64 k) (.bool b)).run P w=.ok () { w with heap:=w.heap.setIfInBounds r (mapI (L.set j (k,b))) }:=by
          rw [mapI_set]
          simp only [Instr.mapUpdate,Sem.run_bind,run_underlying hm,MapKept.run_getObj_map hb,MapKept.run_checkKey hkt (keyI k),MapKept.run_findKey hkt h1,Result.andThen]
          rw [hj]
          simp only [Option.map_some,Option.getD_some]
          rw [show (entI ((k,c),j)).key=.int .i64 k from rfl]
          simp only [MapKept.run_keyThatStays (keyI k),MapKept.run_setObj_map _ hb]
        simp only [Sem.run_bind,run,Result.andThen]
        rfl
      · have:=kk (L.set j (k,b)) fun x hx=>by
          rcases List.mem_or_eq_of_mem_set hx with hx | hx
          · exact .inl hx
          · exact .inr hx
        unfold Ll at this
        exact this a' _ ha (hw.setObj hi _)
theorem OpQ.eqNilM {C:World→Prop} {t t' kt et:TypeId} {x y:Operand} {p:Option Nat} (h:o.op=.binOp .eql t x y t') (hu:P.underlying t=some (.map kt et)) (hx:opd e x=some (.map p)) (hy:opd e y=some (.map none)):OpQ P n C e o (.bool p.isNone):=OpQ.val fun A hf w=>by
 unfold execOp;rw [h];simp only [hf.opd hx,hf.opd hy]
 rw [show eqGuard .eql t x y (Value.map p) (Value.map none)=pure () from rfl]
 have h1:∀ d:Nat,(Op.equalIn (d+1) t (.map p) (.map none)).run P w=.ok p.isNone w:=fun d=>by
  cases p <;> simp [Op.equalIn,run_underlying hu,Result.andThen]
 simp only [Sem.run_bind,Sem.run_pure,Result.andThen,binOp]
 simp [Op.equal,Op.maxDepth,h1 9999]
end
end Go.Wk
namespace Go.Wk
abbrev vQ := @OpQ.lookP_at
end Go.Wk
namespace Go.Wk
open Go.RowKit
def RowB (hs:List (Nat×Obj)) (v:Value) (vs:List Value):Prop :=
 (v=.slice none 0 0∧vs=[])∨∃ g cap cur el,v=.slice (some ⟨g,0,none⟩) vs.length cap∧(g,Obj.cells cur el (0,0))∈hs∧cur.toList.take vs.length=vs∧vs.length≤cap
theorem RowB.row {B:Nat} {w0 w:World} {hs:List (Nat×Obj)} {v:Value} {vs:List Value} (h:RowB hs v vs) (hw:Own B w0 hs w):Row w v vs:=by
  rcases h with ⟨rfl,rfl⟩ | ⟨g,cap,cur,el,rfl,h1,h2,h3⟩
  · exact Ints.nil
  · obtain ⟨i,hi⟩:=List.mem_iff_getElem?.1 h1
    exact Own.row hw hi h2 rfl h3
theorem RowB.more {hs hs':List (Nat×Obj)} {v:Value} {vs:List Value} (k:∀ x∈hs,x∈hs') (h:RowB hs v vs):RowB hs' v vs:=by
  rcases h with h | ⟨g,cap,cur,el,h0,h1,h2,h3⟩
  · exact .inl h
  · exact .inr ⟨g,cap,cur,el,h0,k _ h1,h2,h3⟩
theorem RowB.nil {hs:List (Nat×Obj)}:RowB hs (.slice none 0 0) []:=.inl ⟨rfl,rfl⟩
theorem RowB.at {hs:List (Nat×Obj)} {g n cap el:Nat} {cur:Array Value} {vs:List Value} (hm:(g,Obj.cells cur el (0,0))∈hs) (ht:cur.toList.take n=vs) (hn:vs.length=n) (hc:n≤cap):RowB hs (.slice (some ⟨g,0,none⟩) n cap) vs:=by
 subst hn
 exact .inr ⟨g,cap,cur,el,rfl,hm,ht,hc⟩
def NodeB (T:TypeId) (hs:List (Nat×Obj)) (p:Nat) (c:UInt8) (vs:List UInt8) (ps:List Nat) (fr al:Nat):Prop :=
 ∃ vv pv,(p,Obj.cells #[u8V c,vv,pv,.int .i64 (fr:Int),.int .i64 (al:Int)] T (0,0))∈hs∧RowB hs vv (vs.map u8V)∧RowB hs pv (ps.map ptrV)
def TreeB (T:TypeId) (hs:List (Nat×Obj)):Fm→Nat→Prop
 | .leaf c vs,p=>NodeB T hs p c vs [] (frB (.leaf c vs)) (allB (.leaf c vs))
 | .one c vs q,p=>∃ q',NodeB T hs p c vs [q'] (frB (.one c vs q)) (allB (.one c vs q))∧TreeB T hs q q'
 | .two c q r,p=>∃ q' r',NodeB T hs p c [] [q',r'] (frB (.two c q r)) (allB (.two c q r))∧TreeB T hs q q'∧TreeB T hs r r'
theorem NodeB.more {T:TypeId} {hs hs':List (Nat×Obj)} {p:Nat} {c:UInt8} {vs:List UInt8} {ps:List Nat} {fr al:Nat} (k:∀ x∈hs,x∈hs') (h:NodeB T hs p c vs ps fr al):NodeB T hs' p c vs ps fr al:=by
 obtain ⟨vv,pv,h1,h2,h3⟩:=h
 exact ⟨vv,pv,k _ h1,h2.more k,h3.more k⟩
theorem TreeB.more {T:TypeId} {hs hs':List (Nat×Obj)} (k:∀ x∈hs,x∈hs'):∀ {fm:Fm} {p:Nat},TreeB T hs fm p→TreeB T hs' fm p
 | .leaf _ _,_,h=>NodeB.more k h
 | .one _ _ _,_,h=>by obtain ⟨q',h1,h2⟩:=h;exact ⟨q',h1.more k,TreeB.more k h2⟩
 | .two _ _ _,_,h=>by obtain ⟨q',r',h1,h2,h3⟩:=h;exact ⟨q',r',h1.more k,TreeB.more k h2,TreeB.more k h3⟩
theorem TreeB.left {T:TypeId} {hs hs':List (Nat×Obj)} {fm:Fm} {p:Nat} (h:TreeB T hs fm p):TreeB T (hs++hs') fm p:=h.more fun _ hx=>List.mem_append_left _ hx
theorem TreeB.right {T:TypeId} {hs hs':List (Nat×Obj)} {fm:Fm} {p:Nat} (h:TreeB T hs fm p):TreeB T (hs'++hs) fm p:=h.more fun _ hx=>List.mem_append_right _ hx
theorem NodeB.node {T:TypeId} {B:Nat} {w0 w:World} {hs:List (Nat×Obj)} {p:Nat} {c:UInt8} {vs:List UInt8} {ps:List Nat} {fr al:Nat} (h:NodeB T hs p c vs ps fr al) (hw:Own B w0 hs w):NodeC T w p c vs ps fr al:=by
 obtain ⟨vv,pv,h1,h2,h3⟩:=h
 exact ⟨vv,pv,(hw.mem h1).2,h2.row hw,h3.row hw⟩
theorem TreeB.tree {T:TypeId} {B:Nat} {w0 w:World} {hs:List (Nat×Obj)} (hw:Own B w0 hs w):∀ {fm:Fm} {p:Nat},TreeB T hs fm p→Tree T w fm p
 | .leaf _ _,_,h=>NodeB.node h hw
 | .one _ _ _,_,h=>by obtain ⟨q',h1,h2⟩:=h;exact ⟨q',h1.node hw,TreeB.tree hw h2⟩
 | .two _ _ _,_,h=>by obtain ⟨q',r',h1,h2,h3⟩:=h;exact ⟨q',r',h1.node hw,TreeB.tree hw h2,TreeB.tree hw h3⟩
theorem TreeB.node {T:TypeId} {hs:List (Nat×Obj)}:∀ {fm:Fm} {p:Nat},TreeB T hs fm p→∃ c vs ps,NodeB T hs p c vs ps (frB fm) (allB fm)
 | .leaf c vs,_,h=>⟨c,vs,[],h⟩
 | .one c vs _,_,h=>by obtain ⟨q',h1,_⟩:=h;exact ⟨c,vs,[q'],h1⟩
 | .two c _ _,_,h=>by obtain ⟨q',r',h1,_⟩:=h;exact ⟨c,[],[q',r'],h1⟩
theorem TreeB.same {T:TypeId} {B:Nat} {w0 w:World} {hs:List (Nat×Obj)} (hw:Own B w0 hs w) {fm fm':Fm} {p:Nat} (h:TreeB T hs fm p) (k:TreeB T hs fm' p):fm=fm':=(TreeB.tree hw h).same (TreeB.tree hw k)
theorem mem_at {α:Type} {l:List α} {i:Nat} {x:α} (h:l[i]?=some x):x∈l:=List.mem_of_getElem? h
theorem mem_atL {α:Type} {l r:List α} {i:Nat} {x:α} (h:l[i]?=some x):x∈l++r:=List.mem_append_left _ (List.mem_of_getElem? h)
abbrev Memo:=List (Nat×Nat×List (Int×Bool))
def memoK (K:Memo):List (Nat×Nat):=K.map fun x=>(x.1,x.2.1)
def memoB (K:Memo):List (Nat×Obj):=K.map fun x=>(x.2.1,mapI x.2.2)
def MemoOk (T:TypeId) (a:St) (hs:List (Nat×Obj)) (K:Memo):Prop:=∀ x∈K,∃ fm,wfF fm∧TreeB T hs fm x.1∧∀ y∈x.2.2,∃ e,EnvA a e∧keyF fm e=y.1∧ev a fm e=y.2
theorem MemoOk.nil {T:TypeId} {a:St} {hs:List (Nat×Obj)}:MemoOk T a hs []:=fun x hx=>by cases hx
theorem EnvA.ok {a:St} {e:List Int} (h:EnvA a e) (ha:a.Fine):EnvOk e:=⟨h.1,fun i hi=>by
 have h1:=h.2 i hi
 have h2:=ha.hi
 unfold St.El at h1
 omega⟩
theorem memo_ev {T:TypeId} {a:St} {B:Nat} {w0 w:World} {hs ts:List (Nat×Obj)} {K:Memo} {fm:Fm} {p j m:Nat} {L:List (Int×Bool)} {en:List Int} (ha:a.Fine) (hK:MemoOk T a ts K) (hts:∀ x∈ts,x∈hs) (hw:Own B w0 hs w) (hT:TreeB T ts fm p) (hwf:wfF fm) (hE:EnvA a en) (hj:K[j]?=some (p,m,L)) :
  ∀ c,(keyF fm en,c)∈L→c=ev a fm en:=fun c hc=>by
 obtain ⟨fm',h1,h2,h3⟩:=hK _ (List.mem_of_getElem? hj)
 have e:=TreeB.same hw (h2.more hts) (hT.more hts)
 subst e
 obtain ⟨e,g1,g2,g3⟩:=h3 _ hc
 exact g3.symm.trans (key_ev hwf (g1.ok ha) (hE.ok ha) g2)
theorem memoK_get {K:Memo} {j p m:Nat} {L:List (Int×Bool)} (h:K[j]?=some (p,m,L)):(memoK K)[j]?=some (p,m):=by unfold memoK;rw [List.getElem?_map,h];rfl
theorem memoB_get {K:Memo} {j p m:Nat} {L:List (Int×Bool)} (h:K[j]?=some (p,m,L)):(memoB K)[j]?=some (m,mapI L):=by unfold memoB;rw [List.getElem?_map,h];rfl
theorem memoB_at {K:Memo} {j p m:Nat} {L:List (Int×Bool)} {r:List (Nat×Obj)} (h:K[j]?=some (p,m,L)):(memoB K++r)[j]?=some (m,mapI L):=by
 have:=memoB_get h
 rw [List.getElem?_append_left (List.getElem?_eq_some_iff.1 this).1];exact this
theorem memoB_set {K:Memo} {j p m:Nat} {L L':List (Int×Bool)} {r:List (Nat×Obj)} (h:K[j]?=some (p,m,L)):(memoB K++r).set j (m,mapI L')=memoB (K.set j (p,m,L'))++r:=by
 have h1:=(List.getElem?_eq_some_iff.1 (memoB_get h)).1
 rw [List.set_append_left _ _ h1]
 unfold memoB
 rw [List.map_set]
theorem memoK_set {K:Memo} {j p m:Nat} {L L':List (Int×Bool)} (h:K[j]?=some (p,m,L)):memoK (K.set j (p,m,L'))=memoK K:=by
 unfold memoK
 rw [List.map_set]
 exact set_same (by rw [List.getElem?_map,h];rfl)
theorem memoB_add (K:Memo) (p m:Nat):memoB (K++[(p,m,[])])=memoB K++[(m,mapI [])]:=by unfold memoB;rw [List.map_append];rfl
theorem memoK_add (K:Memo) (p m:Nat):memoK (K++[(p,m,[])])=memoK K++[(p,m)]:=by unfold memoK;rw [List.map_append];rfl
theorem memo_case (K:Memo) (p:Nat):(∀ x∈memoK K,x.1 ≠ p)∨∃ j m L,K[j]?=some (p,m,L)∧∀ (q:Nat) (x:Nat×Nat),q<j→(memoK K)[q]?=some x→x.1 ≠ p:=by
  rcases key_case (memoK K) p with h | ⟨j,m,h1,h2⟩
  · exact .inl h
  · unfold memoK at h1
    rw [List.getElem?_map] at h1
    cases e:K[j]? with
    | none=>rw [e] at h1;cases h1
    | some y =>
      rw [e] at h1
      have h3:(y.1,y.2.1)=(p,m):=by simpa using h1
      injection h3 with h3 h4
      exact .inr ⟨j,m,y.2.2,by rw [e,← h3,← h4],h2⟩
theorem has_case (L:List (Int×Bool)) (k:Int):(∀ x∈L,x.1 ≠ k)∨∃ x∈L,x.1=k:=by
  rcases Classical.em (∃ x∈L,x.1=k) with h | h
  · exact .inr h
  · exact .inl fun x hx e=>h ⟨x,hx,e⟩
theorem TreeB.key {T:TypeId} {B:Nat} {w0:World} {hs hs':List (Nat×Obj)} {fm:Fm} {p:Nat} (h:TreeB T hs fm p) (hsub:∀ x∈hs,x∈hs'):KeysIn B w0 hs' p:=fun w hw=>by
 obtain ⟨c,vs,ps,vv,pv,h1,_⟩:=h.node
 exact ⟨_,_,(hw.mem (hsub _ h1)).2⟩
theorem MemoOk.keys {T:TypeId} {a:St} {B:Nat} {w0:World} {hs hs':List (Nat×Obj)} {K:Memo} (h:MemoOk T a hs K) (hsub:∀ x∈hs,x∈hs'):∀ x∈memoK K,KeysIn B w0 hs' x.1:=fun x hx=>by
 obtain ⟨y,hy,rfl⟩:=List.mem_map.1 hx
 obtain ⟨fm,_,h2,_⟩:=h y hy
 exact h2.key hsub
theorem MemoOk.add {T:TypeId} {a:St} {hs:List (Nat×Obj)} {K:Memo} {fm:Fm} {p m:Nat} (h:MemoOk T a hs K) (hT:TreeB T hs fm p) (hwf:wfF fm):MemoOk T a hs (K++[(p,m,[])]):=fun x hx=>by
  rcases List.mem_append.1 hx with hx | hx
  · exact h x hx
  · rw [List.mem_singleton.1 hx]
    exact ⟨fm,hwf,hT,fun y hy=>by cases hy⟩
theorem MemoOk.set {T:TypeId} {a:St} {B:Nat} {w0 w:World} {hs ts:List (Nat×Obj)} {K:Memo} {fm:Fm} {p j m:Nat} {L L':List (Int×Bool)} {en:List Int} (h:MemoOk T a ts K) (hts:∀ x∈ts,x∈hs) (hw:Own B w0 hs w) (hT:TreeB T ts fm p) (hwf:wfF fm) (hE:EnvA a en) (hj:K[j]?=some (p,m,L)) (hL:∀ x∈L',x∈L∨x=(keyF fm en,ev a fm en)):MemoOk T a ts (K.set j (p,m,L')):=fun x hx=>by
  rcases List.mem_or_eq_of_mem_set hx with hx | rfl
  · exact h x hx
  · obtain ⟨fm',h1,h2,h3⟩:=h _ (List.mem_of_getElem? hj)
    have e:=TreeB.same hw (h2.more hts) (hT.more hts)
    subst e
    refine ⟨fm',hwf,hT,fun y hy=>?_⟩
    rcases hL y hy with hy | rfl
    · exact h3 y hy
    · exact ⟨en,hE,rfl,rfl⟩
end Go.Wk
namespace Go.Wk
open Go.RowKit
theorem formO_none {f:List UInt8} (h:parse f=none):formO f=none:=by unfold formO;rw [h];simp
theorem formO_rest {f r:List UInt8} {p:Fm} (h:parse f=some (p,r)) (hr:¬ r=[]):formO f=none:=by
 unfold formO;rw [h]
 cases r with
 | nil=>exact absurd rfl hr
 | cons c r=>simp
def szF:Fm→Nat
 | .leaf _ _=>0
 | .one _ _ p=>szF p+1
 | .two _ p q=>szF p+szF q+1
theorem one_letter {c:UInt8} {vs:List UInt8} {q:Fm} (h:wfF (.one c vs q)):(quI (c.toNat:Int)∧∃ v,vs=[v]∧isV v=true)∨(c=33∧vs=[]):=by
 cases vs with
 | nil=>exact .inr ⟨one_no_var h,rfl⟩
 | cons v vs =>
  obtain ⟨h1,rfl,h3⟩:=one_var h
  refine .inl ⟨?_,v,rfl,h3⟩
  unfold quI
  rcases h1 with rfl | rfl | rfl | rfl | rfl <;> decide
end Go.Wk
namespace Go.Wk
open Go.RowKit
section
variable {P:Program} {n:Nat} {C:World→Prop} {B:Nat} {w0:World} {hs hs':List (Nat×Obj)} {N R:Act→World→Prop} {X:List (Nat×(Act→World→Prop))} {e:Env} {ops:Array Oper} {l:List Oper} {o:Oper}
theorem OpQ.indexAgg {t el:TypeId} {m:Nat} {x y:Operand} {xs:List Int} {k:IntKind} {i:Int} (h:o.op=.index t x y) (hu:∀ w,(underlying t).run P w=.ok (.array m el) w) (hag:∀ w,(isAgg el).run P w=.ok false w) (hz:∀ w,(sizeOf el).run P w=.ok 1 w)
  (hx:opd e x=some (.agg (ints xs).toArray)) (hy:opd e y=some (.int k i)) (h0:0≤i) (h1:i<m) (hl:xs.length=m):OpQ P n C e o (.int .i64 (xs.getD i.toNat 0)):=OpQ.val fun A hF w=>by
 unfold execOp;rw [h];simp only [hF.opd hx,hF.opd hy]
 have hc:((ints xs).toArray)[i.toNat]?=some (.int .i64 (xs.getD i.toNat 0)):=by
  have hi:i.toNat<xs.length:=by omega
  rw [List.getElem?_toArray]
  unfold ints
  rw [List.getElem?_map,List.getElem?_eq_getElem hi,getD_at hi];rfl
 simp only [Instr.index,asIntOf,Sem.run_bind,Sem.run_pure,hu,Result.andThen,if_pos (And.intro h0 h1),hz,part,hag,Nat.mul_one]
 simp [hc]
theorem OpQ.loadHold {t:TypeId} {x:Operand} {p:Nat} {a:St} {k:Value} {T:TypeId} {fr:Nat×Nat} (i:Nat) (h:o.op=.load t x) (hag:∀ w,(isAgg t).run P w=.ok true w) (hsz:∀ w,(sizeOf t).run P w=.ok 3 w) (hx:opd e x=some (.pointer (some ⟨p,0,none⟩)))
  (hi:hs[i]?=some (p,.cells #[.int .i64 a.n,str a.set,str a.rel,k] T fr)):OpQ P n (Own B w0 hs) e o (vS a) :=
 OpQ.loadN (cs:=#[.int .i64 a.n,str a.set,str a.rel]) h hag hsz hx fun w hw j v hj=>by
  rw [Addr.add_lit,hw.cell hi,Nat.zero_add]
  match j,hj with
  | 0,hj=>exact hj
  | 1,hj=>exact hj
  | 2,hj=>exact hj
  | j+3,hj=>simp at hj
theorem Row.u8 {w:World} {v:Value} {vs:List UInt8} (h:Row w v (vs.map u8V)) {i:Int} (h0:0≤i) (h1:i<vs.length):w.cell? (sAt v i)=some (.int .u8 ((vs.getD i.toNat 0).toNat:Int)):=by
 have hi:i.toNat<vs.length:=by omega
 rw [Row.cell h h0 (by rw [List.length_map];exact h1),getD_at hi]
 congr 1
 rw [List.getD_eq_getElem?_getD,List.getElem?_map,List.getElem?_eq_getElem hi];rfl
abbrev memoF (TH h M:Nat) (a:St) (K:Memo) (r:List (Nat×Obj)):List (Nat×Obj):=(h,.cells #[.int .i64 a.n,str a.set,str a.rel,.map (some M)] TH (0,0))::(M,mapP (memoK K))::(memoB K++r)
theorem Own.offMemo {w:World} {M:Nat} {K:Memo} {f:List (Nat×Obj)} (h:Own B w0 (f++((M,mapP (memoK K))::(memoB K++hs))) w):Own B w0 (f++hs) w :=
 h.sub (List.Sublist.append_left (List.Sublist.cons _ (List.sublist_append_right _ _)) f)
theorem memo_perm {TH h M:Nat} {a:St} {K:Memo} (f r:List (Nat×Obj)):(f++memoF TH h M a K r).Perm (memoF TH h M a K (f++r)):=by
 have e:∀ r,memoF TH h M a K r=((h,Obj.cells #[.int .i64 a.n,str a.set,str a.rel,.map (some M)] TH (0,0))::(M,mapP (memoK K))::memoB K)++r:=fun _=>rfl
 rw [e,e]
 exact perm_back f _ r
theorem Ll.callMemo {TH h M d f:Nat} {a:St} {K:Memo} {ok:Memo→Prop} {b:Bool} {xs:List Operand} {ts:Array TypeId} {vs:List Value} (front:List (Nat×Obj)) (hd:Nat.blt d n=true) (hdst:o.dst=some d) (hg:wantE ops e o.guard=some true) (ho:o.op=.call ⟨.value (.func f),xs.toArray,ts⟩)
  (hcf:∀ args w,(callFunc f args).run P w=.ok (.enter f args) w) (hx:opds e xs=some vs)
  (hc:∀ w,Own B w0 (memoF TH h M a K (front++hs)) w→Calls P f vs.toArray w fun en w'=>∃ K',en=.returned (.bool b)∧ok K'∧Own B w0 (memoF TH h M a K' (front++hs)) w')
  (k:∀ K',ok K'→Ll P n (Own B w0 (front++memoF TH h M a K' hs)) ops l ((d,.bool b)::e) N R X):Ll P n (Own B w0 (front++memoF TH h M a K hs)) ops (o::l) e N R X :=
 Ll.call hd hdst hg ho hcf hx fun w hw=>(hc w (hw.perm (memo_perm _ _))).mono fun en w' ⟨K',h1,h2,h3⟩=>⟨_,h1,fun a' ha=>by
  have:=k K' h2
  unfold Ll at this
  exact this a' w' ha (h3.perm (memo_perm _ _).symm)⟩
end
theorem memo_new {M m p:Nat} {K:Memo} (f r:List (Nat×Obj)):((m,mapI [])::(f++((M,mapP (memoK K++[(p,m)]))::(memoB K++r)))).Perm (f++((M,mapP (memoK (K++[(p,m,[])])))::(memoB (K++[(p,m,[])])++r))):=by
 rw [memoK_add,memoB_add,List.append_assoc]
 refine (List.perm_middle (a:=(m,mapI [])) (l₁:=f) (l₂:=((M,mapP (memoK K++[(p,m)]))::(memoB K++r)))).symm.trans (List.Perm.append_left f ?_)
 refine (List.Perm.swap _ _ _).trans (List.Perm.cons _ ?_)
 exact (List.perm_middle (a:=(m,mapI [])) (l₁:=memoB K) (l₂:=r)).symm
theorem memo_set2 {M m p j:Nat} {K:Memo} {x y:Nat×Obj} {r:List (Nat×Obj)} {L L':List (Int×Bool)} (hj:K[j]?=some (p,m,L)):(x::y::(M,mapP (memoK K))::(memoB K++r)).set (j+3) (m,mapI L')=x::y::(M,mapP (memoK (K.set j (p,m,L'))))::(memoB (K.set j (p,m,L'))++r):=by
 rw [memoK_set hj,← memoB_set hj];rfl
theorem memo_last {K:Memo} {p m:Nat} (h:∀ x∈memoK K,x.1 ≠ p):(K++[(p,m,[])])[K.length]?=some (p,m,[])∧∀ (q:Nat) (x:Nat×Nat),q<K.length→(memoK (K++[(p,m,[])]))[q]?=some x→x.1 ≠ p:=by
 refine ⟨by simp,fun q x hq hx=>?_⟩
 rw [memoK_add,List.getElem?_append_left (by unfold memoK;rw [List.length_map];exact hq)] at hx
 exact h x (List.mem_of_getElem? hx)
theorem memo_case3 (K:Memo) (p:Nat) (k:Int):(∀ x∈memoK K,x.1 ≠ p)∨(∃ j m L,K[j]?=some (p,m,L)∧(∀ (q:Nat) (x:Nat×Nat),q<j→(memoK K)[q]?=some x→x.1 ≠ p)∧∀ x∈L,x.1 ≠ k)∨∃ j m L,K[j]?=some (p,m,L)∧(∀ (q:Nat) (x:Nat×Nat),q<j→(memoK K)[q]?=some x→x.1 ≠ p)∧∃ x∈L,x.1=k:=by
  rcases memo_case K p with h | ⟨j,m,L,h1,h2⟩
  · exact .inl h
  · rcases has_case L k with h3 | h3
    · exact .inr (.inl ⟨j,m,L,h1,h2,h3⟩)
    · exact .inr (.inr ⟨j,m,L,h1,h2,h3⟩)
theorem leaf_by {c:UInt8} {vs:List UInt8} (h:wfF (.leaf c vs)):(((c.toNat:Int)=116∨(c.toNat:Int)=102)∧vs=[])∨((c.toNat:Int)=80∧∃ v,vs=[v]∧isV v=true)∨(((c.toNat:Int)=61∨(c.toNat:Int)=69)∧∃ v u,vs=[v,u]∧isV v=true∧isV u=true):=by
  have hv:=h.2.2.2
  have hl:=h.2.2.1
  rcases leaf_op h with hc | ⟨rfl,v,rfl⟩ | ⟨hc,v,u,rfl⟩
  · refine .inl ⟨?_,?_⟩
    · rcases hc with rfl | rfl <;> decide
    · have e:arV c=0:=by rcases hc with rfl | rfl <;> rfl
      exact List.length_eq_zero_iff.1 (by omega)
  · exact .inr (.inl ⟨by decide,v,rfl,hv v (by simp)⟩)
  · refine .inr (.inr ⟨?_,v,u,rfl,hv v (by simp),hv u (by simp)⟩)
    rcases hc with rfl | rfl <;> decide
theorem one_by {c:UInt8} {vs:List UInt8} {q:Fm} (h:wfF (.one c vs q)):((c.toNat:Int)=33∧vs=[])∨(quI (c.toNat:Int)∧∃ v,vs=[v]∧isV v=true):=by
  rcases one_letter h with ⟨h1,v,h2,h3⟩ | ⟨rfl,h2⟩
  · exact .inr ⟨h1,v,h2,h3⟩
  · exact .inl ⟨by decide,h2⟩
theorem two_by {c:UInt8} {p q:Fm} (h:wfF (.two c p q)):(c.toNat:Int)=38∨(c.toNat:Int)=124:=by
 rcases two_op h with rfl | rfl <;> decide
theorem fm_by {fm:Fm} (h:wfF fm):(∃ c,fm=.leaf c []∧((c.toNat:Int)=116∨(c.toNat:Int)=102))∨(∃ c v,fm=.leaf c [v]∧(c.toNat:Int)=80∧isV v=true)∨(∃ c v u,fm=.leaf c [v,u]∧((c.toNat:Int)=61∨(c.toNat:Int)=69)∧isV v=true∧isV u=true) ∨
    (∃ c q,fm=.one c [] q∧(c.toNat:Int)=33)∨(∃ c v q,fm=.one c [v] q∧quI (c.toNat:Int)∧isV v=true)∨∃ c q r,fm=.two c q r∧((c.toNat:Int)=38∨(c.toNat:Int)=124):=by
  cases fm with
  | leaf c vs =>
    rcases leaf_by h with ⟨h1,rfl⟩ | ⟨h1,v,rfl,h2⟩ | ⟨h1,v,u,rfl,h2,h3⟩
    · exact .inl ⟨c,rfl,h1⟩
    · exact .inr (.inl ⟨c,v,rfl,h1,h2⟩)
    · exact .inr (.inr (.inl ⟨c,v,u,rfl,h1,h2,h3⟩))
  | one c vs q =>
    rcases one_by h with ⟨h1,rfl⟩ | ⟨h1,v,rfl,h2⟩
    · exact .inr (.inr (.inr (.inl ⟨c,q,rfl,h1⟩)))
    · exact .inr (.inr (.inr (.inr (.inl ⟨c,v,q,rfl,h1,h2⟩))))
  | two c q r=>exact .inr (.inr (.inr (.inr (.inr ⟨c,q,r,rfl,two_by h⟩))))
section
variable {a:St} {en:List Int} {c v u:UInt8} {q r:Fm}
theorem ev116 (h:(c.toNat:Int)=116):true=ev a (.leaf c []) en:=by
 obtain rfl:c=116:=u8_of (n:=116) (by decide) h
 rfl
theorem ev102 (h:(c.toNat:Int)=102):false=ev a (.leaf c []) en:=by
 obtain rfl:c=102:=u8_of (n:=102) (by decide) h
 rfl
theorem ev80 (h:(c.toNat:Int)=80):a.inSet (en.getD (vI v) 0)=ev a (.leaf c [v]) en:=by
 obtain rfl:c=80:=u8_of (n:=80) (by decide) h
 rfl
theorem ev33 (h:(c.toNat:Int)=33):(!ev a q en)=ev a (.one c [] q) en:=by
 obtain rfl:c=33:=u8_of (n:=33) (by decide) h
 rfl
theorem ev38 (h:(c.toNat:Int)=38):(ev a q en&&ev a r en)=ev a (.two c q r) en:=by
 obtain rfl:c=38:=u8_of (n:=38) (by decide) h
 rfl
theorem ev124 (h:(c.toNat:Int)=124):(ev a q en||ev a r en)=ev a (.two c q r) en:=by
 obtain rfl:c=124:=u8_of (n:=124) (by decide) h
 rfl
theorem and_t {x y z:Bool} (h:(x&&y)=z) (hx:x=true):y=z:=by rw [hx] at h;exact h
theorem and_f {x y z:Bool} (h:(x&&y)=z) (hx:x=false):false=z:=by rw [hx] at h;exact h
theorem or_t {x y z:Bool} (h:(x||y)=z) (hx:x=true):true=z:=by rw [hx] at h;exact h
theorem or_f {x y z:Bool} (h:(x||y)=z) (hx:x=false):y=z:=by rw [hx] at h;exact h
theorem ev_qu (h:quI (c.toNat:Int)):ev a (.one c [v] q) en=decide (need c a.n.toNat≤cntT (evC a v q en) a.n.toNat):=by
 unfold ev
 rw [if_neg (fun e=>by subst e;revert h;decide)];rfl
theorem ev65 (h:(c.toNat:Int)=65) {x:Nat} (hx:(x:Int)=a.n):decide ((cntT (evC a v q en) x:Int)=a.n)=ev a (.one c [v] q) en:=by
 rw [ev_qu (by unfold quI;omega),decide_eq_decide]
 have hn:=need65 h (show 0≤a.n by omega)
 have hl:=cntT_le (evC a v q en) x
 obtain rfl:x=a.n.toNat:=by omega
 omega
theorem ev83 (h:(c.toNat:Int)=83) {x:Nat} (hx:(x:Int)=a.n):decide ((0:Int)<(cntT (evC a v q en) x:Int))=ev a (.one c [v] q) en:=by
 rw [ev_qu (by unfold quI;omega),decide_eq_decide]
 have hn:=need83 (n:=a.n.toNat) h
 obtain rfl:x=a.n.toNat:=by omega
 omega
theorem ev234 (hq:quI (c.toNat:Int)) (h65:¬ (c.toNat:Int)=65) (h83:¬ (c.toNat:Int)=83) {x:Nat} (hx:(x:Int)=a.n):decide ((c.toNat:Int) - 48≤(cntT (evC a v q en) x:Int))=ev a (.one c [v] q) en:=by
 rw [ev_qu hq,decide_eq_decide]
 have hn:=need234 (c:=c) (n:=a.n.toNat) (by unfold quI at hq;omega)
 obtain rfl:x=a.n.toNat:=by omega
 omega
end
theorem bit_and {b i:Nat}:decide (((b / 2 ^ i &&& 1:Nat):Int)=1)=b.testBit i:=by
 rw [Nat.testBit_eq_decide_div_mod_eq,decide_eq_decide,Nat.and_one_is_mod]
 omega
theorem key_bound {a:St} {en:List Int} (hE:EnvA a en) (ha:a.Fine) {b i:Nat} (hi:i≤4):kSum b en i<4096:=by
 have h1:=kSum_lt (b:=b) (hE.ok ha) hi
 have h2:(8:Nat) ^ i≤8 ^ 4:=Nat.pow_le_pow_right (by decide) hi
 omega
theorem key_yes {a:St} {en:List Int} (hE:EnvA a en) (ha:a.Fine) {b i:Nat} (hi:i<4) (hb:b.testBit i=true):kSum b en i ||| (en.getD i 0).toNat*2 ^ (3*i)=kSum b en (i+1):=by
 rw [Nat.pow_mul,show (2:Nat) ^ 3=8 from rfl]
 exact kSum_or (hE.ok ha) hi hb
theorem key_no {en:List Int} {b i:Nat} (hb:b.testBit i=false):kSum b en i=kSum b en (i+1):=by
 rw [show kSum b en (i+1)=kSum b en i+(if b.testBit i then (en.getD i 0).toNat*8 ^ i else 0) from rfl,hb];rfl
theorem key_val {a:St} {en:List Int} (hE:EnvA a en) (ha:a.Fine) {i:Nat} (hi:i<4):en.getD i 0=((en.getD i 0).toNat:Int)∧(en.getD i 0).toNat<8:=by
 have:=(hE.ok ha).2 i hi
 omega
theorem shl_bound {x i:Nat} (hx:x<8) (hi:i<4):x*2 ^ (3*i)<4611686018427387904:=by
 have h2:(2:Nat) ^ (3*i)≤2 ^ 9:=Nat.pow_le_pow_right (by decide) (by omega)
 have:=Nat.mul_le_mul (show x≤7 by omega) h2
 omega
end Go.Wk
namespace Go.Wk
abbrev qD := @Own.offMemo
abbrev vA := @Ll.callMemo
end Go.Wk
namespace Go.Wk
open Go.RowKit
section
variable {P:Program} {n:Nat} {C:World→Prop} {B:Nat} {w0:World} {hs hs':List (Nat×Obj)} {N R:Act→World→Prop} {X:List (Nat×(Act→World→Prop))} {e:Env} {ops:Array Oper} {l:List Oper} {o:Oper}
theorem OpQ.sliceAll {t el:TypeId} {m:Nat} {x:Operand} {b:Nat} (h:o.op=.slice t x none none none) (hu:∀ w,(underlying t).run P w=.ok (.array m el) w) (hz:∀ w,(sizeOf el).run P w=.ok 1 w)
  (hx:opd e x=some (.pointer (some ⟨b,0,none⟩))):OpQ P n C e o (.slice (some ⟨b,0,none⟩) m m):=OpQ.val fun A hF w=>by
 unfold execOp;rw [h];simp only [hF.opd hx,Option.map_none]
 simp only [Instr.sliceAt,Instr.sureAddr,Instr.sliceBounds,Sem.run_bind,Sem.run_pure,hu,hz,Result.andThen]
 simp [Addr.add]
theorem Ll.copyEnv {dT sT elem T:TypeId} {d g:Nat} {x y:Operand} {v:Value} {xs:List Int} (i:Nat) (hd:Nat.blt d n=true) (hdst:o.dst=some d) (hg:wantE ops e o.guard=some true) (h:o.op=.call ⟨.builtin .copy,#[x,y],#[dT,sT]⟩)
    (hu:P.underlying dT=some (.slice elem)) (hsz:(P.info? elem).map (·.size)=some 1) (hx:opd e x=some (.slice (some ⟨g,0,none⟩) 4 4)) (hy:opd e y=some v) (hi:hs[i]?=some (g,.cells (ints [0,0,0,0]).toArray T (0,0))) (hr:∀ w,Own B w0 hs w→Ints w v xs) (hl:xs.length≤4)
    (k:Ll P n (Own B w0 (hs.set i (g,.cells (ints (envL xs)).toArray T (0,0)))) ops l ((d,.int .i64 (xs.length:Int))::e) N R X):Ll P n (Own B w0 hs) ops (o::l) e N R X :=
  Ll.turn hd hdst hg fun a w hF hw=>by
    obtain ⟨src,cap,rfl,_,h3,h4⟩:=hr w hw
    have hlen:(ints xs).length=xs.length:=ints_length _
    have hgc:=(hw.has i g _ hi).2
    by_cases h0:xs=[]
    · subst h0
      refine ⟨.int .i64 (([]:List Int).length:Int),w,?_,fun a' ha=>?_⟩
      · unfold execOp;rw [h]
        simp only [resolve,invoke,BigFrame.builtin_copy,List.map_toArray,List.map_cons,List.map_nil,hF.opd hx,hF.opd hy,Sem.run_bind,Sem.run_pure,Result.andThen]
        rw [run_copy_none w dT sT _ elem (some ⟨g,0,none⟩) src 4 4 (ints ([]:List Int)).length cap hu hsz (by rw [ints_length];rfl)]
        rfl
      · unfold Ll at k
        refine k a' w ha ?_
        rw [show envL []=[0,0,0,0] from rfl,set_same hi];exact hw
    · have hone:∀ v∈ints xs,v.oneCell'=true:=fun v hv=>by
        obtain ⟨z,_,rfl⟩:=List.mem_map.1 hv;rfl
      obtain ⟨ad,rfl⟩:∃ ad,src=some ad:=by
        cases src with
        | none =>
          have:=h3 rfl
          exact absurd (List.map_eq_nil_iff.1 this) h0
        | some ad=>exact ⟨ad,rfl⟩
      obtain ⟨bk,off,sp⟩:=ad
      obtain rfl:sp=none:=(h4 _ rfl).1
      have hcells:∀ (j:Nat) (u:Value),(ints xs)[j]?=some u→w.cell? ((⟨bk,off,none⟩:Addr).add j)=some u:=fun j u hu=>by rw [Addr.add_lit];exact (h4 _ rfl).2 j u hu
      have e1:((ints [0,0,0,0]).toArray.toList.take 0++ints xs++(ints [0,0,0,0]).toArray.toList.drop (0+(ints xs).length)).toArray=(ints (envL xs)).toArray:=by
        have e2:(ints [0,0,0,0]).drop xs.length=ints (List.replicate (4 - xs.length) 0):=by
          rw [show ([0,0,0,0]:List Int)=List.replicate 4 0 from rfl]
          unfold ints
          rw [List.map_replicate,List.map_replicate,List.drop_replicate]
        rw [Nat.zero_add,hlen,List.take_zero,List.nil_append]
        show (ints xs++(ints [0,0,0,0]).drop xs.length).toArray=_
        rw [e2]
        unfold envL ints
        rw [List.map_append]
      refine ⟨.int .i64 (xs.length:Int),w.setRow g (ints (envL xs)).toArray,?_,fun a' ha=>?_⟩
      · unfold execOp;rw [h]
        simp only [resolve,invoke,BigFrame.builtin_copy,List.map_toArray,List.map_cons,List.map_nil,hF.opd hx,hF.opd hy,Sem.run_bind,Sem.run_pure,Result.andThen]
        rw [run_copy_row (P:=P) w dT sT _ elem g 0 4 4 ⟨bk,off,none⟩ (ints xs).length cap (ints [0,0,0,0]).toArray T (ints xs) hu hsz hgc (by rw [hlen];exact (Nat.min_eq_left hl).symm) hcells (by rw [hlen,List.size_toArray,ints_length];simpa using hl) hone,e1]
        show Result.ok _ _=_
        rw [hlen];rfl
      · unfold Ll at k
        exact k a' _ ha (hw.setRow hi _)
end
theorem hold_none {a:St} {f:List UInt8} {xs:List Int} (h:formO f=none):holdO a f xs=none:=holdO_none fun p e _=>by rw [h] at e;cases e
theorem hold_bad {a:St} {f:List UInt8} {xs:List Int} {fm:Fm} (h:formO f=some fm) (k:validB a=false∨4<(xs.length:Int)∨xs.all (elB a)=false∨¬ ((frB fm / 2 ^ xs.length:Nat):Int)=0):holdO a f xs=none:=holdO_none fun p e ⟨h1,h2,h3,h4⟩=>by
  rw [h] at e
  injection e with e
  subst e
  rcases k with k | k | k | k
  · rw [k] at h1;cases h1
  · omega
  · have:xs.all (elB a)=true:=List.all_eq_true.2 fun x hx=>elB_true.2 (h3 x hx)
    rw [k] at this;cases this
  · omega
theorem hold_good {a:St} {f:List UInt8} {xs:List Int} {fm:Fm} (h:formO f=some fm) (h1:validB a=true) (h2:xs.length≤4) (h3:xs.all (elB a)=true) (h4:((frB fm / 2 ^ xs.length:Nat):Int)=0):holdO a f xs=some (ev a fm (envL xs)) :=
 holdO_some h ⟨h1,h2,fun x hx=>elB_true.1 (List.all_eq_true.1 h3 x hx),by omega⟩
theorem hold_ret {a:St} {f:List UInt8} {xs:List Int} {o:Option Bool} (h:holdO a f xs=o):(Value.tuple #[.bool (o.getD false),.bool o.isSome])=.tuple #[.bool (holdV a f xs),.bool (holdK a f xs)]:=by
 unfold holdV holdK;rw [h]
end Go.Wk
namespace Go.Wk
open Go.RowKit
section
variable {P:Program} {n:Nat} {C:World→Prop} {e:Env} {o:Oper}
end
def bitC (b:Bool):List UInt8:=if b then [49] else [48]
@[simp] theorem bitC_len (b:Bool):(bitC b).length=1:=by cases b <;> rfl
def flipTo (s:List UInt8):Nat→List UInt8
 | 0=>[]
 | k+1=>flipTo s k++bitC (decide (s.getD k 0=48))
@[simp] theorem flip_len (s:List UInt8):∀ k,(flipTo s k).length=k
 | 0=>rfl
 | k+1=>by simp [flipTo,flip_len s k]
def mkSet (p:Nat→Bool):Nat→List UInt8
 | 0=>[]
 | k+1=>mkSet p k++bitC (p k)
@[simp] theorem mkSet_len (p:Nat→Bool):∀ k,(mkSet p k).length=k
 | 0=>rfl
 | k+1=>by simp [mkSet,mkSet_len p k]
def mkRel (q:Nat→Nat→Bool) (n:Nat):Nat→List UInt8
 | 0=>[]
 | k+1=>mkRel q n k++mkSet (q k) n
@[simp] theorem mkRel_len (q:Nat→Nat→Bool) (n:Nat):∀ k,(mkRel q n k).length=k*n
 | 0=>by simp [mkRel]
 | k+1=>by simp [mkRel,mkRel_len q n k,Nat.add_mul]
end Go.Wk
namespace Go.Wk
open Go.RowKit
def joinN (op:List UInt8) (l:List (List UInt8)):List UInt8:=preJ op l (l.length - 1)++l.getD (l.length - 1) []
def apart (v:List UInt8) (turned:Bool) (l:List (List UInt8)):List UInt8:=((if turned then [33,83] else [83])++v)++joinN [38] (dedup l)
end Go.Wk
namespace Go.Wk
open Go.RowKit
def tlL (F:Nat→List UInt8) (k:Nat):List (List UInt8):=(List.range k).map F
@[simp] theorem tlL_len (F:Nat→List UInt8) (k:Nat):(tlL F k).length=k:=by simp [tlL]
end Go.Wk
namespace Go.Wk
open Go.RowKit
def bes (k:Nat):List Int:=List.replicate k (-1)
@[simp] theorem bes_len (k:Nat):(bes k).length=k:=List.length_replicate
def Turns (a b:St) (k:Nat) (t:Int):Prop:=(∃ n:Nat,t=(n:Int)∧¬ pW n a (bes k) b (bes k)∧∀ m:Nat,m<n→pW m a (bes k) b (bes k))∨(t = -1∧pF a (bes k) b (bes k))
end Go.Wk
namespace Go.Wk
open Go.RowKit
def InBoth (as_ bs:List Int) (x y:Int):Prop:=∃ j:Nat,j<as_.length∧x=as_.getD j 0∧y=bs.getD j 0
theorem getD_snoc {l:List Int} {x:Int} {i:Nat}:(l++[x]).getD i 0=if i<l.length then l.getD i 0 else if i=l.length then x else 0:=by
  rw [List.getD_eq_getElem?_getD]
  by_cases h:i<l.length
  · rw [if_pos h,List.getElem?_append_left h,← List.getD_eq_getElem?_getD]
  · rw [if_neg h,List.getElem?_append_right (by omega)]
    by_cases e:i=l.length
    · rw [if_pos e,e,Nat.sub_self];rfl
    · rw [if_neg e,List.getElem?_eq_none (by simp;omega)];rfl
theorem InBoth.more {as_ bs:List Int} {x y u v:Int} (hl:as_.length=bs.length) (h:InBoth as_ bs x y):InBoth (as_++[u]) (bs++[v]) x y:=by
 obtain ⟨j,hj,e1,e2⟩:=h
 exact ⟨j,by rw [List.length_append];omega,by rw [getD_snoc,if_pos hj];exact e1,by rw [getD_snoc,if_pos (by omega)];exact e2⟩
theorem InBoth.last {as_ bs:List Int} {u v:Int} (hl:as_.length=bs.length):InBoth (as_++[u]) (bs++[v]) u v :=
 ⟨as_.length,by rw [List.length_append];simp,by rw [getD_snoc,if_neg (by omega),if_pos rfl],by rw [getD_snoc,if_neg (by omega),if_pos hl]⟩
end Go.Wk
namespace Go.Wk
open Go.RowKit
def OnVars (xs ys:List Int) (fr:Nat) (e e':List Int):Prop:=∀ i:Nat,i<4→fr.testBit i=true→InBoth xs ys (e.getD i 0) (e'.getD i 0)
theorem OnVars.less {xs ys:List Int} {fr fr':Nat} {e e':List Int} (h:OnVars xs ys fr e e') (hs:∀ i:Nat,i<4→fr'.testBit i=true→fr.testBit i=true):OnVars xs ys fr' e e':=fun i hi ht=>h i hi (hs i hi ht)
theorem in_pair {a b:St} {xs ys:List Int} (hl:xs.length=ys.length) (hs:sameB a xs b ys=true) {x y u v:Int} (h:InBoth xs ys x y) (k:InBoth xs ys u v) :
  a.inSet x=b.inSet y∧decide (x=u)=decide (y=v)∧a.inRel x u=b.inRel y v:=by
 obtain ⟨i,hi,rfl,rfl⟩:=h
 obtain ⟨j,hj,rfl,rfl⟩:=k
 have h1:=(same_at hl hs hi).1
 obtain ⟨h2,h3,h4⟩:=pairOk_true.1 (same_pairs hl hs hj hi)
 exact ⟨h1,h2,h3⟩
theorem cnt_all {f:Nat→Bool}:∀ {n:Nat},n≤cntT f n↔∀ x:Nat,x<n→f x=true
  | 0=>⟨fun _ x hx=>by omega,fun _=>Nat.le_refl _⟩
  | n+1=>by
    have h1:=cntT_le f n
    rw [cnt_step]
    constructor
    · intro h x hx
      have hf:f n=true:=by
        cases e:f n with
        | true=>rfl
        | false=>rw [e] at h;exfalso;simp at h;omega
      rw [if_pos hf] at h
      rcases Nat.lt_or_ge x n with h2 | h2
      · exact cnt_all.1 (by omega) x h2
      · rw [show x=n from by omega];exact hf
    · intro h
      rw [if_pos (h n (by omega))]
      have:=cnt_all (f:=f) (n:=n) |>.2 (fun x hx=>h x (show x<n+1 by omega))
      omega
theorem cnt_ex {f:Nat→Bool}:∀ {n:Nat},1≤cntT f n↔∃ x:Nat,x<n∧f x=true
  | 0=>⟨fun h=>by exact absurd h (by unfold cntT;omega),fun ⟨x,hx,_⟩=>by omega⟩
  | n+1=>by
    rw [cnt_step]
    constructor
    · intro h
      by_cases hf:f n=true
      · exact ⟨n,by omega,hf⟩
      · rw [if_neg hf] at h
        obtain ⟨x,hx,h2⟩:=cnt_ex.1 (show 1≤cntT f n by omega)
        exact ⟨x,by omega,h2⟩
    · rintro ⟨x,hx,h2⟩
      rcases Nat.lt_or_ge x n with h3 | h3
      · have:=cnt_ex.2 ⟨x,h3,h2⟩
        omega
      · obtain rfl:x=n:=by omega
        rw [if_pos h2];omega
def Diff (f:Nat→Bool) (n k:Nat) (X:List Int):Prop:=X.length=k∧(∀ i:Nat,i<k→∃ x:Nat,X.getD i 0=(x:Int)∧x<n∧f x=true)∧∀ i j:Nat,i<j→j<k→X.getD i 0 ≠ X.getD j 0
theorem diff_snoc {f:Nat→Bool} {n k:Nat} {X:List Int} (h:Diff f n k X) (hn:f n=true):Diff f (n+1) (k+1) (X++[(n:Int)]):=by
  obtain ⟨h1,h2,h3⟩:=h
  refine ⟨by rw [List.length_append,h1];rfl,fun i hi=>?_,fun i j hij hj=>?_⟩
  · rw [getD_snoc,h1]
    by_cases e:i<k
    · rw [if_pos e];obtain ⟨x,e1,e2,e3⟩:=h2 i e;exact ⟨x,e1,by omega,e3⟩
    · rw [if_neg e,if_pos (by omega)];exact ⟨n,rfl,by omega,hn⟩
  · rw [getD_snoc,getD_snoc,h1,if_pos (by omega)]
    by_cases e:j<k
    · rw [if_pos e];exact h3 i j hij e
    · rw [if_neg e,if_pos (by omega)]
      obtain ⟨x,e1,e2,_⟩:=h2 i (by omega)
      omega
theorem cnt_diff {f:Nat→Bool}:∀ {n k:Nat},k≤cntT f n→∃ X,Diff f n k X
  | _,0,_=>⟨[],rfl,fun i hi=>by omega,fun i j hi hj=>by omega⟩
  | 0,k+1,h=>by exact absurd h (by unfold cntT;omega)
  | n+1,k+1,h=>by
    rw [cnt_step] at h
    by_cases hf:f n=true
    · rw [if_pos hf] at h
      obtain ⟨X,hX⟩:=cnt_diff (f:=f) (n:=n) (k:=k) (by omega)
      exact ⟨_,diff_snoc hX hf⟩
    · rw [if_neg hf] at h
      obtain ⟨X,h1,h2,h3⟩:=cnt_diff (f:=f) (n:=n) (k:=k+1) (by omega)
      exact ⟨X,h1,fun i hi=>(h2 i hi).imp fun x hx=>⟨hx.1,by omega,hx.2.2⟩,h3⟩
theorem diff_cnt {f:Nat→Bool}:∀ {n k:Nat} {X:List Int},Diff f n k X→k≤cntT f n
  | 0,0,_,_=>Nat.le_refl _
  | 0,k+1,X,h=>by obtain ⟨x,_,h2,_⟩:=h.2.1 0 (by omega);omega
  | n+1,k,X,h=>by
    obtain ⟨h1,h2,h3⟩:=h
    rw [cnt_step]
    by_cases hm:∃ i:Nat,i<k∧X.getD i 0=(n:Int)
    · obtain ⟨i,hi,e⟩:=hm
      obtain ⟨x,e1,e2,e3⟩:=h2 i hi
      have hx:x=n:=by omega
      subst hx
      rw [if_pos e3]
      have key:Diff f x (k - 1) (X.eraseIdx i):=by
        have hg:∀ j:Nat,(X.eraseIdx i).getD j 0=X.getD (if j<i then j else j+1) 0:=fun j=>by
          rw [List.getD_eq_getElem?_getD,List.getElem?_eraseIdx]
          by_cases e:j<i
          · rw [if_pos e,if_pos e,← List.getD_eq_getElem?_getD]
          · rw [if_neg e,if_neg e,← List.getD_eq_getElem?_getD]
        refine ⟨by rw [List.length_eraseIdx,if_pos (by omega)];omega,fun j hj=>?_,fun j m hjm hm=>?_⟩
        · rw [hg]
          have hlt:(if j<i then j else j+1)<k:=by split <;> omega
          obtain ⟨z,z1,z2,z3⟩:=h2 _ hlt
          refine ⟨z,z1,?_,z3⟩
          have hne:X.getD (if j<i then j else j+1) 0 ≠ X.getD i 0:=by
            by_cases e:j<i
            · rw [if_pos e];exact h3 _ _ e hi
            · rw [if_neg e];exact fun q=>h3 i (j+1) (by omega) (by omega) q.symm
          rw [z1,e1] at hne
          omega
        · rw [hg,hg]
          refine h3 _ _ ?_ (by split <;> omega)
          split <;> split <;> omega
      have:=diff_cnt key
      omega
    · rw [Nat.le_iff_lt_or_eq]
      have key:Diff f n k X:=⟨h1,fun i hi=>by
        obtain ⟨x,e1,e2,e3⟩:=h2 i hi
        exact ⟨x,e1,Nat.lt_of_le_of_ne (by omega) (fun e=>hm ⟨i,hi,by rw [e1,e]⟩),e3⟩,h3⟩
      have:=diff_cnt key
      split <;> omega
theorem win_run {a b:St}:∀ (X:List Int) (n:Nat) (xs ys:List Int),(∀ i:Nat,i<X.length→∃ x:Nat,X.getD i 0=(x:Int)∧x<a.n.toNat)→winP (X.length+n) a xs b ys →
  ∃ Y:List Int,Y.length=X.length∧(∀ i:Nat,i<X.length→∃ y:Nat,Y.getD i 0=(y:Int)∧y<b.n.toNat)∧winP n a (xs++X) b (ys++Y)
 | [],n,xs,ys,_,h=>⟨[],rfl,fun i hi=>absurd hi (Nat.not_lt_zero _),by rw [List.append_nil,List.append_nil];rwa [List.length_nil,Nat.zero_add] at h⟩
 | z::X,n,xs,ys,hX,h=>by
  obtain ⟨x,e1,e2⟩:=hX 0 (by simp)
  rw [List.getD_cons_zero] at e1
  subst e1
  rw [show (((x:Int)::X).length+n)=(X.length+n)+1 from by rw [List.length_cons];omega] at h
  obtain ⟨y,hy,h2⟩:=h.2.1 x e2
  obtain ⟨Y,h3,h4,h5⟩:=win_run X n (xs++[(x:Int)]) (ys++[(y:Int)]) (fun i hi=>by have:=hX (i+1) (by simpa using hi);simpa using this) h2
  refine ⟨(y:Int)::Y,by simp [h3],fun i hi=>?_,by simpa using h5⟩
  cases i with
  | zero=>exact ⟨y,rfl,hy⟩
  | succ i=>simpa using h4 i (by simpa using hi)
theorem InBoth.left {as_ bs X Y:List Int} (hl:as_.length=bs.length) {x y:Int} (h:InBoth as_ bs x y):InBoth (as_++X) (bs++Y) x y:=by
  obtain ⟨j,hj,e1,e2⟩:=h
  refine ⟨j,by rw [List.length_append];omega,?_,?_⟩
  · rw [e1,List.getD_eq_getElem?_getD,List.getD_eq_getElem?_getD,List.getElem?_append_left hj]
  · rw [e2,List.getD_eq_getElem?_getD,List.getD_eq_getElem?_getD,List.getElem?_append_left (by omega)]
theorem InBoth.right {as_ bs X Y:List Int} (hl:as_.length=bs.length) {i:Nat} (hi:i<X.length):InBoth (as_++X) (bs++Y) (X.getD i 0) (Y.getD i 0):=by
  refine ⟨as_.length+i,by rw [List.length_append];omega,?_,?_⟩
  · rw [List.getD_eq_getElem?_getD,List.getD_eq_getElem?_getD,List.getElem?_append_right (by omega),Nat.add_sub_cancel_left]
  · rw [List.getD_eq_getElem?_getD,List.getD_eq_getElem?_getD,List.getElem?_append_right (by omega),hl,Nat.add_sub_cancel_left]
theorem on_env {xs ys:List Int} {v:UInt8} {p:Fm} {e e':List Int} (hv:isV v=true) (he:e.length=4) (he':e'.length=4) (h:OnVars xs ys (frB p &&& (15 ^^^ vBit v)) e e') {x y:Int} (hx:InBoth xs ys x y):OnVars xs ys (frB p) (e.set (vI v) x) (e'.set (vI v) y):=by
  intro i hi ht
  have hv4:=(vI_lt hv).1
  by_cases ei:vI v=i
  · subst ei
    rw [List.getD_eq_getElem?_getD,List.getD_eq_getElem?_getD,List.getElem?_set_self (by omega),List.getElem?_set_self (by omega)]
    exact hx
  · rw [List.getD_eq_getElem?_getD,List.getD_eq_getElem?_getD,List.getElem?_set_ne ei,List.getElem?_set_ne ei,← List.getD_eq_getElem?_getD,← List.getD_eq_getElem?_getD]
    refine h i hi ?_
    rw [frQ_test hi,ht,decide_eq_false ei];rfl
theorem OnVars.more {xs ys X Y:List Int} {fr:Nat} {e e':List Int} (hl:xs.length=ys.length) (h:OnVars xs ys fr e e'):OnVars (xs++X) (ys++Y) fr e e':=fun i hi ht=>(h i hi ht).left hl
theorem ev_quant_eq {a:St} {c v:UInt8} {p:Fm} {e:List Int} (hc:¬ c=33):ev a (.one c [v] p) e=decide (need c a.n.toNat≤cntT (evC a v p e) a.n.toNat):=by
 unfold ev;rw [if_neg hc];rfl
theorem game_ev:∀ {p:Fm},wfF p→∀ {n:Nat} {a b:St} {xs ys e e':List Int},rankF p≤n→xs.length=ys.length→winP n a xs b ys→e.length=4→e'.length=4→OnVars xs ys (frB p) e e'→ev a p e=ev b p e'
  | .leaf c vs,h,n,a,b,xs,ys,e,e',hr,hl,hw,he,he',ho=>by
    have hs:=winP_same n hw
    have key:∀ v∈vs,InBoth xs ys (atV e v) (atV e' v):=fun v hv=>ho _ (vI_lt (h.2.2.2 v hv)).1 ((vBits_test vs _).2 ⟨v,hv,rfl⟩)
    rcases leaf_op h with hc | ⟨rfl,v,rfl⟩ | ⟨hc,v,u,rfl⟩
    · rcases hc with rfl | rfl <;> rfl
    · have:=in_pair hl hs (key v (by simp)) (key v (by simp))
      exact this.1
    · have:=in_pair hl hs (key v (by simp)) (key u (by simp))
      rcases hc with rfl | rfl
      · exact this.2.1
      · exact this.2.2
  | .one c [] p,h,n,a,b,xs,ys,e,e',hr,hl,hw,he,he',ho=>by
    have hc:=one_no_var h;subst hc
    have:=game_ev h.2.2.2.2 (n:=n) (by simpa [rankF] using hr) hl hw he he' ho
    show (!ev a p e)=(!ev b p e')
    rw [this]
  | .one c (v::vs) p,h,n,a,b,xs,ys,e,e',hr,hl,hw,he,he',ho=>by
    obtain ⟨hc,rfl,hv⟩:=one_var h
    have hp:=h.2.2.2.2
    have h33:¬ c=33:=fun e=>by subst e;revert hc;decide
    rw [ev_quant_eq h33,ev_quant_eq h33,decide_eq_decide]
    have step:∀ {m:Nat} {us vs:List Int} {x y:Int},us.length=vs.length→rankF p≤m→winP m a us b vs→OnVars us vs (frB (.one c [v] p)) e e'→InBoth us vs x y→ev a p (e.set (vI v) x)=ev b p (e'.set (vI v) y):=fun hul hm hwm hom hin =>
      game_ev hp hm hul hwm (by rw [List.length_set];exact he) (by rw [List.length_set];exact he') (on_env hv he he' hom hin)
    by_cases hAS:c=65∨c=83
    · have hr1:rankF (.one c [v] p)=rankF p+1:=by show (if c=33 then _ else if c=65∨c=83 then _ else _)=_;rw [if_neg h33,if_pos hAS]
      obtain ⟨m,rfl⟩:∃ m,n=m+1:=⟨n - 1,by omega⟩
      have st1:∀ x y:Nat,winP m a (xs++[(x:Int)]) b (ys++[(y:Int)])→evC a v p e x=evC b v p e' y:=fun x y h2 =>
        step (by simp [hl]) (by omega) h2 (ho.more hl) (InBoth.last hl)
      rcases hAS with rfl | rfl
      · show a.n.toNat≤_↔b.n.toNat≤_
        rw [cnt_all,cnt_all]
        constructor
        · intro h1 y hy
          obtain ⟨x,hx,h2⟩:=hw.2.2 y hy
          rw [← st1 x y h2];exact h1 x hx
        · intro h1 x hx
          obtain ⟨y,hy,h2⟩:=hw.2.1 x hx
          rw [st1 x y h2];exact h1 y hy
      · show 1≤_↔1≤_
        rw [cnt_ex,cnt_ex]
        constructor
        · rintro ⟨x,hx,h1⟩
          obtain ⟨y,hy,h2⟩:=hw.2.1 x hx
          exact ⟨y,hy,by rw [← st1 x y h2];exact h1⟩
        · rintro ⟨y,hy,h1⟩
          obtain ⟨x,hx,h2⟩:=hw.2.2 y hy
          exact ⟨x,hx,by rw [st1 x y h2];exact h1⟩
    · have hn:∀ N,need c N=c.toNat - 48:=fun N=>by unfold need;rw [if_neg (fun e=>hAS (.inl e)),if_neg (fun e=>hAS (.inr e))]
      rw [hn,hn]
      have hr1:rankF (.one c [v] p)=rankF p+(c.toNat - 48):=by show (if c=33 then _ else if c=65∨c=83 then _ else _)=_;rw [if_neg h33,if_neg hAS]
      generalize hk:c.toNat - 48=k at *
      obtain ⟨m,rfl⟩:∃ m,n=k+m:=⟨n - k,by omega⟩
      constructor
      · intro h1
        obtain ⟨X,hX1,hX2,hX3⟩:=cnt_diff h1
        obtain ⟨Y,hY1,hY2,hwY⟩:=win_run X m xs ys (fun i hi=>(hX2 i (by omega)).imp fun x hx=>⟨hx.1,hx.2.1⟩) (by rw [hX1];exact hw)
        have hlX:(xs++X).length=(ys++Y).length:=by rw [List.length_append,List.length_append,hl,hY1]
        refine diff_cnt (X:=Y) ⟨by omega,fun i hi=>?_,fun i j hij hj=>?_⟩
        · obtain ⟨x,e1,e2,e3⟩:=hX2 i hi
          obtain ⟨y,f1,f2⟩:=hY2 i (by omega)
          refine ⟨y,f1,f2,?_⟩
          have:=step hlX (by omega) hwY (ho.more hl) (InBoth.right hl (show i<X.length by omega))
          rw [e1,f1] at this
          show ev b p _=true
          rw [← this];exact e3
        · have h5:=(in_pair hlX (winP_same m hwY) (InBoth.right hl (show i<X.length by omega)) (InBoth.right hl (show j<X.length by omega))).2.1
          intro e6
          rw [decide_eq_decide] at h5
          exact hX3 i j hij hj (h5.2 e6)
      · intro h1
        obtain ⟨Y,hY1,hY2,hY3⟩:=cnt_diff h1
        obtain ⟨X,hX1,hX2,hwX⟩:=win_run Y m ys xs (fun i hi=>(hY2 i (by omega)).imp fun x hx=>⟨hx.1,hx.2.1⟩) (by rw [hY1];exact winP_comm _ _ _ _ _ hl hw)
        have hlX:(xs++X).length=(ys++Y).length:=by rw [List.length_append,List.length_append,hl,hX1]
        have hwY:=winP_comm _ _ _ _ _ hlX.symm hwX
        refine diff_cnt (X:=X) ⟨by omega,fun i hi=>?_,fun i j hij hj=>?_⟩
        · obtain ⟨y,e1,e2,e3⟩:=hY2 i hi
          obtain ⟨x,f1,f2⟩:=hX2 i (by omega)
          refine ⟨x,f1,f2,?_⟩
          have:=step hlX (by omega) hwY (ho.more hl) (InBoth.right hl (show i<X.length by omega))
          rw [e1,f1] at this
          show ev a p _=true
          rw [this];exact e3
        · have h5:=(in_pair hlX (winP_same m hwY) (InBoth.right hl (show i<X.length by omega)) (InBoth.right hl (show j<X.length by omega))).2.1
          intro e6
          rw [decide_eq_decide] at h5
          exact hY3 i j hij hj (h5.1 e6)
  | .two c p q,h,n,a,b,xs,ys,e,e',hr,hl,hw,he,he',ho=>by
    have hr1:rankF (.two c p q)=max (rankF p) (rankF q):=rfl
    have h1:=game_ev h.2.2.2.1 (n:=n) (by omega) hl hw he he' (ho.less fun i _ ht=>by show (frB p ||| frB q).testBit i=true;rw [Nat.testBit_or,ht];rfl)
    have h2:=game_ev h.2.2.2.2 (n:=n) (by omega) hl hw he he' (ho.less fun i _ ht=>by show (frB p ||| frB q).testBit i=true;rw [Nat.testBit_or,ht,Bool.or_true])
    show (if c=38 then ev a p e&&ev a q e else ev a p e||ev a q e)=(if c=38 then ev b p e'&&ev b q e' else ev b p e'||ev b q e')
    rw [h1,h2]
end Go.Wk
namespace Go.Wk
open Go.RowKit
theorem takeV_more {t:List UInt8}:∀ {k:Nat} {s vs r:List UInt8},takeV k s=some (vs,r)→takeV k (s++t)=some (vs,r++t)
  | 0,s,vs,r,h=>by injection h with h;injection h with h1 h2;subst h1;subst h2;rfl
  | k+1,[],vs,r,h=>by cases h
  | k+1,v::s,vs,r,h=>by
    unfold takeV at h
    split at h
    · rename_i hv
      split at h
      · rename_i us r' e
        injection h with h;injection h with h1 h2;subst h1;subst h2
        show (if isV v then (match takeV k (s++t) with | some (vs,r)=>some (v::vs,r) | none=>none) else none)=_
        rw [if_pos hv,takeV_more e]
      · cases h
    · cases h
theorem parse_more {t:List UInt8}:∀ (n:Nat) {s r:List UInt8} {p:Fm},s.length≤n→parse s=some (p,r)→parse (s++t)=some (p,r++t)
  | 0,[],_,_,_,h=>by cases h
  | 0,_::_,_,_,hn,_=>by simp at hn
  | _+1,[],_,_,_,h=>by cases h
  | n+1,c::s,r,p,hn,h=>by
    rw [List.cons_append]
    rw [parse_cons] at h ⊢
    simp only [List.length_cons] at hn
    split at h
    · rename_i hop
      rw [if_pos hop]
      split at h
      · cases h
      · rename_i vs r0 e
        obtain ⟨_,h2,_⟩:=takeV_len e
        rw [takeV_more e]
        dsimp only
        by_cases h0:arP c=0
        · rw [if_pos h0] at h ⊢
          injection h with h;injection h with h4 h;subst h;subst h4;rfl
        · rw [if_neg h0] at h ⊢
          by_cases h1:arP c=1
          · rw [if_pos h1] at h ⊢
            split at h
            · rename_i q r' e2
              injection h with h;injection h with h4 h;subst h;subst h4
              rw [parse_more n (by omega) e2]
            · cases h
          · rw [if_neg h1] at h ⊢
            split at h
            · rename_i q r' e2
              split at h
              · rename_i q2 r2 e3
                injection h with h;injection h with h4 h;subst h;subst h4
                have:=parse_len e2
                rw [parse_more n (by omega) e2]
                dsimp only
                rw [parse_more n (by omega) e3]
              · cases h
            · cases h
    · cases h
def Is (s:List UInt8) (p:Fm):Prop:=parse s=some (p,[])
theorem Is.more {s:List UInt8} {p:Fm} (h:Is s p) (t:List UInt8):parse (s++t)=some (p,t):=by
 have:=parse_more (t:=t) _ (Nat.le_refl _) h
 rwa [List.nil_append] at this
theorem Is.wf {s:List UInt8} {p:Fm} (h:Is s p):wfF p:=parse_wf _ (Nat.le_refl _) h
theorem Is.same {s:List UInt8} {p q:Fm} (h:Is s p) (k:Is s q):p=q:=by
 have:=h.symm.trans k
 injection this with this;injection this
theorem is_not {s:List UInt8} {p:Fm} (h:Is s p):Is (33::s) (.one 33 [] p):=by
 unfold Is;rw [parse_cons,show isOp 33=true from rfl,if_pos rfl,show takeV (arV 33) s=some ([],s) from rfl]
 dsimp only
 rw [if_neg (by decide),if_pos (by rfl),h]
def plainB:Fm→Bool
 | .leaf _ _=>true
 | .one c _ p=>!(decide (c=50)||decide (c=51)||decide (c=52))&&plainB p
 | .two _ p q=>plainB p&&plainB q
structure Tx (s:List UInt8) (lo hi k w:Nat) (φ:St→List Int→Prop):Prop where
 ex:∃ p,Is s p∧lo≤rankF p∧rankF p≤hi∧(∀ i:Nat,i<4→(frB p).testBit i=true→i<k)∧(∀ i:Nat,i<4→(allB p).testBit i=true→i<w)∧plainB p=true∧∀ a e,e.length=4→(ev a p e=true↔φ a e)
theorem Tx.imp {s:List UInt8} {lo hi k w lo' hi' k' w':Nat} {φ ψ:St→List Int→Prop} (h:Tx s lo hi k w φ) (h1:lo'≤lo) (h2:hi≤hi') (h3:k≤k') (h4:w≤w') (h5:∀ a e,e.length=4→(φ a e↔ψ a e)):Tx s lo' hi' k' w' ψ:=by
 obtain ⟨p,g0,g1,g2,g3,g4,g5,g6⟩:=h.ex
 exact ⟨p,g0,by omega,by omega,fun i hi ht=>by have:=g3 i hi ht;omega,fun i hi ht=>by have:=g4 i hi ht;omega,g5,fun a e he=>(g6 a e he).trans (h5 a e he)⟩
theorem tx_not {s:List UInt8} {lo hi k w:Nat} {φ:St→List Int→Prop} (h:Tx s lo hi k w φ):Tx (33::s) lo hi k w fun a e=>¬ φ a e:=by
  obtain ⟨p,g0,g1,g2,g3,g4,g5,g6⟩:=h.ex
  refine ⟨_,is_not g0,g1,g2,g3,fun i hi ht=>g4 i hi ?_,by show (!_&&plainB p)=true;rw [g5];rfl,fun a e he=>?_⟩
  · have:(0 ||| allB p).testBit i=true:=ht
    rwa [Nat.zero_or] at this
  · rw [← g6 a e he]
    show (!ev a p e)=true↔_
    cases ev a p e <;> simp
end Go.Wk
namespace Go.Wk
open Go.RowKit
inductive At where
 | P (i:Nat)
 | E (i j:Nat)
 | Q (i j:Nat)
def At.val (a:St) (xs:List Int):At→Bool
 | .P i=>a.inSet (xs.getD i 0)
 | .E i j=>a.inRel (xs.getD i 0) (xs.getD j 0)
 | .Q i j=>decide (xs.getD i 0=xs.getD j 0)
def At.lt (n:Nat):At→Prop
 | .P i=>i<n
 | .E i j=>i<n∧j<n
 | .Q i j=>i<n∧j<n
theorem At.same {a:St} {e xs:List Int} {n:Nat} (h:∀ j:Nat,j<n→e.getD j 0=xs.getD j 0):∀ {t:At},t.lt n→t.val a e=t.val a xs
 | .P i,k=>by have hk:i<n:=k;show a.inSet _=a.inSet _;rw [h i hk]
 | .E i j,k=>by show a.inRel _ _=a.inRel _ _;rw [h i k.1,h j k.2]
 | .Q i j,k=>by show decide (_=_)=decide (_=_);rw [h i k.1,h j k.2]
def TrueIn (s:List UInt8) (a:St) (e:List Int):Prop:=∃ p,Is s p∧ev a p e=true
theorem Tx.self {s:List UInt8} {lo hi k w:Nat} {φ:St→List Int→Prop} (h:Tx s lo hi k w φ):Tx s lo hi k w (TrueIn s):=by
 obtain ⟨p,g0,g1,g2,g3,g4,g5,g6⟩:=h.ex
 exact ⟨p,g0,g1,g2,g3,g4,g5,fun a e _=>⟨fun h=>⟨p,g0,h⟩,fun ⟨q,h1,h2⟩=>by rw [g0.same h1];exact h2⟩⟩
theorem Tx.at {s:List UInt8} {lo hi k w:Nat} {φ:St→List Int→Prop} (h:Tx s lo hi k w φ) {a:St} {e:List Int} (he:e.length=4):TrueIn s a e↔φ a e:=by
 obtain ⟨p,g0,g1,g2,g3,g4,g5,g6⟩:=h.ex
 exact ⟨fun ⟨q,h1,h2⟩=>(g6 a e he).1 (by rw [g0.same h1];exact h2),fun h=>⟨p,g0,(g6 a e he).2 h⟩⟩
def Tells2 (s:List UInt8) (r n:Nat) (a:St) (xs:List Int) (b:St) (ys:List Int):Prop :=
 Tx s 0 r n (n+r) (TrueIn s)∧(∀ e:List Int,e.length=4→e.take n=xs→TrueIn s a e)∧∀ e:List Int,e.length=4→e.take n=ys→¬ TrueIn s b e
theorem Tells2.not {s:List UInt8} {r n:Nat} {a b:St} {xs ys:List Int} (h:Tells2 s r n a xs b ys):Tells2 (33::s) r n b ys a xs:=by
 have hq:=tx_not h.1
 exact ⟨hq.self,fun e he hy=>(hq.at he).2 (h.2.2 e he hy),fun e he hx h1=>(hq.at he).1 h1 (h.2.1 e he hx)⟩
end Go.Wk
namespace Go.Wk
open Go.RowKit
theorem bool_no {b:Bool} (h:b=true) (k:b=false):false=true:=by rw [← k,h]
end Go.Wk
namespace Go.Wk
open Go.RowKit
def varsS (m:Nat):Nat→List UInt8
 | 0=>[]
 | i+1=>if m.testBit i then varsS m i++[UInt8.ofNat (97+i)] else varsS m i
theorem varsS_len (m:Nat):∀ i:Nat,(varsS m i).length≤i
  | 0=>Nat.le_refl 0
  | i+1=>by
    have:=varsS_len m i
    unfold varsS
    split
    · rw [List.length_append,List.length_singleton];omega
    · omega
theorem bit_at {m i:Nat}:((m / 2 ^ i &&& 1:Nat):Int)=1↔m.testBit i=true:=by
  rw [Nat.and_one_is_mod,Nat.testBit_eq_decide_div_mod_eq]
  constructor
  · intro h;exact decide_eq_true (by omega)
  · intro h;have:=of_decide_eq_true h;omega
theorem varsS_yes {m i:Nat} (h:((m / 2 ^ i &&& 1:Nat):Int)=1):varsS m (i+1)=varsS m i++[UInt8.ofNat (97+i)]:=by
 rw [varsS,if_pos (bit_at.1 h)]
theorem varsS_no {m i:Nat} (h:¬ ((m / 2 ^ i &&& 1:Nat):Int)=1):varsS m (i+1)=varsS m i:=by
 rw [varsS,if_neg (fun e=>h (bit_at.2 e))]
theorem name_cut {i:Nat} (h:i<4):List.take (((i:Int)+1).toNat - ((i:Int)).toNat) (List.drop ((i:Int)).toNat ([97,98,99,100]:List UInt8))=[UInt8.ofNat (97+i)]:=by
 rcases (by omega:i=0∨i=1∨i=2∨i=3) with rfl | rfl | rfl | rfl <;> rfl
def freeT (f:List UInt8):List UInt8:=match formO f with | some p=>varsS (frB p) 4 | none=>[]
section
variable {P:Program} {n:Nat} {C:World→Prop} {e:Env} {o:Oper}
end
end Go.Wk
namespace Go.Wk
open Go.RowKit
def drawN (d:Int):Nat:=2 ^ d.toNat
theorem drawN_pos (d:Int):1≤drawN d:=Nat.one_le_two_pow
theorem drawN_step (d:Int):drawN d=2*drawN (d - 1)∨d≤0:=by
  by_cases h:d≤0
  · exact .inr h
  · refine .inl ?_
    unfold drawN
    rw [show d.toNat=(d - 1).toNat+1 by omega,Nat.pow_succ,Nat.mul_comm]
theorem drawN_le {d:Int} (h:d≤4):drawN d≤16:=by
 have:drawN d≤2 ^ 4:=Nat.pow_le_pow_right (by decide) (by omega)
 simpa using this
theorem len_of {v:List UInt8} {l:List (List UInt8)} (h:v∈l) {a b:Nat} (hl:l.all (fun x=>decide (a≤x.length)&&decide (x.length≤b))=true):a≤v.length∧v.length≤b:=by
 have:=List.all_eq_true.1 hl v h
 simpa using this
theorem freeT_len (f:List UInt8):(freeT f).length≤4:=by
  unfold freeT
  split
  · exact varsS_len _ 4
  · simp
end Go.Wk
namespace Go.Proofs
open Go.Shelf
def Tryd.lays160_ren:Go.Shelf.Ren:=⟨fun | 160=>115 | 232=>143 | 231=>142 | 227=>144 | 234=>146 | 233=>145 | 236=>148 | 235=>147 | 228=>157 | 271=>160 | 151=>159 | 197=>158 | 120=>166 | 152=>165 | 260=>164 | 137=>155 | 119=>171 | 224=>168 | 225=>167 | 217=>163 | 266=>170 | n=>n,fun | 9=>9 | 4=>4 | 3=>3 | 5=>5 | 117=>163 | 116=>162 | 0=>0 | 124=>166 | 21=>21 | 105=>171 | 46=>91 | 119=>175 | 139=>178 | 138=>177 | n=>n,fun | 3=>1 | 4=>2 | n=>n⟩
theorem Tryd.lays160:Go.Proofs.Lays.n160 Tryd.prog Tryd.lays160_ren:={
 mixed:=by kernel_rfl
 f119:=Tryd.func171.trans (congrArg some (by kernel_rfl))
 f120:=Tryd.func166.trans (congrArg some (by kernel_rfl))
 f137:=Tryd.func155.trans (congrArg some (by kernel_rfl))
 f151:=Tryd.func159.trans (congrArg some (by kernel_rfl))
 f152:=Tryd.func165.trans (congrArg some (by kernel_rfl))
 f160:=Tryd.func115.trans (congrArg some (by kernel_rfl))
 f197:=Tryd.func158.trans (congrArg some (by kernel_rfl))
 f217:=Tryd.func163.trans (congrArg some (by kernel_rfl))
 f224:=Tryd.func168.trans (congrArg some (by kernel_rfl))
 f225:=Tryd.func167.trans (congrArg some (by kernel_rfl))
 f227:=Tryd.func144.trans (congrArg some (by kernel_rfl))
 f228:=Tryd.func157.trans (congrArg some (by kernel_rfl))
 f231:=Tryd.func142.trans (congrArg some (by kernel_rfl))
 f232:=Tryd.func143.trans (congrArg some (by kernel_rfl))
 f233:=Tryd.func145.trans (congrArg some (by kernel_rfl))
 f234:=Tryd.func146.trans (congrArg some (by kernel_rfl))
 f235:=Tryd.func147.trans (congrArg some (by kernel_rfl))
 f236:=Tryd.func148.trans (congrArg some (by kernel_rfl))
 f260:=Tryd.func164.trans (congrArg some (by kernel_rfl))
 f266:=Tryd.func170.trans (congrArg some (by kernel_rfl))
 f271:=Tryd.func160.trans (congrArg some (by kernel_rfl))
 t0:=Tryd.underlying0
 a0:=Tryd.isAgg0
 z0:=Tryd.sizeOf0
 v0:=Tryd.zeroValue0
 t3:=Tryd.underlying3
 a3:=Tryd.isAgg3
 z3:=Tryd.sizeOf3
 v3:=Tryd.zeroValue3
 t4:=Tryd.underlying4
 a4:=Tryd.isAgg4
 z4:=Tryd.sizeOf4
 v4:=Tryd.zeroValue4
 t5:=Tryd.underlying5
 a5:=Tryd.isAgg5
 z5:=Tryd.sizeOf5
 v5:=Tryd.zeroValue5
 t9:=Tryd.underlying9
 a9:=Tryd.isAgg9
 z9:=Tryd.sizeOf9
 v9:=Tryd.zeroValue9
 t21:=Tryd.underlying21
 a21:=Tryd.isAgg21
 z21:=Tryd.sizeOf21
 v21:=Tryd.zeroValue21
 t46:=Tryd.underlying91
 a46:=Tryd.isAgg91
 z46:=Tryd.sizeOf91
 v46:=Tryd.zeroValue91
 t105:=Tryd.underlying171
 a105:=Tryd.isAgg171
 z105:=Tryd.sizeOf171
 v105:=Tryd.zeroValue171
 t116:=Tryd.underlying162
 a116:=Tryd.isAgg162
 z116:=Tryd.sizeOf162
 t117:=Tryd.underlying163
 a117:=Tryd.isAgg163
 z117:=Tryd.sizeOf163
 v117:=Tryd.zeroValue163
 t119:=Tryd.underlying175
 a119:=Tryd.isAgg175
 z119:=Tryd.sizeOf175
 t124:=Tryd.underlying166
 a124:=Tryd.isAgg166
 z124:=Tryd.sizeOf166
 v124:=Tryd.zeroValue166
 t138:=Tryd.underlying177
 a138:=Tryd.isAgg177
 z138:=Tryd.sizeOf177
 v138:=Tryd.zeroValue177
 t139:=Tryd.underlying178
 a139:=Tryd.isAgg178
 z139:=Tryd.sizeOf178
 v139:=Tryd.zeroValue178
 g3:=by kernel_rfl
 g4:=by kernel_rfl }
end Go.Proofs
namespace Go.Proofs.YtagbocafnliabaaDoor
open Go.RowKit Go.Wk
theorem Base.mixed:Tryd.prog.follows .mixedOrders=true:=by kernel_rfl
theorem Base.elem22:Elem Tryd.prog 22 5 1:=⟨Tryd.underlying22,Tryd.t5,_,by kernel_rfl,rfl,rfl,by decide,rfl,by decide⟩
theorem Base.elem27:Elem Tryd.prog 27 3 1:=⟨Tryd.underlying27,Tryd.t3,_,by kernel_rfl,rfl,rfl,by decide,rfl,by decide⟩
theorem Base.elem63:Elem Tryd.prog 63 27 1:=⟨Tryd.underlying63,Tryd.t27,_,by kernel_rfl,rfl,rfl,by decide,rfl,by decide⟩
theorem Base.elem74:Elem Tryd.prog 74 4 1:=⟨Tryd.underlying74,Tryd.t4,_,by kernel_rfl,rfl,rfl,by decide,rfl,by decide⟩
theorem Base.elem83:Elem Tryd.prog 83 9 1:=⟨Tryd.underlying83,Tryd.t9,_,by kernel_rfl,rfl,rfl,by decide,rfl,by decide⟩
theorem Base.elem88:Elem Tryd.prog 88 86 1:=⟨Tryd.underlying88,Tryd.t86,_,by kernel_rfl,rfl,rfl,by decide,rfl,by decide⟩
theorem trim_ok (s:List UInt8) (w:World) (hs:s.length≤1048576) :
  Calls Tryd.prog 115 [str s,str [48,49]].toArray w fun en w'=>en=.returned (str (Lib.trimS s [48,49]))∧Below w.heap.size w w' :=
 Any.strings_Trim_laid Tryd.lays160 (by kernel_rfl) ⟨⟨s⟩⟩ ⟨⟨[48,49]⟩⟩ w (by show s.length≤9223372036854775807;omega) (by decide) (ascii_of_all (by decide))
end Go.Proofs.YtagbocafnliabaaDoor
namespace Go.Proofs.YtagbocafnliabaaDoor
abbrev yH := @Base.mixed
abbrev xG := @Base.elem22
abbrev xL := @Base.elem27
abbrev jR := @Base.elem83
abbrev vT := @Base.elem88
end Go.Proofs.YtagbocafnliabaaDoor
namespace Go.Proofs.YtagbocafnliabaaDoor
open Go.RowKit Go.Wk
set_option linter.unusedSimpArgs false
set_option maxHeartbeats 400000 in
theorem l1In_ok (n lo hi:Int) (w:World) :
    Calls Tryd.prog 39 [i6_ n,i6_ lo,i6_ hi].toArray w fun en w'=>en=.returned (.bool (inB n lo hi))∧Below w.heap.size w w':=by
 refine fnStart (n:=15) (e:=[(0,i6_ n),(1,i6_ lo),(2,i6_ hi)]) Tryd.func39 Z Z Z Z Ends.both (zE (zB (zC 1 Z (zI (zD [0,1,2] [_,_,_] Z (zE (zB (zC 4 Z (xH fun b10 hg10=>?_)))))))))
 cases b10
 ·
  replace hg10:=zS hg10;refine zR Z (zR Z (zR Z (zC 2 Z (zI (zD [6] [_] Z (qK (qO Z Z fun w' hw=>?_)))))))
  exact ⟨ret_b (by first | rfl | (simp_all [inB];done) | (simp_all [inB];omega)),hw.below⟩
 replace hg10:=zW hg10;refine zC 5 Z (zI (zD [6] [_] Z (qK (qO Z Z fun w' hw=>?_))))
 exact ⟨ret_b (by first | rfl | (simp_all [inB];done) | (simp_all [inB];omega)),hw.below⟩
set_option maxHeartbeats 400000 in
theorem l1Bits_ok (s:List UInt8) (n:Int) (w:World) (hs:s.length≤1048576) :
    Calls Tryd.prog 81 [str s,i6_ n].toArray w fun en w'=>en=.returned (.bool (bitsB s n))∧Below w.heap.size w w':=by
 refine fnStart (n:=26) (e:=[(0,str s),(1,i6_ n)]) Tryd.func81 Z Z Z Z Ends.both (zE (zB (zC 1 Z (zI (zD [0,1] [_,_] Z (zE (zE (zB (zC 1 Z (zI (zD [0,1,5] [_,_,_] Z (qZ (jH (σ:=Nat) (fun k=>k≤s.length∧(s.take k).all isBit=true) (fun k=>[(0,str s),(1,i6_ n),(5,i6_ (k:Int))]) (fun k=>Own w.heap.size w []) (fun k=>s.length - k) (0) ⟨by omega,rfl⟩ (Sub.sel [0,1,5] Z) (fun _ h=>h) ?_)))))))))))))
 rintro k ⟨hk,hall⟩;refine zE (zE (zB (zC 2 Z (zG (v:=i6_ (s.length:Int)) Z (xN Z qH Z) (zC 1 Z (zI (zD [0,1,5,9] [_,_,_,_] Z (yE Z (fun h9=>?_) (fun h9=>?_)))))))))
 ·
  refine qN (zD [0,1,5] [_,_,_] Z (zE (qZ (zE (zB (zC 2 Z (zG (v:=.int .u8 (((s.getD ((k:Int).toNat) 0).toNat:Int))) Z (yK Z qH Z Z (by omega) (by omega)) (zC 2 Z (xH fun b16 hg16=>?_)))))))))
  cases b16
  ·
   replace hg16:=not_false hg16
   replace hg16:=zW hg16;refine zR Z (zR Z (zR Z (zR Z (zC 1 Z (zI (zD [0,1,5,21] [_,_,_,_] Z (xO Z (qN (zD [0,1,5] [_,_,_] Z (zB (zC 1 Z (zG Z (qS Z Z Z (by omega) (by omega)) (zC 1 Z (zI (yZ (k+1) ⟨by omega,all_take (by omega) hall (by unfold isBit;simp_all)⟩ (by omega) (Sub.sel [0,1,5] Z) (fun _ h=>h))))))))))))))))
  replace hg16:=not_true hg16
  replace hg16:=zS hg16;refine zC 2 Z (zG (v:=.int .u8 (((s.getD ((k:Int).toNat) 0).toNat:Int))) Z (yK Z qH Z Z (by omega) (by omega)) (zC 2 Z (zI (zD [0,1,5,21] [_,_,_,_] Z (yC (b:=!(decide ((((s.getD ((k:Int).toNat) 0).toNat:Int))=(49:Int)))) Z (fun h21=>?_) (fun h21=>?_))))))
  ·
   replace h21:=not_true h21
   replace h21:=zS h21;refine zE (zB (zC 1 Z (zI (zD [4] [_] Z (qK (qO Z Z fun w' hw=>?_))))))
   exact ⟨ret_b (by unfold bitsB;rw [all_false (k:=k) (by omega) (by unfold isBit;simp_all)];rfl),hw.below⟩
  replace h21:=not_false h21
  replace h21:=zW h21;refine qN (zD [0,1,5] [_,_,_] Z (zB (zC 1 Z (zG Z (qS Z Z Z (by omega) (by omega)) (zC 1 Z (zI (yZ (k+1) ⟨by omega,all_take (by omega) hall (by unfold isBit;simp_all)⟩ (by omega) (Sub.sel [0,1,5] Z) (fun _ h=>h))))))))
 refine xB Z (zD [0,1] [_,_] Z (zE (zB (zC 1 Z (zG (v:=i6_ (s.length:Int)) Z (xN Z qH Z) (zC 3 Z (zI (zD [4] [_] Z (qK (qO Z Z fun w' hw=>?_))))))))))
 exact ⟨ret_b (by unfold bitsB;rw [show s.all isBit=true from by rw [← List.take_of_length_le (show s.length≤k by omega)];exact hall];rfl),hw.below⟩
set_option maxHeartbeats 400000 in
theorem sValid_ok (a:St) (w:World) (ha:a.Small) :
    Calls Tryd.prog 38 [vS a].toArray w fun en w'=>en=.returned (.bool (validB a))∧Below w.heap.size w w':=by
 refine fnStart (n:=23) (e:=[(0,vS a)]) Tryd.func38 Z Z Z Z Ends.both ?_
 have h1:=ha.set
 have h2:=ha.rel;refine zE (qF (jD (v:=vS a) Z Z Z Z Z fun p1 hp1=>?_))
 show Ll _ _ (Own _ _ [_]) _ _ ((1,pt_ p1)::_) _ _ _;refine qI 1 Z (zL (zD [1] [_] Z (zE (zB (zG Z (zH Z qC Z zJ Z Z) (zG Z (zQ 0 Z zU Z Z Z) (zG (v:=bo_ (inB a.n 1 8)) Z (qR Z Tryd.call39 Z qG (fun w1 hw1=>l1In_ok a.n 1 8 w1 )) (zC 1 Z (xH fun b6 hg6=>?_)))))))))
 cases b6
 ·
  refine zR Z (zR Z (zR Z (zR Z (zR Z (zC 2 Z (zR Z (zR Z (zR Z (zR Z (zR Z (zR Z (zR Z (zR Z (zC 2 Z (zI (zD [2] [_] Z (qK (qO Z Z fun w' hw=>?_))))))))))))))))))
  exact ⟨ret_b (by first | (simp [validB, *];done) | (simp [validB, *];omega)),hw.below⟩
 have hn:1≤a.n∧a.n≤8:=by unfold inB at hg6;simpa using hg6
 have hq:=sq_le hn.1 hn.2;refine zG Z (zH Z qC Z qY Z Z) (zG Z (zQ 0 Z yQ Z Z Z) (zG Z (zH Z qC Z zJ Z Z) (zG Z (zQ 0 Z zU Z Z Z) (zG (v:=bo_ (bitsB a.set a.n)) Z (qR Z Tryd.call81 Z qG (fun w1 hw1=>l1Bits_ok a.set a.n w1 (by omega))) (zC 2 Z (xH fun b13 hg13=>?_))))))
 cases b13
 ·
  refine zR Z (zR Z (zR Z (zR Z (zR Z (zR Z (zR Z (zR Z (zC 2 Z (zI (zD [2] [_] Z (qK (qO Z Z fun w' hw=>?_))))))))))))
  exact ⟨ret_b (by first | (simp [validB, *];done) | (simp [validB, *];omega)),hw.below⟩
 refine zG Z (zH Z qC Z qY Z Z) (zG Z (zQ 0 Z yQ Z Z Z) (zG Z (zH Z qC Z zJ Z Z) (zG Z (zQ 0 Z zU Z Z Z) (zG Z (zH Z qC Z zJ Z Z) (zG Z (zQ 0 Z zU Z Z Z) (zG Z (OpQ.mul Z Z Z (by omega) (by omega)) (zG (v:=bo_ (bitsB a.rel (a.n*a.n))) Z (qR Z Tryd.call81 Z qG (fun w1 hw1=>l1Bits_ok a.rel (a.n*a.n) w1 (by omega))) (zC 2 Z (zI (zD [2] [_] Z (qK (qO Z Z fun w' hw=>?_))))))))))))
 exact ⟨ret_b (by first | (simp [validB, *];done) | (simp [validB, *];omega)),hw.below⟩
set_option maxHeartbeats 400000 in
theorem l1Set_ok (a:St) (x:Int) (w:World) (ha:a.Fine) (hx:a.El x) :
    Calls Tryd.prog 119 [vS a,i6_ x].toArray w fun en w'=>en=.returned (.bool (a.inSet x))∧Below w.heap.size w w':=by
 refine fnStart (n:=10) (e:=[(0,vS a),(1,i6_ x)]) Tryd.func119 Z Z Z Z Ends.both ?_
 have hs:=ha.set
 obtain ⟨h0,h1⟩:=hx;refine zE (qF (jD (v:=vS a) Z Z Z Z Z fun p2 hp2=>?_))
 show Ll _ _ (Own _ _ [_]) _ _ ((2,pt_ p2)::_) _ _ _;refine qI 1 Z (zL (zD [1,2] [_,_] Z (zE (zB (zG Z (zH Z qC Z qY Z Z) (zG Z (zQ 0 Z yQ Z Z Z) (zC 1 Z (zG (v:=.int .u8 (((a.set.getD ((x).toNat) 0).toNat:Int))) Z (yK Z qH Z Z (by omega) (by omega)) (zC 2 Z (zI (zD [4] [_] Z (qK (qO Z Z fun w' hw=>?_)))))))))))))
 exact ⟨ret_b (by first | rfl | (simp_all;done) | (simp_all;omega)),hw.below⟩
set_option maxHeartbeats 400000 in
theorem l1Rel_ok (a:St) (x y:Int) (w:World) (ha:a.Fine) (hx:a.El x) (hy:a.El y) :
    Calls Tryd.prog 120 [vS a,i6_ x,i6_ y].toArray w fun en w'=>en=.returned (.bool (a.inRel x y))∧Below w.heap.size w w':=by
 refine fnStart (n:=17) (e:=[(0,vS a),(1,i6_ x),(2,i6_ y)]) Tryd.func120 Z Z Z Z Ends.both ?_
 obtain ⟨k0,k1,k2,k3,k4⟩:=ha.relLt hx hy;refine zE (qF (jD (v:=vS a) Z Z Z Z Z fun p3 hp3=>?_))
 show Ll _ _ (Own _ _ [_]) _ _ ((3,pt_ p3)::_) _ _ _;refine qI 1 Z (zL (zD [1,2,3] [_,_,_] Z (zE (zB (zG Z (zH Z qC Z qY Z Z) (zG Z (zQ 0 Z yQ Z Z Z) (zC 1 Z (zG Z (zH Z qC Z zJ Z Z) (zG Z (zQ 0 Z zU Z Z Z) (zG Z (OpQ.mul Z Z Z (by omega) (by omega)) (zC 1 Z (zG Z (qS Z Z Z (by omega) (by omega)) (zG (v:=.int .u8 (((a.rel.getD (((x*a.n)+y).toNat) 0).toNat:Int))) Z (yK Z qH Z Z (by omega) (by omega)) (zC 2 Z (zI (zD [6] [_] Z (qK (qO Z Z fun w' hw=>?_))))))))))))))))))
 exact ⟨ret_b (by first | rfl | (simp_all;done) | (simp_all;omega)),hw.below⟩
set_option maxHeartbeats 400000 in
theorem areBits_ok (s:List UInt8) (n:Int) (w:World) (hs:s.length≤1048576) :
    Calls Tryd.prog 78 [str s,i6_ n].toArray w fun en w'=>en=.returned (.bool (bitsB s n))∧Below w.heap.size w w':=by
 refine fnStart (n:=14) (e:=[(0,str s),(1,i6_ n)]) Tryd.func78 Z Z Z Z Ends.both (zE (zB (zC 1 Z (zI (zD [0,1] [_,_] Z (zE (zB (zC 1 Z (zG (v:=i6_ (s.length:Int)) Z (xN Z qH Z) (zC 3 Z (xH fun b9 hg9=>?_)))))))))))
 cases b9
 ·
  replace hg9:=zS hg9;refine zR Z (zR Z (zR Z (zC 2 Z (zI (zD [4] [_] Z (qK (qO Z Z fun w' hw=>?_)))))))
  exact ⟨ret_b (by unfold bitsB;simp [*]),hw.below⟩
 replace hg9:=zW hg9;refine zC 1 Z (zG (v:=str (Lib.trimS s [48,49])) Z (qR Z Tryd.call115 Z qG (fun w1 hw1=>trim_ok s w1 (by omega))) (zG Z (OpQ.seql Z Z Z) (zC 2 Z (zI (zD [4] [_] Z (qK (qO Z Z fun w' hw=>?_)))))))
 exact ⟨ret_b (by unfold bitsB;rw [trim_nil];simp [*]),hw.below⟩
set_option maxHeartbeats 400000 in
theorem isStructure_ok (a:St) (w:World) (ha:a.Small) :
    Calls Tryd.prog 34 [vS a].toArray w fun en w'=>en=.returned (.bool (validB a))∧Below w.heap.size w w':=by
 refine fnStart (n:=28) (e:=[(0,vS a)]) Tryd.func34 Z Z Z Z Ends.both ?_
 have h1:=ha.set
 have h2:=ha.rel;refine zE (qF (jD (v:=vS a) Z Z Z Z Z fun p1 hp1=>?_))
 show Ll _ _ (Own _ _ [_]) _ _ ((1,pt_ p1)::_) _ _ _;refine qI 1 Z (zL (zD [1] [_] Z (zE (zB (zG Z (zH Z qC Z zJ Z Z) (zG Z (zQ 0 Z zU Z Z Z) (zC 2 Z (xH fun b6 hg6=>?_))))))))
 cases b6
 ·
  replace hg6:=zS hg6;refine zR Z (zR Z (zR Z (zC 2 Z (zR Z (zR Z (zR Z (zR Z (zR Z (zC 2 Z (zR Z (zR Z (zR Z (zR Z (zR Z (zR Z (zR Z (zR Z (zC 2 Z (zI (zD [2] [_] Z (qK (qO Z Z fun w' hw=>?_))))))))))))))))))))))
  exact ⟨ret_b (by first | (simp [validB,inB, *];done) | (simp [validB,inB, *];omega)),hw.below⟩
 replace hg6:=zW hg6;refine zG Z (zH Z qC Z zJ Z Z) (zG Z (zQ 0 Z zU Z Z Z) (zC 3 Z (xH fun b11 hg11=>?_)))
 cases b11
 ·
  replace hg11:=zS hg11;refine zR Z (zR Z (zR Z (zR Z (zR Z (zC 2 Z (zR Z (zR Z (zR Z (zR Z (zR Z (zR Z (zR Z (zR Z (zC 2 Z (zI (zD [2] [_] Z (qK (qO Z Z fun w' hw=>?_))))))))))))))))))
  exact ⟨ret_b (by first | (simp [validB,inB, *];done) | (simp [validB,inB, *];omega)),hw.below⟩
 replace hg11:=zW hg11
 have hq:=sq_le hg6 hg11;refine zG Z (zH Z qC Z qY Z Z) (zG Z (zQ 0 Z yQ Z Z Z) (zG Z (zH Z qC Z zJ Z Z) (zG Z (zQ 0 Z zU Z Z Z) (zG (v:=bo_ (bitsB a.set a.n)) Z (qR Z Tryd.call78 Z qG (fun w1 hw1=>areBits_ok a.set a.n w1 (by omega))) (zC 2 Z (xH fun b18 hg18=>?_))))))
 cases b18
 ·
  refine zR Z (zR Z (zR Z (zR Z (zR Z (zR Z (zR Z (zR Z (zC 2 Z (zI (zD [2] [_] Z (qK (qO Z Z fun w' hw=>?_))))))))))))
  exact ⟨ret_b (by first | (simp [validB,inB, *];done) | (simp [validB,inB, *];omega)),hw.below⟩
 refine zG Z (zH Z qC Z qY Z Z) (zG Z (zQ 0 Z yQ Z Z Z) (zG Z (zH Z qC Z zJ Z Z) (zG Z (zQ 0 Z zU Z Z Z) (zG Z (zH Z qC Z zJ Z Z) (zG Z (zQ 0 Z zU Z Z Z) (zG Z (OpQ.mul Z Z Z (by omega) (by omega)) (zG (v:=bo_ (bitsB a.rel (a.n*a.n))) Z (qR Z Tryd.call78 Z qG (fun w1 hw1=>areBits_ok a.rel (a.n*a.n) w1 (by omega))) (zC 2 Z (zI (zD [2] [_] Z (qK (qO Z Z fun w' hw=>?_))))))))))))
 exact ⟨ret_b (by first | (simp [validB,inB, *];done) | (simp [validB,inB, *];omega)),hw.below⟩
set_option maxHeartbeats 400000 in
theorem inSet_ok (a:St) (x:Int) (w:World) (ha:a.Fine) (hx:a.El x) :
    Calls Tryd.prog 123 [vS a,i6_ x].toArray w fun en w'=>en=.returned (.bool (a.inSet x))∧Below w.heap.size w w':=by
 refine fnStart (n:=10) (e:=[(0,vS a),(1,i6_ x)]) Tryd.func123 Z Z Z Z Ends.both ?_
 have hs:=ha.set
 obtain ⟨h0,h1⟩:=hx;refine zE (qF (jD (v:=vS a) Z Z Z Z Z fun p2 hp2=>?_))
 show Ll _ _ (Own _ _ [_]) _ _ ((2,pt_ p2)::_) _ _ _;refine qI 1 Z (zL (zD [1,2] [_,_] Z (zE (zB (zG Z (zH Z qC Z qY Z Z) (zG Z (zQ 0 Z yQ Z Z Z) (zC 1 Z (zG (v:=.int .u8 (((a.set.getD ((x).toNat) 0).toNat:Int))) Z (yK Z qH Z Z (by omega) (by omega)) (zC 2 Z (zI (zD [4] [_] Z (qK (qO Z Z fun w' hw=>?_)))))))))))))
 exact ⟨ret_b (by first | rfl | (simp_all;done) | (simp_all;omega)),hw.below⟩
set_option maxHeartbeats 400000 in
theorem inRel_ok (a:St) (x y:Int) (w:World) (ha:a.Fine) (hx:a.El x) (hy:a.El y) :
    Calls Tryd.prog 124 [vS a,i6_ x,i6_ y].toArray w fun en w'=>en=.returned (.bool (a.inRel x y))∧Below w.heap.size w w':=by
 refine fnStart (n:=17) (e:=[(0,vS a),(1,i6_ x),(2,i6_ y)]) Tryd.func124 Z Z Z Z Ends.both ?_
 obtain ⟨k0,k1,k2,k3,k4⟩:=ha.relLt hx hy;refine zE (qF (jD (v:=vS a) Z Z Z Z Z fun p3 hp3=>?_))
 show Ll _ _ (Own _ _ [_]) _ _ ((3,pt_ p3)::_) _ _ _;refine qI 1 Z (zL (zD [1,2,3] [_,_,_] Z (zE (zB (zG Z (zH Z qC Z qY Z Z) (zG Z (zQ 0 Z yQ Z Z Z) (zC 1 Z (zG Z (zH Z qC Z zJ Z Z) (zG Z (zQ 0 Z zU Z Z Z) (zG Z (OpQ.mul Z Z Z (by omega) (by omega)) (zC 1 Z (zG Z (qS Z Z Z (by omega) (by omega)) (zG (v:=.int .u8 (((a.rel.getD (((x*a.n)+y).toNat) 0).toNat:Int))) Z (yK Z qH Z Z (by omega) (by omega)) (zC 2 Z (zI (zD [6] [_] Z (qK (qO Z Z fun w' hw=>?_))))))))))))))))))
 exact ⟨ret_b (by first | rfl | (simp_all;done) | (simp_all;omega)),hw.below⟩
set_option maxHeartbeats 400000 in
theorem noEl_ok (a:St) (g T:Nat) (x:Int) (w:World) (hg:w.heap[g]?=some (.cells #[.int .i64 a.n,str a.set,str a.rel] T (0,0))) :
    Calls Tryd.prog 111 [i6_ x,.pointer (some ⟨g,0,none⟩)].toArray w fun en w'=>en=.returned (.bool (!elB a x))∧Below w.heap.size w w':=by
 refine fnStart (n:=12) (e:=[(0,i6_ x),(1,.pointer (some ⟨g,0,none⟩))]) Tryd.func111 Z Z Z Z Ends.both (zE (zB (zC 1 Z (zI (zD [0,1] [_,_] Z (zE (zB (zC 3 Z (xH fun b6 hg6=>?_)))))))))
 cases b6
 ·
  replace hg6:=zS hg6;refine zC 1 Z (zG Z (zH Z qC Z zJ Z Z) (zG (v:=i6_ a.n) Z (qU Z zU Z (fun w1 hw1=>at_box hg hw1 0 Z)) (zC 3 Z (zI (zD [3] [_] Z (qK (qO Z Z fun w' hw=>?_)))))))
  exact ⟨ret_b (by first | exact el_neg (by assumption) | exact el_geq (by assumption)),hw.below⟩
 replace hg6:=zW hg6;refine zR Z (zR Z (zR Z (zR Z (zC 2 Z (zI (zD [3] [_] Z (qK (qO Z Z fun w' hw=>?_))))))))
 exact ⟨ret_b (by first | exact el_neg (by assumption) | exact el_geq (by assumption)),hw.below⟩
set_option maxHeartbeats 400000 in
theorem indexFunc_ok (va:Value) (xs:List Int) (w:World) (hva:Ints w va xs) (hs:xs.length≤140737488355328) (F:FuncId) (caps:Array Value) (q:Int→Bool) (hF:∀ args w,(callFunc F args).run Tryd.prog w=.ok (.enter F args) w) (hq:∀ w1,Below w.heap.size w w1→∀ x,Calls Tryd.prog F (#[.int .i64 x]++caps) w1 fun en w'=>en=.returned (.bool (q x))∧Below w1.heap.size w1 w') :
    Calls Tryd.prog 141 [va,.func (.func F) #[] caps].toArray w fun en w'=>en=.returned (.int .i64 (idxI xs q))∧Below w.heap.size w w':=by
 refine fnStart (n:=19) (e:=[(0,va),(1,.func (.func F) #[] caps)]) Tryd.func141 Z Z Z Z Ends.both (zE (zB (zC 1 Z (zI (zD [0,1] [_,_] Z (zE (zE (zB (zC 1 Z (zG (v:=i6_ (xs.length:Int)) Z (xP Z yA Z (ints_length _) (fun w1 hw1=>Row.own hva hw1)) (zC 1 Z (zI (zD [0,1,7,8] [_,_,_,_] Z (qZ (jH (σ:=Nat) (fun k=>k≤xs.length∧∀ i:Nat,i<k→q (xs.getD i 0)=false) (fun k=>[(0,va),(1,.func (.func F) #[] caps),(7,i6_ (xs.length:Int)),(8,i6_ (k:Int))]) (fun k=>Own w.heap.size w []) (fun k=>xs.length - k) (0) ⟨by omega,fun i hi=>absurd hi (by omega)⟩ (Sub.sel [0,1,7,8] Z) (fun _ h=>h) ?_)))))))))))))))
 rintro k ⟨hk,hall⟩;refine zE (zB (zC 1 Z (zI (zD [0,1,7,8,9] [_,_,_,_,_] Z (zE (yE Z (fun h9=>?_) (fun h9=>?_)))))))
 ·
  refine qN (zD [0,1,7,8] [_,_,_,_] Z (zE (qZ (zE (zB (zC 2 Z (zI (zD [0,1,5,7,8] [_,_,_,_,_] Z (zE (zB (zC 3 Z (zG (v:=.pointer (some (sAt va (k:Int)))) Z (xX Z yA zJ Z Z (by omega) (by rw [ints_length];omega) (fun w1 hw1=>Row.own hva hw1)) (zG (v:=i6_ (xs.getD ((k:Int).toNat) 0)) Z (qU Z zU Z (fun w1 hw1=>Ints.cell (Row.own hva hw1) (by omega) (by omega))) (zG (v:=bo_ (q (xs.getD ((k:Int).toNat) 0))) Z (OpQ.callFn Z Z hF Z qG (fun w1 hw1=>hq w1 hw1.below (xs.getD ((k:Int).toNat) 0))) (zI (zD [0,1,5,7,8,16] [_,_,_,_,_,_] Z (yC (b:=q (xs.getD ((k:Int).toNat) 0)) Z (fun h16=>?_) (fun h16=>?_))))))))))))))))))
  ·
   refine zE (zB (zC 2 Z (zI (zD [4] [_] Z (qK (qO Z Z fun w' hw=>?_))))))
   exact ⟨ret_i (idxI_at (by omega) hall (by simpa using h16)).symm,hw.below⟩
  refine qN (zD [0,1,7,8] [_,_,_,_] Z (zB (zG Z (qS Z Z Z (by omega) (by omega)) (zC 1 Z (zI (yZ (k+1) ⟨by omega,fun i hi=>(Nat.lt_succ_iff_lt_or_eq.1 hi).elim (hall i) (fun e=>by subst e;simpa using h16)⟩ (by omega) (Sub.sel [0,1,7,8] Z) (fun _ h=>h)))))))
 refine xB Z (zD [] [] Z (zE (zB (zC 1 Z (zI (zD [4] [_] Z (qK (qO Z Z fun w' hw=>?_))))))))
 exact ⟨ret_i (idxI_none (fun i hi=>hall i (by omega))).symm,hw.below⟩
set_option maxHeartbeats 400000 in
theorem containsFunc_ok (va:Value) (xs:List Int) (w:World) (hva:Ints w va xs) (hs:xs.length≤140737488355328) (F:FuncId) (caps:Array Value) (q:Int→Bool) (hF:∀ args w,(callFunc F args).run Tryd.prog w=.ok (.enter F args) w) (hq:∀ w1,Below w.heap.size w w1→∀ x,Calls Tryd.prog F (#[.int .i64 x]++caps) w1 fun en w'=>en=.returned (.bool (q x))∧Below w1.heap.size w1 w') :
    Calls Tryd.prog 110 [va,.func (.func F) #[] caps].toArray w fun en w'=>en=.returned (.bool (xs.any q))∧Below w.heap.size w w':=by
 refine fnStart (n:=9) (e:=[(0,va),(1,.func (.func F) #[] caps)]) Tryd.func110 Z Z Z Z Ends.both (zE (zB (zC 1 Z (zI (zD [0,1] [_,_] Z (zE (zB (zC 2 Z (zG (v:=i6_ (idxI xs q)) Z (qR Z Tryd.call141 Z qG (fun w1 hw1=>indexFunc_ok va xs w1 (Row.own hva hw1) hs F caps q hF (fun w2 hb x=>hq w2 (hw1.below.trans (hb.mono hw1.base)) x))) (zC 2 Z (zI (zD [4] [_] Z (qK (qO Z Z fun w' hw=>?_))))))))))))))
 exact ⟨ret_b (idxI_any xs q),hw.below⟩
end Go.Proofs.YtagbocafnliabaaDoor
namespace Go.Proofs.YtagbocafnliabaaDoor
open Go.RowKit Go.Wk
set_option linter.unusedSimpArgs false
set_option maxHeartbeats 400000 in
theorem bitD_ok (b:Bool) (w:World) :
    Calls Tryd.prog 118 [bo_ b].toArray w fun en w'=>en=.returned (str (if b then [49] else [48]))∧Below w.heap.size w w':=by
 refine fnStart (n:=4) (e:=[(0,bo_ b)]) Tryd.func118 Z Z Z Z Ends.both (zE (zB (zG (v:=str ([])) Z (jS Z Z) (zI (zD [0] [_] Z (zE (zE (zB (zC 1 Z (zI (zD [3] [_] Z (yC (b:=b) Z (fun h3=>?_) (fun h3=>?_)))))))))))))
 ·
  refine zE (zB (zG (v:=str ([49])) Z (jS Z Z) (zI (zD [2] [_] Z (qK (qO Z Z fun w' hw=>?_))))))
  exact ⟨by rw [‹b=_›];rfl,hw.below⟩
 refine qN (zD [] [] Z (zE (zB (zG (v:=str ([48])) Z (jS Z Z) (zI (zD [2] [_] Z (qK (qO Z Z fun w' hw=>?_))))))))
 exact ⟨by rw [‹b=_›];rfl,hw.below⟩
set_option maxHeartbeats 400000 in
theorem pick_ok (B:Nat) (w0:World) (hs:List (Nat×Obj)) (rp p:Nat) (bv:Value) (L:List Int) (n:Int) (w:World) (hb:∀ w,Own B w0 hs w→Row w bv (u8s L)) (hL8:Bytes8 L) (hL:L.length≤2000) (hp:p≤1000000) (hw:Own B w0 ((rp,.cells #[bv,.int .i64 (p:Int)] 104 (0,0))::hs) w) :
    Calls Tryd.prog 64 [pt_ rp,i6_ n].toArray w fun en w'=>∃ k:Int,∃ p':Nat,en=.returned (i6_ k)∧(0≤k∧(1≤n→k<n)∧p'=p+1)∧Own B w0 (((rp,.cells #[bv,.int .i64 (p':Int)] 104 (0,0))::hs)) w':=by
 refine fnStartC (Own B w0 ((rp,.cells #[bv,.int .i64 (p:Int)] 104 (0,0))::hs)) (n:=99) (e:=[(0,pt_ rp),(1,i6_ n)]) Tryd.func64 Z Z Z Z Ends.both hw (zE (zB (zC 1 Z (zI (zD [0,1] [_,_] Z (zE (qF (qI 2 Z (zM (v:=pt_ rp) Z (zN Z Z) (zM Z (zH Z xJ Z zJ Z Z) (zM Z (zQ 0 Z zU Z Z Z) (zM Z (qS Z Z Z (by omega) (by omega)) (zM (v:=pt_ rp) Z (zN Z Z) (zM Z (zH Z xJ Z zJ Z Z) (qM (v:=i6_ ((p:Int)+(1:Int))) (hs':=(bk_ rp #[bv,i6_ ((p:Int)+(1:Int))] 104::hs)) 0 Z Z Z Z Z Z zJ Z (by simp) Z (zL (zD [0,1] [_,_] Z (zE (zE (zB (zC 3 Z (xH fun b17 hg17=>?_))))))))))))))))))))))
 cases b17
 ·
  replace hg17:=zS hg17;refine zC 1 Z (zG (v:=pt_ rp) Z (zN Z Z) (zG Z (zH Z xJ Z yB Z Z) (zG Z (zQ 0 Z yV Z Z Z) (zG (v:=i6_ (L.length:Int)) Z (xP Z yN Z (u8s_length _) (fun w1 hw1=>hb _ (qA (f:=[_]) hw1))) (zC 2 Z (zI (zD [0,1,24] [_,_,_] Z (yC (b:=decide ((L.length:Int)=(0:Int))) Z (fun h24=>?_) (fun h24=>?_)))))))))
  ·
   replace h24:=zW h24;refine zE (zB (zC 1 Z (zI (zD [4] [_] Z (qK (qO Z Z fun w' hw=>?_))))))
   exact ⟨0,p+1,rfl,⟨Int.le_refl 0,fun _=>by omega,rfl⟩,hw⟩
  replace h24:=zS h24
  have hlp:0<L.length:=by omega
  refine qN (zD [0,1] [_,_] Z (zE (zB (zC 1 Z (zG (v:=pt_ rp) Z (zN Z Z) (zG Z (zH Z xJ Z zJ Z Z) (zG Z (zQ 0 Z zU Z Z Z) (zG (v:=i6_ (p:Int)) Z (yG (by congr 1;omega) (jO Z Z Z (by omega) (by omega))) (zC 1 Z (zI (zD [0,1,5] [_,_,_] Z (zE (zE (zB (zC 2 Z (zG (v:=pt_ rp) Z (zN Z Z) (zG Z (zH Z xJ Z yB Z Z) (zG Z (zQ 0 Z yV Z Z Z) (zG (v:=i6_ (L.length:Int)) Z (xP Z yN Z (u8s_length _) (fun w1 hw1=>hb _ (qA (f:=[_]) hw1))) (zC 1 Z (zI (zD [0,1,5,36] [_,_,_,_] Z (yC (b:=decide ((p:Int)<(L.length:Int))) Z (fun h36=>?_) (fun h36=>?_))))))))))))))))))))))))
  ·
   replace h36:=zW h36
   have hb0:=hL8.at (i:=(p:Int).toNat) (by omega);refine zE (zB (zC 1 Z (zG (v:=pt_ rp) Z (zN Z Z) (zG Z (zH Z xJ Z yB Z Z) (zG Z (zQ 0 Z yV Z Z Z) (zC 1 Z (zG (v:=.pointer (some (sAt bv (p:Int)))) Z (xX Z yN xI Z Z (by omega) (by rw [u8s_length];omega) (fun w1 hw1=>hb _ (qA (f:=[_]) hw1))) (zG (v:=.int .u8 (L.getD ((p:Int).toNat) 0)) Z (qU Z xE Z (fun w1 hw1=>u8s_cell (hb _ (qA (f:=[_]) hw1)) (by omega) (by omega))) (zG (v:=i6_ (L.getD ((p:Int).toNat) 0)) Z (jI .i64 Z vG yS Z (IntWalk.i64_in _ (by omega))) (zC 1 Z (zG (v:=i6_ ((L.getD ((p:Int).toNat) 0) % n)) Z (OpQ.rem Z Z Z (by omega) (by omega)) (zC 1 Z (zI (zD [4] [_] Z (qK (qO Z Z fun w' hw=>?_))))))))))))))))
   exact ⟨_,p+1,rfl,⟨Int.emod_nonneg _ (by omega),fun _=>Int.emod_lt_of_pos _ (by omega),rfl⟩,hw⟩
  replace h36:=zS h36
  have hm1:=Int.emod_nonneg (p:Int) (b:=(L.length:Int)) (by omega)
  have hm2:=Int.emod_lt_of_pos (p:Int) (b:=(L.length:Int)) (by omega)
  have hm3:=Int.emod_nonneg ((p:Int)*(7:Int)+(3:Int)) (b:=(L.length:Int)) (by omega)
  have hm4:=Int.emod_lt_of_pos ((p:Int)*(7:Int)+(3:Int)) (b:=(L.length:Int)) (by omega)
  have hd1:=Int.ediv_nonneg (a:=(p:Int)) (b:=(L.length:Int)) (by omega) (by omega)
  have hd2:=Int.ediv_le_self (L.length:Int) (show (0:Int)≤(p:Int) by omega)
  have hb1:=hL8.at (i:=((p:Int) % (L.length:Int)).toNat) (by omega)
  have hb2:=hL8.at (i:=(((p:Int)*(7:Int)+(3:Int)) % (L.length:Int)).toNat) (by omega);refine qN (zD [0,1,5] [_,_,_] Z (zE (jG yH (fun _ h=>h.drawn) (by kernel_rfl) (zC 1 Z (zG (v:=pt_ rp) Z (zN Z Z) (zG Z (zH Z xJ Z yB Z Z) (zG Z (zQ 0 Z yV Z Z Z) (zC 2 Z (zG (v:=pt_ rp) Z (zN Z Z) (zG Z (zH Z xJ Z yB Z Z) (zG Z (zQ 0 Z yV Z Z Z) (zG (v:=i6_ (L.length:Int)) Z (xP Z yN Z (u8s_length _) (fun w1 hw1=>hb _ (qA (f:=[_]) hw1))) (zG (v:=i6_ ((p:Int) % (L.length:Int))) Z (OpQ.rem Z Z Z (by omega) (by omega)) (zG (v:=.pointer (some (sAt bv ((p:Int) % (L.length:Int))))) Z (xX Z yN xI Z Z (by omega) (by rw [u8s_length];omega) (fun w1 hw1=>hb _ (qA (f:=[_]) hw1))) (zG (v:=.int .u8 (L.getD (((p:Int) % (L.length:Int)).toNat) 0)) Z (qU Z xE Z (fun w1 hw1=>u8s_cell (hb _ (qA (f:=[_]) hw1)) (by omega) (by omega))) (zG (v:=i6_ (L.getD (((p:Int) % (L.length:Int)).toNat) 0)) Z (jI .i64 Z vG yS Z (IntWalk.i64_in _ (by omega))) (zG Z (OpQ.mul Z Z Z (by omega) (by omega)) (zC 1 Z ?_))))))))))))))))));refine zG (v:=pt_ rp) Z (zN Z Z) (zG Z (zH Z xJ Z yB Z Z) (zG Z (zQ 0 Z yV Z Z Z) (zC 1 Z (zG Z (OpQ.mul Z Z Z (by omega) (by omega)) (zG Z (qS Z Z Z (by omega) (by omega)) (zC 1 Z (zG (v:=pt_ rp) Z (zN Z Z) (zG Z (zH Z xJ Z yB Z Z) (zG Z (zQ 0 Z yV Z Z Z) (zG (v:=i6_ (L.length:Int)) Z (xP Z yN Z (u8s_length _) (fun w1 hw1=>hb _ (qA (f:=[_]) hw1))) (zG (v:=i6_ ((((p:Int)*(7:Int))+(3:Int)) % (L.length:Int))) Z (OpQ.rem Z Z Z (by omega) (by omega)) (zG (v:=.pointer (some (sAt bv ((((p:Int)*(7:Int))+(3:Int)) % (L.length:Int))))) Z (xX Z yN xI Z Z (by omega) (by rw [u8s_length];omega) (fun w1 hw1=>hb _ (qA (f:=[_]) hw1))) (zG (v:=.int .u8 (L.getD (((((p:Int)*(7:Int))+(3:Int)) % (L.length:Int)).toNat) 0)) Z (qU Z xE Z (fun w1 hw1=>u8s_cell (hb _ (qA (f:=[_]) hw1)) (by omega) (by omega))) (zG (v:=i6_ (L.getD (((((p:Int)*(7:Int))+(3:Int)) % (L.length:Int)).toNat) 0)) Z (jI .i64 Z vG yS Z (IntWalk.i64_in _ (by omega))) (zG Z (OpQ.mul Z Z Z (by omega) (by omega)) (zG Z (qS Z Z Z (by omega) (by omega)) (zC 1 Z (zG Z (OpQ.mul Z Z Z (by omega) (by omega)) (zG Z (qS Z Z Z (by omega) (by omega)) (zC 2 Z (zG (v:=pt_ rp) Z (zN Z Z) (zG Z (zH Z xJ Z yB Z Z) (zG Z (zQ 0 Z yV Z Z Z) (zG (v:=i6_ (L.length:Int)) Z (xP Z yN Z (u8s_length _) (fun w1 hw1=>hb _ (qA (f:=[_]) hw1))) (zG (v:=i6_ ((p:Int) / (L.length:Int))) Z (OpQ.quo Z Z Z (by omega) (by omega) (by omega)) (zG Z (OpQ.mul Z Z Z (by omega) (by omega)) (zG Z (qS Z Z Z (by omega) (by omega)) (zC 1 Z (zI (zD [1,6] [_,_] Z (zE (zB (zC 2 Z (zG (v:=i6_ ((((((L.getD (((p:Int) % (L.length:Int)).toNat) 0)*(131:Int))+((L.getD (((((p:Int)*(7:Int))+(3:Int)) % (L.length:Int)).toNat) 0)*(1117:Int)))+((p:Int)*(29:Int)))+(((p:Int) / (L.length:Int))*(53:Int))) / (64:Int))) Z (OpQ.quo Z Z Z (by omega) (by omega) (by decide)) (zG (v:=i6_ (bits .xor .i64 (((((L.getD (((p:Int) % (L.length:Int)).toNat) 0)*(131:Int))+((L.getD (((((p:Int)*(7:Int))+(3:Int)) % (L.length:Int)).toNat) 0)*(1117:Int)))+((p:Int)*(29:Int)))+(((p:Int) / (L.length:Int))*(53:Int))) ((((((L.getD (((p:Int) % (L.length:Int)).toNat) 0)*(131:Int))+((L.getD (((((p:Int)*(7:Int))+(3:Int)) % (L.length:Int)).toNat) 0)*(1117:Int)))+((p:Int)*(29:Int)))+(((p:Int) / (L.length:Int))*(53:Int))) / (64:Int)))) Z (OpQ.xor Z Z Z) (zC 1 Z (zI (zD [1,6] [_,_] Z (zE (zB ?_))))))))))))))))))))))))))))))))))))))))
  have hx0:0≤bits .xor .i64 (((((L.getD (((p:Int) % (L.length:Int)).toNat) 0)*(131:Int))+((L.getD (((((p:Int)*(7:Int))+(3:Int)) % (L.length:Int)).toNat) 0)*(1117:Int)))+((p:Int)*(29:Int)))+(((p:Int) / (L.length:Int))*(53:Int))) ((((((L.getD (((p:Int) % (L.length:Int)).toNat) 0)*(131:Int))+((L.getD (((((p:Int)*(7:Int))+(3:Int)) % (L.length:Int)).toNat) 0)*(1117:Int)))+((p:Int)*(29:Int)))+(((p:Int) / (L.length:Int))*(53:Int))) / (64:Int)):=xor_pos (by omega) (by omega) (Int.ediv_nonneg (by omega) (by decide)) (by omega);refine zC 2 Z (zG (v:=i6_ ((bits .xor .i64 (((((L.getD (((p:Int) % (L.length:Int)).toNat) 0)*(131:Int))+((L.getD (((((p:Int)*(7:Int))+(3:Int)) % (L.length:Int)).toNat) 0)*(1117:Int)))+((p:Int)*(29:Int)))+(((p:Int) / (L.length:Int))*(53:Int))) ((((((L.getD (((p:Int) % (L.length:Int)).toNat) 0)*(131:Int))+((L.getD (((((p:Int)*(7:Int))+(3:Int)) % (L.length:Int)).toNat) 0)*(1117:Int)))+((p:Int)*(29:Int)))+(((p:Int) / (L.length:Int))*(53:Int))) / (64:Int))) % n)) Z (OpQ.rem Z Z Z hx0 (by omega)) (zC 1 Z (zI (zD [4] [_] Z (qK (qO Z Z fun w' hw=>?_))))))
  exact ⟨_,p+1,rfl,⟨Int.emod_nonneg _ (by omega),fun _=>Int.emod_lt_of_pos _ (by omega),rfl⟩,hw⟩
 replace hg17:=zW hg17;refine zR Z (zR Z (zR Z (zR Z (zR Z (zR Z (zC 1 Z (zI (zD [0,1,24] [_,_,_] Z (yO Z (zE (zB (zC 1 Z (zI (zD [4] [_] Z (qK (qO Z Z fun w' hw=>?_))))))))))))))))
 exact ⟨0,p+1,rfl,⟨Int.le_refl 0,fun _=>by omega,rfl⟩,hw⟩
set_option maxHeartbeats 400000 in
theorem num_ok (B:Nat) (w0:World) (hs:List (Nat×Obj)) (rp p:Nat) (bv:Value) (L:List Int) (va:Value) (xs:List Int) (w:World) (hb:∀ w,Own B w0 hs w→Row w bv (u8s L)) (hL8:Bytes8 L) (hL:L.length≤2000) (hva:∀ w,Own B w0 hs w→Ints w va xs) (hne:0<xs.length) (hp:p≤1000000) (hw:Own B w0 ((rp,.cells #[bv,.int .i64 (p:Int)] 104 (0,0))::hs) w) :
    Calls Tryd.prog 33 [pt_ rp,va].toArray w fun en w'=>∃ v:Int,∃ p':Nat,en=.returned (i6_ v)∧(v∈xs∧p'=p+1)∧Own B w0 (((rp,.cells #[bv,.int .i64 (p':Int)] 104 (0,0))::hs)) w':=by
 refine fnStartC (Own B w0 ((rp,.cells #[bv,.int .i64 (p:Int)] 104 (0,0))::hs)) (n:=12) (e:=[(0,pt_ rp),(1,va)]) Tryd.func33 Z Z Z Z Ends.both hw (zE (zB (zC 1 Z (zI (zD [0,1] [_,_] Z (zE (qF (qI 3 Z (zM (v:=i6_ (xs.length:Int)) Z (xP Z yA Z (ints_length _) (fun w1 hw1=>hva _ (qA (f:=[_]) hw1))) (yI (rp:=rp) (RT:=104) (p:=p) (bv:=bv) (hs:=hs) (ok:=fun (k:Int) p'=>0≤k∧(1≤(xs.length:Int)→k<(xs.length:Int))∧p'=p+1) (v:=fun (k:Int)=>i6_ k) (new:=fun (k:Int)=>[]) (xs:=[.tmp 6,.tmp 8]) (vs:=[pt_ rp,i6_ (xs.length:Int)]) ([]:List (Nat×Obj)) Z Z Z Z xS Z (fun w1 hw1=>(pick_ok B w0 (([]:List (Nat×Obj))++hs) rp p bv L (xs.length:Int) w1 (fun w2 hw2=>hb w2 (qA (f:=([]:List (Nat×Obj))) hw2)) hL8 hL (by omega) hw1).mono fun en w' ⟨k',p',h1,h2,h3⟩=>⟨k',p',h1,h2,h3⟩) fun k9 p_9 hKp_9=>?_))))))))))
 show Ll _ _ (Own _ _ (_::hs)) _ _ ((9,i6_ k9)::_) _ _ _
 obtain ⟨h0k9,h1k9,hep_9⟩:=hKp_9
 try have hltk9:=h1k9 (by first | omega | (split <;> omega) | decide);refine zM (v:=.pointer (some (sAt va k9))) Z (xX Z yA zJ Z Z (by omega) (by rw [ints_length];omega) (fun w1 hw1=>hva _ (qA (f:=[_]) hw1))) (zM (v:=i6_ (xs.getD ((k9).toNat) 0)) Z (qU Z zU Z (fun w1 hw1=>Ints.cell (hva _ (qA (f:=[_]) hw1)) (by omega) (by omega))) (qI 1 Z (zL (zD [4] [_] Z (qK (qO Z Z fun w' hw=>?_))))))
 exact ⟨_,p_9,rfl,⟨by rw [getD_at (by omega)];exact List.getElem_mem _,hep_9⟩,hw⟩
set_option maxHeartbeats 400000 in
theorem of_ok (B:Nat) (w0:World) (hs:List (Nat×Obj)) (rp p:Nat) (bv:Value) (L:List Int) (va:Value) (xs:List (List UInt8)) (w:World) (hb:∀ w,Own B w0 hs w→Row w bv (u8s L)) (hL8:Bytes8 L) (hL:L.length≤2000) (hva:∀ w,Own B w0 hs w→Strs w va xs) (hne:0<xs.length) (hp:p≤1000000) (hw:Own B w0 ((rp,.cells #[bv,.int .i64 (p:Int)] 104 (0,0))::hs) w) :
    Calls Tryd.prog 63 [pt_ rp,va].toArray w fun en w'=>∃ v:List UInt8,∃ p':Nat,en=.returned (str v)∧(v∈xs∧p'=p+1)∧Own B w0 (((rp,.cells #[bv,.int .i64 (p':Int)] 104 (0,0))::hs)) w':=by
 refine fnStartC (Own B w0 ((rp,.cells #[bv,.int .i64 (p:Int)] 104 (0,0))::hs)) (n:=12) (e:=[(0,pt_ rp),(1,va)]) Tryd.func63 Z Z Z Z Ends.both hw (zE (zB (zG (v:=str ([])) Z (jS Z Z) (zI (zD [0,1] [_,_] Z (zE (qF (qI 3 Z (zM (v:=i6_ (xs.length:Int)) Z (xP Z Tryd.runUnderlying83 Z (strs_length _) (fun w1 hw1=>hva _ (qA (f:=[_]) hw1))) (yI (rp:=rp) (RT:=104) (p:=p) (bv:=bv) (hs:=hs) (ok:=fun (k:Int) p'=>0≤k∧(1≤(xs.length:Int)→k<(xs.length:Int))∧p'=p+1) (v:=fun (k:Int)=>i6_ k) (new:=fun (k:Int)=>[]) (xs:=[.tmp 6,.tmp 8]) (vs:=[pt_ rp,i6_ (xs.length:Int)]) ([]:List (Nat×Obj)) Z Z Z Z xS Z (fun w1 hw1=>(pick_ok B w0 (([]:List (Nat×Obj))++hs) rp p bv L (xs.length:Int) w1 (fun w2 hw2=>hb w2 (qA (f:=([]:List (Nat×Obj))) hw2)) hL8 hL (by omega) hw1).mono fun en w' ⟨k',p',h1,h2,h3⟩=>⟨k',p',h1,h2,h3⟩) fun k9 p_9 hKp_9=>?_))))))))))
 show Ll _ _ (Own _ _ (_::hs)) _ _ ((9,i6_ k9)::_) _ _ _
 obtain ⟨h0k9,h1k9,hep_9⟩:=hKp_9
 try have hltk9:=h1k9 (by first | omega | (split <;> omega) | decide);refine zM (v:=.pointer (some (sAt va k9))) Z (xX Z Tryd.runUnderlying83 qY Z Z (by omega) (by rw [strs_length];omega) (fun w1 hw1=>hva _ (qA (f:=[_]) hw1))) (zM (v:=str (xs.getD ((k9).toNat) [])) Z (qU Z yQ Z (fun w1 hw1=>Strs.cell (hva _ (qA (f:=[_]) hw1)) (by omega) (by omega))) (qI 1 Z (zL (zD [4] [_] Z (qK (qO Z Z fun w' hw=>?_))))))
 exact ⟨_,p_9,rfl,⟨by rw [getD_at (by omega)];exact List.getElem_mem _,hep_9⟩,hw⟩
set_option maxHeartbeats 400000 in
theorem many_ok (s:List UInt8) (w:World) (n:Int) (hn0:0≤n) (hn:n≤100) (hs1:s.length=1) :
    Calls Tryd.prog 113 [str s,i6_ n].toArray w fun en w'=>∃ t:List UInt8,en=.returned (str t)∧(t.length≤40000)∧Below w.heap.size w w':=by
 refine fnStart (n:=20) (e:=[(0,str s),(1,i6_ n)]) Tryd.func113 Z Z Z Z Ends.both (zE (zB (zG (v:=str ([])) Z (jS Z Z) (zI (zD [0,1] [_,_] Z (zE (zB (zG (v:=str ([])) Z (jS Z Z) (zI (zD [0,1,5] [_,_,_] Z (zE (qZ (jH (σ:=Nat×List UInt8×List UInt8×Int) (fun ⟨i,t,u,m⟩=>(0≤m∧m≤100)∧m.toNat*2 ^ i≤100∧u.length=2 ^ i∧t.length≤2 ^ i∧i≤7) (fun ⟨i,t,u,m⟩=>[(0,str u),(1,i6_ m),(5,str t)]) (fun ⟨i,t,u,m⟩=>Own w.heap.size w []) (fun ⟨i,t,u,m⟩=>m.toNat) (0,[],s,n) ⟨by omega,by omega,hs1,by simp,by omega⟩ (Sub.sel [0,1,5] Z) (fun _ h=>h) ?_)))))))))))))
 rintro ⟨i,t,u,m⟩ ⟨⟨hm0,hm9⟩,hm1,hu,ht,hi⟩
 dsimp only;refine zE (zE (zB (zC 2 Z (zI (zD [0,1,5,7] [_,_,_,_] Z (yC (b:=decide ((0:Int)<m)) Z (fun h7=>?_) (fun h7=>?_)))))))
 ·
  replace h7:=zW h7
  have h128:2 ^ i≤128:=Nat.le_trans (Nat.pow_le_pow_right (by decide) hi) (by decide);refine qN (zD [0,1,5] [_,_,_] Z (qZ (zE (zE (zB (zC 1 Z (zG (v:=i6_ (m % (2:Int))) Z (OpQ.rem Z Z Z (by omega) (by decide)) (zC 1 Z (zI (zD [0,1,5,10] [_,_,_,_] Z (yE Z (fun h10=>?_) (fun h10=>?_))))))))))))
  ·
   refine zB (zC 2 Z (zG Z (yL Z Z Z (by first | omega | (simp only [zP,zY,zZ];omega))) (zC 1 Z (zI (zD [0,1,5] [_,_,_] Z (zE (zB (zC 2 Z (zG Z (yL Z Z Z (by first | omega | (simp only [zP,zY,zZ];omega))) (zC 1 Z (zI (zD [0,1,5] [_,_,_] Z (zB (zC 1 Z (zG (v:=i6_ (m / (2:Int))) Z (OpQ.quo Z Z Z (by omega) (by omega) (by decide)) (zC 1 Z (zI (yZ (i+1,t++u,u++u,m / (2:Int)) ⟨by dsimp only;omega,many_half hm0 hm1,by rw [zP,hu,Nat.pow_succ];omega,by dsimp only;(try rw [zP]);rw [Nat.pow_succ];omega,many_more hm1 (by omega)⟩ (by dsimp only;omega) (Sub.sel [0,1,5] Z) (fun _ h=>h)))))))))))))))))))
  refine qN (zD [0,1,5] [_,_,_] Z (zE (zB (zC 2 Z (zG Z (yL Z Z Z (by first | omega | (simp only [zP,zY,zZ];omega))) (zC 1 Z (zI (zD [0,1,5] [_,_,_] Z (zB (zC 1 Z (zG (v:=i6_ (m / (2:Int))) Z (OpQ.quo Z Z Z (by omega) (by omega) (by decide)) (zC 1 Z (zI (yZ (i+1,t,u++u,m / (2:Int)) ⟨by dsimp only;omega,many_half hm0 hm1,by rw [zP,hu,Nat.pow_succ];omega,by dsimp only;(try rw [zP]);rw [Nat.pow_succ];omega,many_more hm1 (by omega)⟩ (by dsimp only;omega) (Sub.sel [0,1,5] Z) (fun _ h=>h)))))))))))))))
 replace h7:=zS h7;refine xB Z (zD [5] [_] Z (zE (zB (zC 2 Z (zI (zD [4] [_] Z (qK (qO Z Z fun w' hw=>?_))))))))
 exact ⟨t,rfl,Nat.le_trans ht (Nat.le_trans (Nat.pow_le_pow_right (by decide) hi) (by decide)),hw.below⟩
end Go.Proofs.YtagbocafnliabaaDoor
namespace Go.Proofs.YtagbocafnliabaaDoor
open Go.RowKit Go.Wk
set_option linter.unusedSimpArgs false
set_option maxHeartbeats 400000 in
theorem areElements_ok (a:St) (va:Value) (xs:List Int) (w:World) (hva:Ints w va xs) (hs:xs.length≤140737488355328) :
    Calls Tryd.prog 72 [vS a,va].toArray w fun en w'=>en=.returned (.bool (xs.all (elB a)))∧Below w.heap.size w w':=by
 refine fnStart (n:=9) (e:=[(0,vS a),(1,va)]) Tryd.func72 Z Z Z Z Ends.both (zE (qF (jD (v:=vS a) Z Z Z Z Z fun p2 hp2=>?_)))
 show Ll _ _ (Own _ _ [_]) _ _ ((2,pt_ p2)::_) _ _ _;refine qI 1 Z (zL (zD [1,2] [_,_] Z (zE (zB (zC 1 Z (zG (v:=.func (.func 111) #[] #[pt_ p2]) Z (OpQ.func' (cap:=[.tmp 2]) Z Z) (zG (v:=bo_ (xs.any fun x=>!elB a x)) Z (qR Z Tryd.call110 Z qG (fun w1 hw1=>containsFunc_ok va xs w1 (Row.own hva hw1) hs 111 #[.pointer (some ⟨p2,0,none⟩)] (fun x=>!elB a x) Tryd.call111 (fun w2 hb x=>noEl_ok a p2 _ x w2 ((hw1.stable _ _ hb).has 0 _ _ Z).2))) (zC 2 Z (zI (zD [4] [_] Z (qK (qO Z Z fun w' hw=>?_))))))))))))
 exact ⟨ret_b (not_any_elB a xs),hw.below⟩
end Go.Proofs.YtagbocafnliabaaDoor
namespace Go.Proofs.YtagbocafnliabaaDoor
open Go.RowKit Go.Wk
set_option linter.unusedSimpArgs false
set_option maxHeartbeats 400000 in
theorem listsOf_ok (B:Nat) (w0:World) (hs:List (Nat×Obj)) (N W:Int) (w:World) (hN0:0≤N) (hN8:N≤8) (hW0:0≤W) (hW3:W≤3) (hw:Own B w0 hs w) :
    Calls Tryd.prog 46 [i6_ N,i6_ W].toArray w fun en w'=>∃ (g cap:Nat) (cur:Array Value) (rr:List RR),en=.returned (.slice (some ⟨g,0,none⟩) rr.length cap)∧(RowsOk rr cur cap∧rr.map RR.xs=listsL N.toNat W.toNat)∧Own B w0 ((g,.cells cur 27 (0,0))::(rowsB 3 rr++hs)) w':=by
 refine fnStartC (Own B w0 hs) (n:=40) (e:=[(0,i6_ N),(1,i6_ W)]) Tryd.func46 Z Z Z Z Ends.both hw (zE (zB (zC 1 Z (zI (zD [0,1] [_,_] Z (zE (qF (yT (xs:=[]) (vs:=[]) xL Z Z Z Z Z Z (by decide) Z fun p10 hp10=>(yT (xs:=[.tmp 10]) (vs:=[sl_ p10 0 0]) Base.elem63 Z Z Z Z Z Z (by decide) Z fun p11 hp11=>(qI 1 Z (zL (zD [0,1,5] [_,_,_] Z (zE (zE (zB (zC 2 Z (zI (zD [0,5,12,13] [_,_,_,_] Z (qZ (jH (σ:=Nat×Nat×Nat×Array Value×List RR) (fun ⟨r,gO,cO,uO,rr⟩=>r≤W.toNat∧RowsOk rr uO cO∧rr.map RR.xs=listsL N.toNat r) (fun ⟨r,gO,cO,uO,rr⟩=>[(0,i6_ N),(5,sl_ gO rr.length cO),(12,i6_ W),(13,i6_ (r:Int))]) (fun ⟨r,gO,cO,uO,rr⟩=>Own B w0 (bk_ gO uO 27::(rowsB 3 rr++hs))) (fun ⟨r,gO,cO,uO,rr⟩=>W.toNat - r) (0,p11,1,_,[⟨p10,0,#[],[]⟩]) ⟨by omega,RowsOk.one p10,rfl⟩ (Sub.sel [0,5,12,13] Z) (fun _ h=>h) ?_))))))))))))))))))))
 rintro ⟨r,gO,cO,uO,rr⟩ ⟨hr,hR,hXr⟩
 dsimp only
 have hrl:rr.length=N.toNat ^ r:=by rw [← listsL_length N.toNat r,← hXr,List.length_map]
 have h512:=pow8 (size:=N.toNat) (w:=r) (by omega) (by omega);refine zE (zB (zC 1 Z (zI (zD [0,5,12,13,14] [_,_,_,_,_] Z (zE (yE Z (fun h14=>?_) (fun h14=>?_)))))))
 ·
  refine qN (zD [0,5,12,13] [_,_,_,_] Z (zE (qZ (zE (qF (yT (xs:=[]) (vs:=[]) Base.elem63 Z Z Z Z Z Z (by decide) Z fun p15 hp15=>(qI 1 Z (zL (zD [0,5,6,12,13] [_,_,_,_,_] Z (zE (zE (zB (zC 1 Z (zG Z (OpQ.lenS Z vH Z) (zC 1 Z (zI (zD [0,6,12,13,16,17,18] [_,_,_,_,_,_,_] Z (qZ (jH (σ:=Nat×Nat×Nat×Array Value×List RR) (fun ⟨i,gN,cN,uN,nn⟩=>i≤rr.length∧RowsOk nn uN cN∧nn.map RR.xs=nextL N.toNat ((listsL N.toNat r).take i)) (fun ⟨i,gN,cN,uN,nn⟩=>[(0,i6_ N),(6,sl_ gN nn.length cN),(12,i6_ W),(13,i6_ (r:Int)),(16,sl_ gO rr.length cO),(17,i6_ (rr.length:Int)),(18,i6_ (i:Int))]) (fun ⟨i,gN,cN,uN,nn⟩=>Own B w0 (bk_ gN uN 27::bk_ gO uO 27::(rowsB 3 nn++(rowsB 3 rr++hs)))) (fun ⟨i,gN,cN,uN,nn⟩=>rr.length - i) (0,p15,0,#[],[]) ⟨by omega,RowsOk.nil,rfl⟩ (Sub.sel [0,6,12,13,16,17,18] Z) (fun _ h=>h) ?_)))))))))))))))))))
  rintro ⟨i,gN,cN,uN,nn⟩ ⟨hi,hN,hX⟩
  dsimp only;refine zE (zB (zC 1 Z (zI (zD [0,6,12,13,16,17,18,19] [_,_,_,_,_,_,_,_] Z (zE (yC (b:=decide ((i:Int)<(rr.length:Int))) Z (fun h19=>?_) (fun h19=>?_)))))))
  ·
   replace h19:=zW h19;refine qN (zD [0,6,12,13,16,17,18] [_,_,_,_,_,_,_] Z (zE (qZ (zE (zB (zG (v:=pf_ gO i) Z (yG (v':=pf_ gO i) (by simp) (jK (i:=(i:Int)) Z vH Tryd.sizeOf27 Z Z (by omega) (by omega))) (zG (v:=rv (rr.getD i rd)) Z (xZ (v:=rv (rr.getD i rd)) 1 Z vJ Z Z (by have:=rvs_at (rr:=rr) (i:=i) (by omega);rw [← hR.vals,List.getElem?_take,if_pos (by omega)] at this;simpa using this)) ?_)))))));refine zC 1 Z (zI (zD [0,6,8,12,13,16,17,18] [_,_,_,_,_,_,_,_] Z (zE (zB (zC 2 Z (zI (zD [0,6,8,12,13,16,17,18,22,23] [_,_,_,_,_,_,_,_,_,_] Z (qZ (jH (σ:=Nat×Nat×Nat×Array Value×List RR) (fun ⟨k,gM,cM,uM,nm⟩=>k≤N.toNat∧RowsOk nm uM cM∧nm.map RR.xs=nextTo N.toNat (listsL N.toNat r) i k) (fun ⟨k,gM,cM,uM,nm⟩=>[(0,i6_ N),(6,sl_ gM nm.length cM),(8,rv (rr.getD i rd)),(12,i6_ W),(13,i6_ (r:Int)),(16,sl_ gO rr.length cO),(17,i6_ (rr.length:Int)),(18,i6_ (i:Int)),(22,i6_ N),(23,i6_ (k:Int))]) (fun ⟨k,gM,cM,uM,nm⟩=>Own B w0 (bk_ gM uM 27::bk_ gO uO 27::(rowsB 3 nm++(rowsB 3 rr++hs)))) (fun ⟨k,gM,cM,uM,nm⟩=>N.toNat - k) (0,gN,cN,uN,nn) ⟨by omega,hN,by rw [nextTo_zero];exact hX⟩ (Sub.sel [0,6,8,12,13,16,17,18,22,23] Z) (fun _ h=>h) ?_)))))))))
   rintro ⟨k,gM,cM,uM,nm⟩ ⟨hk,hN,hXm⟩
   dsimp only
   have hxl:=xs_len hXr (i:=i)
   have hnl:=next_len hXm (by rw [listsL_length];omega) (by omega) (by omega);refine zE (zB (zC 1 Z (zI (zD [0,6,8,12,13,16,17,18,22,23,24] [_,_,_,_,_,_,_,_,_,_,_] Z (zE (yC (b:=decide ((k:Int)<N)) Z (fun h24=>?_) (fun h24=>?_)))))))
   ·
    replace h24:=zW h24
    have hkn:k<N.toNat:=by omega
    refine qN (zD [0,6,8,12,13,16,17,18,22,23] [_,_,_,_,_,_,_,_,_,_] Z (zE (qZ (zE (zB (zC 2 Z (zI (zD [0,6,8,9,12,13,16,17,18,22,23] [_,_,_,_,_,_,_,_,_,_,_] Z (qF (qI 1 Z (yT (xs:=[]) (vs:=[]) xL Z Z Z Z Z Z (by decide) Z fun p27 hp27=>(qI 1 Z (Ll.appendInts (xs:=[]) (ys:=(rr.getD i rd).xs) xL 0 Z Z Z Z Z Z Z Z (by decide) Z (fun w1 hw1=>(Own.ofRows (qA (f:=bk_ p27 #[] 3::bk_ gM uM 27::bk_ gO uO 27::(rowsB 3 nm)) hw1) hR.ok (i:=i) (by omega))) (((rr.getD i rd).xs).length) (by first | (simp;done) | (simp;omega)) (by first | (simp;done) | (simp;omega) | omega) fun p29 cap29 cur29 hp29 hcp29 hlp29 htp29=>?_)))))))))))))
    show Ll _ _ (Own _ _ (_::_::_::(rowsB 3 nm++(rowsB 3 rr++hs)))) _ _ ((29,sl_ p29 ((((rr.getD i rd).xs).length)) cap29)::_) _ _ _;refine qI 1 Z (yT (xs:=[.tmp 30]) (vs:=[i6_ (k:Int)]) xL Z Z Z Z Z Z (by decide) Z fun p31 hp31=>(Ll.appendInts (xs:=(rr.getD i rd).xs) (ys:=[(k:Int)]) xL 1 Z Z Z Z Z Z Z hcp29 hlp29 (by simpa using htp29) (fun w1 hw1=>(xR hw1 (i:=0) Z (n:=1) (cap:=1) (vs:=ints [(k:Int)]) Z Z (by decide))) ((((rr.getD i rd).xs)++([(k:Int)])).length) (by first | (simp;done) | (simp;omega)) (by rw [zP,List.length_singleton];omega) fun p32 cap32 cur32 hp32 hcp32 hlp32 htp32=>?_))
    show Ll _ _ (Own _ _ (_::_::_::_::(rowsB 3 nm++(rowsB 3 rr++hs)))) _ _ ((32,sl_ p32 (((((rr.getD i rd).xs)++([(k:Int)])).length)) cap32)::_) _ _ _;refine yT (xs:=[.tmp 32]) (vs:=[sl_ p32 (((((rr.getD i rd).xs)++([(k:Int)])).length)) cap32]) Base.elem63 Z Z Z Z Z Z (by decide) Z fun p33 hp33=>(Ll.append Base.elem63 3 [sl_ p32 (((((rr.getD i rd).xs)++([(k:Int)])).length)) cap32] Z Z Z Z Z Z Z hN.size hN.len Z (fun h=>by cases h) (fun w1 hw1 ad had j u hj=>by injection had with had;subst had;rw [Addr.add_lit,Nat.zero_add,hw1.cell (i:=0) rfl];simpa using hj) (by simp [Value.oneCell']) (by omega) fun gq capq curq hgq hcgq hlgq htgq=>?_)
    show Ll _ _ (Own _ _ (_::_::_::_::_::(rowsB 3 nm++(rowsB 3 rr++hs)))) _ _ ((34,sl_ gq (nm.length+1) capq)::_) _ _ _;refine qI 1 Z (zL (zD [0,6,8,12,13,16,17,18,22,23] [_,_,_,_,_,_,_,_,_,_] Z (zB (zG Z (qS Z Z Z (by omega) (by omega)) (zC 1 Z (zI (yZ ((k+1,gq,capq,curq,nm++[(RR.mk p32 cap32 cur32 ((rr.getD i rd).xs++[(k:Int)]))])) ⟨by omega,hN.add (r:=(RR.mk p32 cap32 cur32 ((rr.getD i rd).xs++[(k:Int)]))) ⟨hcp32,hlp32,by simpa using htp32⟩ hcgq hlgq htgq,by rw [List.map_append,hXm,nextTo_step,← hXr,map_xs (by omega)];rfl⟩ (by omega) (Sub.cons Z (Sub.cons (by rw [zP];rfl) (Sub.sel [8,12,13,16,17,18,22,23] Z))) (fun _ h=>rows_more (cap:=cap32) (xs:=(rr.getD i rd).xs++[(k:Int)]) (f:=[_,_]) (h.sub (qL _ (qL _ (zA _ (zA _ (zA _ (zO _)))))))))))))))
   replace h24:=zS h24;refine xB Z (zD [0,6,12,13,16,17,18] [_,_,_,_,_,_,_] Z (zB (zG Z (qS Z Z Z (by omega) (by omega)) (zC 1 Z (zI (yZ (i+1,gM,cM,uM,nm) ⟨by omega,hN,by rw [hXm,show k=N.toNat from by omega,nextTo_end (by rw [listsL_length];omega)]⟩ (by omega) (Sub.sel [0,6,12,13,16,17,18] Z) (fun _ h=>h)))))))
  replace h19:=zS h19
  have hend:nextL N.toNat ((listsL N.toNat r).take i)=nextL N.toNat (listsL N.toNat r):=by rw [List.take_of_length_le (by rw [listsL_length];omega)]
  refine xB Z (zD [0,6,12,13] [_,_,_,_] Z (zB (zC 2 Z (zI (zD [0,5,12,13] [_,_,_,_] Z (zB (zG Z (qS Z Z Z (by omega) (by omega)) (zC 1 Z (zI (yZ (r+1,gN,cN,uN,nn) ⟨by omega,hN,by rw [hX,hend];rfl⟩ (by omega) (Sub.sel [0,5,12,13] Z) (fun _ h=>rows_forget h)))))))))))
 refine xB Z (zD [5] [_] Z (zE (zB (zC 2 Z (zI (zD [4] [_] Z (qK (qO Z Z fun w' hw=>?_))))))))
 obtain rfl:r=W.toNat:=by omega
 exact ⟨_,_,_,rr,rfl,⟨hR,hXr⟩,hw⟩
end Go.Proofs.YtagbocafnliabaaDoor
namespace Go.Proofs.YtagbocafnliabaaDoor
open Go.RowKit Go.Wk
set_option linter.unusedSimpArgs false
set_option maxHeartbeats 400000 in
theorem l15Find_ok (s:List UInt8) (c:Int) (w:World) (hs:s.length≤1048576) :
    Calls Tryd.prog 103 [str s,.int .u8 c].toArray w fun en w'=>en=.returned (.int .i64 (findS s c))∧Below w.heap.size w w':=by
 refine fnStart (n:=18) (e:=[(0,str s),(1,.int .u8 c)]) Tryd.func103 Z Z Z Z Ends.both (zE (zB (zC 1 Z (zI (zD [0,1] [_,_] Z (zE (zE (zB (zC 1 Z (zI (zD [0,1,5] [_,_,_] Z (qZ (jH (σ:=Nat) (fun k=>k≤s.length∧∀ i:Nat,i<k→¬ ((s.getD i 0).toNat:Int)=c) (fun k=>[(0,str s),(1,.int .u8 c),(5,i6_ (k:Int))]) (fun k=>Own w.heap.size w []) (fun k=>s.length - k) (0) ⟨by omega,fun i hi=>absurd hi (by omega)⟩ (Sub.sel [0,1,5] Z) (fun _ h=>h) ?_)))))))))))))
 rintro k ⟨hk,hall⟩;refine zE (zE (zB (zC 2 Z (zG (v:=i6_ (s.length:Int)) Z (xN Z qH Z) (zC 1 Z (zI (zD [0,1,5,9] [_,_,_,_] Z (yE Z (fun h9=>?_) (fun h9=>?_)))))))))
 ·
  refine qN (zD [0,1,5] [_,_,_] Z (zE (qZ (zE (zB (zC 2 Z (zG (v:=.int .u8 (((s.getD ((k:Int).toNat) 0).toNat:Int))) Z (yK Z qH Z Z (by omega) (by omega)) (zC 2 Z (zI (zD [0,1,5,16] [_,_,_,_] Z (yE Z (fun h16=>?_) (fun h16=>?_))))))))))))
  ·
   refine zE (zB (zC 2 Z (zI (zD [4] [_] Z (qK (qO Z Z fun w' hw=>?_))))))
   exact ⟨ret_i (findS_at (by omega) hall h16).symm,hw.below⟩
  refine qN (zD [0,1,5] [_,_,_] Z (zB (zC 1 Z (zG Z (qS Z Z Z (by omega) (by omega)) (zC 1 Z (zI (yZ (k+1) ⟨by omega,fun i hi=>(Nat.lt_succ_iff_lt_or_eq.1 hi).elim (hall i) (fun e=>by subst e;exact h16)⟩ (by omega) (Sub.sel [0,1,5] Z) (fun _ h=>h))))))))
 refine xB Z (zD [] [] Z (zE (zB (zC 1 Z (zI (zD [4] [_] Z (qK (qO Z Z fun w' hw=>?_))))))))
 exact ⟨ret_i (findS_none (fun i hi=>hall i (by omega))).symm,hw.below⟩
end Go.Proofs.YtagbocafnliabaaDoor
namespace Go.Proofs.YtagbocafnliabaaDoor
open Go.RowKit Go.Wk
set_option linter.unusedSimpArgs false
set_option maxHeartbeats 400000 in
theorem l2Var_ok (f:List UInt8) (i:Int) (w:World) :
    Calls Tryd.prog 136 [str f,i6_ i].toArray w fun en w'=>en=.returned (.int .i64 (varI f i))∧Below w.heap.size w w':=by
 refine fnStart (n:=17) (e:=[(0,str f),(1,i6_ i)]) Tryd.func136 Z Z Z Z Ends.both (zE (zB (zC 1 Z (zI (zD [0,1] [_,_] Z (zE (zE (zB (zC 3 Z (xH fun b7 hg7=>?_))))))))))
 cases b7
 ·
  replace hg7:=zS hg7;refine zC 2 Z (zG (v:=i6_ (f.length:Int)) Z (xN Z qH Z) (zC 2 Z (zI (zD [0,1,12] [_,_,_] Z (yE Z (fun h12=>?_) (fun h12=>?_))))))
  ·
   refine zE (zB (zC 1 Z (zI (zD [4] [_] Z (qK (qO Z Z fun w' hw=>?_))))))
   exact ⟨ret_i (varI_out (by first | exact .inl (by omega) | exact .inr (by omega))).symm,hw.below⟩
  refine qN (zD [0,1] [_,_] Z (zE (zB (zC 2 Z (zG (v:=.int .u8 (((f.getD ((i).toNat) 0).toNat:Int))) Z (yK Z qH Z Z (by omega) (by omega)) (zG (v:=i6_ (findS ([97,98,99,100]) (((f.getD ((i).toNat) 0).toNat:Int)))) Z (qR Z Tryd.call103 Z qG (fun w1 hw1=>l15Find_ok ([97,98,99,100]) (((f.getD ((i).toNat) 0).toNat:Int)) w1 (by first | decide | omega))) (zC 1 Z (zI (zD [4] [_] Z (qK (qO Z Z fun w' hw=>?_)))))))))))
  exact ⟨ret_i (varI_find (by omega) (by omega)),hw.below⟩
 replace hg7:=zW hg7;refine zR Z (zR Z (zR Z (zR Z (zC 1 Z (zI (zD [0,1,12] [_,_,_] Z (yO Z (zE (zB (zC 1 Z (zI (zD [4] [_] Z (qK (qO Z Z fun w' hw=>?_))))))))))))))
 exact ⟨ret_i (varI_out (by first | exact .inl (by omega) | exact .inr (by omega))).symm,hw.below⟩
theorem l2Var_at (f:List UInt8) (i:Int) (k:Nat) (w:World) (hi:i=(k:Int)) (hl:k<f.length) (hv:isV (f.getD k 0)=true):Calls Tryd.prog 136 #[str f,.int .i64 i] w fun en w'=>en=.returned (.int .i64 (vI (f.getD k 0):Int))∧Below w.heap.size w w' :=
  (l2Var_ok f i w).mono fun en w' ⟨h1,h2⟩=>⟨by rw [h1,hi,(varI_nat hl hv).1],h2⟩
set_option maxHeartbeats 400000 in
theorem l2End_step (f:List UInt8) (i:Int) (w:World) (hf:f.length≤1048576) (ih:∀ (j:Int) (w:World),endM f j<endM f i→Calls Tryd.prog 135 #[str f,.int .i64 j] w fun en w'=>en=.returned (.int .i64 (endI f j))∧Below w.heap.size w w') :
    Calls Tryd.prog 135 [str f,i6_ i].toArray w fun en w'=>en=.returned (.int .i64 (endI f i))∧Below w.heap.size w w':=by
 refine fnStart (n:=77) (e:=[(0,str f),(1,i6_ i)]) Tryd.func135 Z Z Z Z Ends.both (zE (zB (zC 1 Z (zI (zD [0,1] [_,_] Z (zE (zE (zB (zC 3 Z (xH fun b7 hg7=>?_))))))))))
 cases b7
 ·
  replace hg7:=zS hg7;refine zC 2 Z (zG (v:=i6_ (f.length:Int)) Z (xN Z qH Z) (zC 2 Z (zI (zD [0,1,12] [_,_,_] Z (yE Z (fun h12=>?_) (fun h12=>?_))))))
  ·
   refine zE (zB (zC 1 Z (zI (zD [4] [_] Z (qK (qO Z Z fun w' hw=>?_))))))
   exact ⟨ret_i (by first | exact (endI_neg (by omega)).symm | exact (endI_out (by omega)).symm | (refine Eq.trans ?_ (endI_case (f:=f) (i:=i) (by omega) (by omega)).symm;unfold endC chI;repeat (first | rw [if_pos (by omega)] | rw [if_neg (by omega)]))),hw.below⟩
  refine qN (zD [0,1] [_,_] Z (zE (zE (zB (zC 2 Z (zG (v:=.int .u8 (((f.getD ((i).toNat) 0).toNat:Int))) Z (yK Z qH Z Z (by omega) (by omega)) (zI (zD [0,1,15] [_,_,_] Z (qZ (zE (zE (zB (zC 2 Z (zI (zD [0,1,15,16] [_,_,_,_] Z (yE Z (fun h16=>?_) (fun h16=>?_)))))))))))))))))
  ·
   refine qN (zD [0,1,15,16] [_,_,_,_] Z (yO (congrArg (fun b=>some (Value.bool b)) (decide_eq_true h16)) (zE (zB (zC 1 Z (zG Z (qS Z Z Z (by omega) (by omega)) (zC 1 Z (zI (zD [4] [_] Z (qK (qO Z Z fun w' hw=>?_)))))))))))
   exact ⟨ret_i (by first | exact (endI_neg (by omega)).symm | exact (endI_out (by omega)).symm | (refine Eq.trans ?_ (endI_case (f:=f) (i:=i) (by omega) (by omega)).symm;unfold endC chI;repeat (first | rw [if_pos (by omega)] | rw [if_neg (by omega)]))),hw.below⟩
  refine zB (zC 2 Z (zI (zD [0,1,15,16] [_,_,_,_] Z (yE Z (fun h16_1=>?_) (fun h16_1=>?_)))))
  ·
   refine zE (zB (zC 1 Z (zG Z (qS Z Z Z (by omega) (by omega)) (zC 1 Z (zI (zD [4] [_] Z (qK (qO Z Z fun w' hw=>?_))))))))
   exact ⟨ret_i (by first | exact (endI_neg (by omega)).symm | exact (endI_out (by omega)).symm | (refine Eq.trans ?_ (endI_case (f:=f) (i:=i) (by omega) (by omega)).symm;unfold endC chI;repeat (first | rw [if_pos (by omega)] | rw [if_neg (by omega)]))),hw.below⟩
  refine zE (zB (zC 2 Z (zI (zD [0,1,15,21] [_,_,_,_] Z (yE Z (fun h21=>?_) (fun h21=>?_))))))
  ·
   refine zE (zE (zB (zC 2 Z (zG Z (qS Z Z Z (by omega) (by omega)) (zG (v:=i6_ (varI f (i+(1:Int)))) Z (qR Z xC Z qG (fun w1 hw1=>l2Var_ok f (i+(1:Int)) w1 )) (zC 1 Z (zI (zD [1,27] [_,_] Z (yE Z (fun h27=>?_) (fun h27=>?_))))))))))
   ·
    refine zE (zB (zC 1 Z (zI (zD [4] [_] Z (qK (qO Z Z fun w' hw=>?_))))))
    exact ⟨ret_i (by first | exact (endI_neg (by omega)).symm | exact (endI_out (by omega)).symm | (refine Eq.trans ?_ (endI_case (f:=f) (i:=i) (by omega) (by omega)).symm;unfold endC chI;repeat (first | rw [if_pos (by omega)] | rw [if_neg (by omega)]))),hw.below⟩
   refine qN (zD [1] [_] Z (zE (zB (zC 1 Z (zG Z (qS Z Z Z (by omega) (by omega)) (zC 1 Z (zI (zD [4] [_] Z (qK (qO Z Z fun w' hw=>?_))))))))))
   exact ⟨ret_i (by first | exact (endI_neg (by omega)).symm | exact (endI_out (by omega)).symm | (refine Eq.trans ?_ (endI_case (f:=f) (i:=i) (by omega) (by omega)).symm;unfold endC chI;repeat (first | rw [if_pos (by omega)] | rw [if_neg (by omega)]))),hw.below⟩
  refine zE (zE (zB (zC 2 Z (zI (zD [0,1,15,30] [_,_,_,_] Z (yE Z (fun h30=>?_) (fun h30=>?_)))))))
  ·
   refine qN (zD [0,1,15,30] [_,_,_,_] Z (yO (congrArg (fun b=>some (Value.bool b)) (decide_eq_true h30)) (zE (zE (zB (zC 2 Z (zG Z (qS Z Z Z (by omega) (by omega)) (zG (v:=i6_ (varI f (i+(1:Int)))) Z (qR Z xC Z qG (fun w1 hw1=>l2Var_ok f (i+(1:Int)) w1 )) (zC 2 Z (xH fun b38 hg38=>?_))))))))))
   cases b38
   ·
    replace hg38:=zS hg38;refine zC 2 Z (zG Z (qS Z Z Z (by omega) (by omega)) (zG (v:=i6_ (varI f (i+(2:Int)))) Z (qR Z xC Z qG (fun w1 hw1=>l2Var_ok f (i+(2:Int)) w1 )) (zC 2 Z (zI (zD [1,44] [_,_] Z (yE Z (fun h44=>?_) (fun h44=>?_)))))))
    ·
     refine zE (zB (zC 1 Z (zI (zD [4] [_] Z (qK (qO Z Z fun w' hw=>?_))))))
     exact ⟨ret_i (by first | exact (endI_neg (by omega)).symm | exact (endI_out (by omega)).symm | (refine Eq.trans ?_ (endI_case (f:=f) (i:=i) (by omega) (by omega)).symm;unfold endC chI;repeat (first | rw [if_pos (by omega)] | rw [if_neg (by omega)]))),hw.below⟩
    refine qN (zD [1] [_] Z (zE (zB (zC 1 Z (zG Z (qS Z Z Z (by omega) (by omega)) (zC 1 Z (zI (zD [4] [_] Z (qK (qO Z Z fun w' hw=>?_))))))))))
    exact ⟨ret_i (by first | exact (endI_neg (by omega)).symm | exact (endI_out (by omega)).symm | (refine Eq.trans ?_ (endI_case (f:=f) (i:=i) (by omega) (by omega)).symm;unfold endC chI;repeat (first | rw [if_pos (by omega)] | rw [if_neg (by omega)]))),hw.below⟩
   replace hg38:=zW hg38;refine zR Z (zR Z (zR Z (zR Z (zR Z (zC 1 Z (zI (zD [1,44] [_,_] Z (yO Z (zE (zB (zC 1 Z (zI (zD [4] [_] Z (qK (qO Z Z fun w' hw=>?_)))))))))))))))
   exact ⟨ret_i (by first | exact (endI_neg (by omega)).symm | exact (endI_out (by omega)).symm | (refine Eq.trans ?_ (endI_case (f:=f) (i:=i) (by omega) (by omega)).symm;unfold endC chI;repeat (first | rw [if_pos (by omega)] | rw [if_neg (by omega)]))),hw.below⟩
  refine zB (zC 2 Z (zI (zD [0,1,15,30] [_,_,_,_] Z (yE Z (fun h30_1=>?_) (fun h30_1=>?_)))))
  ·
   refine zE (zE (zB (zC 2 Z (zG Z (qS Z Z Z (by omega) (by omega)) (zG (v:=i6_ (varI f (i+(1:Int)))) Z (qR Z xC Z qG (fun w1 hw1=>l2Var_ok f (i+(1:Int)) w1 )) (zC 2 Z (xH fun b38 hg38_1=>?_)))))))
   cases b38
   ·
    replace hg38_1:=zS hg38_1;refine zC 2 Z (zG Z (qS Z Z Z (by omega) (by omega)) (zG (v:=i6_ (varI f (i+(2:Int)))) Z (qR Z xC Z qG (fun w1 hw1=>l2Var_ok f (i+(2:Int)) w1 )) (zC 2 Z (zI (zD [1,44] [_,_] Z (yE Z (fun h44_1=>?_) (fun h44_1=>?_)))))))
    ·
     refine zE (zB (zC 1 Z (zI (zD [4] [_] Z (qK (qO Z Z fun w' hw=>?_))))))
     exact ⟨ret_i (by first | exact (endI_neg (by omega)).symm | exact (endI_out (by omega)).symm | (refine Eq.trans ?_ (endI_case (f:=f) (i:=i) (by omega) (by omega)).symm;unfold endC chI;repeat (first | rw [if_pos (by omega)] | rw [if_neg (by omega)]))),hw.below⟩
    refine qN (zD [1] [_] Z (zE (zB (zC 1 Z (zG Z (qS Z Z Z (by omega) (by omega)) (zC 1 Z (zI (zD [4] [_] Z (qK (qO Z Z fun w' hw=>?_))))))))))
    exact ⟨ret_i (by first | exact (endI_neg (by omega)).symm | exact (endI_out (by omega)).symm | (refine Eq.trans ?_ (endI_case (f:=f) (i:=i) (by omega) (by omega)).symm;unfold endC chI;repeat (first | rw [if_pos (by omega)] | rw [if_neg (by omega)]))),hw.below⟩
   replace hg38_1:=zW hg38_1;refine zR Z (zR Z (zR Z (zR Z (zR Z (zC 1 Z (zI (zD [1,44] [_,_] Z (yO Z (zE (zB (zC 1 Z (zI (zD [4] [_] Z (qK (qO Z Z fun w' hw=>?_)))))))))))))))
   exact ⟨ret_i (by first | exact (endI_neg (by omega)).symm | exact (endI_out (by omega)).symm | (refine Eq.trans ?_ (endI_case (f:=f) (i:=i) (by omega) (by omega)).symm;unfold endC chI;repeat (first | rw [if_pos (by omega)] | rw [if_neg (by omega)]))),hw.below⟩
  refine zE (zB (zC 2 Z (zI (zD [0,1,15,47] [_,_,_,_] Z (yE Z (fun h47=>?_) (fun h47=>?_))))))
  ·
   refine zE (zB (zC 2 Z (zG Z (qS Z Z Z (by omega) (by omega)) (zG (v:=i6_ (endI f (i+(1:Int)))) Z (qR Z xU Z qG (fun w1 hw1=>ih (i+(1:Int)) w1 (endM_lt (by omega) (by first | exact .inl (by omega) | exact .inr (by omega) | exact endI_gt (by omega))))) (zC 1 Z (zI (zD [4] [_] Z (qK (qO Z Z fun w' hw=>?_)))))))))
   exact ⟨ret_i (by first | exact (endI_neg (by omega)).symm | exact (endI_out (by omega)).symm | (refine Eq.trans ?_ (endI_case (f:=f) (i:=i) (by omega) (by omega)).symm;unfold endC chI;repeat (first | rw [if_pos (by omega)] | rw [if_neg (by omega)]))),hw.below⟩
  refine zE (zE (zB (zC 2 Z (zI (zD [0,1,15,53] [_,_,_,_] Z (yE Z (fun h53=>?_) (fun h53=>?_)))))))
  ·
   refine qN (zD [0,1,15,53] [_,_,_,_] Z (yO (congrArg (fun b=>some (Value.bool b)) (decide_eq_true h53)) (zE (zB (zC 3 Z (zG Z (qS Z Z Z (by omega) (by omega)) (zG (v:=i6_ (endI f (i+(1:Int)))) Z (qR Z xU Z qG (fun w1 hw1=>ih (i+(1:Int)) w1 (endM_lt (by omega) (by first | exact .inl (by omega) | exact .inr (by omega) | exact endI_gt (by omega))))) (zG (v:=i6_ (endI f (endI f (i+(1:Int))))) Z (qR Z xU Z qG (fun w1 hw1=>ih (endI f (i+(1:Int))) w1 (endM_lt (by omega) (by first | exact .inl (by omega) | exact .inr (by omega) | exact endI_gt (by omega))))) (zC 1 Z (zI (zD [4] [_] Z (qK (qO Z Z fun w' hw=>?_)))))))))))))
   exact ⟨ret_i (by first | exact (endI_neg (by omega)).symm | exact (endI_out (by omega)).symm | (refine Eq.trans ?_ (endI_case (f:=f) (i:=i) (by omega) (by omega)).symm;unfold endC chI;repeat (first | rw [if_pos (by omega)] | rw [if_neg (by omega)]))),hw.below⟩
  refine zB (zC 2 Z (zI (zD [0,1,15,53] [_,_,_,_] Z (yE Z (fun h53_1=>?_) (fun h53_1=>?_)))))
  ·
   refine zE (zB (zC 3 Z (zG Z (qS Z Z Z (by omega) (by omega)) (zG (v:=i6_ (endI f (i+(1:Int)))) Z (qR Z xU Z qG (fun w1 hw1=>ih (i+(1:Int)) w1 (endM_lt (by omega) (by first | exact .inl (by omega) | exact .inr (by omega) | exact endI_gt (by omega))))) (zG (v:=i6_ (endI f (endI f (i+(1:Int))))) Z (qR Z xU Z qG (fun w1 hw1=>ih (endI f (i+(1:Int))) w1 (endM_lt (by omega) (by first | exact .inl (by omega) | exact .inr (by omega) | exact endI_gt (by omega))))) (zC 1 Z (zI (zD [4] [_] Z (qK (qO Z Z fun w' hw=>?_))))))))))
   exact ⟨ret_i (by first | exact (endI_neg (by omega)).symm | exact (endI_out (by omega)).symm | (refine Eq.trans ?_ (endI_case (f:=f) (i:=i) (by omega) (by omega)).symm;unfold endC chI;repeat (first | rw [if_pos (by omega)] | rw [if_neg (by omega)]))),hw.below⟩
  refine zE (zE (zB (zC 2 Z (zI (zD [0,1,15,62] [_,_,_,_] Z (yE Z (fun h62=>?_) (fun h62=>?_)))))))
  ·
   refine qN (zD [0,1,62] [_,_,_] Z (yO (congrArg (fun b=>some (Value.bool b)) (decide_eq_true h62)) (zE (zE (zB (zC 2 Z (zG Z (qS Z Z Z (by omega) (by omega)) (zG (v:=i6_ (varI f (i+(1:Int)))) Z (qR Z xC Z qG (fun w1 hw1=>l2Var_ok f (i+(1:Int)) w1 )) (zC 1 Z (zI (zD [0,1,72] [_,_,_] Z (yE Z (fun h72=>?_) (fun h72=>?_)))))))))))))
   ·
    refine zE (zB (zC 1 Z (zI (zD [4] [_] Z (qK (qO Z Z fun w' hw=>?_))))))
    exact ⟨ret_i (by first | exact (endI_neg (by omega)).symm | exact (endI_out (by omega)).symm | (refine Eq.trans ?_ (endI_case (f:=f) (i:=i) (by omega) (by omega)).symm;unfold endC chI;repeat (first | rw [if_pos (by omega)] | rw [if_neg (by omega)]))),hw.below⟩
   refine qN (zD [0,1] [_,_] Z (zE (zB (zC 2 Z (zG Z (qS Z Z Z (by omega) (by omega)) (zG (v:=i6_ (endI f (i+(2:Int)))) Z (qR Z xU Z qG (fun w1 hw1=>ih (i+(2:Int)) w1 (endM_lt (by omega) (by first | exact .inl (by omega) | exact .inr (by omega) | exact endI_gt (by omega))))) (zC 1 Z (zI (zD [4] [_] Z (qK (qO Z Z fun w' hw=>?_)))))))))))
   exact ⟨ret_i (by first | exact (endI_neg (by omega)).symm | exact (endI_out (by omega)).symm | (refine Eq.trans ?_ (endI_case (f:=f) (i:=i) (by omega) (by omega)).symm;unfold endC chI;repeat (first | rw [if_pos (by omega)] | rw [if_neg (by omega)]))),hw.below⟩
  refine zE (zB (zC 2 Z (zI (zD [0,1,15,62] [_,_,_,_] Z (yE Z (fun h62_1=>?_) (fun h62_1=>?_))))))
  ·
   refine qN (zD [0,1,62] [_,_,_] Z (yO (congrArg (fun b=>some (Value.bool b)) (decide_eq_true h62_1)) (zE (zE (zB (zC 2 Z (zG Z (qS Z Z Z (by omega) (by omega)) (zG (v:=i6_ (varI f (i+(1:Int)))) Z (qR Z xC Z qG (fun w1 hw1=>l2Var_ok f (i+(1:Int)) w1 )) (zC 1 Z (zI (zD [0,1,72] [_,_,_] Z (yE Z (fun h72_1=>?_) (fun h72_1=>?_)))))))))))))
   ·
    refine zE (zB (zC 1 Z (zI (zD [4] [_] Z (qK (qO Z Z fun w' hw=>?_))))))
    exact ⟨ret_i (by first | exact (endI_neg (by omega)).symm | exact (endI_out (by omega)).symm | (refine Eq.trans ?_ (endI_case (f:=f) (i:=i) (by omega) (by omega)).symm;unfold endC chI;repeat (first | rw [if_pos (by omega)] | rw [if_neg (by omega)]))),hw.below⟩
   refine qN (zD [0,1] [_,_] Z (zE (zB (zC 2 Z (zG Z (qS Z Z Z (by omega) (by omega)) (zG (v:=i6_ (endI f (i+(2:Int)))) Z (qR Z xU Z qG (fun w1 hw1=>ih (i+(2:Int)) w1 (endM_lt (by omega) (by first | exact .inl (by omega) | exact .inr (by omega) | exact endI_gt (by omega))))) (zC 1 Z (zI (zD [4] [_] Z (qK (qO Z Z fun w' hw=>?_)))))))))))
   exact ⟨ret_i (by first | exact (endI_neg (by omega)).symm | exact (endI_out (by omega)).symm | (refine Eq.trans ?_ (endI_case (f:=f) (i:=i) (by omega) (by omega)).symm;unfold endC chI;repeat (first | rw [if_pos (by omega)] | rw [if_neg (by omega)]))),hw.below⟩
  refine zE (zB (zC 2 Z (zI (zD [0,1,15,62] [_,_,_,_] Z (yE Z (fun h62_2=>?_) (fun h62_2=>?_))))))
  ·
   refine qN (zD [0,1,62] [_,_,_] Z (yO (congrArg (fun b=>some (Value.bool b)) (decide_eq_true h62_2)) (zE (zE (zB (zC 2 Z (zG Z (qS Z Z Z (by omega) (by omega)) (zG (v:=i6_ (varI f (i+(1:Int)))) Z (qR Z xC Z qG (fun w1 hw1=>l2Var_ok f (i+(1:Int)) w1 )) (zC 1 Z (zI (zD [0,1,72] [_,_,_] Z (yE Z (fun h72_2=>?_) (fun h72_2=>?_)))))))))))))
   ·
    refine zE (zB (zC 1 Z (zI (zD [4] [_] Z (qK (qO Z Z fun w' hw=>?_))))))
    exact ⟨ret_i (by first | exact (endI_neg (by omega)).symm | exact (endI_out (by omega)).symm | (refine Eq.trans ?_ (endI_case (f:=f) (i:=i) (by omega) (by omega)).symm;unfold endC chI;repeat (first | rw [if_pos (by omega)] | rw [if_neg (by omega)]))),hw.below⟩
   refine qN (zD [0,1] [_,_] Z (zE (zB (zC 2 Z (zG Z (qS Z Z Z (by omega) (by omega)) (zG (v:=i6_ (endI f (i+(2:Int)))) Z (qR Z xU Z qG (fun w1 hw1=>ih (i+(2:Int)) w1 (endM_lt (by omega) (by first | exact .inl (by omega) | exact .inr (by omega) | exact endI_gt (by omega))))) (zC 1 Z (zI (zD [4] [_] Z (qK (qO Z Z fun w' hw=>?_)))))))))))
   exact ⟨ret_i (by first | exact (endI_neg (by omega)).symm | exact (endI_out (by omega)).symm | (refine Eq.trans ?_ (endI_case (f:=f) (i:=i) (by omega) (by omega)).symm;unfold endC chI;repeat (first | rw [if_pos (by omega)] | rw [if_neg (by omega)]))),hw.below⟩
  refine zE (zB (zC 2 Z (zI (zD [0,1,15,62] [_,_,_,_] Z (yE Z (fun h62_3=>?_) (fun h62_3=>?_))))))
  ·
   refine qN (zD [0,1,62] [_,_,_] Z (yO (congrArg (fun b=>some (Value.bool b)) (decide_eq_true h62_3)) (zE (zE (zB (zC 2 Z (zG Z (qS Z Z Z (by omega) (by omega)) (zG (v:=i6_ (varI f (i+(1:Int)))) Z (qR Z xC Z qG (fun w1 hw1=>l2Var_ok f (i+(1:Int)) w1 )) (zC 1 Z (zI (zD [0,1,72] [_,_,_] Z (yE Z (fun h72_3=>?_) (fun h72_3=>?_)))))))))))))
   ·
    refine zE (zB (zC 1 Z (zI (zD [4] [_] Z (qK (qO Z Z fun w' hw=>?_))))))
    exact ⟨ret_i (by first | exact (endI_neg (by omega)).symm | exact (endI_out (by omega)).symm | (refine Eq.trans ?_ (endI_case (f:=f) (i:=i) (by omega) (by omega)).symm;unfold endC chI;repeat (first | rw [if_pos (by omega)] | rw [if_neg (by omega)]))),hw.below⟩
   refine qN (zD [0,1] [_,_] Z (zE (zB (zC 2 Z (zG Z (qS Z Z Z (by omega) (by omega)) (zG (v:=i6_ (endI f (i+(2:Int)))) Z (qR Z xU Z qG (fun w1 hw1=>ih (i+(2:Int)) w1 (endM_lt (by omega) (by first | exact .inl (by omega) | exact .inr (by omega) | exact endI_gt (by omega))))) (zC 1 Z (zI (zD [4] [_] Z (qK (qO Z Z fun w' hw=>?_)))))))))))
   exact ⟨ret_i (by first | exact (endI_neg (by omega)).symm | exact (endI_out (by omega)).symm | (refine Eq.trans ?_ (endI_case (f:=f) (i:=i) (by omega) (by omega)).symm;unfold endC chI;repeat (first | rw [if_pos (by omega)] | rw [if_neg (by omega)]))),hw.below⟩
  refine zB (zC 2 Z (zI (zD [0,1,62] [_,_,_] Z (yE Z (fun h62_4=>?_) (fun h62_4=>?_)))))
  ·
   refine zE (zE (zB (zC 2 Z (zG Z (qS Z Z Z (by omega) (by omega)) (zG (v:=i6_ (varI f (i+(1:Int)))) Z (qR Z xC Z qG (fun w1 hw1=>l2Var_ok f (i+(1:Int)) w1 )) (zC 1 Z (zI (zD [0,1,72] [_,_,_] Z (yE Z (fun h72_4=>?_) (fun h72_4=>?_))))))))))
   ·
    refine zE (zB (zC 1 Z (zI (zD [4] [_] Z (qK (qO Z Z fun w' hw=>?_))))))
    exact ⟨ret_i (by first | exact (endI_neg (by omega)).symm | exact (endI_out (by omega)).symm | (refine Eq.trans ?_ (endI_case (f:=f) (i:=i) (by omega) (by omega)).symm;unfold endC chI;repeat (first | rw [if_pos (by omega)] | rw [if_neg (by omega)]))),hw.below⟩
   refine qN (zD [0,1] [_,_] Z (zE (zB (zC 2 Z (zG Z (qS Z Z Z (by omega) (by omega)) (zG (v:=i6_ (endI f (i+(2:Int)))) Z (qR Z xU Z qG (fun w1 hw1=>ih (i+(2:Int)) w1 (endM_lt (by omega) (by first | exact .inl (by omega) | exact .inr (by omega) | exact endI_gt (by omega))))) (zC 1 Z (zI (zD [4] [_] Z (qK (qO Z Z fun w' hw=>?_)))))))))))
   exact ⟨ret_i (by first | exact (endI_neg (by omega)).symm | exact (endI_out (by omega)).symm | (refine Eq.trans ?_ (endI_case (f:=f) (i:=i) (by omega) (by omega)).symm;unfold endC chI;repeat (first | rw [if_pos (by omega)] | rw [if_neg (by omega)]))),hw.below⟩
  refine qN (zD [] [] Z (zE (zB (zC 1 Z (zI (zD [4] [_] Z (qK (qO Z Z fun w' hw=>?_))))))))
  exact ⟨ret_i (by first | exact (endI_neg (by omega)).symm | exact (endI_out (by omega)).symm | (refine Eq.trans ?_ (endI_case (f:=f) (i:=i) (by omega) (by omega)).symm;unfold endC chI;repeat (first | rw [if_pos (by omega)] | rw [if_neg (by omega)]))),hw.below⟩
 replace hg7:=zW hg7;refine zR Z (zR Z (zR Z (zR Z (zC 1 Z (zI (zD [0,1,12] [_,_,_] Z (yO Z (zE (zB (zC 1 Z (zI (zD [4] [_] Z (qK (qO Z Z fun w' hw=>?_))))))))))))))
 exact ⟨ret_i (by first | exact (endI_neg (by omega)).symm | exact (endI_out (by omega)).symm | (refine Eq.trans ?_ (endI_case (f:=f) (i:=i) (by omega) (by omega)).symm;unfold endC chI;repeat (first | rw [if_pos (by omega)] | rw [if_neg (by omega)]))),hw.below⟩
theorem l2End_ok (f:List UInt8) (i:Int) (w:World) (hf:f.length≤1048576):Calls Tryd.prog 135 #[str f,.int .i64 i] w fun en w'=>en=.returned (.int .i64 (endI f i))∧Below w.heap.size w w':=by
  have key:∀ (m:Nat) (i:Int) (w:World),endM f i≤m→Calls Tryd.prog 135 #[str f,.int .i64 i] w fun en w'=>en=.returned (.int .i64 (endI f i))∧Below w.heap.size w w':=fun m=>by
    induction m with
    | zero=>exact fun i w hm=>l2End_step f i w hf fun j w h5=>absurd h5 (by omega)
    | succ m ihm=>exact fun i w hm=>l2End_step f i w hf fun j w h5=>ihm j w (by omega)
  exact key _ i w (Nat.le_refl _)
set_option maxHeartbeats 400000 in
theorem l2Quant_ok (c:UInt8) (w:World) :
    Calls Tryd.prog 137 [.int .u8 (c.toNat:Int)].toArray w fun en w'=>en=.returned (.bool (decide (quI (c.toNat:Int))))∧Below w.heap.size w w':=by
 refine fnStart (n:=6) (e:=[(0,.int .u8 (c.toNat:Int))]) Tryd.func137 Z Z Z Z Ends.both (zE (zB (zC 1 Z (zI (zD [0] [_] Z (zE (zB (zC 1 Z (zG (v:=i6_ (findS ([65,83,50,51,52]) (c.toNat:Int))) Z (qR Z Tryd.call103 Z qG (fun w1 hw1=>l15Find_ok ([65,83,50,51,52]) (c.toNat:Int) w1 (by first | decide | omega))) (zC 2 Z (zI (zD [2] [_] Z (qK (qO Z Z fun w' hw=>?_))))))))))))))
 exact ⟨ret_b (find_quant c),hw.below⟩
set_option maxHeartbeats 400000 in
theorem l2Free_step (f:List UInt8) (n:Nat) (p:Fm) (e:Nat) (w:World) (hf:f.length≤1048576) (hP:Pa f n p e) (ih:∀ (i:Int) (k:Nat) (p:Fm) (e:Nat) (w:World),i=(k:Int)→n<k→Pa f k p e→Calls Tryd.prog 106 #[str f,.int .i64 i] w fun en w'=>en=.returned (.tuple #[.int .i64 (frB p:Int),.int .i64 (e:Int)])∧Below w.heap.size w w') :
    Calls Tryd.prog 106 [str f,i6_ (n:Int)].toArray w fun en w'=>en=.returned (.tuple #[.int .i64 (frB p:Int),.int .i64 (e:Int)])∧Below w.heap.size w w':=by
 refine fnStart (n:=113) (e:=[(0,str f),(1,i6_ (n:Int))]) Tryd.func106 Z Z Z Z Ends.both ?_
 have hn:=hP.lt
 have hne:=hP.2;refine zE (zB (zC 2 Z (zI (zD [0,1] [_,_] Z (zE (qZ (zE (zB (zC 2 Z (zG (v:=.int .u8 (((f.getD ((n:Int).toNat) 0).toNat:Int))) Z (yK Z qH Z Z (by omega) (by omega)) (zC 2 Z (xH fun b17 hg17=>?_))))))))))))
 cases b17
 ·
  replace hg17:=zS hg17;refine zC 2 Z (zG (v:=.int .u8 (((f.getD ((n:Int).toNat) 0).toNat:Int))) Z (yK Z qH Z Z (by omega) (by omega)) (zC 3 Z (zI (zD [0,1,12] [_,_,_] Z (yE Z (fun h12=>?_) (fun h12=>?_))))))
  ·
   refine zE (zB (zC 1 Z (zG Z (qS Z Z Z (by omega) (by omega)) (zC 2 Z (zI (zD [4,5] [_,_] Z (qK (yU Z Z Z fun w' hw=>?_))))))))
   obtain ⟨rfl,rfl⟩:=hP.i0 (by omega)
   exact ⟨rfl,hw.below⟩
  refine zE (zB (zC 2 Z (zG (v:=.int .u8 (((f.getD ((n:Int).toNat) 0).toNat:Int))) Z (yK Z qH Z Z (by omega) (by omega)) (zC 2 Z (zI (zD [0,1,25] [_,_,_] Z (yC (b:=decide ((((f.getD ((n:Int).toNat) 0).toNat:Int))=(80:Int))) Z (fun h25=>?_) (fun h25=>?_))))))))
  ·
   replace h25:=zW h25
   obtain ⟨hl1,hv1,rfl,rfl⟩:=hP.i1 (by omega)
   have hw1:=(vI_lt hv1).1
   have hb1:=bit_lt hw1;refine zE (zB (zC 2 Z (zG Z (qS Z Z Z (by omega) (by omega)) (zG (v:=i6_ ((vI (f.getD (n+1) 0):Int))) Z (qR Z xC Z qG (fun w1 hw1=>l2Var_at f ((n:Int)+(1:Int)) (n+1) w1 (by omega) hl1 hv1)) (zG (v:=.int .u64 ((vI (f.getD (n+1) 0):Int))) Z (jI .u64 Z yS jP Z (IntWalk.u64_in _ (by omega))) (zG (v:=i6_ (((1*2 ^ (vI (f.getD (n+1) 0)):Nat):Int))) Z (vB (a:=1) (b:=vI (f.getD (n+1) 0)) Z Z Z (by omega) (by omega)) (zC 1 Z (zG Z (qS Z Z Z (by omega) (by omega)) (zC 2 Z (zI (zD [4,5] [_,_] Z (qK (yU Z Z Z fun w' hw=>?_)))))))))))))
   exact ⟨by rw [fre1 80] <;> rfl,hw.below⟩
  replace h25:=zS h25;refine zE (zB (zC 2 Z (zG (v:=.int .u8 (((f.getD ((n:Int).toNat) 0).toNat:Int))) Z (yK Z qH Z Z (by omega) (by omega)) (zC 2 Z (xH fun b43 hg43=>?_)))))
  cases b43
  ·
   replace hg43:=zS hg43;refine zC 2 Z (zG (v:=.int .u8 (((f.getD ((n:Int).toNat) 0).toNat:Int))) Z (yK Z qH Z Z (by omega) (by omega)) (zC 3 Z (zI (zD [0,1,38] [_,_,_] Z (yC (b:=decide ((((f.getD ((n:Int).toNat) 0).toNat:Int))=(69:Int))) Z (fun h38=>?_) (fun h38=>?_))))))
   ·
    replace h38:=zW h38
    obtain ⟨hl2,hv1,hv2,rfl,rfl⟩:=hP.i2 (by omega)
    have hl1:n+1<f.length:=by omega
    have hw1:=(vI_lt hv1).1
    have hw2:=(vI_lt hv2).1
    have hb1:=bit_lt hw1
    have hb2:=bit_lt hw2;refine zE (zB (zC 2 Z (zG Z (qS Z Z Z (by omega) (by omega)) (zG (v:=i6_ ((vI (f.getD (n+1) 0):Int))) Z (qR Z xC Z qG (fun w1 hw1=>l2Var_at f ((n:Int)+(1:Int)) (n+1) w1 (by omega) hl1 hv1)) (zG (v:=.int .u64 ((vI (f.getD (n+1) 0):Int))) Z (jI .u64 Z yS jP Z (IntWalk.u64_in _ (by omega))) (zG (v:=i6_ (((1*2 ^ (vI (f.getD (n+1) 0)):Nat):Int))) Z (vB (a:=1) (b:=vI (f.getD (n+1) 0)) Z Z Z (by omega) (by omega)) (zC 2 Z (zG Z (qS Z Z Z (by omega) (by omega)) (zG (v:=i6_ ((vI (f.getD (n+2) 0):Int))) Z (qR Z xC Z qG (fun w1 hw1=>l2Var_at f ((n:Int)+(2:Int)) (n+2) w1 (by omega) hl2 hv2)) (zG (v:=.int .u64 ((vI (f.getD (n+2) 0):Int))) Z (jI .u64 Z yS jP Z (IntWalk.u64_in _ (by omega))) (zG (v:=i6_ (((1*2 ^ (vI (f.getD (n+2) 0)):Nat):Int))) Z (vB (a:=1) (b:=vI (f.getD (n+2) 0)) Z Z Z (by omega) (by omega)) (zG (v:=i6_ ((((1*2 ^ (vI (f.getD (n+1) 0))) ||| (1*2 ^ (vI (f.getD (n+2) 0))):Nat):Int))) Z (xA (a:=1*2 ^ (vI (f.getD (n+1) 0))) (b:=1*2 ^ (vI (f.getD (n+2) 0))) Z Z Z (by omega) (by omega)) (zC 1 Z (zG Z (qS Z Z Z (by omega) (by omega)) (zC 2 Z (zI (zD [4,5] [_,_] Z (qK (yU Z Z Z fun w' hw=>?_)))))))))))))))))))
    exact ⟨by rw [fre2 (f.getD n 0)] <;> rfl,hw.below⟩
   replace h38:=zS h38;refine zE (zB (zC 2 Z (zG (v:=.int .u8 (((f.getD ((n:Int).toNat) 0).toNat:Int))) Z (yK Z qH Z Z (by omega) (by omega)) (zC 2 Z (zI (zD [0,1,64] [_,_,_] Z (yC (b:=decide ((((f.getD ((n:Int).toNat) 0).toNat:Int))=(33:Int))) Z (fun h64=>?_) (fun h64=>?_))))))))
   ·
    replace h64:=zW h64
    obtain ⟨q,hq,rfl⟩:=hP.i3 (by omega);refine zE (zB (zC 2 Z (zG Z (qS Z Z Z (by omega) (by omega)) (zG (v:=.tuple #[i6_ (frB q:Int),i6_ (e:Int)]) Z (qR Z Tryd.call106 Z qG (fun w1 hw1=>ih ((n:Int)+(1:Int)) (n+1) q e w1 (by omega) (by omega) hq)) (zG (v:=i6_ (frB q:Int)) Z (qX Z Z Z) (zG (v:=i6_ (e:Int)) Z (qX Z Z Z) (zC 2 Z (zI (zD [4,5] [_,_] Z (qK (yU Z Z Z fun w' hw=>?_)))))))))))
    exact ⟨rfl,hw.below⟩
   replace h64:=zS h64;refine zE (zB (zC 2 Z (zG (v:=.int .u8 (((f.getD ((n:Int).toNat) 0).toNat:Int))) Z (yK Z qH Z Z (by omega) (by omega)) (zG (v:=bo_ (decide (quI (((f.getD ((n:Int).toNat) 0).toNat:Int))))) Z (qR Z Tryd.call137 Z qG (fun w1 hw1=>l2Quant_ok (f.getD ((n:Int).toNat) 0) w1)) (zC 1 Z (zI (zD [0,1,75] [_,_,_] Z (yC (b:=decide (quI (((f.getD ((n:Int).toNat) 0).toNat:Int)))) Z (fun h75=>?_) (fun h75=>?_)))))))))
   ·
    replace h75:=zW h75
    obtain ⟨hl1,hv1,q,hq,rfl⟩:=hP.i5 (by assumption)
    have hw1:=(vI_lt hv1).1
    have hb1:=bit_lt hw1
    have hf1:=frB_lt hq.wf;refine zE (zB (zC 2 Z (zG Z (qS Z Z Z (by omega) (by omega)) (zG (v:=.tuple #[i6_ (frB q:Int),i6_ (e:Int)]) Z (qR Z Tryd.call106 Z qG (fun w1 hw1=>ih ((n:Int)+(2:Int)) (n+2) q e w1 (by omega) (by omega) hq)) (zC 1 Z (zG (v:=i6_ (frB q:Int)) Z (qX Z Z Z) (zG (v:=i6_ (e:Int)) Z (qX Z Z Z) (zC 2 Z (zI (zD [0,1,6,7] [_,_,_,_] Z (zE (zB (zC 3 Z (zG Z (qS Z Z Z (by omega) (by omega)) (zG (v:=i6_ ((vI (f.getD (n+1) 0):Int))) Z (qR Z xC Z qG (fun w1 hw1=>l2Var_at f ((n:Int)+(1:Int)) (n+1) w1 (by omega) hl1 hv1)) (zG (v:=.int .u64 ((vI (f.getD (n+1) 0):Int))) Z (jI .u64 Z yS jP Z (IntWalk.u64_in _ (by omega))) (zG (v:=i6_ (((1*2 ^ (vI (f.getD (n+1) 0)):Nat):Int))) Z (vB (a:=1) (b:=vI (f.getD (n+1) 0)) Z Z Z (by omega) (by omega)) (zG (v:=i6_ ((((frB q) &&& (15 ^^^ (1*2 ^ (vI (f.getD (n+1) 0)))):Nat):Int))) Z (vK (a:=frB q) (b:=1*2 ^ (vI (f.getD (n+1) 0))) Z Z Z (by omega) (by omega)) (zC 3 Z (zI (zD [4,5] [_,_] Z (qK (yU Z Z Z fun w' hw=>?_)))))))))))))))))))))))
    exact ⟨by rw [freq (f.getD n 0)] <;> rfl,hw.below⟩
   replace h75:=zS h75
   unfold quI at h75
   obtain ⟨q,m,q2,hq,hq2,rfl⟩:=hP.i4 (by have:=hP.io;omega)
   have hqm:=hq.2
   have hf1:=frB_lt hq.wf
   have hf2:=frB_lt hq2.wf;refine qN (zD [0,1] [_,_] Z (zE (zB (zC 2 Z (zG Z (qS Z Z Z (by omega) (by omega)) (zG (v:=.tuple #[i6_ (frB q:Int),i6_ (m:Int)]) Z (qR Z Tryd.call106 Z qG (fun w1 hw1=>ih ((n:Int)+(1:Int)) (n+1) q m w1 (by omega) (by omega) hq)) (zC 1 Z (zG (v:=i6_ (frB q:Int)) Z (qX Z Z Z) (zG (v:=i6_ (m:Int)) Z (qX Z Z Z) (zC 2 Z (zI (zD [0,8,9] [_,_,_] Z (zE (zB (zC 2 Z (zG (v:=.tuple #[i6_ (frB q2:Int),i6_ (e:Int)]) Z (qR Z Tryd.call106 Z qG (fun w1 hw1=>ih (m:Int) m q2 e w1 (by omega) (by omega) hq2)) (zC 1 Z (zG (v:=i6_ (frB q2:Int)) Z (qX Z Z Z) (zG (v:=i6_ (e:Int)) Z (qX Z Z Z) (zC 2 Z (zI (zD [8,10,11] [_,_,_] Z (zE (zB (zC 2 Z (zG (v:=i6_ ((((frB q) ||| (frB q2):Nat):Int))) Z (xA (a:=frB q) (b:=frB q2) Z Z Z (by omega) (by omega)) (zC 3 Z (zI (zD [4,5] [_,_] Z (qK (yU Z Z Z fun w' hw=>?_)))))))))))))))))))))))))))))))
   exact ⟨rfl,hw.below⟩
  replace hg43:=zW hg43
  obtain ⟨hl2,hv1,hv2,rfl,rfl⟩:=hP.i2 (by omega)
  have hl1:n+1<f.length:=by omega
  have hw1:=(vI_lt hv1).1
  have hw2:=(vI_lt hv2).1
  have hb1:=bit_lt hw1
  have hb2:=bit_lt hw2;refine zR Z (zR Z (zR Z (zR Z (zC 2 Z (zI (zD [0,1,38] [_,_,_] Z (yO Z (zE (zB (zC 2 Z (zG Z (qS Z Z Z (by omega) (by omega)) (zG (v:=i6_ ((vI (f.getD (n+1) 0):Int))) Z (qR Z xC Z qG (fun w1 hw1=>l2Var_at f ((n:Int)+(1:Int)) (n+1) w1 (by omega) hl1 hv1)) (zG (v:=.int .u64 ((vI (f.getD (n+1) 0):Int))) Z (jI .u64 Z yS jP Z (IntWalk.u64_in _ (by omega))) (zG (v:=i6_ (((1*2 ^ (vI (f.getD (n+1) 0)):Nat):Int))) Z (vB (a:=1) (b:=vI (f.getD (n+1) 0)) Z Z Z (by omega) (by omega)) (zC 2 Z (zG Z (qS Z Z Z (by omega) (by omega)) (zG (v:=i6_ ((vI (f.getD (n+2) 0):Int))) Z (qR Z xC Z qG (fun w1 hw1=>l2Var_at f ((n:Int)+(2:Int)) (n+2) w1 (by omega) hl2 hv2)) (zG (v:=.int .u64 ((vI (f.getD (n+2) 0):Int))) Z (jI .u64 Z yS jP Z (IntWalk.u64_in _ (by omega))) (zG (v:=i6_ (((1*2 ^ (vI (f.getD (n+2) 0)):Nat):Int))) Z (vB (a:=1) (b:=vI (f.getD (n+2) 0)) Z Z Z (by omega) (by omega)) (zG (v:=i6_ ((((1*2 ^ (vI (f.getD (n+1) 0))) ||| (1*2 ^ (vI (f.getD (n+2) 0))):Nat):Int))) Z (xA (a:=1*2 ^ (vI (f.getD (n+1) 0))) (b:=1*2 ^ (vI (f.getD (n+2) 0))) Z Z Z (by omega) (by omega)) (zC 1 Z (zG Z (qS Z Z Z (by omega) (by omega)) (zC 2 Z (zI (zD [4,5] [_,_] Z (qK (yU Z Z Z fun w' hw=>?_)))))))))))))))))))))))))))
  exact ⟨by rw [fre2 (f.getD n 0)] <;> rfl,hw.below⟩
 replace hg17:=zW hg17;refine zR Z (zR Z (zR Z (zR Z (zC 2 Z (zI (zD [0,1,12] [_,_,_] Z (yO Z (zE (zB (zC 1 Z (zG Z (qS Z Z Z (by omega) (by omega)) (zC 2 Z (zI (zD [4,5] [_,_] Z (qK (yU Z Z Z fun w' hw=>?_))))))))))))))))
 obtain ⟨rfl,rfl⟩:=hP.i0 (by omega)
 exact ⟨rfl,hw.below⟩
theorem l2Free_ok (f:List UInt8) (i:Int) (n:Nat) (p:Fm) (e:Nat) (w:World) (hf:f.length≤1048576) (hi:i=(n:Int)) (hP:Pa f n p e):Calls Tryd.prog 106 #[str f,.int .i64 i] w fun en w'=>en=.returned (.tuple #[.int .i64 (frB p:Int),.int .i64 (e:Int)])∧Below w.heap.size w w':=by
  have key:∀ (m n:Nat) (p:Fm) (e:Nat) (w:World),f.length - n≤m→Pa f n p e→Calls Tryd.prog 106 #[str f,.int .i64 (n:Int)] w fun en w'=>en=.returned (.tuple #[.int .i64 (frB p:Int),.int .i64 (e:Int)])∧Below w.heap.size w w':=fun m=>by
    induction m with
    | zero=>exact fun n p e w hm hP=>absurd hP.lt (by omega)
    | succ m ihm=>exact fun n p e w hm hP=>l2Free_step f n p e w hf hP fun i k p e w h1 h2 h3=>by subst h1;exact ihm k p e w (by have:=h3.lt;omega) h3
  subst hi;exact key _ n p e w (Nat.le_refl _) hP
set_option maxHeartbeats 1600000 in
theorem l2Holds_step (a:St) (f:List UInt8) (n:Nat) (p:Fm) (e:Nat) (en4:List Int) (w:World) (hf:f.length≤1048576) (ha:a.Fine) (_hsa:a.Small) (hP:Pa f n p e) (hE:EnvA a en4) (ih:∀ (i:Int) (k:Nat) (p:Fm) (e:Nat) (en4:List Int) (w:World),i=(k:Int)→n<k→Pa f k p e→EnvA a en4→Calls Tryd.prog 109 #[vS a,str f,.int .i64 i,.agg (ints en4).toArray] w fun en w'=>en=.returned (.tuple #[.bool (ev a p en4),.int .i64 (e:Int)])∧Below w.heap.size w w') :
    Calls Tryd.prog 109 [vS a,str f,i6_ (n:Int),.agg ((ints en4).toArray)].toArray w fun en w'=>en=.returned (.tuple #[.bool (ev a p en4),.int .i64 (e:Int)])∧Below w.heap.size w w':=by
 refine fnStart (n:=182) (e:=[(0,vS a),(1,str f),(2,i6_ (n:Int)),(3,.agg ((ints en4).toArray))]) Tryd.func109 Z Z Z Z Ends.both ?_
 have hn:=hP.lt
 have hne:=hP.2
 have hE4:=hE.1
 have hcn:((f.getD (n:Int).toNat 0).toNat:Int)=((f.getD n 0).toNat:Int):=rfl;refine zE (qF (jD (v:=vS a) Z Z Z Z Z fun p4 hp4=>?_))
 show Ll _ _ (Own _ _ [_]) _ _ ((4,pt_ p4)::_) _ _ _;refine jD (v:=.agg ((ints en4).toArray)) Z Z Z Z Z fun p7 hp7=>?_
 show Ll _ _ (Own _ _ [_,_]) _ _ ((7,pt_ p7)::_) _ _ _;refine qI 2 Z (zL (zD [1,2,4,7] [_,_,_,_] Z (zE (zE (zB (zC 2 Z (zG (v:=.int .u8 (((f.getD ((n:Int).toNat) 0).toNat:Int))) Z (yK Z qH Z Z (by omega) (by omega)) (zI (zD [1,2,4,7,21] [_,_,_,_,_] Z (qZ (zE (zE (zB (zC 2 Z (zI (zD [1,2,4,7,21,22] [_,_,_,_,_,_] Z (yE Z (fun h22=>?_) (fun h22=>?_))))))))))))))))))
 ·
  refine qN (zD [1,2,4,7,21,22] [_,_,_,_,_,_] Z (yO (congrArg (fun b=>some (Value.bool b)) (decide_eq_true h22)) (zE (zB (zC 2 Z (zG (v:=.int .u8 (((f.getD ((n:Int).toNat) 0).toNat:Int))) Z (yK Z qH Z Z (by omega) (by omega)) (zC 2 Z (zG Z (qS Z Z Z (by omega) (by omega)) (zC 2 Z (zI (zD [8,9] [_,_] Z (qK (yU Z Z Z fun w' hw=>?_)))))))))))))
  obtain ⟨rfl,rfl⟩:=hP.i0 (by omega)
  exact ⟨congrArg (fun b=>Ending.returned (.tuple #[.bool b,_])) (ev_tf (by omega)),hw.below⟩
 refine zB (zC 2 Z (zI (zD [1,2,4,7,21,22] [_,_,_,_,_,_] Z (yE Z (fun h22_1=>?_) (fun h22_1=>?_)))))
 ·
  refine zE (zB (zC 2 Z (zG (v:=.int .u8 (((f.getD ((n:Int).toNat) 0).toNat:Int))) Z (yK Z qH Z Z (by omega) (by omega)) (zC 2 Z (zG Z (qS Z Z Z (by omega) (by omega)) (zC 2 Z (zI (zD [8,9] [_,_] Z (qK (yU Z Z Z fun w' hw=>?_))))))))))
  obtain ⟨rfl,rfl⟩:=hP.i0 (by omega)
  exact ⟨congrArg (fun b=>Ending.returned (.tuple #[.bool b,_])) (ev_tf (by omega)),hw.below⟩
 refine zE (zB (zC 2 Z (zI (zD [1,2,4,7,21,31] [_,_,_,_,_,_] Z (yC (b:=decide ((((f.getD ((n:Int).toNat) 0).toNat:Int))=(80:Int))) Z (fun h31=>?_) (fun h31=>?_))))))
 ·
  replace h31:=zW h31
  obtain ⟨hl1,hv1,rfl,rfl⟩:=hP.i1 (by omega)
  have hw1:=(vI_lt hv1).1
  have hx1:=hE.at hw1;refine zE (jG yH (fun _ h=>h.drawn) (by kernel_rfl) (zG Z (qW (cs:=#[i6_ a.n,str a.set,str a.rel]) 1 Z qV Z Z qT) (zC 2 Z (zG Z (qS Z Z Z (by omega) (by omega)) (zG (v:=i6_ ((vI (f.getD (n+1) 0):Int))) Z (qR Z xC Z qG (fun w1 hw1=>l2Var_at f ((n:Int)+(1:Int)) (n+1) w1 (by omega) hl1 hv1)) (zG (v:=pf_ p7 ((vI (f.getD (n+1) 0)))) Z (yG (v':=pf_ p7 ((vI (f.getD (n+1) 0)))) (by first | rfl | (congr 3;omega)) (vO (i:=(vI (f.getD (n+1) 0):Int)) Z jX zJ Z Z (by omega) (by omega))) (zG (v:=i6_ (en4.getD ((vI (f.getD (n+1) 0))) 0)) Z (xZ 0 Z zU Z Z (Go.Wk.ints_at (by first | (simp;done) | (simp;omega) | omega))) (zG (v:=bo_ (a.inSet (en4.getD ((vI (f.getD (n+1) 0))) 0))) Z (qR Z Tryd.call119 Z qG (fun w1 hw1=>l1Set_ok a (en4.getD ((vI (f.getD (n+1) 0))) 0) w1 ha (by first | assumption | exact St.Els.at (by assumption) (by omega) (by omega)))) (zC 1 Z (zG Z (qS Z Z Z (by omega) (by omega)) (zC 2 Z (zI (zD [8,9] [_,_] Z (qK (yU Z Z Z fun w' hw=>?_)))))))))))))))
  exact ⟨rfl,hw.below⟩
 replace h31:=zS h31;refine zE (zB (zC 2 Z (zI (zD [1,2,4,7,21,43] [_,_,_,_,_,_] Z (yC (b:=decide ((((f.getD ((n:Int).toNat) 0).toNat:Int))=(61:Int))) Z (fun h43=>?_) (fun h43=>?_))))))
 ·
  replace h43:=zW h43
  obtain ⟨hl2,hv1,hv2,rfl,rfl⟩:=hP.i2 (by omega)
  have hl1:n+1<f.length:=by omega
  have hw1:=(vI_lt hv1).1
  have hw2:=(vI_lt hv2).1
  have hx1:=hE.at hw1
  have hx2:=hE.at hw2;refine zE (jG yH (fun _ h=>h.drawn) (by kernel_rfl) (zC 2 Z (zG Z (qS Z Z Z (by omega) (by omega)) (zG (v:=i6_ ((vI (f.getD (n+1) 0):Int))) Z (qR Z xC Z qG (fun w1 hw1=>l2Var_at f ((n:Int)+(1:Int)) (n+1) w1 (by omega) hl1 hv1)) (zG (v:=pf_ p7 ((vI (f.getD (n+1) 0)))) Z (yG (v':=pf_ p7 ((vI (f.getD (n+1) 0)))) (by first | rfl | (congr 3;omega)) (vO (i:=(vI (f.getD (n+1) 0):Int)) Z jX zJ Z Z (by omega) (by omega))) (zG (v:=i6_ (en4.getD ((vI (f.getD (n+1) 0))) 0)) Z (xZ 0 Z zU Z Z (Go.Wk.ints_at (by first | (simp;done) | (simp;omega) | omega))) (zC 2 Z (zG Z (qS Z Z Z (by omega) (by omega)) (zG (v:=i6_ ((vI (f.getD (n+2) 0):Int))) Z (qR Z xC Z qG (fun w1 hw1=>l2Var_at f ((n:Int)+(2:Int)) (n+2) w1 (by omega) hl2 hv2)) (zG (v:=pf_ p7 ((vI (f.getD (n+2) 0)))) Z (yG (v':=pf_ p7 ((vI (f.getD (n+2) 0)))) (by first | rfl | (congr 3;omega)) (vO (i:=(vI (f.getD (n+2) 0):Int)) Z jX zJ Z Z (by omega) (by omega))) (zG (v:=i6_ (en4.getD ((vI (f.getD (n+2) 0))) 0)) Z (xZ 0 Z zU Z Z (Go.Wk.ints_at (by first | (simp;done) | (simp;omega) | omega))) (zC 2 Z (zG Z (qS Z Z Z (by omega) (by omega)) (zC 2 Z (zI (zD [8,9] [_,_] Z (qK (yU Z Z Z fun w' hw=>?_))))))))))))))))))
  exact ⟨congrArg (fun b=>Ending.returned (.tuple #[.bool b,_])) (ev_eq (by assumption)),hw.below⟩
 replace h43:=zS h43;refine zE (zB (zC 2 Z (zI (zD [1,2,4,7,21,60] [_,_,_,_,_,_] Z (yC (b:=decide ((((f.getD ((n:Int).toNat) 0).toNat:Int))=(69:Int))) Z (fun h60=>?_) (fun h60=>?_))))))
 ·
  replace h60:=zW h60
  obtain ⟨hl2,hv1,hv2,rfl,rfl⟩:=hP.i2 (by omega)
  have hl1:n+1<f.length:=by omega
  have hw1:=(vI_lt hv1).1
  have hw2:=(vI_lt hv2).1
  have hx1:=hE.at hw1
  have hx2:=hE.at hw2;refine zE (jG yH (fun _ h=>h.drawn) (by kernel_rfl) (zG Z (qW (cs:=#[i6_ a.n,str a.set,str a.rel]) 1 Z qV Z Z qT) (zC 2 Z (zG Z (qS Z Z Z (by omega) (by omega)) (zG (v:=i6_ ((vI (f.getD (n+1) 0):Int))) Z (qR Z xC Z qG (fun w1 hw1=>l2Var_at f ((n:Int)+(1:Int)) (n+1) w1 (by omega) hl1 hv1)) (zG (v:=pf_ p7 ((vI (f.getD (n+1) 0)))) Z (yG (v':=pf_ p7 ((vI (f.getD (n+1) 0)))) (by first | rfl | (congr 3;omega)) (vO (i:=(vI (f.getD (n+1) 0):Int)) Z jX zJ Z Z (by omega) (by omega))) (zG (v:=i6_ (en4.getD ((vI (f.getD (n+1) 0))) 0)) Z (xZ 0 Z zU Z Z (Go.Wk.ints_at (by first | (simp;done) | (simp;omega) | omega))) (zC 2 Z (zG Z (qS Z Z Z (by omega) (by omega)) (zG (v:=i6_ ((vI (f.getD (n+2) 0):Int))) Z (qR Z xC Z qG (fun w1 hw1=>l2Var_at f ((n:Int)+(2:Int)) (n+2) w1 (by omega) hl2 hv2)) (zG (v:=pf_ p7 ((vI (f.getD (n+2) 0)))) Z (yG (v':=pf_ p7 ((vI (f.getD (n+2) 0)))) (by first | rfl | (congr 3;omega)) (vO (i:=(vI (f.getD (n+2) 0):Int)) Z jX zJ Z Z (by omega) (by omega))) (zG (v:=i6_ (en4.getD ((vI (f.getD (n+2) 0))) 0)) Z (xZ 0 Z zU Z Z (Go.Wk.ints_at (by first | (simp;done) | (simp;omega) | omega))) (zG (v:=bo_ (a.inRel (en4.getD ((vI (f.getD (n+1) 0))) 0) (en4.getD ((vI (f.getD (n+2) 0))) 0))) Z (qR Z Tryd.call120 Z qG (fun w1 hw1=>l1Rel_ok a (en4.getD ((vI (f.getD (n+1) 0))) 0) (en4.getD ((vI (f.getD (n+2) 0))) 0) w1 ha (by first | assumption | exact St.Els.at (by assumption) (by omega) (by omega)) (by first | assumption | exact St.Els.at (by assumption) (by omega) (by omega)))) (zC 1 Z (zG Z (qS Z Z Z (by omega) (by omega)) (zC 2 Z (zI (zD [8,9] [_,_] Z (qK (yU Z Z Z fun w' hw=>?_))))))))))))))))))))
  exact ⟨congrArg (fun b=>Ending.returned (.tuple #[.bool b,_])) (ev_rel (by assumption)),hw.below⟩
 replace h60:=zS h60;refine zE (zB (zC 2 Z (zI (zD [1,2,4,7,21,78] [_,_,_,_,_,_] Z (yC (b:=decide ((((f.getD ((n:Int).toNat) 0).toNat:Int))=(33:Int))) Z (fun h78=>?_) (fun h78=>?_))))))
 ·
  replace h78:=zW h78
  obtain ⟨q,hq,rfl⟩:=hP.i3 (by omega);refine zE (zB (zG Z (qW (cs:=#[i6_ a.n,str a.set,str a.rel]) 1 Z qV Z Z qT) (zC 2 Z (zG Z (qS Z Z Z (by omega) (by omega)) (zG Z (qW (cs:=(ints en4).toArray) 0 Z Tryd.isAgg98 Z Z (by intro w;rw [show (ints en4).toArray.size=4 from by simp [hE.1]];exact vR w)) (zG (v:=.tuple #[bo_ (ev a q en4),i6_ (e:Int)]) Z (qR Z Tryd.call109 Z qG (fun w1 hw1=>ih ((n:Int)+(1:Int)) (n+1) q e en4 w1 (by omega) (by omega) hq hE)) (zC 1 Z (zG (v:=bo_ (ev a q en4)) Z (qX Z Z Z) (zG (v:=i6_ (e:Int)) Z (qX Z Z Z) (zC 2 Z (zI (zD [10,11] [_,_] Z (zE (zB (zC 5 Z (zI (zD [8,9] [_,_] Z (qK (yU Z Z Z fun w' hw=>?_)))))))))))))))))))
  exact ⟨rfl,hw.below⟩
 replace h78:=zS h78;refine zE (zE (zB (zC 2 Z (zI (zD [1,2,4,7,21,92] [_,_,_,_,_,_] Z (yC (b:=decide ((((f.getD ((n:Int).toNat) 0).toNat:Int))=(38:Int))) Z (fun h92=>?_) (fun h92=>?_)))))))
 ·
  replace h92:=zW h92
  obtain ⟨q,m,q2,hq,hq2,rfl⟩:=hP.i4 (by omega)
  have hqm:=hq.2
  have hqm2:=hq2.2;refine qN (zD [1,2,4,7,92] [_,_,_,_,_] Z (yO (congrArg (fun b=>some (Value.bool b)) (decide_eq_true h92)) (zE (zB (zG Z (qW (cs:=#[i6_ a.n,str a.set,str a.rel]) 1 Z qV Z Z qT) (zC 2 Z (zG Z (qS Z Z Z (by omega) (by omega)) (zG Z (qW (cs:=(ints en4).toArray) 0 Z Tryd.isAgg98 Z Z (by intro w;rw [show (ints en4).toArray.size=4 from by simp [hE.1]];exact vR w)) (zG (v:=.tuple #[bo_ (ev a q en4),i6_ (m:Int)]) Z (qR Z Tryd.call109 Z qG (fun w1 hw1=>ih ((n:Int)+(1:Int)) (n+1) q m en4 w1 (by omega) (by omega) hq hE)) (zC 1 Z (zG (v:=bo_ (ev a q en4)) Z (qX Z Z Z) (zG (v:=i6_ (m:Int)) Z (qX Z Z Z) (zC 2 Z (zI (zD [1,2,4,7,12,13] [_,_,_,_,_,_] Z (zE (zE (zB (zC 3 Z (zG (v:=.int .u8 (((f.getD ((n:Int).toNat) 0).toNat:Int))) Z (yK Z qH Z Z (by omega) (by omega)) (zC 1 Z (zG Z (OpQ.beq Z xV Z Z) (zI (zD [1,4,7,12,13,109] [_,_,_,_,_,_] Z (yC (b:=(ev a q en4)==(decide ((((f.getD ((n:Int).toNat) 0).toNat:Int))=(124:Int)))) Z (fun h109=>?_) (fun h109=>?_))))))))))))))))))))))))))
  ·
   have hb109:=h109;refine zE (zB (zC 3 Z (zG (v:=i6_ (e:Int)) Z (yG (by rw [hq2.endI]) (qR Z xU Z qG (fun w1 hw1=>l2End_ok f (m:Int) w1 hf))) (zC 2 Z (zI (zD [8,9] [_,_] Z (qK (yU Z Z Z fun w' hw=>?_))))))))
   exact ⟨congrArg (fun b=>Ending.returned (.tuple #[.bool b,_])) (two_short (by omega) hb109),hw.below⟩
  have hb109:=h109;refine qN (zD [1,4,7,13] [_,_,_,_] Z (zE (zB (zG Z (qW (cs:=#[i6_ a.n,str a.set,str a.rel]) 1 Z qV Z Z qT) (zC 2 Z (zG Z (qW (cs:=(ints en4).toArray) 0 Z Tryd.isAgg98 Z Z (by intro w;rw [show (ints en4).toArray.size=4 from by simp [hE.1]];exact vR w)) (zG (v:=.tuple #[bo_ (ev a q2 en4),i6_ (e:Int)]) Z (qR Z Tryd.call109 Z qG (fun w1 hw1=>ih (m:Int) m q2 e en4 w1 (by omega) (by omega) hq2 hE)) (zG (v:=bo_ (ev a q2 en4)) Z (qX Z Z Z) (zG (v:=i6_ (e:Int)) Z (qX Z Z Z) (zC 2 Z (zI (zD [8,9] [_,_] Z (qK (yU Z Z Z fun w' hw=>?_))))))))))))))
  exact ⟨congrArg (fun b=>Ending.returned (.tuple #[.bool b,_])) (two_long (by omega) hb109),hw.below⟩
 replace h92:=zS h92;refine zB (zC 2 Z (zI (zD [1,2,4,7,92] [_,_,_,_,_] Z (yC (b:=decide ((((f.getD ((n:Int).toNat) 0).toNat:Int))=(124:Int))) Z (fun h92_1=>?_) (fun h92_1=>?_)))))
 ·
  replace h92_1:=zW h92_1
  obtain ⟨q,m,q2,hq,hq2,rfl⟩:=hP.i4 (by omega)
  have hqm:=hq.2
  have hqm2:=hq2.2;refine zE (zB (zG Z (qW (cs:=#[i6_ a.n,str a.set,str a.rel]) 1 Z qV Z Z qT) (zC 2 Z (zG Z (qS Z Z Z (by omega) (by omega)) (zG Z (qW (cs:=(ints en4).toArray) 0 Z Tryd.isAgg98 Z Z (by intro w;rw [show (ints en4).toArray.size=4 from by simp [hE.1]];exact vR w)) (zG (v:=.tuple #[bo_ (ev a q en4),i6_ (m:Int)]) Z (qR Z Tryd.call109 Z qG (fun w1 hw1=>ih ((n:Int)+(1:Int)) (n+1) q m en4 w1 (by omega) (by omega) hq hE)) (zC 1 Z (zG (v:=bo_ (ev a q en4)) Z (qX Z Z Z) (zG (v:=i6_ (m:Int)) Z (qX Z Z Z) (zC 2 Z (zI (zD [1,2,4,7,12,13] [_,_,_,_,_,_] Z (zE (zE (zB (zC 3 Z (zG (v:=.int .u8 (((f.getD ((n:Int).toNat) 0).toNat:Int))) Z (yK Z qH Z Z (by omega) (by omega)) (zC 1 Z (zG Z (OpQ.beq Z xV Z Z) (zI (zD [1,4,7,12,13,109] [_,_,_,_,_,_] Z (yC (b:=(ev a q en4)==(decide ((((f.getD ((n:Int).toNat) 0).toNat:Int))=(124:Int)))) Z (fun h109_1=>?_) (fun h109_1=>?_)))))))))))))))))))))))
  ·
   have hb109:=h109_1;refine zE (zB (zC 3 Z (zG (v:=i6_ (e:Int)) Z (yG (by rw [hq2.endI]) (qR Z xU Z qG (fun w1 hw1=>l2End_ok f (m:Int) w1 hf))) (zC 2 Z (zI (zD [8,9] [_,_] Z (qK (yU Z Z Z fun w' hw=>?_))))))))
   exact ⟨congrArg (fun b=>Ending.returned (.tuple #[.bool b,_])) (two_short (by omega) hb109),hw.below⟩
  have hb109:=h109_1;refine qN (zD [1,4,7,13] [_,_,_,_] Z (zE (zB (zG Z (qW (cs:=#[i6_ a.n,str a.set,str a.rel]) 1 Z qV Z Z qT) (zC 2 Z (zG Z (qW (cs:=(ints en4).toArray) 0 Z Tryd.isAgg98 Z Z (by intro w;rw [show (ints en4).toArray.size=4 from by simp [hE.1]];exact vR w)) (zG (v:=.tuple #[bo_ (ev a q2 en4),i6_ (e:Int)]) Z (qR Z Tryd.call109 Z qG (fun w1 hw1=>ih (m:Int) m q2 e en4 w1 (by omega) (by omega) hq2 hE)) (zG (v:=bo_ (ev a q2 en4)) Z (qX Z Z Z) (zG (v:=i6_ (e:Int)) Z (qX Z Z Z) (zC 2 Z (zI (zD [8,9] [_,_] Z (qK (yU Z Z Z fun w' hw=>?_))))))))))))))
  exact ⟨congrArg (fun b=>Ending.returned (.tuple #[.bool b,_])) (two_long (by omega) hb109),hw.below⟩
 replace h92_1:=zS h92_1
 have hqu:quI ((f.getD (n:Int).toNat 0).toNat:Int):=by have:=hP.io;unfold quI;omega
 obtain ⟨hl1,hv1,q,hq,rfl⟩:=hP.i5 hqu
 have hw1:=(vI_lt hv1).1
 have hqm:=hq.2
 have hm8:=ha.hi
 have hm1:=ha.lo;refine qN (zD [1,2,4,7] [_,_,_,_] Z (zE (zB (zC 1 Z (zI (zD [1,2,4,7,14] [_,_,_,_,_] Z (zE (zE (zB (zC 2 Z (zG (v:=.int .u8 (((f.getD ((n:Int).toNat) 0).toNat:Int))) Z (yK Z qH Z Z (by omega) (by omega)) (zI (zD [1,2,4,7,14,123] [_,_,_,_,_,_] Z (jA (σ:=Unit) (fun _=>True) (fun _=>[(1,str f),(2,i6_ (n:Int)),(4,pt_ p4),(7,pt_ p7),(14,i6_ (need (f.getD n 0) a.n.toNat:Int))]) (fun _=>Own w.heap.size w [bk_ p7 ((ints en4).toArray) 98,bk_ p4 #[i6_ a.n,str a.set,str a.rel] 24]) ?_ ?_))))))))))))))
 ·
  refine qZ (zE (zB (zC 2 Z (zI (zD [1,2,4,7,14,123,124] [_,_,_,_,_,_,_] Z (yE Z (fun h124=>?_) (fun h124=>?_)))))))
  ·
   refine zB (zG Z (zH Z qC Z zJ Z Z) (zG Z (zQ 1 Z zU Z Z Z) (zC 1 Z (zI (qJ () trivial (Sub.cons Z (Sub.cons Z (Sub.cons Z (Sub.cons Z (Sub.cons (by rw [show ((need (f.getD n 0) a.n.toNat:Nat):Int)=_ from need65 (by assumption) (by omega)];rfl) Sub.nil))))) (fun _ h=>h))))))
  refine zE (zE (zB (zC 2 Z (zI (zD [1,2,4,7,14,123,128] [_,_,_,_,_,_,_] Z (yE Z (fun h128=>?_) (fun h128=>?_)))))))
  ·
   refine qN (zD [1,2,4,7,14,128] [_,_,_,_,_,_] Z (yO (congrArg (fun b=>some (Value.bool b)) (decide_eq_true h128)) (zB (zC 2 Z (zG (v:=.int .u8 (((f.getD ((n:Int).toNat) 0).toNat:Int))) Z (yK Z qH Z Z (by omega) (by omega)) (zG (v:=i6_ (((f.getD ((n:Int).toNat) 0).toNat:Int))) Z (jI .i64 Z vG yS Z (IntWalk.i64_in _ (by have:=UInt8.toNat_lt (f.getD ((n:Int).toNat) 0);omega))) (zG Z (jO Z Z Z (by omega) (by omega)) (zC 1 Z (zI (qJ () trivial (Sub.cons Z (Sub.cons Z (Sub.cons Z (Sub.cons Z (Sub.cons (by rw [show ((need (f.getD n 0) a.n.toNat:Nat):Int)=_ from need234 (by omega)];rfl) Sub.nil))))) (fun _ h=>h)))))))))))
  refine zE (zB (zC 2 Z (zI (zD [1,2,4,7,14,123,128] [_,_,_,_,_,_,_] Z (yE Z (fun h128_1=>?_) (fun h128_1=>?_))))))
  ·
   refine qN (zD [1,2,4,7,14,128] [_,_,_,_,_,_] Z (yO (congrArg (fun b=>some (Value.bool b)) (decide_eq_true h128_1)) (zB (zC 2 Z (zG (v:=.int .u8 (((f.getD ((n:Int).toNat) 0).toNat:Int))) Z (yK Z qH Z Z (by omega) (by omega)) (zG (v:=i6_ (((f.getD ((n:Int).toNat) 0).toNat:Int))) Z (jI .i64 Z vG yS Z (IntWalk.i64_in _ (by have:=UInt8.toNat_lt (f.getD ((n:Int).toNat) 0);omega))) (zG Z (jO Z Z Z (by omega) (by omega)) (zC 1 Z (zI (qJ () trivial (Sub.cons Z (Sub.cons Z (Sub.cons Z (Sub.cons Z (Sub.cons (by rw [show ((need (f.getD n 0) a.n.toNat:Nat):Int)=_ from need234 (by omega)];rfl) Sub.nil))))) (fun _ h=>h)))))))))))
  refine zB (zC 2 Z (zI (zD [1,2,4,7,14,128] [_,_,_,_,_,_] Z (yE Z (fun h128_2=>?_) (fun h128_2=>?_)))))
  ·
   refine zB (zC 2 Z (zG (v:=.int .u8 (((f.getD ((n:Int).toNat) 0).toNat:Int))) Z (yK Z qH Z Z (by omega) (by omega)) (zG (v:=i6_ (((f.getD ((n:Int).toNat) 0).toNat:Int))) Z (jI .i64 Z vG yS Z (IntWalk.i64_in _ (by have:=UInt8.toNat_lt (f.getD ((n:Int).toNat) 0);omega))) (zG Z (jO Z Z Z (by omega) (by omega)) (zC 1 Z (zI (qJ () trivial (Sub.cons Z (Sub.cons Z (Sub.cons Z (Sub.cons Z (Sub.cons (by rw [show ((need (f.getD n 0) a.n.toNat:Nat):Int)=_ from need234 (by omega)];rfl) Sub.nil))))) (fun _ h=>h))))))))
  refine qN (qJ () trivial (Sub.cons Z (Sub.cons Z (Sub.cons Z (Sub.cons Z (Sub.cons (by rw [show ((need (f.getD n 0) a.n.toNat:Nat):Int)=_ from need83 (by have:=hqu;unfold quI at this;omega)];rfl) Sub.nil))))) (fun _ h=>h))
 rintro _ hj;refine zD [1,2,4,7,14] [_,_,_,_,_] Z (zE (zB (zC 1 Z (zI (zD [1,2,4,7,14,15] [_,_,_,_,_,_] Z (zE (zE (zB (zC 1 Z (zI (zD [1,2,4,7,14,15,16] [_,_,_,_,_,_,_] Z (qZ (jH (σ:=Nat×List Int) (fun ⟨x,E⟩=>(x:Int)≤a.n∧E.length=4∧∀ z:Int,E.set (vI (f.getD (n+1) 0)) z=en4.set (vI (f.getD (n+1) 0)) z) (fun ⟨x,E⟩=>[(1,str f),(2,i6_ (n:Int)),(4,pt_ p4),(7,pt_ p7),(14,i6_ (need (f.getD n 0) a.n.toNat:Int)),(15,i6_ ((cntT (evC a (f.getD (n+1) 0) q en4) x:Int))),(16,i6_ (x:Int))]) (fun ⟨x,E⟩=>Own w.heap.size w [bk_ p7 ((ints E).toArray) 98,bk_ p4 #[i6_ a.n,str a.set,str a.rel] 24]) (fun ⟨x,E⟩=>(a.n - x).toNat) (0,en4) ⟨by omega,hE.1,fun _=>rfl⟩ (Sub.cons Z (Sub.cons Z (Sub.cons Z (Sub.cons Z (Sub.cons Z (Sub.cons (by rfl) (Sub.sel [16] Z))))))) (fun _ h=>h) ?_)))))))))))))
 rintro ⟨x,E⟩ ⟨hx,hEl,hEs⟩
 dsimp only
 have hcx:=cntT_le (evC a (f.getD (n+1) 0) q en4) x;refine zE (zE (zB (zC 1 Z (zG Z (zH Z qC Z zJ Z Z) (zG Z (zQ 1 Z zU Z Z Z) (zC 2 Z (xH fun b141 hg141=>?_)))))))
 cases b141
 ·
  replace hg141:=zS hg141;refine zR Z (zR Z (zR Z (zC 1 Z (zI (zD [1,2,4,7,14,15,16,145] [_,_,_,_,_,_,_,_] Z (xO Z (xB Z (zD [1,2,14,15] [_,_,_,_] Z (zE (zB (zC 5 Z (zG Z (qS Z Z Z (by omega) (by omega)) (zG (v:=i6_ (e:Int)) Z (yG (by rw [show (n:Int)+2=((n+2:Nat):Int) from rfl,hq.endI]) (qR Z xU Z qG (fun w1 hw1=>l2End_ok f ((n:Int)+(2:Int)) w1 hf))) (zC 2 Z (zI (zD [8,9] [_,_] Z (qK (yU Z Z Z fun w' hw=>?_))))))))))))))))))
  exact ⟨by exact congrArg (fun b=>Ending.returned (.tuple #[.bool b,_])) (ev_quant (c:=f.getD n 0) hqu (quant_end (x:=x) (by omega) (by omega))),hw.below⟩
 replace hg141:=zW hg141;refine zC 4 Z (zI (zD [1,2,4,7,14,15,16,145] [_,_,_,_,_,_,_,_] Z (yE Z (fun h145=>?_) (fun h145=>?_))))
 ·
  refine qN (zD [1,2,4,7,14,15,16] [_,_,_,_,_,_,_] Z (zE (qZ (zE (qF (qI 2 Z (zM Z (qS Z Z Z (by omega) (by omega)) (zM (v:=i6_ ((vI (f.getD (n+1) 0):Int))) Z (qR Z xC Z qG (fun w1 hw1=>l2Var_at f ((n:Int)+(1:Int)) (n+1) w1 (by omega) hl1 hv1)) (qI 1 Z (zM (v:=pf_ p7 ((vI (f.getD (n+1) 0)))) Z (yG (v':=pf_ p7 ((vI (f.getD (n+1) 0)))) (by first | rfl | (congr 3;omega)) (vO (i:=(vI (f.getD (n+1) 0):Int)) Z jX zJ Z Z (by omega) (by omega))) ?_))))))))));refine qM (v:=i6_ (x:Int)) (hs':=[bk_ p7 ((ints (E.set ((vI (f.getD (n+1) 0))) (x:Int))).toArray) 98,_]) 0 Z Z Z Z Z Z zJ Z (by rw [List.size_toArray,ints_length];omega) (by first | (rw [ints_set];rfl) | (simp only [Nat.zero_add];rw [ints_set];rfl)) ?_;refine zL (zD [1,2,4,7,14,15,16] [_,_,_,_,_,_,_] Z (zE (zB (zG Z (qW (cs:=#[i6_ a.n,str a.set,str a.rel]) 1 Z qV Z Z qT) (zC 2 Z (zG Z (qS Z Z Z (by omega) (by omega)) (zG Z (qW (cs:=(ints (E.set ((vI (f.getD (n+1) 0))) (x:Int))).toArray) 0 Z Tryd.isAgg98 Z Z (by intro w;rw [show (ints (E.set ((vI (f.getD (n+1) 0))) (x:Int))).toArray.size=4 from by simp [hEl]];exact vR w)) (zG (v:=.tuple #[bo_ (ev a q ((E.set ((vI (f.getD (n+1) 0))) (x:Int)))),i6_ (e:Int)]) Z (qR Z Tryd.call109 Z qG (fun w1 hw1=>ih ((n:Int)+(2:Int)) (n+2) q e ((E.set ((vI (f.getD (n+1) 0))) (x:Int))) w1 (by omega) (by omega) hq (by rw [hEs];exact hE.set ⟨by omega,by omega⟩))) (zC 1 Z (zG (v:=bo_ (ev a q ((E.set ((vI (f.getD (n+1) 0))) (x:Int))))) Z (qX Z Z Z) (zG (v:=i6_ (e:Int)) Z (qX Z Z Z) (zC 2 Z (zI (zD [1,2,4,7,14,15,16,17] [_,_,_,_,_,_,_,_] Z (zE (zE (zB (zC 1 Z (zI (zD [1,2,4,7,14,15,16,163] [_,_,_,_,_,_,_,_] Z (yC (b:=ev a q ((E.set ((vI (f.getD (n+1) 0))) (x:Int)))) Z (fun h163=>?_) (fun h163=>?_))))))))))))))))))))))
  ·
   have hF:evC a (f.getD (n+1) 0) q en4 x=true:=evC_of hEs h163
   have hcs:=cnt_yes hF;refine zB (zC 1 Z (zG Z (qS Z Z Z (by omega) (by omega)) (zC 1 Z (zI (zD [1,2,4,7,14,15,16] [_,_,_,_,_,_,_] Z (zE (zB (zC 1 Z (zG Z (zH Z qC Z zJ Z Z) (zG Z (zQ 1 Z zU Z Z Z) (zG Z (qS Z Z Z (by omega) (by omega)) (zC 1 Z (zG Z (jO Z Z Z (by omega) (by omega)) (zG Z (jO Z Z Z (by omega) (by omega)) (zC 2 Z (zI (zD [1,2,4,7,14,15,16,174] [_,_,_,_,_,_,_,_] Z (yE Z (fun h174=>?_) (fun h174=>?_)))))))))))))))))))
   ·
    refine xB Z (zD [1,2,14,15] [_,_,_,_] Z (zE (zB (zC 5 Z (zG Z (qS Z Z Z (by omega) (by omega)) (zG (v:=i6_ (e:Int)) Z (yG (by rw [show (n:Int)+2=((n+2:Nat):Int) from rfl,hq.endI]) (qR Z xU Z qG (fun w1 hw1=>l2End_ok f ((n:Int)+(2:Int)) w1 hf))) (zC 2 Z (zI (zD [8,9] [_,_] Z (qK (yU Z Z Z fun w' hw=>?_)))))))))))
    exact ⟨by rw [hcs];exact congrArg (fun b=>Ending.returned (.tuple #[.bool b,_])) (ev_quant (c:=f.getD n 0) hqu (quant_end (x:=(x+1)) (by omega) (by omega))),hw.below⟩
   refine qN (zD [1,2,4,7,14,15,16] [_,_,_,_,_,_,_] Z (zB (zC 1 Z (zG Z (qS Z Z Z (by omega) (by omega)) (zC 1 Z (zI (yZ ((x+1,E.set ((vI (f.getD (n+1) 0))) (x:Int))) ⟨by omega,by simp [hEl],fun z=>by dsimp only;rw [List.set_set];exact hEs z⟩ (by omega) (Sub.cons Z (Sub.cons Z (Sub.cons Z (Sub.cons Z (Sub.cons Z (Sub.cons (by rw [← hcs];rfl) (Sub.sel [16] Z))))))) (fun _ h=>h))))))))
  have hF:evC a (f.getD (n+1) 0) q en4 x=false:=evC_of hEs (by simpa using h163)
  have hcs:=cnt_no hF;refine qN (zD [1,2,4,7,14,15,16] [_,_,_,_,_,_,_] Z (zE (zB (zC 1 Z (zG Z (zH Z qC Z zJ Z Z) (zG Z (zQ 1 Z zU Z Z Z) (zG Z (qS Z Z Z (by omega) (by omega)) (zC 1 Z (zG Z (jO Z Z Z (by omega) (by omega)) (zG Z (jO Z Z Z (by omega) (by omega)) (zC 2 Z (zI (zD [1,2,4,7,14,15,16,174] [_,_,_,_,_,_,_,_] Z (yE Z (fun h174_1=>?_) (fun h174_1=>?_)))))))))))))))
  ·
   refine xB Z (zD [1,2,14,15] [_,_,_,_] Z (zE (zB (zC 5 Z (zG Z (qS Z Z Z (by omega) (by omega)) (zG (v:=i6_ (e:Int)) Z (yG (by rw [show (n:Int)+2=((n+2:Nat):Int) from rfl,hq.endI]) (qR Z xU Z qG (fun w1 hw1=>l2End_ok f ((n:Int)+(2:Int)) w1 hf))) (zC 2 Z (zI (zD [8,9] [_,_] Z (qK (yU Z Z Z fun w' hw=>?_)))))))))))
   exact ⟨by rw [← hcs];exact congrArg (fun b=>Ending.returned (.tuple #[.bool b,_])) (ev_quant (c:=f.getD n 0) hqu (quant_end (x:=(x+1)) (by omega) (by omega))),hw.below⟩
  refine qN (zD [1,2,4,7,14,15,16] [_,_,_,_,_,_,_] Z (zB (zC 1 Z (zG Z (qS Z Z Z (by omega) (by omega)) (zC 1 Z (zI (yZ ((x+1,E.set ((vI (f.getD (n+1) 0))) (x:Int))) ⟨by omega,by simp [hEl],fun z=>by dsimp only;rw [List.set_set];exact hEs z⟩ (by omega) (Sub.cons Z (Sub.cons Z (Sub.cons Z (Sub.cons Z (Sub.cons Z (Sub.cons (by rw [hcs];rfl) (Sub.sel [16] Z))))))) (fun _ h=>h))))))))
 refine xB Z (zD [1,2,14,15] [_,_,_,_] Z (zE (zB (zC 5 Z (zG Z (qS Z Z Z (by omega) (by omega)) (zG (v:=i6_ (e:Int)) Z (yG (by rw [show (n:Int)+2=((n+2:Nat):Int) from rfl,hq.endI]) (qR Z xU Z qG (fun w1 hw1=>l2End_ok f ((n:Int)+(2:Int)) w1 hf))) (zC 2 Z (zI (zD [8,9] [_,_] Z (qK (yU Z Z Z fun w' hw=>?_)))))))))))
 exact ⟨by exact congrArg (fun b=>Ending.returned (.tuple #[.bool b,_])) (ev_quant (c:=f.getD n 0) hqu (quant_end (x:=x) (by omega) (by omega))),hw.below⟩
theorem l2Holds_ok (a:St) (f:List UInt8) (i:Int) (n:Nat) (p:Fm) (e:Nat) (en4:List Int) (w:World) (hf:f.length≤1048576) (hi:i=(n:Int)) (ha:a.Fine) (hsa:a.Small) (hP:Pa f n p e) (hE:EnvA a en4):Calls Tryd.prog 109 #[vS a,str f,.int .i64 i,.agg (ints en4).toArray] w fun en w'=>en=.returned (.tuple #[.bool (ev a p en4),.int .i64 (e:Int)])∧Below w.heap.size w w':=by
  have key:∀ (m n:Nat) (p:Fm) (e:Nat) (en4:List Int) (w:World),f.length - n≤m→Pa f n p e→EnvA a en4→Calls Tryd.prog 109 #[vS a,str f,.int .i64 (n:Int),.agg (ints en4).toArray] w fun en w'=>en=.returned (.tuple #[.bool (ev a p en4),.int .i64 (e:Int)])∧Below w.heap.size w w':=fun m=>by
    induction m with
    | zero=>exact fun n p e en4 w hm hP hE=>absurd hP.lt (by omega)
    | succ m ihm=>exact fun n p e en4 w hm hP hE=>l2Holds_step a f n p e en4 w hf ha hsa hP hE fun i k p e en4 w h1 h2 h3 h4=>by subst h1;exact ihm k p e en4 w (by have:=h3.lt;omega) h3 h4
  subst hi;exact key _ n p e en4 w (Nat.le_refl _) hP hE
set_option maxHeartbeats 400000 in
theorem sFValid_ok (f:List UInt8) (w:World) (hf:f.length≤1048576) :
    Calls Tryd.prog 105 [str f].toArray w fun en w'=>en=.returned (.bool (formO f).isSome)∧Below w.heap.size w w':=by
 refine fnStart (n:=13) (e:=[(0,str f)]) Tryd.func105 Z Z Z Z Ends.both (zE (zB (zC 1 Z (zI (zD [0] [_] Z (zE (zB (zC 1 Z (zG (v:=i6_ (f.length:Int)) Z (xN Z qH Z) (zC 2 Z (xH fun b6 hg6=>?_)))))))))))
 cases b6
 ·
  replace hg6:=zS hg6;refine zR Z (zR Z (zR Z (zR Z (zR Z (zC 2 Z (zI (zD [2] [_] Z (qK (qO Z Z fun w' hw=>?_)))))))))
  exact ⟨ret_b (by first | (rw [formO_some,decide_eq_true (show (f.length:Int)≤4000 by omega),Bool.true_and]) | (rw [formO_some,decide_eq_false (show ¬ (f.length:Int)≤4000 by omega)];rfl)),hw.below⟩
 replace hg6:=zW hg6;refine zC 1 Z (zG (v:=i6_ (endI f 0)) Z (qR Z xU Z qG (fun w1 hw1=>l2End_ok f 0 w1 hf)) (zC 1 Z (zG (v:=i6_ (f.length:Int)) Z (xN Z qH Z) (zC 3 Z (zI (zD [2] [_] Z (qK (qO Z Z fun w' hw=>?_))))))))
 exact ⟨ret_b (by first | (rw [formO_some,decide_eq_true (show (f.length:Int)≤4000 by omega),Bool.true_and]) | (rw [formO_some,decide_eq_false (show ¬ (f.length:Int)≤4000 by omega)];rfl)),hw.below⟩
set_option maxHeartbeats 400000 in
theorem l2True_ok (a:St) (f:List UInt8) (p:Fm) (en4:List Int) (w:World) (hf:f.length≤1048576) (ha:a.Fine) (hsa:a.Small) (hP:Pa f 0 p f.length) (hE:EnvA a en4) :
    Calls Tryd.prog 70 [vS a,str f,.agg ((ints en4).toArray)].toArray w fun en w'=>en=.returned (.bool (ev a p en4))∧Below w.heap.size w w':=by
 refine fnStart (n:=17) (e:=[(0,vS a),(1,str f),(2,.agg ((ints en4).toArray))]) Tryd.func70 Z Z Z Z Ends.both (zE (qF (jD (v:=vS a) Z Z Z Z Z fun p3 hp3=>?_)))
 show Ll _ _ (Own _ _ [_]) _ _ ((3,pt_ p3)::_) _ _ _;refine jD (v:=.agg ((ints en4).toArray)) Z Z Z Z Z fun p5 hp5=>?_
 show Ll _ _ (Own _ _ [_,_]) _ _ ((5,pt_ p5)::_) _ _ _;refine qI 1 Z (zL (zD [1,3,5] [_,_,_] Z (zE (zB (zG Z (qW (cs:=#[i6_ a.n,str a.set,str a.rel]) 1 Z qV Z Z qT) (zC 1 Z (zG Z (qW (cs:=(ints en4).toArray) 0 Z Tryd.isAgg98 Z Z (by intro w;rw [show (ints en4).toArray.size=4 from by simp [hE.1]];exact vR w)) (zG (v:=.tuple #[bo_ (ev a p en4),i6_ (f.length:Int)]) Z (qR Z Tryd.call109 Z qG (fun w1 hw1=>l2Holds_ok a f 0 0 p f.length en4 w1 hf (by omega) ha hsa hP hE)) (zC 1 Z (zG (v:=bo_ (ev a p en4)) Z (qX Z Z Z) (zG (v:=i6_ (f.length:Int)) Z (qX Z Z Z) (zC 2 Z (zI (zD [7] [_] Z (zE (zB (zC 2 Z (zI (zD [6] [_] Z (qK (qO Z Z fun w' hw=>?_)))))))))))))))))))))
 exact ⟨rfl,hw.below⟩
end Go.Proofs.YtagbocafnliabaaDoor
