/-
  FnSpread: all that its proof names (part 2)
-/
import Derived.Test.YtefiibghfgfdnaaDoorKFnSpreada
import Derived.MapKept
import Derived.Laws.Cover3
import Derived.LoopN
import Derived.Lib.Bytealg
import Derived.LaidEqlPtr
import Derived.Shelf.Strings.SlTrimAscii
import Derived.Shelf.Strings.Trim
import Derived.Test.YtefiibghfgfdnaaDoorProg
namespace Go.Wk
open Go.RowKit
def clsN (q:Nat→Nat→Bool):Nat→List Int×Nat
 | 0=>([],0)
 | x+1=>match (List.range x).find? (fun y=>q y x) with
  | some y=>((clsN q x).1++[(clsN q x).1.getD y 0],(clsN q x).2)
  | none=>((clsN q x).1++[((clsN q x).2:Int)],(clsN q x).2+1)
section
variable {q:Nat→Nat→Bool}
theorem cls_old {x y:Nat} (hy:y<x) (hall:∀ i,i<y→q i x=false) (h:q y x=true):clsN q (x+1)=((clsN q x).1++[(clsN q x).1.getD y 0],(clsN q x).2):=by
 rw [clsN,find_at (f:=fun y=>q y x) hy hall h]
theorem cls_new {x:Nat} (hall:∀ i,i<x→q i x=false):clsN q (x+1)=((clsN q x).1++[((clsN q x).2:Int)],(clsN q x).2+1):=by
 have:(List.range x).find? (fun y=>q y x)=none:=by rw [List.find?_eq_none];intro i hi;rw [hall i (List.mem_range.1 hi)];simp
 rw [clsN,this]
theorem cls_cases (q:Nat→Nat→Bool) (x:Nat):(∃ y,y<x∧(∀ i,i<y→q i x=false)∧q y x=true)∨∀ i,i<x→q i x=false:=by
 cases h:(List.range x).find? (fun y=>q y x) with
 | none=>exact .inr fun i hi=>by simpa using List.find?_eq_none.1 h i (List.mem_range.2 hi)
 | some y =>
  rw [List.find?_range_eq_some] at h
  exact .inl ⟨y,List.mem_range.1 h.2.1,fun i hi=>by simpa using h.2.2 i hi,h.1⟩
theorem cls_length (q:Nat→Nat→Bool):∀ x,(clsN q x).1.length=x
  | 0=>rfl
  | x+1=>by
    rcases cls_cases q x with ⟨y,h1,h2,h3⟩ | h
    · rw [cls_old h1 h2 h3];simp [cls_length q x]
    · rw [cls_new h];simp [cls_length q x]
theorem cls_small (q:Nat→Nat→Bool):∀ x,(clsN q x).2≤x∧∀ m∈(clsN q x).1,0≤m∧m<((clsN q x).2:Int)
  | 0=>⟨Nat.le_refl _,fun m hm=>by cases hm⟩
  | x+1=>by
    obtain ⟨i1,i2⟩:=cls_small q x
    rcases cls_cases q x with ⟨y,h1,h2,h3⟩ | h
    · rw [cls_old h1 h2 h3]
      refine ⟨by dsimp only;omega,fun m hm=>?_⟩
      rcases List.mem_append.1 hm with h4 | h4
      · exact i2 m h4
      · rw [List.mem_singleton.1 h4]
        have hl:=cls_length q x
        rw [getD_at (by omega)];exact i2 _ (List.getElem_mem _)
    · rw [cls_new h]
      refine ⟨by dsimp only;omega,fun m hm=>?_⟩
      rcases List.mem_append.1 hm with h4 | h4
      · have:=i2 m h4;dsimp only;omega
      · rw [List.mem_singleton.1 h4];dsimp only;omega
end
structure SeenL (T:List (List UInt8)) (n:Nat) (a:St) (x:Nat) (S O:List Int):Prop where
 cls:clsN (fun y x=>winB n a [(y:Int)] a [(x:Int)]) x=(O,S.length)
 nodup:S.Nodup
 out:∀ y:Nat,y<x→∃ m k:Nat,Means T n a [(y:Int)] m∧O.getD y 0=(k:Int)∧S[k]?=some (m:Int)
 seen:∀ s∈S,∃ m y:Nat,s=(m:Int)∧y<x∧Means T n a [(y:Int)] m
theorem SeenL.zero {T:List (List UInt8)} {n:Nat} {a:St}:SeenL T n a 0 [] []:=⟨rfl,List.nodup_nil,fun y hy=>absurd hy (by omega),fun s hs=>by cases hs⟩
theorem SeenL.len {T:List (List UInt8)} {n:Nat} {a:St} {x:Nat} {S O:List Int} (h:SeenL T n a x S O):O.length=x∧S.length≤x:=by
 have h1:=cls_length (fun y x=>winB n a [(y:Int)] a [(x:Int)]) x
 have h2:=(cls_small (fun y x=>winB n a [(y:Int)] a [(x:Int)]) x).1
 rw [h.cls] at h1 h2
 exact ⟨h1,h2⟩
theorem els_one {a:St} {x:Int} (h:a.El x):a.Els [x]:=fun y hy=>by rw [List.mem_singleton.1 hy];exact h
end Go.Wk
namespace Go.Wk
open Go.RowKit
section
variable {P:Program} {n:Nat} {C:World→Prop} {B:Nat} {w0:World} {hs hs':List (Nat×Obj)} {N R:Act→World→Prop} {X:List (Nat×(Act→World→Prop))} {e:Env} {ops:Array Oper} {l:List Oper} {o:Oper}
theorem OpQ.indexArr {t el:TypeId} {m:Nat} {x y:Operand} {b:Nat} {k:IntKind} {i:Int} (h:o.op=.indexAddr t x y) (hu:∀ w,(underlying t).run P w=.ok (.array m el) w) (hz:∀ w,(sizeOf el).run P w=.ok 1 w)
  (hx:opd e x=some (.pointer (some ⟨b,0,none⟩))) (hy:opd e y=some (.int k i)) (h0:0≤i) (h1:i<m):OpQ P n C e o (.pointer (some ⟨b,i.toNat,none⟩)):=OpQ.val fun A hF w=>by
 unfold execOp;rw [h];simp only [hF.opd hx,hF.opd hy]
 simp only [Instr.indexAt,Instr.sureAddr,asIntOf,Sem.run_bind,Sem.run_pure,hu,Result.andThen,hz,if_pos (And.intro h0 h1),Addr.add_lit,Nat.mul_one,Nat.zero_add]
def entM (x:List UInt8×Nat):MapEntry:={ key:=str x.1,val:=.bool true,born:=x.2 }
def mapO (ks:List (List UInt8)):Obj:=.map ((ks.zipIdx.map entM).toArray) ks.length
def addK (ks:List (List UInt8)) (s:List UInt8):List (List UInt8):=if s∈ks then ks else ks++[s]
theorem mapO_add (ks:List (List UInt8)) (s:List UInt8):((ks.zipIdx.map entM).toArray).push { key:=str s,val:=.bool true,born:=ks.length }=(((ks++[s]).zipIdx.map entM).toArray):=by
 rw [List.zipIdx_append,List.map_append,List.push_toArray]
 simp [entM]
theorem str_inj {s t:List UInt8} (h:str s=str t):s=t:=by
 unfold str at h
 simp only [Value.string.injEq,ByteArray.mk.injEq,Array.mk.injEq] at h
 exact h
theorem Own.setObj {w:World} (h:Own B w0 hs w) {i p:Nat} {u:Obj} (hi:hs[i]?=some (p,u)) (u':Obj):Own B w0 (hs.set i (p,u')) { w with heap:=w.heap.setIfInBounds p u' }:=by
  obtain ⟨hB,hp⟩:=h.has i p u hi
  obtain ⟨hh,hne⟩:=MapKept.heap_set (o':=u') hp
  have hil:i<hs.length:=(List.getElem?_eq_some_iff.1 hi).1
  refine Own.of_mem ⟨h.below.os,h.below.tape,h.below.output,by have:=h.below.size;simpa using this,fun k hk=>?_⟩ (by have:=h.base;simpa using this) (fun x hx=>?_) ?_
  · have:=h.below.block k hk
    rw [← this];exact hne k (by omega)
  · obtain ⟨j,hj⟩:=List.mem_iff_getElem?.1 hx
    rw [List.getElem?_set] at hj
    split at hj
    · rename_i e1;subst e1
      injection hj with hj;subst hj
      exact ⟨hB,hh⟩
    · rename_i e1
      obtain ⟨h1,h2⟩:=h.has j x.1 x.2 hj
      exact ⟨h1,by rw [← h2];exact hne _ (fun e2=>h.apart j i x.1 x.2 p u hj hi (fun e3=>e1 e3.symm) e2)⟩
  · have:(hs.set i (p,u')).map Prod.fst=hs.map Prod.fst:=by
      rw [List.map_set]
      refine set_same ?_
      rw [List.getElem?_map,hi];rfl
    rw [this];exact h.nodup
theorem Ll.makeMap {d t:Nat} (hd:Nat.blt d n=true) (hdst:o.dst=some d) (hg:wantE ops e o.guard=some true) (h:o.op=.makeMap t none)
  (k:∀ p,B≤p→Ll P n (Own B w0 ((p,mapO [])::hs)) ops l ((d,.map (some p))::e) N R X):Ll P n (Own B w0 hs) ops (o::l) e N R X :=
 Ll.turn hd hdst hg fun a w hF hw=>⟨.map (some w.heap.size),w.alloc (mapO []),by
  unfold execOp;rw [h];rfl,fun a' ha=>by
  have:=k _ hw.base
  unfold Ll at this
  exact this a' _ ha (hw.alloc _)⟩
theorem run_mapSet_old {w:World} {t kt et r j clock:Nat} {es:Array MapEntry} {s:List UInt8} {v:Value} {e:MapEntry} (hm:P.underlying t=some (.map kt et)) (hkt:P.underlying kt=some .string) (hb:w.heap[r]?=some (.map es clock))
  (h1:Instr.findNow .string (str s) es.toList 0=some (some (0+j,e.val))) (hj:es[j]?=some e) (h3:e.key=str s) :
  (Instr.mapUpdate t (.map (some r)) (str s) v).run P w=.ok () { w with heap:=w.heap.setIfInBounds r (.map (es.modify j fun e=>{ e with key:=str s,val:=v }) clock) }:=by
 have hk:MapKept.IsKey .string (str s):=trivial
 simp [Instr.mapUpdate,run_underlying hm,MapKept.run_getObj_map hb,MapKept.run_checkKey hkt hk,MapKept.run_findKey hkt h1,hj,h3,MapKept.run_keyThatStays hk,MapKept.run_setObj_map _ hb,Result.andThen]
theorem Ll.mapSet {t kt et r:Nat} {x y z:Operand} {ks:List (List UInt8)} {s:List UInt8} (i:Nat) (hdst:o.dst=none) (hg:wantE ops e o.guard=some true) (h:o.op=.mapUpdate t x y z) (hm:P.underlying t=some (.map kt et)) (hkt:P.underlying kt=some .string)
    (hx:opd e x=some (.map (some r))) (hy:opd e y=some (str s)) (hz:opd e z=some (.bool true)) (hi:hs[i]?=some (r,mapO ks)) (k:Ll P n (Own B w0 (hs.set i (r,mapO (addK ks s)))) ops l e N R X):Ll P n (Own B w0 hs) ops (o::l) e N R X :=
  Ll.turnN hdst hg fun a w hF hw=>by
    have hb:w.heap[r]?=some (.map ((ks.zipIdx.map entM).toArray) ks.length):=(hw.has i r _ hi).2
    have hk:MapKept.IsKey .string (str s):=trivial
    have hkey:∀ x∈((ks.zipIdx.map entM).toArray).toList,MapKept.IsKey .string x.key:=fun x hx=>by
      obtain ⟨y,_,rfl⟩:=List.mem_map.1 (show x∈ks.zipIdx.map entM from hx)
      trivial
    refine ⟨{ w with heap:=w.heap.setIfInBounds r (mapO (addK ks s)) },?_,fun a' ha=>?_⟩
    · unfold execOp;rw [h];simp only [hF.opd hx,hF.opd hy,hF.opd hz]
      have run:(Instr.mapUpdate t (.map (some r)) (str s) (.bool true)).run P w=.ok () { w with heap:=w.heap.setIfInBounds r (mapO (addK ks s)) }:=by
        rcases MapKept.findNow_spec hk ((ks.zipIdx.map entM).toArray).toList 0 hkey with ⟨h1,h2⟩ | ⟨j,e,h1,h2,h3⟩
        · have hns:s ∉ ks:=fun hmem=>by
            obtain ⟨j,hj⟩:=List.mem_iff_getElem?.1 hmem
            refine h2 (entM (s,j)) ?_ rfl
            simp only [List.mem_map]
            exact ⟨(s,j),List.mem_zipIdx_iff_getElem?.2 hj,rfl⟩
          have e1:mapO (addK ks s)=.map (((ks.zipIdx.map entM).toArray).push { key:=str s,val:=.bool true,born:=ks.length }) (ks.length+1):=by
            unfold addK;rw [if_neg hns];unfold mapO;rw [mapO_add];simp
          rw [e1]
          simp [Instr.mapUpdate,run_underlying hm,MapKept.run_getObj_map hb,MapKept.run_checkKey hkt hk,MapKept.run_findKey hkt h1,MapKept.run_setObj_map _ hb,Result.andThen]
        · have hj:((ks.zipIdx.map entM).toArray)[j]?=some e:=by simpa using h2
          have h2':(ks.zipIdx.map entM)[j]?=some e:=by simpa using h2
          rw [List.getElem?_map] at h2'
          obtain ⟨y,hy1,hy2⟩:=Option.map_eq_some_iff.1 h2'
          have hys:y.1=s:=by rw [← hy2] at h3;exact str_inj h3
          have hs:s∈ks:=by
            have:=List.mem_zipIdx_iff_getElem?.1 (List.mem_of_getElem? hy1:(y.1,y.2)∈_)
            rw [hys] at this;exact List.mem_of_getElem? this
          have hval:e.val=.bool true:=by rw [← hy2];rfl
          have e1:mapO (addK ks s)=.map (((ks.zipIdx.map entM).toArray).modify j fun e=>{ e with key:=str s,val:=.bool true }) ks.length:=by
            unfold addK;rw [if_pos hs];unfold mapO
            congr 1
            apply Array.ext
            · simp
            · intro q hq1 hq2
              rw [Array.getElem_modify]
              split
              · rename_i ejq;subst ejq
                have hje:((ks.zipIdx.map entM).toArray)[j]=e:=by
                  rw [Array.getElem?_eq_getElem hq1] at hj;exact Option.some.inj hj
                rw [hje,← h3,← hval]
              · rfl
          rw [e1]
          exact run_mapSet_old hm hkt hb h1 hj h3
      simp only [Sem.run_bind,run,Result.andThen]
      rfl
    · unfold Ll at k
      exact k a' _ ha (hw.setObj hi _)
theorem OpQ.lenMap {t kt et r:Nat} {x:Operand} {ks:List (List UInt8)} (i:Nat) (h:o.op=.call ⟨.builtin .len,#[x],#[t]⟩) (hm:P.underlying t=some (.map kt et)) (hx:opd e x=some (.map (some r))) (hi:hs[i]?=some (r,mapO ks)):OpQ P n (Own B w0 hs) e o (.int .i64 (ks.length:Int)):=by
 unfold OpQ
 intro a hF w hw
 have hb:w.heap[r]?=some (.map ((ks.zipIdx.map entM).toArray) ks.length):=(hw.has i r _ hi).2
 unfold Oper.quietAt execOp;rw [h]
 simp only [resolve,invoke,BigFrame.builtin_len,List.map_toArray,List.map_cons,List.map_nil,hF.opd hx,Sem.run_bind,Sem.run_pure,Result.andThen,Builtin.len_,run_underlying hm,List.getElem?_toArray,List.getElem?_cons_zero,MapKept.run_getObj_map hb]
 refine ⟨rfl,?_⟩
 show Value.int .i64 _=Value.int .i64 _
 simp
end
structure RR where
 g:Nat
 cap:Nat
 cur:Array Value
 xs:List Int
def rd:RR:=⟨0,0,#[],[]⟩
def rv (r:RR):Value:=.slice (some ⟨r.g,0,none⟩) r.xs.length r.cap
structure RR.Ok (r:RR):Prop where
 size:r.cur.size=r.cap*1
 len:r.xs.length≤r.cap
 vals:r.cur.toList.take r.xs.length=ints r.xs
def rowsB (I:TypeId) (rr:List RR):List (Nat×Obj):=rr.map fun r=>(r.g,.cells r.cur I (0,0))
def rvs (rr:List RR):List Value:=rr.map rv
@[simp] theorem rvs_length (rr:List RR):(rvs rr).length=rr.length:=by simp [rvs]
theorem rvs_at {rr:List RR} {i:Nat} (h:i<rr.length):(rvs rr)[i]?=some (rv (rr.getD i rd)):=by
 rw [rvs,List.getElem?_map,List.getElem?_eq_getElem h,getD_at h];rfl
section
variable {B:Nat} {w0:World} {hs:List (Nat×Obj)}
theorem Own.ofRows {w:World} {I:TypeId} {rr:List RR} (h:Own B w0 (rowsB I rr++hs) w) (hok:∀ r∈rr,r.Ok) {i:Nat} (hi:i<rr.length):Ints w (rv (rr.getD i rd)) (rr.getD i rd).xs:=by
  have hm:rr.getD i rd∈rr:=by rw [getD_at hi];exact List.getElem_mem _
  have hk:=hok _ hm
  have hb:=h.mem (x:=((rr.getD i rd).g,.cells (rr.getD i rd).cur I (0,0))) (List.mem_append_left _ (List.mem_map.2 ⟨_,hm,rfl⟩))
  refine ⟨_,(rr.getD i rd).cap,by rw [ints_length];rfl,by rw [ints_length];exact hk.len,fun h=>(by cases h),fun ad had=>?_⟩
  injection had with had
  subst had
  refine ⟨rfl,fun j u hj=>?_⟩
  show w.cell? ⟨(rr.getD i rd).g,0+j,none⟩=some u
  rw [Nat.zero_add]
  unfold World.cell?
  rw [hb.2]
  rw [← hk.vals,List.getElem?_take] at hj
  split at hj
  · simpa using hj
  · cases hj
theorem rows_more {w:World} {I:TypeId} {rr:List RR} {g cap:Nat} {cur:Array Value} {xs:List Int} {f R:List (Nat×Obj)} (h:Own B w0 ((g,.cells cur I (0,0))::(f++(rowsB I rr++R))) w):Own B w0 (f++(rowsB I (rr++[⟨g,cap,cur,xs⟩])++R)) w:=by
 refine h.perm ?_
 unfold rowsB
 rw [List.map_append,List.append_assoc]
 have h1:=perm_back [(g,Obj.cells cur I (0,0))] f (rr.map (fun r=>(r.g,Obj.cells r.cur I (0,0)))++R)
 have h2:=perm_back [(g,Obj.cells cur I (0,0))] (rr.map (fun r=>(r.g,Obj.cells r.cur I (0,0)))) R
 exact h1.trans (h2.append_left f)
end
structure RowsOk (rr:List RR) (u:Array Value) (c:Nat):Prop where
 size:u.size=c*1
 len:rr.length≤c
 vals:u.toList.take rr.length=rvs rr
 ok:∀ r∈rr,r.Ok
theorem RowsOk.nil:RowsOk [] #[] 0:=⟨rfl,Nat.le_refl 0,rfl,fun r hr=>by cases hr⟩
theorem RowsOk.one (p:Nat):RowsOk [⟨p,0,#[],[]⟩] #[.slice (some ⟨p,0,none⟩) 0 0] 1:=⟨rfl,Nat.le_refl 1,rfl,fun r hr=>by rw [List.mem_singleton.1 hr];exact ⟨rfl,Nat.le_refl 0,rfl⟩⟩
theorem RowsOk.add {rr:List RR} {u u':Array Value} {c c':Nat} {r:RR} (h:RowsOk rr u c) (hr:r.Ok) (hs:u'.size=c'*1) (hl:rr.length+1≤c') (hv:u'.toList.take ((rr.length+1)*1)=u.toList.take (rr.length*1)++[rv r]):RowsOk (rr++[r]) u' c':=by
  refine ⟨hs,by simpa using hl,?_,fun x hx=>?_⟩
  · have h1:=h.vals
    rw [Nat.mul_one,Nat.mul_one,h1] at hv
    rw [List.length_append,List.length_singleton,hv];simp [rvs]
  · rcases List.mem_append.1 hx with h1 | h1
    · exact h.ok x h1
    · rw [List.mem_singleton.1 h1];exact hr
theorem rows_forget {B:Nat} {w0 w:World} {I:TypeId} {nn rr:List RR} {x y:Nat×Obj} {hs:List (Nat×Obj)} (h:Own B w0 (x::y::(rowsB I nn++(rowsB I rr++hs))) w):Own B w0 (x::(rowsB I nn++hs)) w :=
 h.sub (List.Sublist.cons_cons _ (List.Sublist.cons _ ((List.Sublist.refl _).append (List.sublist_append_right _ _))))
def nextL (size:Nat) (Ls:List (List Int)):List (List Int):=Ls.flatMap fun l=>(List.range size).map fun x:Nat=>l++[(x:Int)]
def listsL (size:Nat):Nat→List (List Int)
 | 0=>[[]]
 | w+1=>nextL size (listsL size w)
def nextTo (size:Nat) (Ls:List (List Int)) (i k:Nat):List (List Int):=nextL size (Ls.take i)++(List.range k).map fun x:Nat=>(Ls.getD i [])++[(x:Int)]
theorem nextTo_zero (size:Nat) (Ls:List (List Int)) (i:Nat):nextTo size Ls i 0=nextL size (Ls.take i):=by simp [nextTo]
theorem nextTo_step (size:Nat) (Ls:List (List Int)) (i k:Nat):nextTo size Ls i (k+1)=nextTo size Ls i k++[(Ls.getD i [])++[(k:Int)]]:=by
 simp [nextTo,List.range_succ,List.append_assoc]
theorem nextTo_end {size:Nat} {Ls:List (List Int)} {i:Nat} (h:i<Ls.length):nextTo size Ls i size=nextL size (Ls.take (i+1)):=by
 unfold nextTo nextL
 rw [List.take_succ_eq_append_getElem h,List.flatMap_append,getD_at h]
 simp
theorem nextL_length (size:Nat):∀ Ls:List (List Int),(nextL size Ls).length=Ls.length*size
 | []=>by simp [nextL]
 | l::Ls=>by
  have:=nextL_length size Ls
  simp only [nextL,List.flatMap_cons,List.length_append,List.length_map,List.length_range,List.length_cons] at this ⊢
  rw [this,Nat.add_mul,Nat.one_mul];omega
theorem listsL_length (size:Nat):∀ w,(listsL size w).length=size ^ w
 | 0=>rfl
 | w+1=>by rw [listsL,nextL_length,listsL_length size w,Nat.pow_succ]
theorem pow8 {size w:Nat} (h:size≤8) (hw:w≤3):size ^ w≤512 :=
 Nat.le_trans (Nat.pow_le_pow_left h w) (Nat.le_trans (Nat.pow_le_pow_right (by decide) hw) (by decide))
def pointL (size:Nat):Nat→Nat→List Int
 | 0,_=>[]
 | w+1,k=>pointL size w (k / size)++[((k % size:Nat):Int)]
@[simp] theorem pointL_length (size:Nat):∀ w k,(pointL size w k).length=w
 | 0,_=>rfl
 | w+1,k=>by simp [pointL,pointL_length size w]
theorem nextL_at {size:Nat} (h0:0<size):∀ {Ls:List (List Int)} {k:Nat},k<Ls.length*size→(nextL size Ls).getD k []=Ls.getD (k / size) []++[((k % size:Nat):Int)]
  | [],k,h=>by simp at h
  | l::Ls,k,h=>by
    have key:nextL size (l::Ls)=((List.range size).map fun x:Nat=>l++[(x:Int)])++nextL size Ls:=rfl
    rw [key]
    rcases Nat.lt_or_ge k size with h1 | h1
    · rw [List.getD_eq_getElem?_getD,List.getElem?_append_left (by simpa using h1),List.getElem?_map,List.getElem?_range h1,Nat.div_eq_of_lt h1,Nat.mod_eq_of_lt h1]
      rfl
    · have h2:k - size<Ls.length*size:=by
        rw [List.length_cons,Nat.add_mul,Nat.one_mul] at h;omega
      have ih:=nextL_at h0 h2
      rw [List.getD_eq_getElem?_getD,List.getElem?_append_right (by simpa using h1),← List.getD_eq_getElem?_getD]
      simp only [List.length_map,List.length_range]
      rw [ih,Nat.div_eq_sub_div h0 h1,Nat.mod_eq_sub_mod h1]
      rfl
theorem lists_point {size:Nat} (h0:0<size):∀ {w k:Nat},k<size ^ w→(listsL size w).getD k []=pointL size w k
  | 0, k, h => by obtain rfl : k = 0 := by simpa using h
                  rfl
  | w+1,k,h=>by
    rw [listsL,nextL_at h0 (by rw [listsL_length,← Nat.pow_succ];exact h),lists_point h0 (by rw [Nat.pow_succ] at h;exact Nat.div_lt_of_lt_mul (by rw [Nat.mul_comm];exact h)),pointL]
theorem point_els {a:St} (h:a.Fine):∀ (w k:Nat),a.Els (pointL a.n.toNat w k)
  | 0,_=>fun x hx=>by cases hx
  | w+1,k=>fun x hx=>by
    have h1:=h.lo
    rcases List.mem_append.1 hx with h2 | h2
    · exact point_els h w _ x h2
    · rw [List.mem_singleton.1 h2]
      have:=Nat.mod_lt k (show 0<a.n.toNat by omega)
      exact ⟨by omega,by omega⟩
def dedup (l:List (List UInt8)):List (List UInt8):=l.foldl addK []
theorem dedup_step {l:List (List UInt8)} {i:Nat} (h:i<l.length):dedup (l.take (i+1))=addK (dedup (l.take i)) (l.getD i []):=by
 rw [List.take_succ_eq_append_getElem h,dedup,List.foldl_append,getD_at h];rfl
end Go.Wk
namespace Go.Wk
open Go.RowKit
theorem map_xs {rr:List RR} {i:Nat} (h:i<rr.length):(rr.map RR.xs).getD i []=(rr.getD i rd).xs:=by
 rw [getD_at (by simpa using h),getD_at h,List.getElem_map]
theorem listsL_len {size:Nat}:∀ {w:Nat} {l:List Int},l∈listsL size w→l.length=w
 | 0,l,h=>by rw [List.mem_singleton.1 h];rfl
 | w+1,l,h=>by
  obtain ⟨m,hm,h2⟩:=List.mem_flatMap.1 h
  obtain ⟨x,_,rfl⟩:=List.mem_map.1 h2
  rw [List.length_append,listsL_len hm];rfl
theorem xs_len {rr:List RR} {size r:Nat} (h:rr.map RR.xs=listsL size r) {i:Nat}:(rr.getD i rd).xs.length≤r:=by
  rcases Nat.lt_or_ge i rr.length with h1 | h1
  · rw [← map_xs h1,h,getD_at (by rw [← h];simpa using h1)]
    exact Nat.le_of_eq (listsL_len (List.getElem_mem _))
  · rw [List.getD_eq_getElem?_getD,List.getElem?_eq_none h1];exact Nat.zero_le _
theorem next_len {nm:List RR} {size i k:Nat} {Ls:List (List Int)} (h:nm.map RR.xs=nextTo size Ls i k) (hL:Ls.length≤512) (hk:k≤8) (h8:size≤8):nm.length≤4104:=by
 have h1:=congrArg List.length h
 unfold nextTo at h1
 rw [List.length_map,List.length_append,nextL_length,List.length_map,List.length_range,List.length_take] at h1
 have h2:min i Ls.length*size≤512*8:=Nat.mul_le_mul (by omega) h8
 omega
theorem rows_behind (f:List (Nat×Obj)) (x:Nat×Obj) (r:List (Nat×Obj)):(x::(r++f)).Perm (f++(x::(r++[]))):=by
 have:=List.perm_append_comm (l₁:=x::r) (l₂:=f)
 rw [List.append_nil]
 exact this
def kindsL (a:St) (w:Nat):List (List UInt8):=(listsL a.n.toNat w).map fun l=>atomsT (factsL a l l.length)
theorem kindsL_length (a:St) (w:Nat):(kindsL a w).length=a.n.toNat ^ w:=by rw [kindsL,List.length_map,listsL_length]
theorem kinds_at {a:St} (ha:a.Fine) {w k:Nat} (h:k<a.n.toNat ^ w):(kindsL a w).getD k []=atomsT (factsL a (pointL a.n.toNat w k) (pointL a.n.toNat w k).length):=by
 have hl:k<(listsL a.n.toNat w).length:=by rw [listsL_length];exact h
 rw [getD_at (by rw [kindsL_length];exact h)]
 unfold kindsL
 rw [List.getElem_map,← getD_at (d:=[]) hl,lists_point (by have:=ha.lo;omega) h]
theorem addK_new {ks:List (List UInt8)} {s:List UInt8} (h:s ∉ ks):addK ks s=ks++[s]:=by unfold addK;rw [if_neg h]
theorem addK_old {ks:List (List UInt8)} {s:List UInt8} (h:¬ s ∉ ks):addK ks s=ks:=by unfold addK;rw [if_pos (by simpa using h)]
def kindsI (a:St) (W:Int):Int:=if validB a&&inB W 0 3 then ((dedup (kindsL a W.toNat)).length:Int) else -1
theorem rows_point {rr:List RR} {size w k:Nat} (h0:0<size) (h:rr.map RR.xs=listsL size w) (hk:k<rr.length):(rr.getD k rd).xs=pointL size w k:=by
 rw [← map_xs hk,h,lists_point h0 (by rw [← listsL_length size w,← h];simpa using hk)]
end Go.Wk
namespace Go.Wk
open Go.RowKit
theorem cls_same {q:Nat→Nat→Bool} {k y:Nat} (hy:y<k) (h:q y k=true):(clsN q (k+1)).2=(clsN q k).2:=by
  rcases cls_cases q k with ⟨z,h1,h2,h3⟩ | hno
  · rw [cls_old h1 h2 h3]
  · rw [hno y hy] at h;cases h
theorem cls_more {q:Nat→Nat→Bool} {k:Nat} (h:∀ y,y<k→q y k=false):(clsN q (k+1)).2=(clsN q k).2+1:=by rw [cls_new h]
def qP (a:St) (r w:Nat) (y x:Nat):Bool:=winB r a (pointL a.n.toNat w y) a (pointL a.n.toNat w x)
structure CountL (T:List (List UInt8)) (r:Nat) (a:St) (w k:Nat) (S:List Int):Prop where
  cls:(clsN (qP a r w) k).2=S.length
  sorted:S.Pairwise (·<·)
  all:∀ y:Nat,y<k→∃ i:Nat,(i:Int)∈S∧Means T r a (pointL a.n.toNat w y) i
  only:∀ m∈S,∃ i y:Nat,m=i∧y<k∧Means T r a (pointL a.n.toNat w y) i
theorem CountL.zero {T:List (List UInt8)} {r:Nat} {a:St} {w:Nat}:CountL T r a w 0 []:=⟨rfl,List.Pairwise.nil,fun y hy=>absurd hy (by omega),fun m hm=>by cases hm⟩
theorem CountL.len {T:List (List UInt8)} {r:Nat} {a:St} {w k:Nat} {S:List Int} (h:CountL T r a w k S):S.length≤k:=by rw [← h.cls];exact (cls_small _ k).1
def countC (a:St) (W R:Int):Int:=if validB a&&inB W 0 2&&inB R 0 2 then ((clsN (qP a R.toNat W.toNat) (a.n.toNat ^ W.toNat)).2:Int) else -1
end Go.Wk
namespace Go.Wk
open Go.RowKit
def repsL (q:Nat→Nat→Bool) (N:Nat):List Nat:=(List.range N).filter fun x=>(List.range x).all fun y=>!q y x
theorem cls_reps (q:Nat→Nat→Bool):∀ N,(clsN q N).2=(repsL q N).length
  | 0=>rfl
  | x+1=>by
    have ih:=cls_reps q x
    have e:repsL q (x+1)=repsL q x++(if (List.range x).all (fun y=>!q y x) then [x] else []):=by
      unfold repsL
      rw [List.range_succ,List.filter_append]
      simp [List.filter_cons]
    rcases cls_cases q x with ⟨y,h1,h2,h3⟩ | h
    · rw [cls_old h1 h2 h3,e,if_neg fun h=>by
        have:=List.all_eq_true.1 h y (List.mem_range.2 h1)
        rw [h3] at this;cases this]
      simpa using ih
    · rw [cls_new h,e,if_pos (List.all_eq_true.2 fun y hy=>by rw [h y (List.mem_range.1 hy)];rfl)]
      simp [ih]
theorem mem_addK {ks:List (List UInt8)} {s t:List UInt8}:t∈addK ks s↔t∈ks∨t=s:=by
  unfold addK
  split
  · rename_i h;exact ⟨.inl,fun h2=>h2.elim id (fun e=>e ▸ h)⟩
  · simp
theorem addK_nodup {ks:List (List UInt8)} {s:List UInt8} (h:ks.Nodup):(addK ks s).Nodup:=by
  unfold addK
  split
  · exact h
  · rename_i h1
    rw [List.nodup_append]
    exact ⟨h,by simp,fun z hz y hy e=>h1 (by rw [List.mem_singleton.1 hy] at e;exact e ▸ hz)⟩
theorem dedup_fold:∀ (l ks:List (List UInt8)),(∀ t,t∈l.foldl addK ks↔t∈ks∨t∈l)∧(ks.Nodup→(l.foldl addK ks).Nodup)
 | [],ks=>⟨fun t=>by simp,id⟩
 | s::l,ks=>by
  obtain ⟨h1,h2⟩:=dedup_fold l (addK ks s)
  refine ⟨fun t=>?_,fun h=>h2 (addK_nodup h)⟩
  rw [List.foldl_cons,h1,mem_addK,List.mem_cons,or_assoc]
theorem mem_dedup {l:List (List UInt8)} {t:List UInt8}:t∈dedup l↔t∈l:=by
 unfold dedup;rw [(dedup_fold l []).1];simp
theorem dedup_add (l:List (List UInt8)) (s:List UInt8):dedup (l++[s])=addK (dedup l) s:=by unfold dedup;rw [List.foldl_append];rfl
theorem dedup_reps {f:Nat→List UInt8} {q:Nat→Nat→Bool}:∀ {N:Nat},(∀ y x,y<x→x<N→(q y x=true↔f y=f x))→(dedup ((List.range N).map f)).length=(repsL q N).length
  | 0,_=>rfl
  | N+1,h=>by
    have ih:=dedup_reps (f:=f) (q:=q) (N:=N) fun y x hy hx=>h y x hy (by omega)
    rw [List.range_succ,List.map_append,List.map_singleton,dedup_add]
    have e:repsL q (N+1)=repsL q N++(if (List.range N).all (fun y=>!q y N) then [N] else []):=by
      unfold repsL
      rw [List.range_succ,List.filter_append]
      simp [List.filter_cons]
    rw [e]
    by_cases hm:f N∈dedup ((List.range N).map f)
    · obtain ⟨y,hy,e2⟩:=List.mem_map.1 (mem_dedup.1 hm)
      have hy':=List.mem_range.1 hy
      rw [addK_old (by simpa using hm),if_neg fun ha=>by
        have:=List.all_eq_true.1 ha y hy
        rw [(h y N hy' (by omega)).2 e2] at this;cases this]
      simpa using ih
    · rw [addK_new hm,if_pos (List.all_eq_true.2 fun y hy=>by
        have hy':=List.mem_range.1 hy
        cases e2:q y N with
        | false=>rfl
        | true=>exact absurd (mem_dedup.2 (List.mem_map.2 ⟨y,hy,(h y N hy' (by omega)).1 e2⟩)) hm)]
      simp [ih]
theorem atomsT_inj:∀ {l m:List (List UInt8×Bool)},l.length=m.length→(atomsT l=atomsT m↔l.map Prod.snd=m.map Prod.snd)
  | [],[],_=>by simp
  | [],_::_,h=>by simp at h
  | _::_,[],h=>by simp at h
  | f::l,g::m,h=>by
    have ih:=atomsT_inj (l:=l) (m:=m) (by simpa using h)
    have e:∀ (f:List UInt8×Bool) (l:List (List UInt8×Bool)),atomsT (f::l)=bitS f.2++atomsT l:=fun f l=>rfl
    rw [e,e,List.map_cons,List.map_cons,List.cons.injEq,← ih]
    constructor
    · intro h2
      obtain ⟨h3,h4⟩:=List.append_inj h2 (by simp)
      exact ⟨bitS_inj.1 h3,h4⟩
    · rintro ⟨h3,h4⟩;rw [h3,h4]
theorem map_app_iff {l m l' m':List (List UInt8×Bool)} (h:l.length=m.length):(l++l').map Prod.snd=(m++m').map Prod.snd↔l.map Prod.snd=m.map Prod.snd∧l'.map Prod.snd=m'.map Prod.snd:=by
 rw [List.map_append,List.map_append]
 exact ⟨fun h2=>List.append_inj h2 (by simpa using h),fun ⟨h2,h3⟩=>by rw [h2,h3]⟩
theorem more_iff {a b:St} {xs ys:List Int} {i:Nat}:∀ k:Nat,(moreL a xs i k).map Prod.snd=(moreL b ys i k).map Prod.snd↔∀ j:Nat,j<k→pairOk a b (xs.getD i 0) (ys.getD i 0) (xs.getD j 0) (ys.getD j 0)=true
  | 0=>by simp [moreL]
  | k+1=>by
    unfold moreL
    rw [map_app_iff (by simp),more_iff k]
    constructor
    · rintro ⟨h1,h2⟩ j hj
      rcases Nat.lt_or_ge j k with h3 | h3
      · exact h1 j h3
      · obtain rfl:j=k:=by omega
        refine pairOk_true.2 ?_
        simpa using h2
    · intro h
      refine ⟨fun j hj=>h j (by omega),?_⟩
      have:=pairOk_true.1 (h k (by omega))
      simpa using this
theorem facts_iff {a b:St} {xs ys:List Int} (hl:xs.length=ys.length):∀ n:Nat,n≤xs.length→((factsL a xs n).map Prod.snd=(factsL b ys n).map Prod.snd↔∀ i:Nat,i<n→stillAt a xs b ys i=true)
  | 0,_=>by simp [factsL]
  | n+1,hn=>by
    have hfl:∀ (a b:St) (xs ys:List Int) (n:Nat),(factsL a xs n).length=(factsL b ys n).length:=fun a b xs ys n=>by
      induction n with
      | zero=>rfl
      | succ n ih=>simp [factsL,ih]
    have ih:=facts_iff hl n (by omega) (a:=a) (b:=b)
    have key:(factL a xs n).map Prod.snd=(factL b ys n).map Prod.snd↔stillAt a xs b ys n=true:=by
      unfold factL stillAt
      rw [map_app_iff (by simp),more_iff,stillB_true (by simp [hl])]
      have e:((headL a xs n).map Prod.snd=(headL b ys n).map Prod.snd)↔a.inSet (xs.getD n 0)=b.inSet (ys.getD n 0)∧a.inRel (xs.getD n 0) (xs.getD n 0)=b.inRel (ys.getD n 0) (ys.getD n 0):=by simp [headL]
      rw [e,and_assoc]
      refine and_congr_right fun _=>and_congr_right fun _=>?_
      rw [List.length_take,Nat.min_eq_left (by omega)]
      exact ⟨fun h k hk=>by rw [take_getD hk,take_getD hk];exact h k hk,fun h k hk=>by have:=h k hk;rwa [take_getD hk,take_getD hk] at this⟩
    unfold factsL
    rw [map_app_iff (hfl a b xs ys n),ih,key]
    exact ⟨fun ⟨h1,h2⟩ i hi=>by
      rcases Nat.lt_or_ge i n with h3 | h3
      · exact h1 i h3
      · rw [show i=n from by omega];exact h2,fun h=>⟨fun i hi=>h i (by omega),h n (by omega)⟩⟩
theorem kind_same {a b:St} {xs ys:List Int} (hl:xs.length=ys.length):atomsT (factsL a xs xs.length)=atomsT (factsL b ys ys.length)↔sameB a xs b ys=true:=by
 have hfl:∀ (a b:St) (xs ys:List Int) (n:Nat),(factsL a xs n).length=(factsL b ys n).length:=fun a b xs ys n=>by
  induction n with
  | zero=>rfl
  | succ n ih=>simp [factsL,ih]
 rw [← hl,atomsT_inj (hfl _ _ _ _ _),facts_iff hl _ (Nat.le_refl _)]
 unfold sameB
 rw [List.all_eq_true]
 exact ⟨fun h i hi=>h i (List.mem_range.1 hi),fun h i hi=>h i (List.mem_range.2 hi)⟩
def cntQ (a:St) (r w:Nat):Nat:=(repsL (qP a r w) (a.n.toNat ^ w)).length
theorem qP_win (a:St) (r w y x:Nat):qP a r w y x=true↔winP r a (pointL a.n.toNat w y) a (pointL a.n.toNat w x):=by
 unfold qP;rw [win_iff _ _ _ _ _ (by simp)]
theorem kinds_cnt {a:St} (ha:a.Fine) (w:Nat):(dedup (kindsL a w)).length=cntQ a 0 w:=by
 have e:kindsL a w=(List.range (a.n.toNat ^ w)).map fun k=>atomsT (factsL a (pointL a.n.toNat w k) (pointL a.n.toNat w k).length):=by
  refine List.ext_getElem (by rw [kindsL_length];simp) fun k h1 h2=>?_
  rw [kindsL_length] at h1
  have:=kinds_at ha (w:=w) (k:=k) h1
  rw [List.getD_eq_getElem?_getD,List.getElem?_eq_getElem (by rw [kindsL_length];exact h1),Option.getD_some] at this
  rw [this];simp
 rw [e]
 refine dedup_reps fun _ _ _ _=>?_
 rw [qP_win]
 show sameB _ _ _ _=true↔_
 rw [kind_same (by simp)]
end Go.Wk
namespace Go.Wk
open Go.RowKit
def pW:Nat→St→List Int→St→List Int→Prop
 | 0,a,xs,b,ys=>(∀ i:Nat,i<xs.length→(xs.getD i 0<0↔ys.getD i 0<0))∧sameB a (placed xs xs.length) b (placed ys ys.length)=true
 | n+1,a,xs,b,ys=>pW n a xs b ys∧∀ i:Nat,i<xs.length→(∀ x:Nat,x<a.n.toNat→∃ y:Nat,y<b.n.toNat∧pW n a (xs.set i (x:Int)) b (ys.set i (y:Int))) ∧
   (∀ y:Nat,y<b.n.toNat→∃ x:Nat,x<a.n.toNat∧pW n a (xs.set i (x:Int)) b (ys.set i (y:Int)))
def idxP (size:Nat) (xs:List Int):Nat:=xs.foldl (fun n x=>n*(size+1)+(x+1).toNat) 0
def atP (size:Nat):Nat→Nat→List Int
 | 0,_=>[]
 | k+1,n=>atP size k (n / (size+1))++[((n % (size+1):Nat):Int) - 1]
def Peb (size k:Nat) (xs:List Int):Prop:=xs.length=k∧∀ x∈xs,-1≤x∧x<(size:Int)
@[simp] theorem atP_len (size:Nat):∀ k n,(atP size k n).length=k
 | 0,_=>rfl
 | k+1,n=>by simp [atP,atP_len size k]
theorem peb_set {size k i:Nat} {xs:List Int} (h:Peb size k xs) {x:Nat} (hx:x<size):Peb size k (xs.set i (x:Int)):=by
  refine ⟨by rw [List.length_set];exact h.1,fun y hy=>?_⟩
  rcases List.mem_or_eq_of_mem_set hy with h1 | h1
  · exact h.2 y h1
  · rw [h1];omega
def numP (size:Nat) (R:List Int) (xs:List Int):Int:=R.getD (idxP size xs) 0
structure GoodP (n k:Nat) (a b:St) (Ra Rb:List Int):Prop where
 aa:∀ xs ys,Peb a.n.toNat k xs→Peb a.n.toNat k ys→(numP a.n.toNat Ra xs=numP a.n.toNat Ra ys↔pW n a xs a ys)
 ab:∀ xs ys,Peb a.n.toNat k xs→Peb b.n.toNat k ys→(numP a.n.toNat Ra xs=numP b.n.toNat Rb ys↔pW n a xs b ys)
 bb:∀ xs ys,Peb b.n.toNat k xs→Peb b.n.toNat k ys→(numP b.n.toNat Rb xs=numP b.n.toNat Rb ys↔pW n b xs b ys)
theorem pW_comm:∀ (n:Nat) (a:St) (xs:List Int) (b:St) (ys:List Int),xs.length=ys.length→pW n a xs b ys→pW n b ys a xs
 | 0,a,xs,b,ys,hl,h=>by
  have e:=placed_len (xs:=xs) (ys:=ys) xs.length fun i hi=>h.1 i hi
  refine ⟨fun i hi=>(h.1 i (by omega)).symm,?_⟩
  have h2:=h.2
  rwa [sameB_comm (by rw [e,hl])] at h2
 | n+1,a,xs,b,ys,hl,h=>by
  refine ⟨pW_comm n _ _ _ _ hl h.1,fun i hi=>?_⟩
  obtain ⟨h1,h2⟩:=h.2 i (by omega)
  exact ⟨fun y hy=>(h2 y hy).elim fun x hx=>⟨x,hx.1,pW_comm n _ _ _ _ (by simp [hl]) hx.2⟩,fun x hx=>(h1 x hx).elim fun y hy=>⟨y,hy.1,pW_comm n _ _ _ _ (by simp [hl]) hy.2⟩⟩
def NumOf (T:List (List UInt8)) (text:Nat→List UInt8) (R:List Int) (N:Nat):Prop:=R.length=N∧∀ i:Nat,i<N→∃ m:Nat,R.getD i 0=(m:Int)∧T[m]?=some (text i)
theorem NumOf.mono {T T':List (List UInt8)} {text:Nat→List UInt8} {R:List Int} {N:Nat} (h:NumOf T text R N) (hp:T <+: T'):NumOf T' text R N :=
 ⟨h.1,fun i hi=>(h.2 i hi).elim fun m hm=>⟨m,hm.1,prefix_get hp hm.2⟩⟩
end Go.Wk
namespace Go.Wk
open Go.RowKit
end Go.Wk
namespace Go.Wk
open Go.RowKit
def NumTo (T:List (List UInt8)) (text:Nat→List UInt8) (R:List Int) (N k:Nat):Prop:=R.length=N∧∀ i:Nat,i<k→∃ m:Nat,R.getD i 0=(m:Int)∧T[m]?=some (text i)
theorem NumTo.zero (T:List (List UInt8)) (text:Nat→List UInt8) (N:Nat):NumTo T text (List.replicate N 0) N 0:=⟨by simp,fun i hi=>absurd hi (by omega)⟩
theorem NumTo.all {T:List (List UInt8)} {text:Nat→List UInt8} {R:List Int} {N:Nat} (h:NumTo T text R N N):NumOf T text R N:=h
theorem NumOf.small {T:List (List UInt8)} {text:Nat→List UInt8} {R:List Int} {N:Nat} (h:NumOf T text R N) (hT:T.length≤1000000):∀ i:Nat,0≤R.getD i 0∧R.getD i 0<1000000:=fun i=>by
  rcases Nat.lt_or_ge i N with h1 | h1
  · obtain ⟨m,e,h2⟩:=h.2 i h1
    have:=(List.getElem?_eq_some_iff.1 h2).1
    rw [e];omega
  · rw [List.getD_eq_getElem?_getD,List.getElem?_eq_none (by rw [h.1];exact h1)];exact ⟨Int.le_refl 0,by decide⟩
end Go.Wk
namespace Go.Wk
open Go.RowKit
def Onto (T0 T:List (List UInt8)) (R:List Int) (k:Nat):Prop:=∀ m:Nat,T0.length≤m→m<T.length→∃ i:Nat,i<k∧R.getD i 0=(m:Int)
theorem Onto.zero (T:List (List UInt8)) (R:List Int):Onto T T R 0:=fun m h1 h2=>absurd h1 (by omega)
structure LevP (n k:Nat) (a b:St) (Ra Rb:List Int) (K:Nat):Prop where
 good:GoodP n k a b Ra Rb
 la:Ra.length=(a.n.toNat+1) ^ k
 lb:Rb.length=(b.n.toNat+1) ^ k
 sa:∀ i:Nat,i<Ra.length→0≤Ra.getD i 0∧Ra.getD i 0<(K:Int)
 sb:∀ i:Nat,i<Rb.length→0≤Rb.getD i 0∧Rb.getD i 0<(K:Int)
 onto:∀ m:Nat,m<K→(∃ i:Nat,i<Ra.length∧Ra.getD i 0=(m:Int))∨∃ i:Nat,i<Rb.length∧Rb.getD i 0=(m:Int)
def sS (a b:St) (s:Bool×List Int):St:=if s.1 then b else a
def sP (a b:St) (k:Nat) (s:Bool×List Int):Prop:=Peb (sS a b s).n.toNat k s.2
def pF (a:St) (xs:List Int) (b:St) (ys:List Int):Prop:=∀ n,pW n a xs b ys
def Still (n k:Nat) (a b:St):Prop:=∀ s t,sP a b k s→sP a b k t→pW n (sS a b s) s.2 (sS a b t) t.2→pW (n+1) (sS a b s) s.2 (sS a b t) t.2
theorem Still.next {n k:Nat} {a b:St} (h:Still n k a b):Still (n+1) k a b:=fun s t hs ht e=>by
  refine ⟨e,fun i hi=>?_⟩
  obtain ⟨h1,h2⟩:=e.2 i hi
  have put:∀ {u:Bool×List Int} {x:Nat},sP a b k u→x<(sS a b u).n.toNat→sP a b k (u.1,u.2.set i (x:Int)):=fun hu hx=>peb_set hu hx
  refine ⟨fun x hx=>?_,fun y hy=>?_⟩
  · obtain ⟨y,hy,e2⟩:=h1 x hx
    exact ⟨y,hy,h (s.1,s.2.set i (x:Int)) (t.1,t.2.set i (y:Int)) (put hs hx) (put ht hy) e2⟩
  · obtain ⟨x,hx,e2⟩:=h2 y hy
    exact ⟨x,hx,h (s.1,s.2.set i (x:Int)) (t.1,t.2.set i (y:Int)) (put hs hx) (put ht hy) e2⟩
theorem Still.all {n k:Nat} {a b:St} (h:Still n k a b):∀ m:Nat,Still (n+m) k a b
 | 0=>h
 | m+1=>(h.all m).next
end Go.Wk
namespace Go.Wk
open Go.RowKit
structure Levs (k M:Nat) (a b:St) (A B:List (List Int)) (m g:Nat):Prop where
 la:A.length=m+1
 lb:B.length=m+1
 lev:∃ Ks:Nat→Nat,(∀ i:Nat,i≤m→Ks i≤1458∧LevP i k a b (A.getD i []) (B.getD i []) (Ks i))∧(4<M→∀ i:Nat,i<g→Ks i<Ks (i+1))
theorem Levs.at {k M m g:Nat} {a b:St} {A B:List (List Int)} (h:Levs k M a b A B m g) {i:Nat} (hi:i≤m):∃ K,K≤1458∧LevP i k a b (A.getD i []) (B.getD i []) K:=by
 obtain ⟨_,_,Ks,h1,_⟩:=h
 exact ⟨Ks i,h1 i hi⟩
end Go.Wk
namespace Go.Wk
open Go.RowKit
theorem RowsOk.cell {rr:List RR} {u:Array Value} {c i:Nat} (h:RowsOk rr u c) (hi:i<rr.length):u.toList[i]?=some (rv (rr.getD i rd)):=by
 have:=rvs_at hi
 rw [← h.vals,List.getElem?_take,if_pos hi] at this
 exact this
end Go.Wk
namespace Go.Wk
open Go.RowKit
end Go.Wk
namespace Go.Wk
open Go.RowKit
end Go.Wk
namespace Go.Wk
open Go.RowKit
end Go.Wk
namespace Go.Wk
open Go.RowKit
def dig (pr s i:Nat):Nat:=s / pr ^ i % pr
def zer (pr s i:Nat):Nat:=s - pr ^ i*dig pr s i
def xOf (nb d:Nat):Int:=if d=0 then -1 else (((d - 1) / nb:Nat):Int)
def yOf (nb d:Nat):Int:=if d=0 then -1 else (((d - 1) % nb:Nat):Int)
def pX (nb pr k s:Nat):List Int:=(List.range k).map fun i=>xOf nb (dig pr s i)
def pY (nb pr k s:Nat):List Int:=(List.range k).map fun i=>yOf nb (dig pr s i)
@[simp] theorem pX_len (nb pr k s:Nat):(pX nb pr k s).length=k:=by simp [pX]
@[simp] theorem pY_len (nb pr k s:Nat):(pY nb pr k s).length=k:=by simp [pY]
def code (nb:Nat) (x y:Int):Nat:=if 0≤x then 1+x.toNat*nb+y.toNat else 0
end Go.Wk
namespace Go.Wk
open Go.RowKit
def prN (a b:St):Nat:=a.n.toNat*b.n.toNat+1
def stX (a b:St) (k s:Nat):List Int:=pX b.n.toNat (prN a b) k s
def stY (a b:St) (k s:Nat):List Int:=pY b.n.toNat (prN a b) k s
@[simp] theorem stX_len (a b:St) (k s:Nat):(stX a b k s).length=k:=by unfold stX;simp
@[simp] theorem stY_len (a b:St) (k s:Nat):(stY a b k s).length=k:=by unfold stY;simp
open Classical in
noncomputable def winAt (n:Nat) (a b:St) (k s:Nat):Bool:=decide (pW n a (stX a b k s) b (stY a b k s))
noncomputable def WL (n:Nat) (a b:St) (k:Nat):List Bool:=(List.range (prN a b ^ k)).map (winAt n a b k)
@[simp] theorem WL_len (n:Nat) (a b:St) (k:Nat):(WL n a b k).length=prN a b ^ k:=by simp [WL]
def Ans (W:Nat→Bool) (na nb rest step:Nat):Prop:=(∀ x:Nat,x<na→∃ y:Nat,y<nb∧W (rest+step*(1+x*nb+y))=true)∧∀ y:Nat,y<nb→∃ x:Nat,x<na∧W (rest+step*(1+x*nb+y))=true
end Go.Wk
namespace Go.Wk
open Go.RowKit
structure Marks (f:Nat→Nat→Bool) (na nb x y:Nat) (R C:List Bool):Prop where
 rl:R.length=na
 cl:C.length=nb
 rows:∀ i:Nat,i<na→(R.getD i false=true↔∃ j:Nat,j<nb∧(i<x∨i=x∧j<y)∧f i j=true)
 cols:∀ j:Nat,j<nb→(C.getD j false=true↔∃ i:Nat,i<na∧(i<x∨i=x∧j<y)∧f i j=true)
end Go.Wk
namespace Go.Wk
open Go.RowKit
end Go.Wk
namespace Go.Wk
end Go.Wk
namespace Go.Wk
open Go.RowKit
structure TurnAt (fit W:Nat→Bool) (a b:St) (k i S:Nat) (X:List Bool):Prop where
 len:X.length=prN a b ^ k
 at_:∀ s:Nat,s<prN a b ^ k→(X.getD s false=true↔fit s=true∧(∀ j:Nat,j<i→Ans W a.n.toNat b.n.toNat (zer (prN a b) s j) (prN a b ^ j))∧(zer (prN a b) s i<S→Ans W a.n.toNat b.n.toNat (zer (prN a b) s i) (prN a b ^ i)))
structure Cleared (X0 X:List Bool) (S step Q:Nat):Prop where
 len:X.length=X0.length
 at_:∀ s:Nat,s<X0.length→(X.getD s false=true↔X0.getD s false=true∧¬ ∃ q,q<Q∧s=S+step*q)
end Go.Wk
namespace Go.Wk
open Go.RowKit
end Go.Wk
namespace Go.Wk
open Go.RowKit
end Go.Wk
namespace Go.Wk
open Go.RowKit
section
variable {P:Program} {n:Nat} {B:Nat} {w0:World} {N R:Act→World→Prop} {X:List (Nat×(Act→World→Prop))} {e:Env} {ops:Array Oper} {l:List Oper} {o:Oper}
end
section
variable {P:Program} {n:Nat} {C:World→Prop} {e:Env} {o:Oper}
theorem OpQ.eqNilP {t t' q:TypeId} {x y:Operand} {p:Option Addr} (h:o.op=.binOp .eql t x y t') (hu:P.underlying t=some (.pointer q)) (hx:opd e x=some (.pointer p)) (hy:opd e y=some (.pointer none)):OpQ P n C e o (.bool p.isNone):=OpQ.val fun A hf w=>by
 have hu':P.underlying t=some (.pointer (P.pointee t)):=by simp [Program.pointee,hu]
 unfold execOp;rw [h];simp only [hf.opd hx,hf.opd hy]
 rw [show eqGuard .eql t x y (Value.pointer p) (Value.pointer none)=pure () from rfl]
 simp only [Sem.run_bind,run_eql_pointer_nil w t p hu',Sem.run_pure,Result.andThen]
end
end Go.Wk
namespace Go.Wk
abbrev jV := @OpQ.eqNilP
end Go.Wk
namespace Go.Wk
open Go.RowKit
section
variable {P:Program} {n:Nat} {C:World→Prop} {N R:Act→World→Prop} {X:List (Nat×(Act→World→Prop))} {e:Env}
def Rn (P:Program) (c:Code) (N R:Act→World→Prop) (X:List (Nat×(Act→World→Prop))) (k:Nat):Act→World→Prop:=fun a w=>Code.rounds P c (post N R X) k a w
theorem then_post {Nn N R:Act→World→Prop} {X:List (Nat×(Act→World→Prop))}:∀ (x:Exit) (a:Act) (w:World),post Nn R X x a w→Exit.then Nn (post N R X) x a w:=fun x a w hh=>by
  cases x <;> first | exact hh | exact hh.elim
theorem Wk.unroll {c:Code} (k:Nat) (h:Wk P n C c (Rn P c N R X k) R X e):Wk P n C (.loop c) N R X e:=by
 unfold Wk at h ⊢;intro a w hf hc
 exact wp_loop_rounds (k+1) (by rw [rounds_succ];exact Code.wp_mono then_post (h a w hf hc))
theorem Kt.round {c:Code} {k:Nat} {e':Env} (hs:Sub e' e) (h:Wk P n C c (Rn P c N R X k) R X e'):Kt n C e (Rn P c N R X (k+1)):=by
 unfold Wk at h;unfold Kt;intro a w hf hc;unfold Rn;rw [rounds_succ];exact Code.wp_mono then_post (h a w (hf.sub hs) hc)
theorem Own.trans {B:Nat} {w0 w1 w:World} {hs:List (Nat×Obj)} (h:Own B w0 hs w1) (k:Below w1.heap.size w1 w):Own B w0 hs w:=h.calls k
end
section
variable {P:Program} {n:Nat} {B:Nat} {w0:World} {hs:List (Nat×Obj)} {N R:Act→World→Prop} {X:List (Nat×(Act→World→Prop))} {e:Env} {ops:Array Oper} {l:List Oper} {o:Oper}
theorem new_one {i p:Nat} {V:Value} {T:TypeId} (hi:hs[i]?=some (p,.cells #[V] T (0,0))):∀ w,Own B w0 hs w→∀ ad,some (⟨p,0,none⟩:Addr)=some ad→∀ j u,([V])[j]?=some u→w.cell? (ad.add j)=some u:=fun w1 hw1 ad had j u hj=>by
 injection had with had;subst had
 rw [Addr.add_lit,Nat.zero_add,hw1.cell (i:=i) hi]
 simpa using hj
theorem Ll.appendN1 {t el d p:Nat} {T:TypeId} {x y:Operand} {V:Value} (E:Elem P t el 1) (i:Nat) (hd:Nat.blt d n=true) (hdst:o.dst=some d) (hg:wantE ops e o.guard=some true)
  (h:o.op=.call ⟨.builtin .append,#[x,y],#[t,t]⟩) (hx:opd e x=some (.slice none 0 0)) (hy:opd e y=some (.slice (some ⟨p,0,none⟩) 1 1)) (hi:hs[i]?=some (p,.cells #[V] T (0,0)))
  (k:∀ g' c' u',B≤g'→u'.size=c'*1→1≤c'→u'.toList.take 1=[V]→Ll P n (Own B w0 ((g',.cells u' el (0,0))::hs)) ops l ((d,.slice (some ⟨g',0,none⟩) 1 c')::e) N R X):Ll P n (Own B w0 hs) ops (o::l) e N R X :=
 Ll.appendNil E [V] hd hdst hg h hx hy (by decide) (by simp) rfl (new_one hi) (by decide) fun g' c' u' h1 h2 h3 h4=>k g' c' u' h1 h2 h3 h4
theorem Ll.append1 {t el d p g m cap:Nat} {cur:Array Value} {vs:List Value} {T:TypeId} {x y:Operand} {V:Value} (E:Elem P t el 1) (j i:Nat) (hd:Nat.blt d n=true) (hdst:o.dst=some d) (hg:wantE ops e o.guard=some true)
  (h:o.op=.call ⟨.builtin .append,#[x,y],#[t,t]⟩) (hx:opd e x=some (.slice (some ⟨g,0,none⟩) m cap)) (hy:opd e y=some (.slice (some ⟨p,0,none⟩) 1 1)) (hj:hs[j]?=some (g,.cells cur el (0,0))) (hc:cur.size=cap*1) (hl:m≤cap) (ht:cur.toList.take m=vs) (hi:hs[i]?=some (p,.cells #[V] T (0,0))) (hV:V.oneCell'=true) (hb:m≤1000000)
  (k:∀ g' c' u',B≤g'→u'.size=c'*1→m+1≤c'→u'.toList.take (m+1)=vs++[V]→Ll P n (Own B w0 (hs.set j (g',.cells u' el (0,0)))) ops l ((d,.slice (some ⟨g',0,none⟩) (m+1) c')::e) N R X):Ll P n (Own B w0 hs) ops (o::l) e N R X :=
 Ll.append E j [V] hd hdst hg h hx hy hj hc hl rfl (fun h=>by cases h) (new_one hi) (by simpa using hV) (by omega) fun g' c' u' h1 h2 h3 h4=>k g' c' u' h1 h2 h3 (by rw [← ht];simpa using h4)
end
theorem u8_beq (b c:UInt8):(b==c)=decide (b.toNat=c.toNat):=by
 rw [Bool.eq_iff_iff,beq_iff_eq,decide_eq_true_eq]
 exact ⟨fun e=>by rw [e],fun e=>UInt8.toNat.inj e⟩
theorem idx_abcd (c:UInt8):decide ((0:Int)≤Lib.indexByte [97,98,99,100] c)=isV c:=by
  unfold isV
  have e:∀ k:UInt8,(k==c)=decide (k.toNat=c.toNat):=fun k=>u8_beq k c
  simp only [Lib.indexByte,e]
  have h1:(97:UInt8).toNat=97:=rfl
  have h2:(98:UInt8).toNat=98:=rfl
  have h3:(99:UInt8).toNat=99:=rfl
  have h4:(100:UInt8).toNat=100:=rfl
  rw [h1,h2,h3,h4,Bool.eq_iff_iff]
  simp only [decide_eq_true_eq,Bool.and_eq_true]
  by_cases c1:97=c.toNat
  · simp [← c1]
  · by_cases c2:98=c.toNat
    · simp [← c2]
    · by_cases c3:99=c.toNat
      · simp [← c3]
      · by_cases c4:100=c.toNat
        · simp [← c4]
        · simp [c1,c2,c3,c4];omega
theorem idx_quant (c:UInt8):decide ((0:Int)≤Lib.indexByte [65,83,50,51,52] c)=decide (quI (c.toNat:Int)):=by
  rw [decide_eq_decide]
  unfold quI
  have e:∀ k:UInt8,(k==c)=decide (k.toNat=c.toNat):=fun k=>u8_beq k c
  simp only [Lib.indexByte,e]
  have h1:(65:UInt8).toNat=65:=rfl
  have h2:(83:UInt8).toNat=83:=rfl
  have h3:(50:UInt8).toNat=50:=rfl
  have h4:(51:UInt8).toNat=51:=rfl
  have h5:(52:UInt8).toNat=52:=rfl
  rw [h1,h2,h3,h4,h5]
  simp only [decide_eq_true_eq]
  by_cases c1:65=c.toNat
  · simp [← c1]
  · by_cases c2:83=c.toNat
    · simp [← c2]
    · by_cases c3:50=c.toNat
      · simp [← c3]
      · by_cases c4:51=c.toNat
        · simp [← c4]
        · by_cases c5:52=c.toNat
          · simp [← c5]
          · exact ⟨fun h=>absurd h (by simp [c1,c2,c3,c4,c5]),fun h=>by exfalso;rcases h with h | h | h | h | h <;> omega⟩
theorem first_of {s:List UInt8} (h:s ≠ []):0<s.length∧s=s.getD 0 0::s.drop 1:=by
 cases s with
 | nil=>exact absurd rfl h
 | cons c s=>exact ⟨by simp,rfl⟩
theorem pp_by {s : List UInt8} (h : s ≠ []) : parse s = if isOp (s.getD 0 0) then
      match takeV (arV (s.getD 0 0)) (s.drop 1) with
      | none=>none
      | some (vs,r) =>
        if arP (s.getD 0 0)=0 then some (.leaf (s.getD 0 0) vs,r)
        else if arP (s.getD 0 0)=1 then (match parse r with | some (p,r')=>some (.one (s.getD 0 0) vs p,r') | none=>none)
        else (match parse r with
          | some (p,r')=>(match parse r' with | some (q,r2)=>some (.two (s.getD 0 0) p q,r2) | none=>none)
          | none=>none)
    else none:=by
  have:=parse_cons (s.getD 0 0) (s.drop 1)
  rw [← (first_of h).2] at this
  exact this
def okV (s:List UInt8) (k:Nat):Prop:=¬ s.drop k=[]∧isV (s.getD k 0)=true
theorem okV_iff {s:List UInt8} {k:Nat}:¬ varI s (k:Int)<0↔okV s k:=by
 rw [varI_neg,Classical.not_not,Int.toNat_natCast]
 unfold okV
 have h:¬ s.drop k=[]↔k<s.length:=by rw [List.drop_eq_nil_iff];omega
 rw [h]
 exact ⟨fun e=>⟨by omega,e.2.2⟩,fun e=>⟨by omega,by omega,e.2⟩⟩
theorem pp0 {s:List UInt8} (h:s ≠ []) (hc:s.getD 0 0=116∨s.getD 0 0=102):parse s=some (.leaf (s.getD 0 0) [],s.drop 1):=by
 rw [pp_by h];rcases hc with e | e <;> rw [e] <;> rfl
theorem pp1 {s:List UInt8} (h:s ≠ []) (hc:s.getD 0 0=80):(okV s 1→parse s=some (.leaf 80 [s.getD 1 0],s.drop 2))∧(¬ okV s 1→parse s=none):=by
  rw [pp_by h,hc,show arV 80=1 from rfl,takeV_one]
  refine ⟨fun hv=>?_,fun hv=>?_⟩
  · rw [if_neg (show ¬ varI s ((1:Nat):Int)<0 from okV_iff.2 hv)];rfl
  · rw [if_pos (show varI s ((1:Nat):Int)<0 from Classical.byContradiction fun e=>hv (okV_iff.1 e))];rfl
theorem pp2 {s:List UInt8} (h:s ≠ []) (hc:s.getD 0 0=61∨s.getD 0 0=69):(okV s 1→okV s 2→parse s=some (.leaf (s.getD 0 0) [s.getD 1 0,s.getD 2 0],s.drop 3))∧(¬ okV s 1∨¬ okV s 2→parse s=none):=by
  have ha:arV (s.getD 0 0)=2∧arP (s.getD 0 0)=0∧isOp (s.getD 0 0)=true:=by rcases hc with e | e <;> rw [e] <;> exact ⟨rfl,rfl,rfl⟩
  rw [pp_by h,if_pos ha.2.2,ha.1,takeV_two]
  refine ⟨fun h1 h2=>?_,fun hv=>?_⟩
  · rw [if_neg (fun e=>e.elim (fun e=>okV_iff.2 h1 e) (fun e=>okV_iff.2 h2 e))]
    dsimp only
    rw [if_pos ha.2.1]
  · rw [if_pos]
    rcases hv with e | e
    · exact .inl (Classical.byContradiction fun z=>e (okV_iff.1 z))
    · exact .inr (Classical.byContradiction fun z=>e (okV_iff.1 z))
theorem pp3 {s:List UInt8} (h:s ≠ []) (hc:s.getD 0 0=33):(∀ q r,parse (s.drop 1)=some (q,r)→parse s=some (.one 33 [] q,r))∧(parse (s.drop 1)=none→parse s=none):=by
 rw [pp_by h,hc]
 exact ⟨fun q r e=>by rw [show takeV (arV 33) (s.drop 1)=some ([],s.drop 1) from rfl];dsimp only;rw [e];rfl,fun e=>by rw [show takeV (arV 33) (s.drop 1)=some ([],s.drop 1) from rfl];dsimp only;rw [e];rfl⟩
theorem pp4 {s:List UInt8} (h:s ≠ []) (hc:s.getD 0 0=38∨s.getD 0 0=124):(∀ q r q2 r2,parse (s.drop 1)=some (q,r)→parse r=some (q2,r2)→parse s=some (.two (s.getD 0 0) q q2,r2))∧(parse (s.drop 1)=none→parse s=none)∧(∀ q r,parse (s.drop 1)=some (q,r)→parse r=none→parse s=none):=by
 have ha:arV (s.getD 0 0)=0∧arP (s.getD 0 0)=2∧isOp (s.getD 0 0)=true:=by rcases hc with e | e <;> rw [e] <;> exact ⟨rfl,rfl,rfl⟩
 have ht:takeV (arV (s.getD 0 0)) (s.drop 1)=some ([],s.drop 1):=by rw [ha.1];rfl
 rw [pp_by h,if_pos ha.2.2,ht]
 dsimp only
 rw [if_neg (by omega),if_neg (by omega)]
 exact ⟨fun q r q2 r2 e1 e2=>by rw [e1];dsimp only;rw [e2],fun e=>by rw [e],fun q r e1 e2=>by rw [e1];dsimp only;rw [e2]⟩
theorem pp5 {s:List UInt8} (h:s ≠ []) (hc:quI ((s.getD 0 0).toNat:Int)):(∀ q r,okV s 1→parse (s.drop 2)=some (q,r)→parse s=some (.one (s.getD 0 0) [s.getD 1 0] q,r))∧(¬ okV s 1→parse s=none)∧(parse (s.drop 2)=none→parse s=none):=by
  have ha:arV (s.getD 0 0)=1∧arP (s.getD 0 0)=1∧isOp (s.getD 0 0)=true:=by rcases quI_of hc with e | e | e | e | e <;> rw [e] <;> exact ⟨rfl,rfl,rfl⟩
  rw [pp_by h,if_pos ha.2.2,ha.1,takeV_one]
  refine ⟨fun q r hv e=>?_,fun hv=>?_,fun e=>?_⟩
  · rw [if_neg (show ¬ varI s ((1:Nat):Int)<0 from okV_iff.2 hv)]
    dsimp only
    rw [if_neg (by omega),if_pos ha.2.1,e]
  · rw [if_pos (show varI s ((1:Nat):Int)<0 from Classical.byContradiction fun e=>hv (okV_iff.1 e))]
  · split
    · rfl
    · rename_i vs r hh
      split at hh
      · cases hh
      · injection hh with hh;injection hh with _ hh;subst hh
        rw [if_neg (by omega),if_pos ha.2.1,e]
theorem ppX {s:List UInt8} (h:s ≠ []) (hc:isOp (s.getD 0 0)=false):parse s=none:=by
 rw [pp_by h,hc];rfl
theorem isOp_no {c:UInt8} (h1:¬ (c.toNat:Int)=116) (h2:¬ (c.toNat:Int)=102) (h3:¬ (c.toNat:Int)=80) (h4:¬ (c.toNat:Int)=61) (h5:¬ (c.toNat:Int)=69) (h6:¬ (c.toNat:Int)=33) (h7:¬ (c.toNat:Int)=38) (h8:¬ (c.toNat:Int)=124) (h9:¬ quI (c.toNat:Int)):isOp c=false:=by
 cases e:isOp c with
 | false=>rfl
 | true =>
  unfold quI at h9
  unfold isOp at e
  rw [decide_eq_true_eq] at e
  simp only [List.mem_cons,List.not_mem_nil,or_false] at e
  rcases e with e | e | e | e | e | e | e | e | e | e | e | e | e <;> rw [e] at h1 h2 h3 h4 h5 h6 h7 h8 h9 <;> simp at h1 h2 h3 h4 h5 h6 h7 h8 h9
theorem getD_drop {s:List UInt8} {k:Nat}:(s.drop k).getD 0 0=s.getD k 0:=by
 rw [List.getD_eq_getElem?_getD,List.getElem?_drop,Nat.add_zero,← List.getD_eq_getElem?_getD]
theorem take_drop1 {s:List UInt8} {k:Nat} (h:¬ s.drop k=[]):(s.drop k).take 1=[s.getD k 0]:=by
 have h2:=(first_of h).2
 rw [getD_drop] at h2
 rw [h2];rfl
theorem two_of {c:UInt8} {m n:Nat} (hm:m<256) (hn:n<256) (h:(c.toNat:Int)=(m:Int)∨(c.toNat:Int)=(n:Int)):c=UInt8.ofNat m∨c=UInt8.ofNat n :=
 h.elim (fun e=>.inl (u8_of hm e)) (fun e=>.inr (u8_of hn e))
end Go.Wk
namespace Go.Wk
abbrev jD := @Ll.appendN1
abbrev jT := @Wk.unroll
end Go.Wk
namespace Go.Wk
open Go.RowKit
theorem or_lt16 {a b:Nat} (ha:a<16) (hb:b<16):a ||| b<16:=Nat.or_lt_two_pow (n:=4) ha hb
def ptrV (p:Nat):Value:=.pointer (some ⟨p,0,none⟩)
def u8V (v:UInt8):Value:=.int .u8 (v.toNat:Int)
def NodeC (T:TypeId) (w:World) (p:Nat) (c:UInt8) (vs:List UInt8) (ps:List Nat) (fr al:Nat):Prop :=
 ∃ vv pv,w.heap[p]?=some (.cells #[u8V c,vv,pv,.int .i64 (fr:Int),.int .i64 (al:Int)] T (0,0))∧Row w vv (vs.map u8V)∧Row w pv (ps.map ptrV)
def Tree (T:TypeId) (w:World):Fm→Nat→Prop
 | .leaf c vs,p=>NodeC T w p c vs [] (frB (.leaf c vs)) (allB (.leaf c vs))
 | .one c vs q,p=>∃ q',NodeC T w p c vs [q'] (frB (.one c vs q)) (allB (.one c vs q))∧Tree T w q q'
 | .two c q r,p=>∃ q' r',NodeC T w p c [] [q',r'] (frB (.two c q r)) (allB (.two c q r))∧Tree T w q q'∧Tree T w r r'
theorem NodeC.own {T:TypeId} {w w':World} {p:Nat} {c:UInt8} {vs:List UInt8} {ps:List Nat} {fr al:Nat} {hs:List (Nat×Obj)} (h:NodeC T w p c vs ps fr al) (hw:Own w.heap.size w hs w'):NodeC T w' p c vs ps fr al:=by
  obtain ⟨vv,pv,h1,h2,h3⟩:=h
  refine ⟨vv,pv,?_,h2.own hw,h3.own hw⟩
  rw [hw.below.block p ?_]
  · exact h1
  · rcases Nat.lt_or_ge p w.heap.size with h | h
    · exact h
    · rw [Array.getElem?_eq_none h] at h1;cases h1
theorem Tree.own {T:TypeId} {w w':World} {hs:List (Nat×Obj)} (hw:Own w.heap.size w hs w'):∀ {fm:Fm} {p:Nat},Tree T w fm p→Tree T w' fm p
 | .leaf _ _,_,h=>NodeC.own h hw
 | .one _ _ _,_,h=>by obtain ⟨q',h1,h2⟩:=h;exact ⟨q',h1.own hw,Tree.own hw h2⟩
 | .two _ _ _,_,h=>by obtain ⟨q',r',h1,h2,h3⟩:=h;exact ⟨q',r',h1.own hw,Tree.own hw h2,Tree.own hw h3⟩
theorem Tree.node {T:TypeId} {w:World}:∀ {fm:Fm} {p:Nat},Tree T w fm p→∃ c vs ps,NodeC T w p c vs ps (frB fm) (allB fm)
 | .leaf c vs,_,h=>⟨c,vs,[],h⟩
 | .one c vs _,_,h=>by obtain ⟨q',h1,_⟩:=h;exact ⟨c,vs,[q'],h1⟩
 | .two c _ _,_,h=>by obtain ⟨q',r',h1,_⟩:=h;exact ⟨c,[],[q',r'],h1⟩
theorem Row.same {w:World} {v:Value} {vs us:List Value} (h:Row w v vs) (k:Row w v us):vs=us:=by
  obtain ⟨src,cap,h1,_,h3,h4⟩:=h
  obtain ⟨src',cap',k1,_,k3,k4⟩:=k
  rw [h1] at k1
  injection k1 with e1 e2 e3
  subst e1
  cases src with
  | none=>rw [h3 rfl,k3 rfl]
  | some ad =>
    apply List.ext_getElem? ;intro j
    rcases Nat.lt_or_ge j vs.length with hj | hj
    · have a1:=(h4 ad rfl).2 j vs[j] (List.getElem?_eq_getElem hj)
      have a2:=(k4 ad rfl).2 j us[j] (List.getElem?_eq_getElem (by omega))
      rw [List.getElem?_eq_getElem hj,List.getElem?_eq_getElem (show j<us.length by omega)]
      exact a1.symm.trans a2
    · rw [List.getElem?_eq_none hj,List.getElem?_eq_none (by omega)]
theorem u8V_inj {a b:UInt8} (h:u8V a=u8V b):a=b:=by
 unfold u8V at h;injection h with _ h
 exact UInt8.toNat.inj (by omega)
theorem ptrV_inj {a b:Nat} (h:ptrV a=ptrV b):a=b:=by
 unfold ptrV at h;injection h with h;injection h with h;injection h
theorem map_inj' {α β:Type} {f:α→β} (hf:∀ a b,f a=f b→a=b):∀ {xs ys:List α},xs.map f=ys.map f→xs=ys
 | [],[],_=>rfl
 | [],_::_,h=>by cases h
 | _::_,[],h=>by cases h
 | x::xs,y::ys,h=>by
  simp only [List.map_cons,List.cons.injEq] at h
  rw [hf x y h.1,map_inj' hf h.2]
theorem NodeC.same {T:TypeId} {w:World} {p:Nat} {c c':UInt8} {vs vs':List UInt8} {ps ps':List Nat} {fr al fr' al':Nat} (h:NodeC T w p c vs ps fr al) (k:NodeC T w p c' vs' ps' fr' al'):c=c'∧vs=vs'∧ps=ps':=by
 obtain ⟨vv,pv,h1,h2,h3⟩:=h
 obtain ⟨vv',pv',k1,k2,k3⟩:=k
 rw [h1] at k1
 have k4:=Option.some.inj k1
 injection k4 with k5
 have e1:u8V c=u8V c':=by have:=congrArg (fun a:Array Value=>a[0]?) k5;exact Option.some.inj this
 have e2:vv=vv':=by have:=congrArg (fun a:Array Value=>a[1]?) k5;exact Option.some.inj this
 have e3:pv=pv':=by have:=congrArg (fun a:Array Value=>a[2]?) k5;exact Option.some.inj this
 subst e2;subst e3
 exact ⟨u8V_inj e1,map_inj' (fun _ _=>u8V_inj) (h2.same k2),map_inj' (fun _ _=>ptrV_inj) (h3.same k3)⟩
theorem Tree.same {T:TypeId} {w:World}:∀ {fm fm':Fm} {p:Nat},Tree T w fm p→Tree T w fm' p→fm=fm'
 | .leaf c vs,.leaf c' vs',p,h,k=>by obtain ⟨e1,e2,_⟩:=NodeC.same h k;rw [e1,e2]
 | .leaf c vs,.one c' vs' q,p,h,k=>by obtain ⟨q',k1,_⟩:=k;have:=(NodeC.same h k1).2.2;cases this
 | .leaf c vs,.two c' q r,p,h,k=>by obtain ⟨q',r',k1,_⟩:=k;have:=(NodeC.same h k1).2.2;cases this
 | .one c vs q,.leaf c' vs',p,h,k=>by obtain ⟨q',h1,_⟩:=h;have:=(NodeC.same h1 k).2.2;cases this
 | .one c vs q,.one c' vs' r,p,h,k=>by
  obtain ⟨q',h1,h2⟩:=h
  obtain ⟨r',k1,k2⟩:=k
  obtain ⟨e1,e2,e3⟩:=NodeC.same h1 k1
  injection e3 with e3;subst e3
  rw [e1,e2,Tree.same h2 k2]
 | .one c vs q,.two c' r s,p,h,k=>by obtain ⟨q',h1,_⟩:=h;obtain ⟨r',s',k1,_⟩:=k;have:=(NodeC.same h1 k1).2.2;cases this
 | .two c q r,.leaf c' vs',p,h,k=>by obtain ⟨q',r',h1,_⟩:=h;have:=(NodeC.same h1 k).2.2;cases this
 | .two c q r,.one c' vs' s,p,h,k=>by obtain ⟨q',r',h1,_⟩:=h;obtain ⟨s',k1,_⟩:=k;have:=(NodeC.same h1 k1).2.2;cases this
 | .two c q r,.two c' q2 r2,p,h,k=>by
  obtain ⟨q',r',h1,h2,h3⟩:=h
  obtain ⟨q2',r2',k1,k2,k3⟩:=k
  obtain ⟨e1,_,e3⟩:=NodeC.same h1 k1
  injection e3 with e3 e4;injection e4 with e4;subst e3;subst e4
  rw [e1,Tree.same h2 k2,Tree.same h3 k3]
theorem Tree.lt {T:TypeId} {w:World} {fm:Fm} {p:Nat} (h:Tree T w fm p):p<w.heap.size:=by
  obtain ⟨c,vs,ps,vv,pv,h1,_⟩:=h.node
  rcases Nat.lt_or_ge p w.heap.size with h | h
  · exact h
  · rw [Array.getElem?_eq_none h] at h1;cases h1
theorem cell_of {w:World} {p:Nat} {cs:Array Value} {T:TypeId} {v:Value} {off:Nat} (h:w.heap[p]?=some (.cells cs T (0,0))) (hv:cs[off]?=some v):w.cell? ⟨p,off,none⟩=some v:=at_box h (Own.start w) off hv
theorem tree_free {T:TypeId} {w:World} {fm:Fm} {p:Nat} (h:Tree T w fm p):w.cell? ⟨p,3,none⟩=some (.int .i64 (frB fm:Int)):=by
 obtain ⟨c,vs,ps,vv,pv,h1,_⟩:=h.node
 exact cell_of h1 rfl
theorem tree_all {T:TypeId} {w:World} {fm:Fm} {p:Nat} (h:Tree T w fm p):w.cell? ⟨p,4,none⟩=some (.int .i64 (allB fm:Int)):=by
 obtain ⟨c,vs,ps,vv,pv,h1,_⟩:=h.node
 exact cell_of h1 rfl
theorem vI_wrap {v:UInt8} (h:isV v=true):IntKind.u8.wrap ((v.toNat:Int) - 97)=(vI v:Int):=by
 obtain ⟨h1,h2⟩:=vI_lt h
 rw [IntWalk.u8_in _ (by omega)];omega
end Go.Wk
namespace Go.Wk
open Go.RowKit
def entP (x:(Nat×Nat)×Nat):MapEntry:={ key:=ptrV x.1.1,val:=.map (some x.1.2),born:=x.2 }
def mapP (K:List (Nat×Nat)):Obj:=.map ((K.zipIdx.map entP).toArray) K.length
def entI (x:(Int×Bool)×Nat):MapEntry:={ key:=.int .i64 x.1.1,val:=.bool x.1.2,born:=x.2 }
def mapI (L:List (Int×Bool)):Obj:=.map ((L.zipIdx.map entI).toArray) L.length
section
variable {P:Program} {w:World} {kt:TypeId} {k:Value}
theorem asking_no:∀ (l:List MapEntry) (i:Nat),(∀ e∈l,(Op.equal kt k e.key).run P w=.ok false w)→(Instr.findAsking kt k l i).run P w=.ok none w
 | [],_,_=>rfl
 | e::l,i,h=>by
  unfold Instr.findAsking
  simp only [Sem.run_bind,h e (by simp),Result.andThen]
  exact asking_no l (i+1) fun x hx=>h x (List.mem_cons_of_mem _ hx)
theorem asking_at:∀ (l:List MapEntry) (i j:Nat) {e:MapEntry},l[j]?=some e→(Op.equal kt k e.key).run P w=.ok true w→(∀ (q:Nat) (x:MapEntry),q<j→l[q]?=some x→(Op.equal kt k x.key).run P w=.ok false w)→(Instr.findAsking kt k l i).run P w=.ok (some (i+j,e.val)) w
 | [],_,_,_,h,_,_=>by simp at h
 | x::l,i,0,e,h,h1,_=>by
  have hx:x=e:=by simpa using h
  subst hx
  unfold Instr.findAsking
  simp only [Sem.run_bind,h1,Result.andThen]
  rfl
 | x::l,i,j+1,e,h,h1,h2=>by
  unfold Instr.findAsking
  simp only [Sem.run_bind,h2 0 x (by omega) rfl,Result.andThen]
  have:=asking_at l (i+1) j (e:=e) (by simpa using h) h1 fun q y hq hy=>h2 (q+1) y (by omega) (by simpa using hy)
  rw [show i+(j+1)=i+1+j from by omega]
  exact this
theorem findKeyP {te:TypeId} (hkt:P.underlying kt=some (.pointer te)) {l:List MapEntry} {r:Option (Nat×Value)} (h:(Instr.findAsking kt k l 0).run P w=.ok r w):(Instr.findKey kt k l).run P w=.ok r w:=by
 cases l with
 | nil =>
  have e:r=none:=by
   have:Result.ok (none:Option (Nat×Value)) w=.ok r w:=h
   injection this with this;exact this.symm
  subst e
  simp [Instr.findKey,run_underlying hkt,Result.andThen,Instr.findNow]
 | cons x l =>
  simp only [Instr.findKey,Sem.run_bind,run_underlying hkt,Result.andThen]
  simp only [Instr.findNow,Instr.sameNow]
  exact h
theorem ptr_same {te sz p:Nat} (hkt:P.underlying kt=some (.pointer te)) (hsz:∀ w,(sizeOf te).run P w=.ok sz w) (h0:sz ≠ 0):(Op.equal kt (ptrV p) (ptrV p)).run P w=.ok true w:=by
 have h:∀ d:Nat,(Op.equalIn (d+1) kt (ptrV p) (ptrV p)).run P w=.ok true w:=fun d=>by
  simp [Op.equalIn,ptrV,run_underlying hkt,hsz,h0,run_sameAddr_same,Result.andThen]
 exact h 9999
theorem ptr_other {te sz p q:Nat} {cp cq:Array Value} {tp tq:TypeId} (hkt:P.underlying kt=some (.pointer te)) (hsz:∀ w,(sizeOf te).run P w=.ok sz w) (h0:sz ≠ 0) (hne:p ≠ q)
  (hp:w.heap[p]?=some (.cells cp tp (0,0))) (hq:w.heap[q]?=some (.cells cq tq (0,0))):(Op.equal kt (ptrV p) (ptrV q)).run P w=.ok false w:=by
 have h:∀ d:Nat,(Op.equalIn (d+1) kt (ptrV p) (ptrV q)).run P w=.ok false w:=fun d=>by
  simp [Op.equalIn,ptrV,run_underlying hkt,hsz,h0,run_sameAddr_other w (a:=⟨p,0,none⟩) (b:=⟨q,0,none⟩) (fun e=>hne (by injection e)) hp hq,Result.andThen]
 exact h 9999
theorem checkKeyP {te:TypeId} (hkt:P.underlying kt=some (.pointer te)) (p:Nat) (b:Bool):(Instr.checkKey b 10000 kt (ptrV p)).run P w=.ok () w:=by
 show (Instr.checkKey b (9999+1) kt (ptrV p)).run P w=.ok () w
 unfold Instr.checkKey
 simp only [Sem.run_bind,run_underlying hkt,Result.andThen,ptrV]
 rfl
end
theorem zip_get {α:Type} {K:List α} {j:Nat} {x:α} {g:α×Nat→MapEntry} (h:K[j]?=some x):(K.zipIdx.map g)[j]?=some (g (x,j)):=by
 rw [List.getElem?_map,List.getElem?_zipIdx,h];simp
theorem zip_mem {α:Type} {K:List α} {e:MapEntry} {g:α×Nat→MapEntry} (h:e∈K.zipIdx.map g):∃ x j,K[j]?=some x∧e=g (x,j):=by
 obtain ⟨⟨x,j⟩,h1,h2⟩:=List.mem_map.1 h
 exact ⟨x,j,List.mem_zipIdx_iff_getElem?.1 h1,h2.symm⟩
theorem key_case (K:List (Nat×Nat)) (p:Nat):(∀ x∈K,x.1 ≠ p)∨∃ j m,K[j]?=some (p,m)∧∀ (q:Nat) (x:Nat×Nat),q<j→K[q]?=some x→x.1 ≠ p:=by
  induction K with
  | nil=>exact .inl fun x hx=>by cases hx
  | cons y K ih =>
    by_cases e:y.1=p
    · exact .inr ⟨0,y.2,by rw [← e];rfl,fun q x hq=>by omega⟩
    · rcases ih with h | ⟨j,m,h1,h2⟩
      · exact .inl fun x hx=>by
          rcases List.mem_cons.1 hx with rfl | hx
          · exact e
          · exact h x hx
      · refine .inr ⟨j+1,m,h1,fun q x hq hx=>?_⟩
        cases q with
        | zero=>rw [show x=y from by simpa using hx.symm];exact e
        | succ q=>exact h2 q x (by omega) (by simpa using hx)
section
variable {P:Program} {n:Nat} {B:Nat} {w0:World} {hs:List (Nat×Obj)} {N R:Act→World→Prop} {X:List (Nat×(Act→World→Prop))} {e:Env} {ops:Array Oper} {l:List Oper} {o:Oper}
def KeysIn (B:Nat) (w0:World) (hs:List (Nat×Obj)) (p:Nat):Prop:=∀ w,Own B w0 hs w→∃ cs T,w.heap[p]?=some (.cells cs T (0,0))
theorem findP_no {kt te sz p:Nat} {K:List (Nat×Nat)} {w:World} (hkt:P.underlying kt=some (.pointer te)) (hsz:∀ w,(sizeOf te).run P w=.ok sz w) (h0:sz ≠ 0) (hno:∀ x∈K,x.1 ≠ p)
  (hK:∀ x∈K,KeysIn B w0 hs x.1) (hp:KeysIn B w0 hs p) (hw:Own B w0 hs w):(Instr.findKey kt (ptrV p) ((K.zipIdx.map entP).toArray).toList).run P w=.ok none w:=by
 refine findKeyP hkt (asking_no _ 0 fun e he=>?_)
 obtain ⟨x,j,h1,rfl⟩:=zip_mem (show e∈K.zipIdx.map entP from he)
 have hm:=List.mem_of_getElem? h1
 obtain ⟨c1,t1,g1⟩:=hp w hw
 obtain ⟨c2,t2,g2⟩:=hK x hm w hw
 exact ptr_other hkt hsz h0 (fun q=>hno x hm q.symm) g1 g2
theorem findP_at {kt te sz p j m:Nat} {K:List (Nat×Nat)} {w:World} (hkt:P.underlying kt=some (.pointer te)) (hsz:∀ w,(sizeOf te).run P w=.ok sz w) (h0:sz ≠ 0) (hj:K[j]?=some (p,m)) (hf:∀ (q:Nat) (x:Nat×Nat),q<j→K[q]?=some x→x.1 ≠ p)
    (hK:∀ x∈K,KeysIn B w0 hs x.1) (hw:Own B w0 hs w):(Instr.findKey kt (ptrV p) ((K.zipIdx.map entP).toArray).toList).run P w=.ok (some (j,.map (some m))) w:=by
  have:=findKeyP hkt (asking_at (P:=P) (w:=w) (kt:=kt) (k:=ptrV p) (K.zipIdx.map entP) 0 j (zip_get (g:=entP) hj) (ptr_same hkt hsz h0) fun q x hq hx=>?_)
  · rw [Nat.zero_add] at this;exact this
  · obtain ⟨y,i,h1,rfl⟩:=zip_mem (List.mem_of_getElem? hx)
    have hq2:(K.zipIdx.map entP)[q]?=some (entP (y,i)):=hx
    rw [List.getElem?_map,List.getElem?_zipIdx] at hq2
    cases hy:K[q]? with
    | none=>rw [hy] at hq2;simp at hq2
    | some z =>
      rw [hy] at hq2
      have hz:z.1=y.1:=by
        have:=congrArg (Option.map fun u:MapEntry=>u.key) hq2
        simp [entP] at this
        exact ptrV_inj this
      obtain ⟨c1,t1,g1⟩:=hK _ (List.mem_of_getElem? hj) w hw
      obtain ⟨c2,t2,g2⟩:=hK _ (List.mem_of_getElem? h1) w hw
      exact ptr_other hkt hsz h0 (fun u=>hf q z hq hy (by rw [hz];exact u.symm)) g1 g2
theorem OpQ.lookP_no {t kt et te sz r p:Nat} {x y:Operand} {K:List (Nat×Nat)} (i:Nat) (h:o.op=.lookup t x y false) (hm:P.underlying t=some (.map kt et)) (hkt:P.underlying kt=some (.pointer te)) (hsz:∀ w,(sizeOf te).run P w=.ok sz w) (h0:sz ≠ 0) (hz:∀ w,(zeroValue et).run P w=.ok (.map none) w)
  (hx:opd e x=some (.map (some r))) (hy:opd e y=some (ptrV p)) (hi:hs[i]?=some (r,mapP K)) (hno:∀ x∈K,x.1 ≠ p) (hK:∀ x∈K,KeysIn B w0 hs x.1) (hp:KeysIn B w0 hs p):OpQ P n (Own B w0 hs) e o (.map none):=by
 unfold OpQ
 intro a hF w hw
 have hb:w.heap[r]?=some (.map ((K.zipIdx.map entP).toArray) K.length):=(hw.has i r _ hi).2
 unfold Oper.quietAt execOp;rw [h]
 simp only [hF.opd hx,hF.opd hy,Instr.lookup,Sem.run_bind,run_underlying hm,MapKept.run_getObj_map hb,checkKeyP hkt,findP_no hkt hsz h0 hno hK hp hw,hz,Sem.run_pure,Result.andThen]
 exact ⟨rfl,rfl⟩
theorem OpQ.lookP_at {t kt et te sz r p j m:Nat} {x y:Operand} {K:List (Nat×Nat)} (i:Nat) (h:o.op=.lookup t x y false) (hm:P.underlying t=some (.map kt et)) (hkt:P.underlying kt=some (.pointer te)) (hsz:∀ w,(sizeOf te).run P w=.ok sz w) (h0:sz ≠ 0)
  (hx:opd e x=some (.map (some r))) (hy:opd e y=some (ptrV p)) (hi:hs[i]?=some (r,mapP K)) (hj:K[j]?=some (p,m)) (hf:∀ (q:Nat) (x:Nat×Nat),q<j→K[q]?=some x→x.1 ≠ p) (hK:∀ x∈K,KeysIn B w0 hs x.1):OpQ P n (Own B w0 hs) e o (.map (some m)):=by
 unfold OpQ
 intro a hF w hw
 have hb:w.heap[r]?=some (.map ((K.zipIdx.map entP).toArray) K.length):=(hw.has i r _ hi).2
 unfold Oper.quietAt execOp;rw [h]
 simp only [hF.opd hx,hF.opd hy,Instr.lookup,Sem.run_bind,run_underlying hm,MapKept.run_getObj_map hb,checkKeyP hkt,findP_at hkt hsz h0 hj hf hK hw,Sem.run_pure,Result.andThen]
 exact ⟨rfl,rfl⟩
theorem mapP_add (K:List (Nat×Nat)) (p m:Nat):mapP (K++[(p,m)])=.map (((K.zipIdx.map entP).toArray).push { key:=ptrV p,val:=.map (some m),born:=K.length }) (K.length+1):=by
 unfold mapP
 rw [List.zipIdx_append,List.map_append,List.push_toArray]
 simp [entP]
theorem Ll.mapSetP {t kt et te sz r p m:Nat} {x y z:Operand} {K:List (Nat×Nat)} (i:Nat) (hdst:o.dst=none) (hg:wantE ops e o.guard=some true) (h:o.op=.mapUpdate t x y z) (hm:P.underlying t=some (.map kt et)) (hkt:P.underlying kt=some (.pointer te)) (hsz:∀ w,(sizeOf te).run P w=.ok sz w) (h0:sz ≠ 0)
    (hx:opd e x=some (.map (some r))) (hy:opd e y=some (ptrV p)) (hz:opd e z=some (.map (some m))) (hi:hs[i]?=some (r,mapP K)) (hno:∀ x∈K,x.1 ≠ p) (hK:∀ x∈K,KeysIn B w0 hs x.1) (hp:KeysIn B w0 hs p)
    (k:Ll P n (Own B w0 (hs.set i (r,mapP (K++[(p,m)])))) ops l e N R X):Ll P n (Own B w0 hs) ops (o::l) e N R X :=
  Ll.turnN hdst hg fun a w hF hw=>by
    have hb:w.heap[r]?=some (.map ((K.zipIdx.map entP).toArray) K.length):=(hw.has i r _ hi).2
    refine ⟨{ w with heap:=w.heap.setIfInBounds r (mapP (K++[(p,m)])) },?_,fun a' ha=>?_⟩
    · unfold execOp;rw [h];simp only [hF.opd hx,hF.opd hy,hF.opd hz]
      have run:(Instr.mapUpdate t (.map (some r)) (ptrV p) (.map (some m))).run P w=.ok () { w with heap:=w.heap.setIfInBounds r (mapP (K++[(p,m)])) }:=by
        rw [mapP_add]
        simp [Instr.mapUpdate,run_underlying hm,MapKept.run_getObj_map hb,checkKeyP hkt,findP_no hkt hsz h0 hno hK hp hw,MapKept.run_setObj_map _ hb,Result.andThen]
      simp only [Sem.run_bind,run,Result.andThen]
      rfl
    · unfold Ll at k
      exact k a' _ ha (hw.setObj hi _)
theorem Ll.makeMapP {d t:Nat} (hd:Nat.blt d n=true) (hdst:o.dst=some d) (hg:wantE ops e o.guard=some true) (h:o.op=.makeMap t none)
  (k:∀ p,B≤p→Ll P n (Own B w0 ((p,mapP [])::hs)) ops l ((d,.map (some p))::e) N R X):Ll P n (Own B w0 hs) ops (o::l) e N R X:=Ll.makeMap hd hdst hg h k
theorem Ll.makeMapI {d t:Nat} (hd:Nat.blt d n=true) (hdst:o.dst=some d) (hg:wantE ops e o.guard=some true) (h:o.op=.makeMap t none)
  (k:∀ p,B≤p→Ll P n (Own B w0 ((p,mapI [])::hs)) ops l ((d,.map (some p))::e) N R X):Ll P n (Own B w0 hs) ops (o::l) e N R X:=Ll.makeMap hd hdst hg h k
theorem keyI (k:Int):MapKept.IsKey (.int .i64) (.int .i64 k):=rfl
theorem keysI (L:List (Int×Bool)):∀ x∈((L.zipIdx.map entI).toArray).toList,MapKept.IsKey (.int .i64) x.key:=fun x hx=>by
 obtain ⟨y,j,_,rfl⟩:=zip_mem (show x∈L.zipIdx.map entI from hx)
 rfl
theorem findI (k:Int) (L:List (Int×Bool)):(Instr.findNow (.int .i64) (.int .i64 k) ((L.zipIdx.map entI).toArray).toList 0=some none∧∀ x∈L,x.1 ≠ k)∨∃ j b,Instr.findNow (.int .i64) (.int .i64 k) ((L.zipIdx.map entI).toArray).toList 0=some (some (j,.bool b))∧L[j]?=some (k,b):=by
  rcases MapKept.findNow_spec (keyI k) ((L.zipIdx.map entI).toArray).toList 0 (keysI L) with ⟨h1,h2⟩ | ⟨j,e,h1,h2,h3⟩
  · refine .inl ⟨h1,fun x hx q=>?_⟩
    obtain ⟨j,hj⟩:=List.mem_iff_getElem?.1 hx
    exact h2 (entI (x,j)) (List.mem_of_getElem? (zip_get (g:=entI) hj)) (by rw [← q];rfl)
  · have h2':(L.zipIdx.map entI)[j]?=some e:=by simpa using h2
    rw [List.getElem?_map,List.getElem?_zipIdx] at h2'
    cases hy:L[j]? with
    | none=>rw [hy] at h2';simp at h2'
    | some z =>
      rw [hy] at h2'
      simp at h2'
      subst h2'
      have hz:z.1=k:=by
        have:Value.int .i64 z.1=.int .i64 k:=h3
        injection this
      refine .inr ⟨j,z.2,by rw [h1,Nat.zero_add];rfl,by rw [← hz];exact hy⟩
theorem OpQ.lookI_nil {t kt et:Nat} {x y:Operand} {k:Int} (h:o.op=.lookup t x y true) (hm:P.underlying t=some (.map kt et)) (hkt:P.underlying kt=some (.int .i64)) (hz:∀ w,(zeroValue et).run P w=.ok (.bool false) w)
  (hx:opd e x=some (.map none)) (hy:opd e y=some (.int .i64 k)):OpQ P n (Own B w0 hs) e o (.tuple #[.bool false,.bool false]):=by
 unfold OpQ
 intro a hF w hw
 unfold Oper.quietAt execOp;rw [h]
 simp only [hF.opd hx,hF.opd hy,Instr.lookup,Sem.run_bind,run_underlying hm,MapKept.run_checkKey hkt (keyI k),MapKept.run_findKey hkt (show Instr.findNow (.int .i64) (.int .i64 k) (#[]:Array MapEntry).toList 0=some none from rfl),hz,Sem.run_pure,Result.andThen]
 exact ⟨rfl,rfl⟩
theorem OpQ.lookI_no {t kt et r:Nat} {x y:Operand} {k:Int} {L:List (Int×Bool)} (i:Nat) (h:o.op=.lookup t x y true) (hm:P.underlying t=some (.map kt et)) (hkt:P.underlying kt=some (.int .i64)) (hz:∀ w,(zeroValue et).run P w=.ok (.bool false) w)
    (hx:opd e x=some (.map (some r))) (hy:opd e y=some (.int .i64 k)) (hi:hs[i]?=some (r,mapI L)) (hno:∀ x∈L,x.1 ≠ k):OpQ P n (Own B w0 hs) e o (.tuple #[.bool false,.bool false]):=by
  unfold OpQ
  intro a hF w hw
  have hb:w.heap[r]?=some (.map ((L.zipIdx.map entI).toArray) L.length):=(hw.has i r _ hi).2
  unfold Oper.quietAt execOp;rw [h]
  rcases findI k L with ⟨h1,_⟩ | ⟨j,b,h1,h2⟩
  · simp only [hF.opd hx,hF.opd hy,Instr.lookup,Sem.run_bind,run_underlying hm,MapKept.run_getObj_map hb,MapKept.run_checkKey hkt (keyI k),MapKept.run_findKey hkt h1,hz,Sem.run_pure,Result.andThen]
    exact ⟨rfl,rfl⟩
  · exact absurd rfl (hno _ (List.mem_of_getElem? h2))
theorem OpQ.lookI_at {t kt et r:Nat} {x y:Operand} {k:Int} {b:Bool} {L:List (Int×Bool)} (i:Nat) (h:o.op=.lookup t x y true) (hm:P.underlying t=some (.map kt et)) (hkt:P.underlying kt=some (.int .i64))
    (hx:opd e x=some (.map (some r))) (hy:opd e y=some (.int .i64 k)) (hi:hs[i]?=some (r,mapI L)) (hin:∃ x∈L,x.1=k) (hu:∀ c,(k,c)∈L→c=b):OpQ P n (Own B w0 hs) e o (.tuple #[.bool b,.bool true]):=by
  unfold OpQ
  intro a hF w hw
  have hb:w.heap[r]?=some (.map ((L.zipIdx.map entI).toArray) L.length):=(hw.has i r _ hi).2
  unfold Oper.quietAt execOp;rw [h]
  rcases findI k L with ⟨h1,h2⟩ | ⟨j,c,h1,h2⟩
  · obtain ⟨x,hx,q⟩:=hin
    exact absurd q (h2 x hx)
  · have:=hu c (List.mem_of_getElem? h2)
    subst this
    simp only [hF.opd hx,hF.opd hy,Instr.lookup,Sem.run_bind,run_underlying hm,MapKept.run_getObj_map hb,MapKept.run_checkKey hkt (keyI k),MapKept.run_findKey hkt h1,Sem.run_pure,Result.andThen]
    exact ⟨rfl,rfl⟩
theorem mapI_add (L:List (Int×Bool)) (k:Int) (b:Bool):mapI (L++[(k,b)])=.map (((L.zipIdx.map entI).toArray).push { key:=.int .i64 k,val:=.bool b,born:=L.length }) (L.length+1):=by
 unfold mapI
 rw [List.zipIdx_append,List.map_append,List.push_toArray]
 simp [entI]
theorem mapI_set {L:List (Int×Bool)} {k:Int} {b:Bool} {j:Nat}:mapI (L.set j (k,b))=.map (((L.zipIdx.map entI).toArray).modify j fun e=>{ e with key:=.int .i64 k,val:=.bool b }) L.length:=by
  unfold mapI
  rw [List.length_set]
  congr 1
  apply Array.ext
  · simp
  · intro q h1 h2
    rw [Array.getElem_modify]
    simp only [List.getElem_toArray,List.getElem_map,List.getElem_zipIdx,List.getElem_set,entI]
    split
    · rename_i h;subst h;rfl
    · rfl
theorem Ll.mapSetI {t kt et r:Nat} {x y z:Operand} {k:Int} {b:Bool} {L:List (Int×Bool)} (i:Nat) (hdst:o.dst=none) (hg:wantE ops e o.guard=some true) (h:o.op=.mapUpdate t x y z) (hm:P.underlying t=some (.map kt et)) (hkt:P.underlying kt=some (.int .i64))
    (hx:opd e x=some (.map (some r))) (hy:opd e y=some (.int .i64 k)) (hz:opd e z=some (.bool b)) (hi:hs[i]?=some (r,mapI L))
    (kk:∀ L':List (Int×Bool),(∀ x∈L',x∈L∨x=(k,b))→Ll P n (Own B w0 (hs.set i (r,mapI L'))) ops l e N R X):Ll P n (Own B w0 hs) ops (o::l) e N R X :=
  Ll.turnN hdst hg fun a w hF hw=>by
    have hb:w.heap[r]?=some (.map ((L.zipIdx.map entI).toArray) L.length):=(hw.has i r _ hi).2
    rcases findI k L with ⟨h1,h2⟩ | ⟨j,c,h1,h2⟩
    · refine ⟨{ w with heap:=w.heap.setIfInBounds r (mapI (L++[(k,b)])) },?_,fun a' ha=>?_⟩
      · unfold execOp;rw [h];simp only [hF.opd hx,hF.opd hy,hF.opd hz]
        have run:(Instr.mapUpdate t (.map (some r)) (.int .i64 k) (.bool b)).run P w=.ok () { w with heap:=w.heap.setIfInBounds r (mapI (L++[(k,b)])) }:=by
          rw [mapI_add]
          simp [Instr.mapUpdate,run_underlying hm,MapKept.run_getObj_map hb,MapKept.run_checkKey hkt (keyI k),MapKept.run_findKey hkt h1,MapKept.run_setObj_map _ hb,Result.andThen]
        simp only [Sem.run_bind,run,Result.andThen]
        rfl
      · have:=kk (L++[(k,b)]) fun x hx=>by
          rcases List.mem_append.1 hx with hx | hx
          · exact .inl hx
          · exact .inr (List.mem_singleton.1 hx)
        unfold Ll at this
        exact this a' _ ha (hw.setObj hi _)
    · refine ⟨{ w with heap:=w.heap.setIfInBounds r (mapI (L.set j (k,b))) },?_,fun a' ha=>?_⟩
      · unfold execOp;rw [h];simp only [hF.opd hx,hF.opd hy,hF.opd hz]
        have hj:((L.zipIdx.map entI).toArray)[j]?=some (entI ((k,c),j)):=by
          have:=zip_get (g:=entI) h2
          simpa using this
        have run:(Instr.mapUpdate t (.map (some r)) (.int .i64 k) (.bool b)).run P w=.ok () { w with heap:=w.heap.setIfInBounds r (mapI (L.set j (k,b))) }:=by
          rw [mapI_set]
          simp only [Instr.mapUpdate,Sem.run_bind,run_underlying hm,MapKept.run_getObj_map hb,MapKept.run_checkKey hkt (keyI k),MapKept.run_findKey hkt h1,Result.andThen]
          rw [hj]
          simp only [Option.map_some,Option.getD_some]
          rw [show (entI ((k,c),j)).key=.int .i64 k from rfl]
          simp only [MapKept.run_keyThatStays (keyI k),MapKept.run_setObj_map _ hb]
        simp only [Sem.run_bind,run,Result.andThen]
        rfl
      · have:=kk (L.set j (k,b)) fun x hx=>by
          rcases List.mem_or_eq_of_mem_set hx with hx | hx
          · exact .inl hx
          · exact .inr hx
        unfold Ll at this
        exact this a' _ ha (hw.setObj hi _)
theorem OpQ.eqNilM {C:World→Prop} {t t' kt et:TypeId} {x y:Operand} {p:Option Nat} (h:o.op=.binOp .eql t x y t') (hu:P.underlying t=some (.map kt et)) (hx:opd e x=some (.map p)) (hy:opd e y=some (.map none)):OpQ P n C e o (.bool p.isNone):=OpQ.val fun A hf w=>by
 unfold execOp;rw [h];simp only [hf.opd hx,hf.opd hy]
 rw [show eqGuard .eql t x y (Value.map p) (Value.map none)=pure () from rfl]
 have h1:∀ d:Nat,(Op.equalIn (d+1) t (.map p) (.map none)).run P w=.ok p.isNone w:=fun d=>by
  cases p <;> simp [Op.equalIn,run_underlying hu,Result.andThen]
 simp only [Sem.run_bind,Sem.run_pure,Result.andThen,binOp]
 simp [Op.equal,Op.maxDepth,h1 9999]
end
end Go.Wk
namespace Go.Wk
abbrev jX := @OpQ.lookP_at
end Go.Wk
namespace Go.Wk
open Go.RowKit
def RowB (hs:List (Nat×Obj)) (v:Value) (vs:List Value):Prop :=
 (v=.slice none 0 0∧vs=[])∨∃ g cap cur el,v=.slice (some ⟨g,0,none⟩) vs.length cap∧(g,Obj.cells cur el (0,0))∈hs∧cur.toList.take vs.length=vs∧vs.length≤cap
theorem RowB.row {B:Nat} {w0 w:World} {hs:List (Nat×Obj)} {v:Value} {vs:List Value} (h:RowB hs v vs) (hw:Own B w0 hs w):Row w v vs:=by
  rcases h with ⟨rfl,rfl⟩ | ⟨g,cap,cur,el,rfl,h1,h2,h3⟩
  · exact Ints.nil
  · obtain ⟨i,hi⟩:=List.mem_iff_getElem?.1 h1
    exact Own.row hw hi h2 rfl h3
theorem RowB.more {hs hs':List (Nat×Obj)} {v:Value} {vs:List Value} (k:∀ x∈hs,x∈hs') (h:RowB hs v vs):RowB hs' v vs:=by
  rcases h with h | ⟨g,cap,cur,el,h0,h1,h2,h3⟩
  · exact .inl h
  · exact .inr ⟨g,cap,cur,el,h0,k _ h1,h2,h3⟩
theorem RowB.nil {hs:List (Nat×Obj)}:RowB hs (.slice none 0 0) []:=.inl ⟨rfl,rfl⟩
theorem RowB.at {hs:List (Nat×Obj)} {g n cap el:Nat} {cur:Array Value} {vs:List Value} (hm:(g,Obj.cells cur el (0,0))∈hs) (ht:cur.toList.take n=vs) (hn:vs.length=n) (hc:n≤cap):RowB hs (.slice (some ⟨g,0,none⟩) n cap) vs:=by
 subst hn
 exact .inr ⟨g,cap,cur,el,rfl,hm,ht,hc⟩
def NodeB (T:TypeId) (hs:List (Nat×Obj)) (p:Nat) (c:UInt8) (vs:List UInt8) (ps:List Nat) (fr al:Nat):Prop :=
 ∃ vv pv,(p,Obj.cells #[u8V c,vv,pv,.int .i64 (fr:Int),.int .i64 (al:Int)] T (0,0))∈hs∧RowB hs vv (vs.map u8V)∧RowB hs pv (ps.map ptrV)
def TreeB (T:TypeId) (hs:List (Nat×Obj)):Fm→Nat→Prop
 | .leaf c vs,p=>NodeB T hs p c vs [] (frB (.leaf c vs)) (allB (.leaf c vs))
 | .one c vs q,p=>∃ q',NodeB T hs p c vs [q'] (frB (.one c vs q)) (allB (.one c vs q))∧TreeB T hs q q'
 | .two c q r,p=>∃ q' r',NodeB T hs p c [] [q',r'] (frB (.two c q r)) (allB (.two c q r))∧TreeB T hs q q'∧TreeB T hs r r'
theorem NodeB.more {T:TypeId} {hs hs':List (Nat×Obj)} {p:Nat} {c:UInt8} {vs:List UInt8} {ps:List Nat} {fr al:Nat} (k:∀ x∈hs,x∈hs') (h:NodeB T hs p c vs ps fr al):NodeB T hs' p c vs ps fr al:=by
 obtain ⟨vv,pv,h1,h2,h3⟩:=h
 exact ⟨vv,pv,k _ h1,h2.more k,h3.more k⟩
theorem TreeB.more {T:TypeId} {hs hs':List (Nat×Obj)} (k:∀ x∈hs,x∈hs'):∀ {fm:Fm} {p:Nat},TreeB T hs fm p→TreeB T hs' fm p
 | .leaf _ _,_,h=>NodeB.more k h
 | .one _ _ _,_,h=>by obtain ⟨q',h1,h2⟩:=h;exact ⟨q',h1.more k,TreeB.more k h2⟩
 | .two _ _ _,_,h=>by obtain ⟨q',r',h1,h2,h3⟩:=h;exact ⟨q',r',h1.more k,TreeB.more k h2,TreeB.more k h3⟩
theorem TreeB.left {T:TypeId} {hs hs':List (Nat×Obj)} {fm:Fm} {p:Nat} (h:TreeB T hs fm p):TreeB T (hs++hs') fm p:=h.more fun _ hx=>List.mem_append_left _ hx
theorem TreeB.right {T:TypeId} {hs hs':List (Nat×Obj)} {fm:Fm} {p:Nat} (h:TreeB T hs fm p):TreeB T (hs'++hs) fm p:=h.more fun _ hx=>List.mem_append_right _ hx
theorem NodeB.node {T:TypeId} {B:Nat} {w0 w:World} {hs:List (Nat×Obj)} {p:Nat} {c:UInt8} {vs:List UInt8} {ps:List Nat} {fr al:Nat} (h:NodeB T hs p c vs ps fr al) (hw:Own B w0 hs w):NodeC T w p c vs ps fr al:=by
 obtain ⟨vv,pv,h1,h2,h3⟩:=h
 exact ⟨vv,pv,(hw.mem h1).2,h2.row hw,h3.row hw⟩
theorem TreeB.tree {T:TypeId} {B:Nat} {w0 w:World} {hs:List (Nat×Obj)} (hw:Own B w0 hs w):∀ {fm:Fm} {p:Nat},TreeB T hs fm p→Tree T w fm p
 | .leaf _ _,_,h=>NodeB.node h hw
 | .one _ _ _,_,h=>by obtain ⟨q',h1,h2⟩:=h;exact ⟨q',h1.node hw,TreeB.tree hw h2⟩
 | .two _ _ _,_,h=>by obtain ⟨q',r',h1,h2,h3⟩:=h;exact ⟨q',r',h1.node hw,TreeB.tree hw h2,TreeB.tree hw h3⟩
theorem TreeB.node {T:TypeId} {hs:List (Nat×Obj)}:∀ {fm:Fm} {p:Nat},TreeB T hs fm p→∃ c vs ps,NodeB T hs p c vs ps (frB fm) (allB fm)
 | .leaf c vs,_,h=>⟨c,vs,[],h⟩
 | .one c vs _,_,h=>by obtain ⟨q',h1,_⟩:=h;exact ⟨c,vs,[q'],h1⟩
 | .two c _ _,_,h=>by obtain ⟨q',r',h1,_⟩:=h;exact ⟨c,[],[q',r'],h1⟩
theorem TreeB.same {T:TypeId} {B:Nat} {w0 w:World} {hs:List (Nat×Obj)} (hw:Own B w0 hs w) {fm fm':Fm} {p:Nat} (h:TreeB T hs fm p) (k:TreeB T hs fm' p):fm=fm':=(TreeB.tree hw h).same (TreeB.tree hw k)
theorem mem_at {α:Type} {l:List α} {i:Nat} {x:α} (h:l[i]?=some x):x∈l:=List.mem_of_getElem? h
theorem mem_atL {α:Type} {l r:List α} {i:Nat} {x:α} (h:l[i]?=some x):x∈l++r:=List.mem_append_left _ (List.mem_of_getElem? h)
abbrev Memo:=List (Nat×Nat×List (Int×Bool))
def memoK (K:Memo):List (Nat×Nat):=K.map fun x=>(x.1,x.2.1)
def memoB (K:Memo):List (Nat×Obj):=K.map fun x=>(x.2.1,mapI x.2.2)
def MemoOk (T:TypeId) (a:St) (hs:List (Nat×Obj)) (K:Memo):Prop:=∀ x∈K,∃ fm,wfF fm∧TreeB T hs fm x.1∧∀ y∈x.2.2,∃ e,EnvA a e∧keyF fm e=y.1∧ev a fm e=y.2
theorem MemoOk.nil {T:TypeId} {a:St} {hs:List (Nat×Obj)}:MemoOk T a hs []:=fun x hx=>by cases hx
theorem EnvA.ok {a:St} {e:List Int} (h:EnvA a e) (ha:a.Fine):EnvOk e:=⟨h.1,fun i hi=>by
 have h1:=h.2 i hi
 have h2:=ha.hi
 unfold St.El at h1
 omega⟩
theorem memo_ev {T:TypeId} {a:St} {B:Nat} {w0 w:World} {hs ts:List (Nat×Obj)} {K:Memo} {fm:Fm} {p j m:Nat} {L:List (Int×Bool)} {en:List Int} (ha:a.Fine) (hK:MemoOk T a ts K) (hts:∀ x∈ts,x∈hs) (hw:Own B w0 hs w) (hT:TreeB T ts fm p) (hwf:wfF fm) (hE:EnvA a en) (hj:K[j]?=some (p,m,L)) :
  ∀ c,(keyF fm en,c)∈L→c=ev a fm en:=fun c hc=>by
 obtain ⟨fm',h1,h2,h3⟩:=hK _ (List.mem_of_getElem? hj)
 have e:=TreeB.same hw (h2.more hts) (hT.more hts)
 subst e
 obtain ⟨e,g1,g2,g3⟩:=h3 _ hc
 exact g3.symm.trans (key_ev hwf (g1.ok ha) (hE.ok ha) g2)
theorem memoK_get {K:Memo} {j p m:Nat} {L:List (Int×Bool)} (h:K[j]?=some (p,m,L)):(memoK K)[j]?=some (p,m):=by unfold memoK;rw [List.getElem?_map,h];rfl
theorem memoB_get {K:Memo} {j p m:Nat} {L:List (Int×Bool)} (h:K[j]?=some (p,m,L)):(memoB K)[j]?=some (m,mapI L):=by unfold memoB;rw [List.getElem?_map,h];rfl
theorem memoB_at {K:Memo} {j p m:Nat} {L:List (Int×Bool)} {r:List (Nat×Obj)} (h:K[j]?=some (p,m,L)):(memoB K++r)[j]?=some (m,mapI L):=by
 have:=memoB_get h
 rw [List.getElem?_append_left (List.getElem?_eq_some_iff.1 this).1];exact this
theorem memoB_set {K:Memo} {j p m:Nat} {L L':List (Int×Bool)} {r:List (Nat×Obj)} (h:K[j]?=some (p,m,L)):(memoB K++r).set j (m,mapI L')=memoB (K.set j (p,m,L'))++r:=by
 have h1:=(List.getElem?_eq_some_iff.1 (memoB_get h)).1
 rw [List.set_append_left _ _ h1]
 unfold memoB
 rw [List.map_set]
theorem memoK_set {K:Memo} {j p m:Nat} {L L':List (Int×Bool)} (h:K[j]?=some (p,m,L)):memoK (K.set j (p,m,L'))=memoK K:=by
 unfold memoK
 rw [List.map_set]
 exact set_same (by rw [List.getElem?_map,h];rfl)
theorem memoB_add (K:Memo) (p m:Nat):memoB (K++[(p,m,[])])=memoB K++[(m,mapI [])]:=by unfold memoB;rw [List.map_append];rfl
theorem memoK_add (K:Memo) (p m:Nat):memoK (K++[(p,m,[])])=memoK K++[(p,m)]:=by unfold memoK;rw [List.map_append];rfl
theorem memo_case (K:Memo) (p:Nat):(∀ x∈memoK K,x.1 ≠ p)∨∃ j m L,K[j]?=some (p,m,L)∧∀ (q:Nat) (x:Nat×Nat),q<j→(memoK K)[q]?=some x→x.1 ≠ p:=by
  rcases key_case (memoK K) p with h | ⟨j,m,h1,h2⟩
  · exact .inl h
  · unfold memoK at h1
    rw [List.getElem?_map] at h1
    cases e:K[j]? with
    | none=>rw [e] at h1;cases h1
    | some y =>
      rw [e] at h1
      have h3:(y.1,y.2.1)=(p,m):=by simpa using h1
      injection h3 with h3 h4
      exact .inr ⟨j,m,y.2.2,by rw [e,← h3,← h4],h2⟩
theorem has_case (L:List (Int×Bool)) (k:Int):(∀ x∈L,x.1 ≠ k)∨∃ x∈L,x.1=k:=by
  rcases Classical.em (∃ x∈L,x.1=k) with h | h
  · exact .inr h
  · exact .inl fun x hx e=>h ⟨x,hx,e⟩
theorem TreeB.key {T:TypeId} {B:Nat} {w0:World} {hs hs':List (Nat×Obj)} {fm:Fm} {p:Nat} (h:TreeB T hs fm p) (hsub:∀ x∈hs,x∈hs'):KeysIn B w0 hs' p:=fun w hw=>by
 obtain ⟨c,vs,ps,vv,pv,h1,_⟩:=h.node
 exact ⟨_,_,(hw.mem (hsub _ h1)).2⟩
theorem MemoOk.keys {T:TypeId} {a:St} {B:Nat} {w0:World} {hs hs':List (Nat×Obj)} {K:Memo} (h:MemoOk T a hs K) (hsub:∀ x∈hs,x∈hs'):∀ x∈memoK K,KeysIn B w0 hs' x.1:=fun x hx=>by
 obtain ⟨y,hy,rfl⟩:=List.mem_map.1 hx
 obtain ⟨fm,_,h2,_⟩:=h y hy
 exact h2.key hsub
theorem MemoOk.add {T:TypeId} {a:St} {hs:List (Nat×Obj)} {K:Memo} {fm:Fm} {p m:Nat} (h:MemoOk T a hs K) (hT:TreeB T hs fm p) (hwf:wfF fm):MemoOk T a hs (K++[(p,m,[])]):=fun x hx=>by
  rcases List.mem_append.1 hx with hx | hx
  · exact h x hx
  · rw [List.mem_singleton.1 hx]
    exact ⟨fm,hwf,hT,fun y hy=>by cases hy⟩
theorem MemoOk.set {T:TypeId} {a:St} {B:Nat} {w0 w:World} {hs ts:List (Nat×Obj)} {K:Memo} {fm:Fm} {p j m:Nat} {L L':List (Int×Bool)} {en:List Int} (h:MemoOk T a ts K) (hts:∀ x∈ts,x∈hs) (hw:Own B w0 hs w) (hT:TreeB T ts fm p) (hwf:wfF fm) (hE:EnvA a en) (hj:K[j]?=some (p,m,L)) (hL:∀ x∈L',x∈L∨x=(keyF fm en,ev a fm en)):MemoOk T a ts (K.set j (p,m,L')):=fun x hx=>by
  rcases List.mem_or_eq_of_mem_set hx with hx | rfl
  · exact h x hx
  · obtain ⟨fm',h1,h2,h3⟩:=h _ (List.mem_of_getElem? hj)
    have e:=TreeB.same hw (h2.more hts) (hT.more hts)
    subst e
    refine ⟨fm',hwf,hT,fun y hy=>?_⟩
    rcases hL y hy with hy | rfl
    · exact h3 y hy
    · exact ⟨en,hE,rfl,rfl⟩
end Go.Wk
namespace Go.Wk
open Go.RowKit
theorem formO_none {f:List UInt8} (h:parse f=none):formO f=none:=by unfold formO;rw [h];simp
theorem formO_rest {f r:List UInt8} {p:Fm} (h:parse f=some (p,r)) (hr:¬ r=[]):formO f=none:=by
 unfold formO;rw [h]
 cases r with
 | nil=>exact absurd rfl hr
 | cons c r=>simp
def szF:Fm→Nat
 | .leaf _ _=>0
 | .one _ _ p=>szF p+1
 | .two _ p q=>szF p+szF q+1
theorem one_letter {c:UInt8} {vs:List UInt8} {q:Fm} (h:wfF (.one c vs q)):(quI (c.toNat:Int)∧∃ v,vs=[v]∧isV v=true)∨(c=33∧vs=[]):=by
 cases vs with
 | nil=>exact .inr ⟨one_no_var h,rfl⟩
 | cons v vs =>
  obtain ⟨h1,rfl,h3⟩:=one_var h
  refine .inl ⟨?_,v,rfl,h3⟩
  unfold quI
  rcases h1 with rfl | rfl | rfl | rfl | rfl <;> decide
end Go.Wk
namespace Go.Wk
open Go.RowKit
section
variable {P:Program} {n:Nat} {C:World→Prop} {B:Nat} {w0:World} {hs hs':List (Nat×Obj)} {N R:Act→World→Prop} {X:List (Nat×(Act→World→Prop))} {e:Env} {ops:Array Oper} {l:List Oper} {o:Oper}
theorem OpQ.indexAgg {t el:TypeId} {m:Nat} {x y:Operand} {xs:List Int} {k:IntKind} {i:Int} (h:o.op=.index t x y) (hu:∀ w,(underlying t).run P w=.ok (.array m el) w) (hag:∀ w,(isAgg el).run P w=.ok false w) (hz:∀ w,(sizeOf el).run P w=.ok 1 w)
  (hx:opd e x=some (.agg (ints xs).toArray)) (hy:opd e y=some (.int k i)) (h0:0≤i) (h1:i<m) (hl:xs.length=m):OpQ P n C e o (.int .i64 (xs.getD i.toNat 0)):=OpQ.val fun A hF w=>by
 unfold execOp;rw [h];simp only [hF.opd hx,hF.opd hy]
 have hc:((ints xs).toArray)[i.toNat]?=some (.int .i64 (xs.getD i.toNat 0)):=by
  have hi:i.toNat<xs.length:=by omega
  rw [List.getElem?_toArray]
  unfold ints
  rw [List.getElem?_map,List.getElem?_eq_getElem hi,getD_at hi];rfl
 simp only [Instr.index,asIntOf,Sem.run_bind,Sem.run_pure,hu,Result.andThen,if_pos (And.intro h0 h1),hz,part,hag,Nat.mul_one]
 simp [hc]
theorem OpQ.loadHold {t:TypeId} {x:Operand} {p:Nat} {a:St} {k:Value} {T:TypeId} {fr:Nat×Nat} (i:Nat) (h:o.op=.load t x) (hag:∀ w,(isAgg t).run P w=.ok true w) (hsz:∀ w,(sizeOf t).run P w=.ok 3 w) (hx:opd e x=some (.pointer (some ⟨p,0,none⟩)))
  (hi:hs[i]?=some (p,.cells #[.int .i64 a.n,str a.set,str a.rel,k] T fr)):OpQ P n (Own B w0 hs) e o (vS a) :=
 OpQ.loadN (cs:=#[.int .i64 a.n,str a.set,str a.rel]) h hag hsz hx fun w hw j v hj=>by
  rw [Addr.add_lit,hw.cell hi,Nat.zero_add]
  match j,hj with
  | 0,hj=>exact hj
  | 1,hj=>exact hj
  | 2,hj=>exact hj
  | j+3,hj=>simp at hj
theorem Row.u8 {w:World} {v:Value} {vs:List UInt8} (h:Row w v (vs.map u8V)) {i:Int} (h0:0≤i) (h1:i<vs.length):w.cell? (sAt v i)=some (.int .u8 ((vs.getD i.toNat 0).toNat:Int)):=by
 have hi:i.toNat<vs.length:=by omega
 rw [Row.cell h h0 (by rw [List.length_map];exact h1),getD_at hi]
 congr 1
 rw [List.getD_eq_getElem?_getD,List.getElem?_map,List.getElem?_eq_getElem hi];rfl
abbrev memoF (TH h M:Nat) (a:St) (K:Memo) (r:List (Nat×Obj)):List (Nat×Obj):=(h,.cells #[.int .i64 a.n,str a.set,str a.rel,.map (some M)] TH (0,0))::(M,mapP (memoK K))::(memoB K++r)
theorem Own.offMemo {w:World} {M:Nat} {K:Memo} {f:List (Nat×Obj)} (h:Own B w0 (f++((M,mapP (memoK K))::(memoB K++hs))) w):Own B w0 (f++hs) w :=
 h.sub (List.Sublist.append_left (List.Sublist.cons _ (List.sublist_append_right _ _)) f)
theorem memo_perm {TH h M:Nat} {a:St} {K:Memo} (f r:List (Nat×Obj)):(f++memoF TH h M a K r).Perm (memoF TH h M a K (f++r)):=by
 have e:∀ r,memoF TH h M a K r=((h,Obj.cells #[.int .i64 a.n,str a.set,str a.rel,.map (some M)] TH (0,0))::(M,mapP (memoK K))::memoB K)++r:=fun _=>rfl
 rw [e,e]
 exact perm_back f _ r
theorem Ll.callMemo {TH h M d f:Nat} {a:St} {K:Memo} {ok:Memo→Prop} {b:Bool} {xs:List Operand} {ts:Array TypeId} {vs:List Value} (front:List (Nat×Obj)) (hd:Nat.blt d n=true) (hdst:o.dst=some d) (hg:wantE ops e o.guard=some true) (ho:o.op=.call ⟨.value (.func f),xs.toArray,ts⟩)
  (hcf:∀ args w,(callFunc f args).run P w=.ok (.enter f args) w) (hx:opds e xs=some vs)
  (hc:∀ w,Own B w0 (memoF TH h M a K (front++hs)) w→Calls P f vs.toArray w fun en w'=>∃ K',en=.returned (.bool b)∧ok K'∧Own B w0 (memoF TH h M a K' (front++hs)) w')
  (k:∀ K',ok K'→Ll P n (Own B w0 (front++memoF TH h M a K' hs)) ops l ((d,.bool b)::e) N R X):Ll P n (Own B w0 (front++memoF TH h M a K hs)) ops (o::l) e N R X :=
 Ll.call hd hdst hg ho hcf hx fun w hw=>(hc w (hw.perm (memo_perm _ _))).mono fun en w' ⟨K',h1,h2,h3⟩=>⟨_,h1,fun a' ha=>by
  have:=k K' h2
  unfold Ll at this
  exact this a' w' ha (h3.perm (memo_perm _ _).symm)⟩
end
theorem memo_new {M m p:Nat} {K:Memo} (f r:List (Nat×Obj)):((m,mapI [])::(f++((M,mapP (memoK K++[(p,m)]))::(memoB K++r)))).Perm (f++((M,mapP (memoK (K++[(p,m,[])])))::(memoB (K++[(p,m,[])])++r))):=by
 rw [memoK_add,memoB_add,List.append_assoc]
 refine (List.perm_middle (a:=(m,mapI [])) (l₁:=f) (l₂:=((M,mapP (memoK K++[(p,m)]))::(memoB K++r)))).symm.trans (List.Perm.append_left f ?_)
 refine (List.Perm.swap _ _ _).trans (List.Perm.cons _ ?_)
 exact (List.perm_middle (a:=(m,mapI [])) (l₁:=memoB K) (l₂:=r)).symm
theorem memo_set2 {M m p j:Nat} {K:Memo} {x y:Nat×Obj} {r:List (Nat×Obj)} {L L':List (Int×Bool)} (hj:K[j]?=some (p,m,L)):(x::y::(M,mapP (memoK K))::(memoB K++r)).set (j+3) (m,mapI L')=x::y::(M,mapP (memoK (K.set j (p,m,L'))))::(memoB (K.set j (p,m,L'))++r):=by
 rw [memoK_set hj,← memoB_set hj];rfl
theorem memo_last {K:Memo} {p m:Nat} (h:∀ x∈memoK K,x.1 ≠ p):(K++[(p,m,[])])[K.length]?=some (p,m,[])∧∀ (q:Nat) (x:Nat×Nat),q<K.length→(memoK (K++[(p,m,[])]))[q]?=some x→x.1 ≠ p:=by
 refine ⟨by simp,fun q x hq hx=>?_⟩
 rw [memoK_add,List.getElem?_append_left (by unfold memoK;rw [List.length_map];exact hq)] at hx
 exact h x (List.mem_of_getElem? hx)
theorem memo_case3 (K:Memo) (p:Nat) (k:Int):(∀ x∈memoK K,x.1 ≠ p)∨(∃ j m L,K[j]?=some (p,m,L)∧(∀ (q:Nat) (x:Nat×Nat),q<j→(memoK K)[q]?=some x→x.1 ≠ p)∧∀ x∈L,x.1 ≠ k)∨∃ j m L,K[j]?=some (p,m,L)∧(∀ (q:Nat) (x:Nat×Nat),q<j→(memoK K)[q]?=some x→x.1 ≠ p)∧∃ x∈L,x.1=k:=by
  rcases memo_case K p with h | ⟨j,m,L,h1,h2⟩
  · exact .inl h
  · rcases has_case L k with h3 | h3
    · exact .inr (.inl ⟨j,m,L,h1,h2,h3⟩)
    · exact .inr (.inr ⟨j,m,L,h1,h2,h3⟩)
theorem leaf_by {c:UInt8} {vs:List UInt8} (h:wfF (.leaf c vs)):(((c.toNat:Int)=116∨(c.toNat:Int)=102)∧vs=[])∨((c.toNat:Int)=80∧∃ v,vs=[v]∧isV v=true)∨(((c.toNat:Int)=61∨(c.toNat:Int)=69)∧∃ v u,vs=[v,u]∧isV v=true∧isV u=true):=by
  have hv:=h.2.2.2
  have hl:=h.2.2.1
  rcases leaf_op h with hc | ⟨rfl,v,rfl⟩ | ⟨hc,v,u,rfl⟩
  · refine .inl ⟨?_,?_⟩
    · rcases hc with rfl | rfl <;> decide
    · have e:arV c=0:=by rcases hc with rfl | rfl <;> rfl
      exact List.length_eq_zero_iff.1 (by omega)
  · exact .inr (.inl ⟨by decide,v,rfl,hv v (by simp)⟩)
  · refine .inr (.inr ⟨?_,v,u,rfl,hv v (by simp),hv u (by simp)⟩)
    rcases hc with rfl | rfl <;> decide
theorem one_by {c:UInt8} {vs:List UInt8} {q:Fm} (h:wfF (.one c vs q)):((c.toNat:Int)=33∧vs=[])∨(quI (c.toNat:Int)∧∃ v,vs=[v]∧isV v=true):=by
  rcases one_letter h with ⟨h1,v,h2,h3⟩ | ⟨rfl,h2⟩
  · exact .inr ⟨h1,v,h2,h3⟩
  · exact .inl ⟨by decide,h2⟩
theorem two_by {c:UInt8} {p q:Fm} (h:wfF (.two c p q)):(c.toNat:Int)=38∨(c.toNat:Int)=124:=by
 rcases two_op h with rfl | rfl <;> decide
theorem fm_by {fm:Fm} (h:wfF fm):(∃ c,fm=.leaf c []∧((c.toNat:Int)=116∨(c.toNat:Int)=102))∨(∃ c v,fm=.leaf c [v]∧(c.toNat:Int)=80∧isV v=true)∨(∃ c v u,fm=.leaf c [v,u]∧((c.toNat:Int)=61∨(c.toNat:Int)=69)∧isV v=true∧isV u=true) ∨
    (∃ c q,fm=.one c [] q∧(c.toNat:Int)=33)∨(∃ c v q,fm=.one c [v] q∧quI (c.toNat:Int)∧isV v=true)∨∃ c q r,fm=.two c q r∧((c.toNat:Int)=38∨(c.toNat:Int)=124):=by
  cases fm with
  | leaf c vs =>
    rcases leaf_by h with ⟨h1,rfl⟩ | ⟨h1,v,rfl,h2⟩ | ⟨h1,v,u,rfl,h2,h3⟩
    · exact .inl ⟨c,rfl,h1⟩
    · exact .inr (.inl ⟨c,v,rfl,h1,h2⟩)
    · exact .inr (.inr (.inl ⟨c,v,u,rfl,h1,h2,h3⟩))
  | one c vs q =>
    rcases one_by h with ⟨h1,rfl⟩ | ⟨h1,v,rfl,h2⟩
    · exact .inr (.inr (.inr (.inl ⟨c,q,rfl,h1⟩)))
    · exact .inr (.inr (.inr (.inr (.inl ⟨c,v,q,rfl,h1,h2⟩))))
  | two c q r=>exact .inr (.inr (.inr (.inr (.inr ⟨c,q,r,rfl,two_by h⟩))))
section
variable {a:St} {en:List Int} {c v u:UInt8} {q r:Fm}
theorem ev116 (h:(c.toNat:Int)=116):true=ev a (.leaf c []) en:=by
 obtain rfl:c=116:=u8_of (n:=116) (by decide) h
 rfl
theorem ev102 (h:(c.toNat:Int)=102):false=ev a (.leaf c []) en:=by
 obtain rfl:c=102:=u8_of (n:=102) (by decide) h
 rfl
theorem ev80 (h:(c.toNat:Int)=80):a.inSet (en.getD (vI v) 0)=ev a (.leaf c [v]) en:=by
 obtain rfl:c=80:=u8_of (n:=80) (by decide) h
 rfl
theorem ev33 (h:(c.toNat:Int)=33):(!ev a q en)=ev a (.one c [] q) en:=by
 obtain rfl:c=33:=u8_of (n:=33) (by decide) h
 rfl
theorem ev38 (h:(c.toNat:Int)=38):(ev a q en&&ev a r en)=ev a (.two c q r) en:=by
 obtain rfl:c=38:=u8_of (n:=38) (by decide) h
 rfl
theorem ev124 (h:(c.toNat:Int)=124):(ev a q en||ev a r en)=ev a (.two c q r) en:=by
 obtain rfl:c=124:=u8_of (n:=124) (by decide) h
 rfl
theorem and_t {x y z:Bool} (h:(x&&y)=z) (hx:x=true):y=z:=by rw [hx] at h;exact h
theorem and_f {x y z:Bool} (h:(x&&y)=z) (hx:x=false):false=z:=by rw [hx] at h;exact h
theorem or_t {x y z:Bool} (h:(x||y)=z) (hx:x=true):true=z:=by rw [hx] at h;exact h
theorem or_f {x y z:Bool} (h:(x||y)=z) (hx:x=false):y=z:=by rw [hx] at h;exact h
theorem ev_qu (h:quI (c.toNat:Int)):ev a (.one c [v] q) en=decide (need c a.n.toNat≤cntT (evC a v q en) a.n.toNat):=by
 unfold ev
 rw [if_neg (fun e=>by subst e;revert h;decide)];rfl
theorem ev65 (h:(c.toNat:Int)=65) {x:Nat} (hx:(x:Int)=a.n):decide ((cntT (evC a v q en) x:Int)=a.n)=ev a (.one c [v] q) en:=by
 rw [ev_qu (by unfold quI;omega),decide_eq_decide]
 have hn:=need65 h (show 0≤a.n by omega)
 have hl:=cntT_le (evC a v q en) x
 obtain rfl:x=a.n.toNat:=by omega
 omega
theorem ev83 (h:(c.toNat:Int)=83) {x:Nat} (hx:(x:Int)=a.n):decide ((0:Int)<(cntT (evC a v q en) x:Int))=ev a (.one c [v] q) en:=by
 rw [ev_qu (by unfold quI;omega),decide_eq_decide]
 have hn:=need83 (n:=a.n.toNat) h
 obtain rfl:x=a.n.toNat:=by omega
 omega
theorem ev234 (hq:quI (c.toNat:Int)) (h65:¬ (c.toNat:Int)=65) (h83:¬ (c.toNat:Int)=83) {x:Nat} (hx:(x:Int)=a.n):decide ((c.toNat:Int) - 48≤(cntT (evC a v q en) x:Int))=ev a (.one c [v] q) en:=by
 rw [ev_qu hq,decide_eq_decide]
 have hn:=need234 (c:=c) (n:=a.n.toNat) (by unfold quI at hq;omega)
 obtain rfl:x=a.n.toNat:=by omega
 omega
end
theorem bit_and {b i:Nat}:decide (((b / 2 ^ i &&& 1:Nat):Int)=1)=b.testBit i:=by
 rw [Nat.testBit_eq_decide_div_mod_eq,decide_eq_decide,Nat.and_one_is_mod]
 omega
theorem key_bound {a:St} {en:List Int} (hE:EnvA a en) (ha:a.Fine) {b i:Nat} (hi:i≤4):kSum b en i<4096:=by
 have h1:=kSum_lt (b:=b) (hE.ok ha) hi
 have h2:(8:Nat) ^ i≤8 ^ 4:=Nat.pow_le_pow_right (by decide) hi
 omega
theorem key_yes {a:St} {en:List Int} (hE:EnvA a en) (ha:a.Fine) {b i:Nat} (hi:i<4) (hb:b.testBit i=true):kSum b en i ||| (en.getD i 0).toNat*2 ^ (3*i)=kSum b en (i+1):=by
 rw [Nat.pow_mul,show (2:Nat) ^ 3=8 from rfl]
 exact kSum_or (hE.ok ha) hi hb
theorem key_no {en:List Int} {b i:Nat} (hb:b.testBit i=false):kSum b en i=kSum b en (i+1):=by
 rw [show kSum b en (i+1)=kSum b en i+(if b.testBit i then (en.getD i 0).toNat*8 ^ i else 0) from rfl,hb];rfl
theorem key_val {a:St} {en:List Int} (hE:EnvA a en) (ha:a.Fine) {i:Nat} (hi:i<4):en.getD i 0=((en.getD i 0).toNat:Int)∧(en.getD i 0).toNat<8:=by
 have:=(hE.ok ha).2 i hi
 omega
theorem shl_bound {x i:Nat} (hx:x<8) (hi:i<4):x*2 ^ (3*i)<4611686018427387904:=by
 have h2:(2:Nat) ^ (3*i)≤2 ^ 9:=Nat.pow_le_pow_right (by decide) (by omega)
 have:=Nat.mul_le_mul (show x≤7 by omega) h2
 omega
end Go.Wk
namespace Go.Wk
abbrev zY := @Own.offMemo
abbrev jQ := @Ll.callMemo
end Go.Wk
namespace Go.Wk
open Go.RowKit
section
variable {P:Program} {n:Nat} {C:World→Prop} {B:Nat} {w0:World} {hs hs':List (Nat×Obj)} {N R:Act→World→Prop} {X:List (Nat×(Act→World→Prop))} {e:Env} {ops:Array Oper} {l:List Oper} {o:Oper}
theorem OpQ.sliceAll {t el:TypeId} {m:Nat} {x:Operand} {b:Nat} (h:o.op=.slice t x none none none) (hu:∀ w,(underlying t).run P w=.ok (.array m el) w) (hz:∀ w,(sizeOf el).run P w=.ok 1 w)
  (hx:opd e x=some (.pointer (some ⟨b,0,none⟩))):OpQ P n C e o (.slice (some ⟨b,0,none⟩) m m):=OpQ.val fun A hF w=>by
 unfold execOp;rw [h];simp only [hF.opd hx,Option.map_none]
 simp only [Instr.sliceAt,Instr.sureAddr,Instr.sliceBounds,Sem.run_bind,Sem.run_pure,hu,hz,Result.andThen]
 simp [Addr.add]
theorem Ll.copyEnv {dT sT elem T:TypeId} {d g:Nat} {x y:Operand} {v:Value} {xs:List Int} (i:Nat) (hd:Nat.blt d n=true) (hdst:o.dst=some d) (hg:wantE ops e o.guard=some true) (h:o.op=.call ⟨.builtin .copy,#[x,y],#[dT,sT]⟩)
    (hu:P.underlying dT=some (.slice elem)) (hsz:(P.info? elem).map (·.size)=some 1) (hx:opd e x=some (.slice (some ⟨g,0,none⟩) 4 4)) (hy:opd e y=some v) (hi:hs[i]?=some (g,.cells (ints [0,0,0,0]).toArray T (0,0))) (hr:∀ w,Own B w0 hs w→Ints w v xs) (hl:xs.length≤4)
    (k:Ll P n (Own B w0 (hs.set i (g,.cells (ints (envL xs)).toArray T (0,0)))) ops l ((d,.int .i64 (xs.length:Int))::e) N R X):Ll P n (Own B w0 hs) ops (o::l) e N R X :=
  Ll.turn hd hdst hg fun a w hF hw=>by
    obtain ⟨src,cap,rfl,_,h3,h4⟩:=hr w hw
    have hlen:(ints xs).length=xs.length:=ints_length _
    have hgc:=(hw.has i g _ hi).2
    by_cases h0:xs=[]
    · subst h0
      refine ⟨.int .i64 (([]:List Int).length:Int),w,?_,fun a' ha=>?_⟩
      · unfold execOp;rw [h]
        simp only [resolve,invoke,BigFrame.builtin_copy,List.map_toArray,List.map_cons,List.map_nil,hF.opd hx,hF.opd hy,Sem.run_bind,Sem.run_pure,Result.andThen]
        rw [run_copy_none w dT sT _ elem (some ⟨g,0,none⟩) src 4 4 (ints ([]:List Int)).length cap hu hsz (by rw [ints_length];rfl)]
        rfl
      · unfold Ll at k
        refine k a' w ha ?_
        rw [show envL []=[0,0,0,0] from rfl,set_same hi];exact hw
    · have hone:∀ v∈ints xs,v.oneCell'=true:=fun v hv=>by
        obtain ⟨z,_,rfl⟩:=List.mem_map.1 hv;rfl
      obtain ⟨ad,rfl⟩:∃ ad,src=some ad:=by
        cases src with
        | none =>
          have:=h3 rfl
          exact absurd (List.map_eq_nil_iff.1 this) h0
        | some ad=>exact ⟨ad,rfl⟩
      obtain ⟨bk,off,sp⟩:=ad
      obtain rfl:sp=none:=(h4 _ rfl).1
      have hcells:∀ (j:Nat) (u:Value),(ints xs)[j]?=some u→w.cell? ((⟨bk,off,none⟩:Addr).add j)=some u:=fun j u hu=>by rw [Addr.add_lit];exact (h4 _ rfl).2 j u hu
      have e1:((ints [0,0,0,0]).toArray.toList.take 0++ints xs++(ints [0,0,0,0]).toArray.toList.drop (0+(ints xs).length)).toArray=(ints (envL xs)).toArray:=by
        have e2:(ints [0,0,0,0]).drop xs.length=ints (List.replicate (4 - xs.length) 0):=by
          rw [show ([0,0,0,0]:List Int)=List.replicate 4 0 from rfl]
          unfold ints
          rw [List.map_replicate,List.map_replicate,List.drop_replicate]
        rw [Nat.zero_add,hlen,List.take_zero,List.nil_append]
        show (ints xs++(ints [0,0,0,0]).drop xs.length).toArray=_
        rw [e2]
        unfold envL ints
        rw [List.map_append]
      refine ⟨.int .i64 (xs.length:Int),w.setRow g (ints (envL xs)).toArray,?_,fun a' ha=>?_⟩
      · unfold execOp;rw [h]
        simp only [resolve,invoke,BigFrame.builtin_copy,List.map_toArray,List.map_cons,List.map_nil,hF.opd hx,hF.opd hy,Sem.run_bind,Sem.run_pure,Result.andThen]
        rw [run_copy_row (P:=P) w dT sT _ elem g 0 4 4 ⟨bk,off,none⟩ (ints xs).length cap (ints [0,0,0,0]).toArray T (ints xs) hu hsz hgc (by rw [hlen];exact (Nat.min_eq_left hl).symm) hcells (by rw [hlen,List.size_toArray,ints_length];simpa using hl) hone,e1]
        show Result.ok _ _=_
        rw [hlen];rfl
      · unfold Ll at k
        exact k a' _ ha (hw.setRow hi _)
end
end Go.Wk
namespace Go.Wk
open Go.RowKit
section
variable {P:Program} {n:Nat} {C:World→Prop} {e:Env} {o:Oper}
end
def bitC (b:Bool):List UInt8:=if b then [49] else [48]
@[simp] theorem bitC_len (b:Bool):(bitC b).length=1:=by cases b <;> rfl
def flipTo (s:List UInt8):Nat→List UInt8
 | 0=>[]
 | k+1=>flipTo s k++bitC (decide (s.getD k 0=48))
@[simp] theorem flip_len (s:List UInt8):∀ k,(flipTo s k).length=k
 | 0=>rfl
 | k+1=>by simp [flipTo,flip_len s k]
def mkSet (p:Nat→Bool):Nat→List UInt8
 | 0=>[]
 | k+1=>mkSet p k++bitC (p k)
@[simp] theorem mkSet_len (p:Nat→Bool):∀ k,(mkSet p k).length=k
 | 0=>rfl
 | k+1=>by simp [mkSet,mkSet_len p k]
def mkRel (q:Nat→Nat→Bool) (n:Nat):Nat→List UInt8
 | 0=>[]
 | k+1=>mkRel q n k++mkSet (q k) n
@[simp] theorem mkRel_len (q:Nat→Nat→Bool) (n:Nat):∀ k,(mkRel q n k).length=k*n
 | 0=>by simp [mkRel]
 | k+1=>by simp [mkRel,mkRel_len q n k,Nat.add_mul]
theorem kindsI_eq {a:St} {W:Int} (hv:validB a=true) (h0:0≤W) (h3:W≤3):kindsI a W=(cntQ a 0 W.toNat:Int):=by
 unfold kindsI inB
 rw [hv,if_pos (by simp [h0,h3]),kinds_cnt (validB_fine hv)]
theorem countC_ok {a:St} {W R:Int} (h:¬ countC a W R<0):validB a=true∧(0≤W∧W≤2)∧(0≤R∧R≤2):=by
 cases e:(validB a&&inB W 0 2&&inB R 0 2) with
 | true=>unfold inB at e;simp at e;exact ⟨e.1.1,e.1.2,e.2⟩
 | false=>unfold countC at h;rw [e,if_neg (by decide)] at h;omega
theorem countC_eq {a:St} {W R:Int} (hv:validB a=true) (hw:0≤W∧W≤2) (hr:0≤R∧R≤2):countC a W R=(cntQ a R.toNat W.toNat:Int):=by
 unfold countC inB
 rw [hv,if_pos (by simp [hw,hr]),cls_reps];rfl
theorem count_zero {a:St} {W R:Int} (h:¬ countC a W R<0) (h0:¬ 0<R):countC a W R=kindsI a W:=by
 obtain ⟨hv,hw,hr⟩:=countC_ok h
 rw [countC_eq hv hw hr,kindsI_eq hv hw.1 (by omega),show R.toNat=0 from by omega]
end Go.Wk
namespace Go.Wk
open Go.RowKit
def joinN (op:List UInt8) (l:List (List UInt8)):List UInt8:=preJ op l (l.length - 1)++l.getD (l.length - 1) []
def apart (v:List UInt8) (turned:Bool) (l:List (List UInt8)):List UInt8:=((if turned then [33,83] else [83])++v)++joinN [38] (dedup l)
end Go.Wk
namespace Go.Wk
open Go.RowKit
def tlL (F:Nat→List UInt8) (k:Nat):List (List UInt8):=(List.range k).map F
@[simp] theorem tlL_len (F:Nat→List UInt8) (k:Nat):(tlL F k).length=k:=by simp [tlL]
end Go.Wk
namespace Go.Wk
open Go.RowKit
def bes (k:Nat):List Int:=List.replicate k (-1)
@[simp] theorem bes_len (k:Nat):(bes k).length=k:=List.length_replicate
def Turns (a b:St) (k:Nat) (t:Int):Prop:=(∃ n:Nat,t=(n:Int)∧¬ pW n a (bes k) b (bes k)∧∀ m:Nat,m<n→pW m a (bes k) b (bes k))∨(t = -1∧pF a (bes k) b (bes k))
end Go.Wk
namespace Go.Wk
open Go.RowKit
def InBoth (as_ bs:List Int) (x y:Int):Prop:=∃ j:Nat,j<as_.length∧x=as_.getD j 0∧y=bs.getD j 0
theorem getD_snoc {l:List Int} {x:Int} {i:Nat}:(l++[x]).getD i 0=if i<l.length then l.getD i 0 else if i=l.length then x else 0:=by
  rw [List.getD_eq_getElem?_getD]
  by_cases h:i<l.length
  · rw [if_pos h,List.getElem?_append_left h,← List.getD_eq_getElem?_getD]
  · rw [if_neg h,List.getElem?_append_right (by omega)]
    by_cases e:i=l.length
    · rw [if_pos e,e,Nat.sub_self];rfl
    · rw [if_neg e,List.getElem?_eq_none (by simp;omega)];rfl
theorem InBoth.more {as_ bs:List Int} {x y u v:Int} (hl:as_.length=bs.length) (h:InBoth as_ bs x y):InBoth (as_++[u]) (bs++[v]) x y:=by
 obtain ⟨j,hj,e1,e2⟩:=h
 exact ⟨j,by rw [List.length_append];omega,by rw [getD_snoc,if_pos hj];exact e1,by rw [getD_snoc,if_pos (by omega)];exact e2⟩
end Go.Wk
namespace Go.Wk
open Go.RowKit
def OnVars (xs ys:List Int) (fr:Nat) (e e':List Int):Prop:=∀ i:Nat,i<4→fr.testBit i=true→InBoth xs ys (e.getD i 0) (e'.getD i 0)
theorem cnt_ex {f:Nat→Bool}:∀ {n:Nat},1≤cntT f n↔∃ x:Nat,x<n∧f x=true
  | 0=>⟨fun h=>by exact absurd h (by unfold cntT;omega),fun ⟨x,hx,_⟩=>by omega⟩
  | n+1=>by
    rw [cnt_step]
    constructor
    · intro h
      by_cases hf:f n=true
      · exact ⟨n,by omega,hf⟩
      · rw [if_neg hf] at h
        obtain ⟨x,hx,h2⟩:=cnt_ex.1 (show 1≤cntT f n by omega)
        exact ⟨x,by omega,h2⟩
    · rintro ⟨x,hx,h2⟩
      rcases Nat.lt_or_ge x n with h3 | h3
      · have:=cnt_ex.2 ⟨x,h3,h2⟩
        omega
      · obtain rfl:x=n:=by omega
        rw [if_pos h2];omega
theorem InBoth.left {as_ bs X Y:List Int} (hl:as_.length=bs.length) {x y:Int} (h:InBoth as_ bs x y):InBoth (as_++X) (bs++Y) x y:=by
  obtain ⟨j,hj,e1,e2⟩:=h
  refine ⟨j,by rw [List.length_append];omega,?_,?_⟩
  · rw [e1,List.getD_eq_getElem?_getD,List.getD_eq_getElem?_getD,List.getElem?_append_left hj]
  · rw [e2,List.getD_eq_getElem?_getD,List.getD_eq_getElem?_getD,List.getElem?_append_left (by omega)]
theorem OnVars.more {xs ys X Y:List Int} {fr:Nat} {e e':List Int} (hl:xs.length=ys.length) (h:OnVars xs ys fr e e'):OnVars (xs++X) (ys++Y) fr e e':=fun i hi ht=>(h i hi ht).left hl
end Go.Wk
namespace Go.Wk
open Go.RowKit
theorem takeV_more {t:List UInt8}:∀ {k:Nat} {s vs r:List UInt8},takeV k s=some (vs,r)→takeV k (s++t)=some (vs,r++t)
  | 0,s,vs,r,h=>by injection h with h;injection h with h1 h2;subst h1;subst h2;rfl
  | k+1,[],vs,r,h=>by cases h
  | k+1,v::s,vs,r,h=>by
    unfold takeV at h
    split at h
    · rename_i hv
      split at h
      · rename_i us r' e
        injection h with h;injection h with h1 h2;subst h1;subst h2
        show (if isV v then (match takeV k (s++t) with | some (vs,r)=>some (v::vs,r) | none=>none) else none)=_
        rw [if_pos hv,takeV_more e]
      · cases h
    · cases h
theorem parse_more {t:List UInt8}:∀ (n:Nat) {s r:List UInt8} {p:Fm},s.length≤n→parse s=some (p,r)→parse (s++t)=some (p,r++t)
  | 0,[],_,_,_,h=>by cases h
  | 0,_::_,_,_,hn,_=>by simp at hn
  | _+1,[],_,_,_,h=>by cases h
  | n+1,c::s,r,p,hn,h=>by
    rw [List.cons_append]
    rw [parse_cons] at h ⊢
    simp only [List.length_cons] at hn
    split at h
    · rename_i hop
      rw [if_pos hop]
      split at h
      · cases h
      · rename_i vs r0 e
        obtain ⟨_,h2,_⟩:=takeV_len e
        rw [takeV_more e]
        dsimp only
        by_cases h0:arP c=0
        · rw [if_pos h0] at h ⊢
          injection h with h;injection h with h4 h;subst h;subst h4;rfl
        · rw [if_neg h0] at h ⊢
          by_cases h1:arP c=1
          · rw [if_pos h1] at h ⊢
            split at h
            · rename_i q r' e2
              injection h with h;injection h with h4 h;subst h;subst h4
              rw [parse_more n (by omega) e2]
            · cases h
          · rw [if_neg h1] at h ⊢
            split at h
            · rename_i q r' e2
              split at h
              · rename_i q2 r2 e3
                injection h with h;injection h with h4 h;subst h;subst h4
                have:=parse_len e2
                rw [parse_more n (by omega) e2]
                dsimp only
                rw [parse_more n (by omega) e3]
              · cases h
            · cases h
    · cases h
def Is (s:List UInt8) (p:Fm):Prop:=parse s=some (p,[])
theorem Is.more {s:List UInt8} {p:Fm} (h:Is s p) (t:List UInt8):parse (s++t)=some (p,t):=by
 have:=parse_more (t:=t) _ (Nat.le_refl _) h
 rwa [List.nil_append] at this
theorem Is.wf {s:List UInt8} {p:Fm} (h:Is s p):wfF p:=parse_wf _ (Nat.le_refl _) h
theorem Is.same {s:List UInt8} {p q:Fm} (h:Is s p) (k:Is s q):p=q:=by
 have:=h.symm.trans k
 injection this with this;injection this
theorem is_not {s:List UInt8} {p:Fm} (h:Is s p):Is (33::s) (.one 33 [] p):=by
 unfold Is;rw [parse_cons,show isOp 33=true from rfl,if_pos rfl,show takeV (arV 33) s=some ([],s) from rfl]
 dsimp only
 rw [if_neg (by decide),if_pos (by rfl),h]
def plainB:Fm→Bool
 | .leaf _ _=>true
 | .one c _ p=>!(decide (c=50)||decide (c=51)||decide (c=52))&&plainB p
 | .two _ p q=>plainB p&&plainB q
structure Tx (s:List UInt8) (lo hi k w:Nat) (φ:St→List Int→Prop):Prop where
 ex:∃ p,Is s p∧lo≤rankF p∧rankF p≤hi∧(∀ i:Nat,i<4→(frB p).testBit i=true→i<k)∧(∀ i:Nat,i<4→(allB p).testBit i=true→i<w)∧plainB p=true∧∀ a e,e.length=4→(ev a p e=true↔φ a e)
theorem tx_not {s:List UInt8} {lo hi k w:Nat} {φ:St→List Int→Prop} (h:Tx s lo hi k w φ):Tx (33::s) lo hi k w fun a e=>¬ φ a e:=by
  obtain ⟨p,g0,g1,g2,g3,g4,g5,g6⟩:=h.ex
  refine ⟨_,is_not g0,g1,g2,g3,fun i hi ht=>g4 i hi ?_,by show (!_&&plainB p)=true;rw [g5];rfl,fun a e he=>?_⟩
  · have:(0 ||| allB p).testBit i=true:=ht
    rwa [Nat.zero_or] at this
  · rw [← g6 a e he]
    show (!ev a p e)=true↔_
    cases ev a p e <;> simp
end Go.Wk
namespace Go.Wk
open Go.RowKit
inductive At where
 | P (i:Nat)
 | E (i j:Nat)
 | Q (i j:Nat)
def At.val (a:St) (xs:List Int):At→Bool
 | .P i=>a.inSet (xs.getD i 0)
 | .E i j=>a.inRel (xs.getD i 0) (xs.getD j 0)
 | .Q i j=>decide (xs.getD i 0=xs.getD j 0)
def At.lt (n:Nat):At→Prop
 | .P i=>i<n
 | .E i j=>i<n∧j<n
 | .Q i j=>i<n∧j<n
theorem At.same {a:St} {e xs:List Int} {n:Nat} (h:∀ j:Nat,j<n→e.getD j 0=xs.getD j 0):∀ {t:At},t.lt n→t.val a e=t.val a xs
 | .P i,k=>by have hk:i<n:=k;show a.inSet _=a.inSet _;rw [h i hk]
 | .E i j,k=>by show a.inRel _ _=a.inRel _ _;rw [h i k.1,h j k.2]
 | .Q i j,k=>by show decide (_=_)=decide (_=_);rw [h i k.1,h j k.2]
def TrueIn (s:List UInt8) (a:St) (e:List Int):Prop:=∃ p,Is s p∧ev a p e=true
theorem Tx.self {s:List UInt8} {lo hi k w:Nat} {φ:St→List Int→Prop} (h:Tx s lo hi k w φ):Tx s lo hi k w (TrueIn s):=by
 obtain ⟨p,g0,g1,g2,g3,g4,g5,g6⟩:=h.ex
 exact ⟨p,g0,g1,g2,g3,g4,g5,fun a e _=>⟨fun h=>⟨p,g0,h⟩,fun ⟨q,h1,h2⟩=>by rw [g0.same h1];exact h2⟩⟩
theorem Tx.at {s:List UInt8} {lo hi k w:Nat} {φ:St→List Int→Prop} (h:Tx s lo hi k w φ) {a:St} {e:List Int} (he:e.length=4):TrueIn s a e↔φ a e:=by
 obtain ⟨p,g0,g1,g2,g3,g4,g5,g6⟩:=h.ex
 exact ⟨fun ⟨q,h1,h2⟩=>(g6 a e he).1 (by rw [g0.same h1];exact h2),fun h=>⟨p,g0,(g6 a e he).2 h⟩⟩
def Tells2 (s:List UInt8) (r n:Nat) (a:St) (xs:List Int) (b:St) (ys:List Int):Prop :=
 Tx s 0 r n (n+r) (TrueIn s)∧(∀ e:List Int,e.length=4→e.take n=xs→TrueIn s a e)∧∀ e:List Int,e.length=4→e.take n=ys→¬ TrueIn s b e
theorem Tells2.not {s:List UInt8} {r n:Nat} {a b:St} {xs ys:List Int} (h:Tells2 s r n a xs b ys):Tells2 (33::s) r n b ys a xs:=by
 have hq:=tx_not h.1
 exact ⟨hq.self,fun e he hy=>(hq.at he).2 (h.2.2 e he hy),fun e he hx h1=>(hq.at he).1 h1 (h.2.1 e he hx)⟩
end Go.Wk
namespace Go.Proofs
open Go.Shelf
def Tryd.lays160_ren:Go.Shelf.Ren:=⟨fun | 160=>160 | 232=>191 | 231=>190 | 227=>192 | 234=>194 | 233=>193 | 236=>196 | 235=>195 | 228=>209 | 271=>212 | 151=>211 | 197=>210 | 120=>222 | 152=>221 | 260=>220 | 137=>175 | 119=>226 | 224=>224 | 225=>223 | 217=>199 | 266=>214 | n=>n,fun | 9=>9 | 4=>4 | 3=>3 | 5=>5 | 117=>201 | 116=>200 | 0=>0 | 124=>204 | 21=>21 | 105=>222 | 46=>85 | 119=>160 | 139=>233 | 138=>232 | n=>n,fun | 3=>3 | 4=>4 | n=>n⟩
theorem Tryd.lays160:Go.Proofs.Lays.n160 Tryd.prog Tryd.lays160_ren:={
 mixed:=by kernel_rfl
 f119:=Tryd.func226.trans (congrArg some (by kernel_rfl))
 f120:=Tryd.func222.trans (congrArg some (by kernel_rfl))
 f137:=Tryd.func175.trans (congrArg some (by kernel_rfl))
 f151:=Tryd.func211.trans (congrArg some (by kernel_rfl))
 f152:=Tryd.func221.trans (congrArg some (by kernel_rfl))
 f160:=Tryd.func160.trans (congrArg some (by kernel_rfl))
 f197:=Tryd.func210.trans (congrArg some (by kernel_rfl))
 f217:=Tryd.func199.trans (congrArg some (by kernel_rfl))
 f224:=Tryd.func224.trans (congrArg some (by kernel_rfl))
 f225:=Tryd.func223.trans (congrArg some (by kernel_rfl))
 f227:=Tryd.func192.trans (congrArg some (by kernel_rfl))
 f228:=Tryd.func209.trans (congrArg some (by kernel_rfl))
 f231:=Tryd.func190.trans (congrArg some (by kernel_rfl))
 f232:=Tryd.func191.trans (congrArg some (by kernel_rfl))
 f233:=Tryd.func193.trans (congrArg some (by kernel_rfl))
 f234:=Tryd.func194.trans (congrArg some (by kernel_rfl))
 f235:=Tryd.func195.trans (congrArg some (by kernel_rfl))
 f236:=Tryd.func196.trans (congrArg some (by kernel_rfl))
 f260:=Tryd.func220.trans (congrArg some (by kernel_rfl))
 f266:=Tryd.func214.trans (congrArg some (by kernel_rfl))
 f271:=Tryd.func212.trans (congrArg some (by kernel_rfl))
 t0:=Tryd.underlying0
 a0:=Tryd.isAgg0
 z0:=Tryd.sizeOf0
 v0:=Tryd.zeroValue0
 t3:=Tryd.underlying3
 a3:=Tryd.isAgg3
 z3:=Tryd.sizeOf3
 v3:=Tryd.zeroValue3
 t4:=Tryd.underlying4
 a4:=Tryd.isAgg4
 z4:=Tryd.sizeOf4
 v4:=Tryd.zeroValue4
 t5:=Tryd.underlying5
 a5:=Tryd.isAgg5
 z5:=Tryd.sizeOf5
 v5:=Tryd.zeroValue5
 t9:=Tryd.underlying9
 a9:=Tryd.isAgg9
 z9:=Tryd.sizeOf9
 v9:=Tryd.zeroValue9
 t21:=Tryd.underlying21
 a21:=Tryd.isAgg21
 z21:=Tryd.sizeOf21
 v21:=Tryd.zeroValue21
 t46:=Tryd.underlying85
 a46:=Tryd.isAgg85
 z46:=Tryd.sizeOf85
 v46:=Tryd.zeroValue85
 t105:=Tryd.underlying222
 a105:=Tryd.isAgg222
 z105:=Tryd.sizeOf222
 v105:=Tryd.zeroValue222
 t116:=Tryd.underlying200
 a116:=Tryd.isAgg200
 z116:=Tryd.sizeOf200
 t117:=Tryd.underlying201
 a117:=Tryd.isAgg201
 z117:=Tryd.sizeOf201
 v117:=Tryd.zeroValue201
 t119:=Tryd.underlying160
 a119:=Tryd.isAgg160
 z119:=Tryd.sizeOf160
 t124:=Tryd.underlying204
 a124:=Tryd.isAgg204
 z124:=Tryd.sizeOf204
 v124:=Tryd.zeroValue204
 t138:=Tryd.underlying232
 a138:=Tryd.isAgg232
 z138:=Tryd.sizeOf232
 v138:=Tryd.zeroValue232
 t139:=Tryd.underlying233
 a139:=Tryd.isAgg233
 z139:=Tryd.sizeOf233
 v139:=Tryd.zeroValue233
 g3:=by kernel_rfl
 g4:=by kernel_rfl }
end Go.Proofs
namespace Go.Proofs.YtefiibghfgfdnaaDoor
open Go.RowKit Go.Wk
theorem Base.mixed:Tryd.prog.follows .mixedOrders=true:=by kernel_rfl
theorem Base.elem22:Elem Tryd.prog 22 5 1:=⟨Tryd.underlying22,Tryd.t5,_,by kernel_rfl,rfl,rfl,by decide,rfl,by decide⟩
theorem Base.elem25:Elem Tryd.prog 25 9 1:=⟨Tryd.underlying25,Tryd.t9,_,by kernel_rfl,rfl,rfl,by decide,rfl,by decide⟩
theorem Base.elem30:Elem Tryd.prog 30 3 1:=⟨Tryd.underlying30,Tryd.t3,_,by kernel_rfl,rfl,rfl,by decide,rfl,by decide⟩
theorem Base.elem82:Elem Tryd.prog 82 80 1:=⟨Tryd.underlying82,Tryd.t80,_,by kernel_rfl,rfl,rfl,by decide,rfl,by decide⟩
theorem Base.elem95:Elem Tryd.prog 95 30 1:=⟨Tryd.underlying95,Tryd.t30,_,by kernel_rfl,rfl,rfl,by decide,rfl,by decide⟩
theorem Base.elem124:Elem Tryd.prog 124 4 1:=⟨Tryd.underlying124,Tryd.t4,_,by kernel_rfl,rfl,rfl,by decide,rfl,by decide⟩
theorem trim_ok (s:List UInt8) (w:World) (hs:s.length≤1048576) :
  Calls Tryd.prog 160 [str s,str [48,49]].toArray w fun en w'=>en=.returned (str (Lib.trimS s [48,49]))∧Below w.heap.size w w' :=
 Any.strings_Trim_laid Tryd.lays160 (by kernel_rfl) ⟨⟨s⟩⟩ ⟨⟨[48,49]⟩⟩ w (by show s.length≤9223372036854775807;omega) (by decide) (ascii_of_all (by decide))
end Go.Proofs.YtefiibghfgfdnaaDoor
namespace Go.Proofs.YtefiibghfgfdnaaDoor
abbrev yP := @Base.mixed
abbrev yW := @Base.elem22
abbrev jL := @Base.elem30
abbrev jZ := @Base.elem25
abbrev vC := @Base.elem82
end Go.Proofs.YtefiibghfgfdnaaDoor
namespace Go.Proofs.YtefiibghfgfdnaaDoor
open Go.RowKit Go.Wk
set_option linter.unusedSimpArgs false
set_option maxHeartbeats 400000 in
theorem l1In_ok (n lo hi:Int) (w:World) :
    Calls Tryd.prog 102 [i6_ n,i6_ lo,i6_ hi].toArray w fun en w'=>en=.returned (.bool (inB n lo hi))∧Below w.heap.size w w':=by
 refine fnStart (n:=15) (e:=[(0,i6_ n),(1,i6_ lo),(2,i6_ hi)]) Tryd.func102 Z Z Z Z Ends.both (zH (zC (zK 1 Z (zN (zI [0,1,2] [_,_,_] Z (zH (zC (zK 4 Z (xT fun b10 hg10=>?_)))))))))
 cases b10
 ·
  replace hg10:=zU hg10;refine zQ Z (zQ Z (zQ Z (zK 2 Z (zN (zI [6] [_] Z (qN (qS Z Z fun w' hw=>?_)))))))
  exact ⟨ret_b (by first | rfl | (simp_all [inB];done) | (simp_all [inB];omega)),hw.below⟩
 replace hg10:=zV hg10;refine zK 5 Z (zN (zI [6] [_] Z (qN (qS Z Z fun w' hw=>?_))))
 exact ⟨ret_b (by first | rfl | (simp_all [inB];done) | (simp_all [inB];omega)),hw.below⟩
set_option maxHeartbeats 400000 in
theorem l1Bits_ok (s:List UInt8) (n:Int) (w:World) (hs:s.length≤1048576) :
    Calls Tryd.prog 112 [str s,i6_ n].toArray w fun en w'=>en=.returned (.bool (bitsB s n))∧Below w.heap.size w w':=by
 refine fnStart (n:=26) (e:=[(0,str s),(1,i6_ n)]) Tryd.func112 Z Z Z Z Ends.both (zH (zC (zK 1 Z (zN (zI [0,1] [_,_] Z (zH (zH (zC (zK 1 Z (zN (zI [0,1,5] [_,_,_] Z (qU (jP (σ:=Nat) (fun k=>k≤s.length∧(s.take k).all isBit=true) (fun k=>[(0,str s),(1,i6_ n),(5,i6_ (k:Int))]) (fun k=>Own w.heap.size w []) (fun k=>s.length - k) (0) ⟨by omega,rfl⟩ (Sub.sel [0,1,5] Z) (fun _ h=>h) ?_)))))))))))))
 rintro k ⟨hk,hall⟩;refine zH (zH (zC (zK 2 Z (zM (v:=i6_ (s.length:Int)) Z (jG Z qM Z) (zK 1 Z (zN (zI [0,1,5,9] [_,_,_,_] Z (xN Z (fun h9=>?_) (fun h9=>?_)))))))))
 ·
  refine qQ (zI [0,1,5] [_,_,_] Z (zH (qU (zH (zC (zK 2 Z (zM (v:=.int .u8 (((s.getD ((k:Int).toNat) 0).toNat:Int))) Z (xK Z qM Z Z (by omega) (by omega)) (zK 2 Z (xT fun b16 hg16=>?_)))))))))
  cases b16
  ·
   replace hg16:=not_false hg16
   replace hg16:=zV hg16;refine zQ Z (zQ Z (zQ Z (zQ Z (zK 1 Z (zN (zI [0,1,5,21] [_,_,_,_] Z (xJ Z (qQ (zI [0,1,5] [_,_,_] Z (zC (zK 1 Z (zM Z (yE Z Z Z (by omega) (by omega)) (zK 1 Z (zN (xH (k+1) ⟨by omega,all_take (by omega) hall (by unfold isBit;simp_all)⟩ (by omega) (Sub.sel [0,1,5] Z) (fun _ h=>h))))))))))))))))
  replace hg16:=not_true hg16
  replace hg16:=zU hg16;refine zK 2 Z (zM (v:=.int .u8 (((s.getD ((k:Int).toNat) 0).toNat:Int))) Z (xK Z qM Z Z (by omega) (by omega)) (zK 2 Z (zN (zI [0,1,5,21] [_,_,_,_] Z (qW (b:=!(decide ((((s.getD ((k:Int).toNat) 0).toNat:Int))=(49:Int)))) Z (fun h21=>?_) (fun h21=>?_))))))
  ·
   replace h21:=not_true h21
   replace h21:=zU h21;refine zH (zC (zK 1 Z (zN (zI [4] [_] Z (qN (qS Z Z fun w' hw=>?_))))))
   exact ⟨ret_b (by unfold bitsB;rw [all_false (k:=k) (by omega) (by unfold isBit;simp_all)];rfl),hw.below⟩
  replace h21:=not_false h21
  replace h21:=zV h21;refine qQ (zI [0,1,5] [_,_,_] Z (zC (zK 1 Z (zM Z (yE Z Z Z (by omega) (by omega)) (zK 1 Z (zN (xH (k+1) ⟨by omega,all_take (by omega) hall (by unfold isBit;simp_all)⟩ (by omega) (Sub.sel [0,1,5] Z) (fun _ h=>h))))))))
 refine xO Z (zI [0,1] [_,_] Z (zH (zC (zK 1 Z (zM (v:=i6_ (s.length:Int)) Z (jG Z qM Z) (zK 3 Z (zN (zI [4] [_] Z (qN (qS Z Z fun w' hw=>?_))))))))))
 exact ⟨ret_b (by unfold bitsB;rw [show s.all isBit=true from by rw [← List.take_of_length_le (show s.length≤k by omega)];exact hall];rfl),hw.below⟩
set_option maxHeartbeats 400000 in
theorem sValid_ok (a:St) (w:World) (ha:a.Small) :
    Calls Tryd.prog 56 [vS a].toArray w fun en w'=>en=.returned (.bool (validB a))∧Below w.heap.size w w':=by
 refine fnStart (n:=23) (e:=[(0,vS a)]) Tryd.func56 Z Z Z Z Ends.both ?_
 have h1:=ha.set
 have h2:=ha.rel;refine zH (qC (jH (v:=vS a) Z Z Z Z Z fun p1 hp1=>?_))
 show Ll _ _ (Own _ _ [_]) _ _ ((1,pt_ p1)::_) _ _ _;refine qD 1 Z (zG (zI [1] [_] Z (zH (zC (zM Z (zD Z zZ Z zE Z Z) (zM Z (zO 0 Z zT Z Z Z) (zM (v:=bo_ (inB a.n 1 8)) Z (qX Z Tryd.call102 Z qK (fun w1 hw1=>l1In_ok a.n 1 8 w1 )) (zK 1 Z (xT fun b6 hg6=>?_)))))))))
 cases b6
 ·
  refine zQ Z (zQ Z (zQ Z (zQ Z (zQ Z (zK 2 Z (zQ Z (zQ Z (zQ Z (zQ Z (zQ Z (zQ Z (zQ Z (zQ Z (zK 2 Z (zN (zI [2] [_] Z (qN (qS Z Z fun w' hw=>?_))))))))))))))))))
  exact ⟨ret_b (by first | (simp [validB, *];done) | (simp [validB, *];omega)),hw.below⟩
 have hn:1≤a.n∧a.n≤8:=by unfold inB at hg6;simpa using hg6
 have hq:=sq_le hn.1 hn.2;refine zM Z (zD Z zZ Z qH Z Z) (zM Z (zO 0 Z yG Z Z Z) (zM Z (zD Z zZ Z zE Z Z) (zM Z (zO 0 Z zT Z Z Z) (zM (v:=bo_ (bitsB a.set a.n)) Z (qX Z Tryd.call112 Z qK (fun w1 hw1=>l1Bits_ok a.set a.n w1 (by omega))) (zK 2 Z (xT fun b13 hg13=>?_))))))
 cases b13
 ·
  refine zQ Z (zQ Z (zQ Z (zQ Z (zQ Z (zQ Z (zQ Z (zQ Z (zK 2 Z (zN (zI [2] [_] Z (qN (qS Z Z fun w' hw=>?_))))))))))))
  exact ⟨ret_b (by first | (simp [validB, *];done) | (simp [validB, *];omega)),hw.below⟩
 refine zM Z (zD Z zZ Z qH Z Z) (zM Z (zO 0 Z yG Z Z Z) (zM Z (zD Z zZ Z zE Z Z) (zM Z (zO 0 Z zT Z Z Z) (zM Z (zD Z zZ Z zE Z Z) (zM Z (zO 0 Z zT Z Z Z) (zM Z (OpQ.mul Z Z Z (by omega) (by omega)) (zM (v:=bo_ (bitsB a.rel (a.n*a.n))) Z (qX Z Tryd.call112 Z qK (fun w1 hw1=>l1Bits_ok a.rel (a.n*a.n) w1 (by omega))) (zK 2 Z (zN (zI [2] [_] Z (qN (qS Z Z fun w' hw=>?_))))))))))))
 exact ⟨ret_b (by first | (simp [validB, *];done) | (simp [validB, *];omega)),hw.below⟩
set_option maxHeartbeats 400000 in
theorem l1Set_ok (a:St) (x:Int) (w:World) (ha:a.Fine) (hx:a.El x) :
    Calls Tryd.prog 86 [vS a,i6_ x].toArray w fun en w'=>en=.returned (.bool (a.inSet x))∧Below w.heap.size w w':=by
 refine fnStart (n:=10) (e:=[(0,vS a),(1,i6_ x)]) Tryd.func86 Z Z Z Z Ends.both ?_
 have hs:=ha.set
 obtain ⟨h0,h1⟩:=hx;refine zH (qC (jH (v:=vS a) Z Z Z Z Z fun p2 hp2=>?_))
 show Ll _ _ (Own _ _ [_]) _ _ ((2,pt_ p2)::_) _ _ _;refine qD 1 Z (zG (zI [1,2] [_,_] Z (zH (zC (zM Z (zD Z zZ Z qH Z Z) (zM Z (zO 0 Z yG Z Z Z) (zK 1 Z (zM (v:=.int .u8 (((a.set.getD ((x).toNat) 0).toNat:Int))) Z (xK Z qM Z Z (by omega) (by omega)) (zK 2 Z (zN (zI [4] [_] Z (qN (qS Z Z fun w' hw=>?_)))))))))))))
 exact ⟨ret_b (by first | rfl | (simp_all;done) | (simp_all;omega)),hw.below⟩
set_option maxHeartbeats 400000 in
theorem l1Rel_ok (a:St) (x y:Int) (w:World) (ha:a.Fine) (hx:a.El x) (hy:a.El y) :
    Calls Tryd.prog 87 [vS a,i6_ x,i6_ y].toArray w fun en w'=>en=.returned (.bool (a.inRel x y))∧Below w.heap.size w w':=by
 refine fnStart (n:=17) (e:=[(0,vS a),(1,i6_ x),(2,i6_ y)]) Tryd.func87 Z Z Z Z Ends.both ?_
 obtain ⟨k0,k1,k2,k3,k4⟩:=ha.relLt hx hy;refine zH (qC (jH (v:=vS a) Z Z Z Z Z fun p3 hp3=>?_))
 show Ll _ _ (Own _ _ [_]) _ _ ((3,pt_ p3)::_) _ _ _;refine qD 1 Z (zG (zI [1,2,3] [_,_,_] Z (zH (zC (zM Z (zD Z zZ Z qH Z Z) (zM Z (zO 0 Z yG Z Z Z) (zK 1 Z (zM Z (zD Z zZ Z zE Z Z) (zM Z (zO 0 Z zT Z Z Z) (zM Z (OpQ.mul Z Z Z (by omega) (by omega)) (zK 1 Z (zM Z (yE Z Z Z (by omega) (by omega)) (zM (v:=.int .u8 (((a.rel.getD (((x*a.n)+y).toNat) 0).toNat:Int))) Z (xK Z qM Z Z (by omega) (by omega)) (zK 2 Z (zN (zI [6] [_] Z (qN (qS Z Z fun w' hw=>?_))))))))))))))))))
 exact ⟨ret_b (by first | rfl | (simp_all;done) | (simp_all;omega)),hw.below⟩
set_option maxHeartbeats 400000 in
theorem areBits_ok (s:List UInt8) (n:Int) (w:World) (hs:s.length≤1048576) :
    Calls Tryd.prog 110 [str s,i6_ n].toArray w fun en w'=>en=.returned (.bool (bitsB s n))∧Below w.heap.size w w':=by
 refine fnStart (n:=14) (e:=[(0,str s),(1,i6_ n)]) Tryd.func110 Z Z Z Z Ends.both (zH (zC (zK 1 Z (zN (zI [0,1] [_,_] Z (zH (zC (zK 1 Z (zM (v:=i6_ (s.length:Int)) Z (jG Z qM Z) (zK 3 Z (xT fun b9 hg9=>?_)))))))))))
 cases b9
 ·
  replace hg9:=zU hg9;refine zQ Z (zQ Z (zQ Z (zK 2 Z (zN (zI [4] [_] Z (qN (qS Z Z fun w' hw=>?_)))))))
  exact ⟨ret_b (by unfold bitsB;simp [*]),hw.below⟩
 replace hg9:=zV hg9;refine zK 1 Z (zM (v:=str (Lib.trimS s [48,49])) Z (qX Z Tryd.call160 Z qK (fun w1 hw1=>trim_ok s w1 (by omega))) (zM Z (OpQ.seql Z Z Z) (zK 2 Z (zN (zI [4] [_] Z (qN (qS Z Z fun w' hw=>?_)))))))
 exact ⟨ret_b (by unfold bitsB;rw [trim_nil];simp [*]),hw.below⟩
set_option maxHeartbeats 400000 in
theorem isStructure_ok (a:St) (w:World) (ha:a.Small) :
    Calls Tryd.prog 52 [vS a].toArray w fun en w'=>en=.returned (.bool (validB a))∧Below w.heap.size w w':=by
 refine fnStart (n:=28) (e:=[(0,vS a)]) Tryd.func52 Z Z Z Z Ends.both ?_
 have h1:=ha.set
 have h2:=ha.rel;refine zH (qC (jH (v:=vS a) Z Z Z Z Z fun p1 hp1=>?_))
 show Ll _ _ (Own _ _ [_]) _ _ ((1,pt_ p1)::_) _ _ _;refine qD 1 Z (zG (zI [1] [_] Z (zH (zC (zM Z (zD Z zZ Z zE Z Z) (zM Z (zO 0 Z zT Z Z Z) (zK 2 Z (xT fun b6 hg6=>?_))))))))
 cases b6
 ·
  replace hg6:=zU hg6;refine zQ Z (zQ Z (zQ Z (zK 2 Z (zQ Z (zQ Z (zQ Z (zQ Z (zQ Z (zK 2 Z (zQ Z (zQ Z (zQ Z (zQ Z (zQ Z (zQ Z (zQ Z (zQ Z (zK 2 Z (zN (zI [2] [_] Z (qN (qS Z Z fun w' hw=>?_))))))))))))))))))))))
  exact ⟨ret_b (by first | (simp [validB,inB, *];done) | (simp [validB,inB, *];omega)),hw.below⟩
 replace hg6:=zV hg6;refine zM Z (zD Z zZ Z zE Z Z) (zM Z (zO 0 Z zT Z Z Z) (zK 3 Z (xT fun b11 hg11=>?_)))
 cases b11
 ·
  replace hg11:=zU hg11;refine zQ Z (zQ Z (zQ Z (zQ Z (zQ Z (zK 2 Z (zQ Z (zQ Z (zQ Z (zQ Z (zQ Z (zQ Z (zQ Z (zQ Z (zK 2 Z (zN (zI [2] [_] Z (qN (qS Z Z fun w' hw=>?_))))))))))))))))))
  exact ⟨ret_b (by first | (simp [validB,inB, *];done) | (simp [validB,inB, *];omega)),hw.below⟩
 replace hg11:=zV hg11
 have hq:=sq_le hg6 hg11;refine zM Z (zD Z zZ Z qH Z Z) (zM Z (zO 0 Z yG Z Z Z) (zM Z (zD Z zZ Z zE Z Z) (zM Z (zO 0 Z zT Z Z Z) (zM (v:=bo_ (bitsB a.set a.n)) Z (qX Z Tryd.call110 Z qK (fun w1 hw1=>areBits_ok a.set a.n w1 (by omega))) (zK 2 Z (xT fun b18 hg18=>?_))))))
 cases b18
 ·
  refine zQ Z (zQ Z (zQ Z (zQ Z (zQ Z (zQ Z (zQ Z (zQ Z (zK 2 Z (zN (zI [2] [_] Z (qN (qS Z Z fun w' hw=>?_))))))))))))
  exact ⟨ret_b (by first | (simp [validB,inB, *];done) | (simp [validB,inB, *];omega)),hw.below⟩
 refine zM Z (zD Z zZ Z qH Z Z) (zM Z (zO 0 Z yG Z Z Z) (zM Z (zD Z zZ Z zE Z Z) (zM Z (zO 0 Z zT Z Z Z) (zM Z (zD Z zZ Z zE Z Z) (zM Z (zO 0 Z zT Z Z Z) (zM Z (OpQ.mul Z Z Z (by omega) (by omega)) (zM (v:=bo_ (bitsB a.rel (a.n*a.n))) Z (qX Z Tryd.call110 Z qK (fun w1 hw1=>areBits_ok a.rel (a.n*a.n) w1 (by omega))) (zK 2 Z (zN (zI [2] [_] Z (qN (qS Z Z fun w' hw=>?_))))))))))))
 exact ⟨ret_b (by first | (simp [validB,inB, *];done) | (simp [validB,inB, *];omega)),hw.below⟩
set_option maxHeartbeats 400000 in
theorem inSet_ok (a:St) (x:Int) (w:World) (ha:a.Fine) (hx:a.El x) :
    Calls Tryd.prog 82 [vS a,i6_ x].toArray w fun en w'=>en=.returned (.bool (a.inSet x))∧Below w.heap.size w w':=by
 refine fnStart (n:=10) (e:=[(0,vS a),(1,i6_ x)]) Tryd.func82 Z Z Z Z Ends.both ?_
 have hs:=ha.set
 obtain ⟨h0,h1⟩:=hx;refine zH (qC (jH (v:=vS a) Z Z Z Z Z fun p2 hp2=>?_))
 show Ll _ _ (Own _ _ [_]) _ _ ((2,pt_ p2)::_) _ _ _;refine qD 1 Z (zG (zI [1,2] [_,_] Z (zH (zC (zM Z (zD Z zZ Z qH Z Z) (zM Z (zO 0 Z yG Z Z Z) (zK 1 Z (zM (v:=.int .u8 (((a.set.getD ((x).toNat) 0).toNat:Int))) Z (xK Z qM Z Z (by omega) (by omega)) (zK 2 Z (zN (zI [4] [_] Z (qN (qS Z Z fun w' hw=>?_)))))))))))))
 exact ⟨ret_b (by first | rfl | (simp_all;done) | (simp_all;omega)),hw.below⟩
set_option maxHeartbeats 400000 in
theorem inRel_ok (a:St) (x y:Int) (w:World) (ha:a.Fine) (hx:a.El x) (hy:a.El y) :
    Calls Tryd.prog 83 [vS a,i6_ x,i6_ y].toArray w fun en w'=>en=.returned (.bool (a.inRel x y))∧Below w.heap.size w w':=by
 refine fnStart (n:=17) (e:=[(0,vS a),(1,i6_ x),(2,i6_ y)]) Tryd.func83 Z Z Z Z Ends.both ?_
 obtain ⟨k0,k1,k2,k3,k4⟩:=ha.relLt hx hy;refine zH (qC (jH (v:=vS a) Z Z Z Z Z fun p3 hp3=>?_))
 show Ll _ _ (Own _ _ [_]) _ _ ((3,pt_ p3)::_) _ _ _;refine qD 1 Z (zG (zI [1,2,3] [_,_,_] Z (zH (zC (zM Z (zD Z zZ Z qH Z Z) (zM Z (zO 0 Z yG Z Z Z) (zK 1 Z (zM Z (zD Z zZ Z zE Z Z) (zM Z (zO 0 Z zT Z Z Z) (zM Z (OpQ.mul Z Z Z (by omega) (by omega)) (zK 1 Z (zM Z (yE Z Z Z (by omega) (by omega)) (zM (v:=.int .u8 (((a.rel.getD (((x*a.n)+y).toNat) 0).toNat:Int))) Z (xK Z qM Z Z (by omega) (by omega)) (zK 2 Z (zN (zI [6] [_] Z (qN (qS Z Z fun w' hw=>?_))))))))))))))))))
 exact ⟨ret_b (by first | rfl | (simp_all;done) | (simp_all;omega)),hw.below⟩
end Go.Proofs.YtefiibghfgfdnaaDoor
namespace Go.Proofs.YtefiibghfgfdnaaDoor
open Go.RowKit Go.Wk
set_option linter.unusedSimpArgs false
set_option maxHeartbeats 400000 in
theorem bitD_ok (b:Bool) (w:World) :
    Calls Tryd.prog 55 [bo_ b].toArray w fun en w'=>en=.returned (str (if b then [49] else [48]))∧Below w.heap.size w w':=by
 refine fnStart (n:=4) (e:=[(0,bo_ b)]) Tryd.func55 Z Z Z Z Ends.both (zH (zC (zM (v:=str ([])) Z (yJ Z Z) (zN (zI [0] [_] Z (zH (zH (zC (zK 1 Z (zN (zI [3] [_] Z (qW (b:=b) Z (fun h3=>?_) (fun h3=>?_)))))))))))))
 ·
  refine zH (zC (zM (v:=str ([49])) Z (yJ Z Z) (zN (zI [2] [_] Z (qN (qS Z Z fun w' hw=>?_))))))
  exact ⟨by rw [‹b=_›];rfl,hw.below⟩
 refine qQ (zI [] [] Z (zH (zC (zM (v:=str ([48])) Z (yJ Z Z) (zN (zI [2] [_] Z (qN (qS Z Z fun w' hw=>?_))))))))
 exact ⟨by rw [‹b=_›];rfl,hw.below⟩
set_option maxHeartbeats 400000 in
theorem pick_ok (B:Nat) (w0:World) (hs:List (Nat×Obj)) (rp p:Nat) (bv:Value) (L:List Int) (n:Int) (w:World) (hb:∀ w,Own B w0 hs w→Row w bv (u8s L)) (hL8:Bytes8 L) (hL:L.length≤2000) (hp:p≤1000000) (hw:Own B w0 ((rp,.cells #[bv,.int .i64 (p:Int)] 130 (0,0))::hs) w) :
    Calls Tryd.prog 61 [pt_ rp,i6_ n].toArray w fun en w'=>∃ k:Int,∃ p':Nat,en=.returned (i6_ k)∧(0≤k∧(1≤n→k<n)∧p'=p+1)∧Own B w0 (((rp,.cells #[bv,.int .i64 (p':Int)] 130 (0,0))::hs)) w':=by
 refine fnStartC (Own B w0 ((rp,.cells #[bv,.int .i64 (p:Int)] 130 (0,0))::hs)) (n:=99) (e:=[(0,pt_ rp),(1,i6_ n)]) Tryd.func61 Z Z Z Z Ends.both hw (zH (zC (zK 1 Z (zN (zI [0,1] [_,_] Z (zH (qC (qD 2 Z (zJ (v:=pt_ rp) Z (zL Z Z) (zJ Z (zD Z yZ Z zE Z Z) (zJ Z (zO 0 Z zT Z Z Z) (zJ Z (yE Z Z Z (by omega) (by omega)) (zJ (v:=pt_ rp) Z (zL Z Z) (zJ Z (zD Z yZ Z zE Z Z) (qB (v:=i6_ ((p:Int)+(1:Int))) (hs':=(bk_ rp #[bv,i6_ ((p:Int)+(1:Int))] 130::hs)) 0 Z Z Z Z Z Z zE Z (by simp) Z (zG (zI [0,1] [_,_] Z (zH (zH (zC (zK 3 Z (xT fun b17 hg17=>?_))))))))))))))))))))))
 cases b17
 ·
  replace hg17:=zU hg17;refine zK 1 Z (zM (v:=pt_ rp) Z (zL Z Z) (zM Z (zD Z yZ Z qL Z Z) (zM Z (zO 0 Z yN Z Z Z) (zM (v:=i6_ (L.length:Int)) Z (xZ Z yD Z (u8s_length _) (fun w1 hw1=>hb _ (zW (f:=[_]) hw1))) (zK 2 Z (zN (zI [0,1,24] [_,_,_] Z (qW (b:=decide ((L.length:Int)=(0:Int))) Z (fun h24=>?_) (fun h24=>?_)))))))))
  ·
   replace h24:=zV h24;refine zH (zC (zK 1 Z (zN (zI [4] [_] Z (qN (qS Z Z fun w' hw=>?_))))))
   exact ⟨0,p+1,rfl,⟨Int.le_refl 0,fun _=>by omega,rfl⟩,hw⟩
  replace h24:=zU h24
  have hlp:0<L.length:=by omega
  refine qQ (zI [0,1] [_,_] Z (zH (zC (zK 1 Z (zM (v:=pt_ rp) Z (zL Z Z) (zM Z (zD Z yZ Z zE Z Z) (zM Z (zO 0 Z zT Z Z Z) (zM (v:=i6_ (p:Int)) Z (yH (by congr 1;omega) (OpQ.sub Z Z Z (by omega) (by omega))) (zK 1 Z (zN (zI [0,1,5] [_,_,_] Z (zH (zH (zC (zK 2 Z (zM (v:=pt_ rp) Z (zL Z Z) (zM Z (zD Z yZ Z qL Z Z) (zM Z (zO 0 Z yN Z Z Z) (zM (v:=i6_ (L.length:Int)) Z (xZ Z yD Z (u8s_length _) (fun w1 hw1=>hb _ (zW (f:=[_]) hw1))) (zK 1 Z (zN (zI [0,1,5,36] [_,_,_,_] Z (qW (b:=decide ((p:Int)<(L.length:Int))) Z (fun h36=>?_) (fun h36=>?_))))))))))))))))))))))))
  ·
   replace h36:=zV h36
   have hb0:=hL8.at (i:=(p:Int).toNat) (by omega);refine zH (zC (zK 1 Z (zM (v:=pt_ rp) Z (zL Z Z) (zM Z (zD Z yZ Z qL Z Z) (zM Z (zO 0 Z yN Z Z Z) (zK 1 Z (zM (v:=.pointer (some (sAt bv (p:Int)))) Z (xX Z yD yY Z Z (by omega) (by rw [u8s_length];omega) (fun w1 hw1=>hb _ (zW (f:=[_]) hw1))) (zM (v:=.int .u8 (L.getD ((p:Int).toNat) 0)) Z (qG Z yV Z (fun w1 hw1=>u8s_cell (hb _ (zW (f:=[_]) hw1)) (by omega) (by omega))) (zM (v:=i6_ (L.getD ((p:Int).toNat) 0)) Z (OpQ.convInt .i64 Z Tryd.underlying5 xM Z (IntWalk.i64_in _ (by omega))) (zK 1 Z (zM (v:=i6_ ((L.getD ((p:Int).toNat) 0) % n)) Z (OpQ.rem Z Z Z (by omega) (by omega)) (zK 1 Z (zN (zI [4] [_] Z (qN (qS Z Z fun w' hw=>?_))))))))))))))))
   exact ⟨_,p+1,rfl,⟨Int.emod_nonneg _ (by omega),fun _=>Int.emod_lt_of_pos _ (by omega),rfl⟩,hw⟩
  replace h36:=zU h36
  have hm1:=Int.emod_nonneg (p:Int) (b:=(L.length:Int)) (by omega)
  have hm2:=Int.emod_lt_of_pos (p:Int) (b:=(L.length:Int)) (by omega)
  have hm3:=Int.emod_nonneg ((p:Int)*(7:Int)+(3:Int)) (b:=(L.length:Int)) (by omega)
  have hm4:=Int.emod_lt_of_pos ((p:Int)*(7:Int)+(3:Int)) (b:=(L.length:Int)) (by omega)
  have hd1:=Int.ediv_nonneg (a:=(p:Int)) (b:=(L.length:Int)) (by omega) (by omega)
  have hd2:=Int.ediv_le_self (L.length:Int) (show (0:Int)≤(p:Int) by omega)
  have hb1:=hL8.at (i:=((p:Int) % (L.length:Int)).toNat) (by omega)
  have hb2:=hL8.at (i:=(((p:Int)*(7:Int)+(3:Int)) % (L.length:Int)).toNat) (by omega);refine qQ (zI [0,1,5] [_,_,_] Z (zH (Wk.regionD yP (fun _ h=>h.drawn) (by kernel_rfl) (zK 1 Z (zM (v:=pt_ rp) Z (zL Z Z) (zM Z (zD Z yZ Z qL Z Z) (zM Z (zO 0 Z yN Z Z Z) (zK 2 Z (zM (v:=pt_ rp) Z (zL Z Z) (zM Z (zD Z yZ Z qL Z Z) (zM Z (zO 0 Z yN Z Z Z) (zM (v:=i6_ (L.length:Int)) Z (xZ Z yD Z (u8s_length _) (fun w1 hw1=>hb _ (zW (f:=[_]) hw1))) (zM (v:=i6_ ((p:Int) % (L.length:Int))) Z (OpQ.rem Z Z Z (by omega) (by omega)) (zM (v:=.pointer (some (sAt bv ((p:Int) % (L.length:Int))))) Z (xX Z yD yY Z Z (by omega) (by rw [u8s_length];omega) (fun w1 hw1=>hb _ (zW (f:=[_]) hw1))) (zM (v:=.int .u8 (L.getD (((p:Int) % (L.length:Int)).toNat) 0)) Z (qG Z yV Z (fun w1 hw1=>u8s_cell (hb _ (zW (f:=[_]) hw1)) (by omega) (by omega))) (zM (v:=i6_ (L.getD (((p:Int) % (L.length:Int)).toNat) 0)) Z (OpQ.convInt .i64 Z Tryd.underlying5 xM Z (IntWalk.i64_in _ (by omega))) (zM Z (OpQ.mul Z Z Z (by omega) (by omega)) (zK 1 Z ?_))))))))))))))))));refine zM (v:=pt_ rp) Z (zL Z Z) (zM Z (zD Z yZ Z qL Z Z) (zM Z (zO 0 Z yN Z Z Z) (zK 1 Z (zM Z (OpQ.mul Z Z Z (by omega) (by omega)) (zM Z (yE Z Z Z (by omega) (by omega)) (zK 1 Z (zM (v:=pt_ rp) Z (zL Z Z) (zM Z (zD Z yZ Z qL Z Z) (zM Z (zO 0 Z yN Z Z Z) (zM (v:=i6_ (L.length:Int)) Z (xZ Z yD Z (u8s_length _) (fun w1 hw1=>hb _ (zW (f:=[_]) hw1))) (zM (v:=i6_ ((((p:Int)*(7:Int))+(3:Int)) % (L.length:Int))) Z (OpQ.rem Z Z Z (by omega) (by omega)) (zM (v:=.pointer (some (sAt bv ((((p:Int)*(7:Int))+(3:Int)) % (L.length:Int))))) Z (xX Z yD yY Z Z (by omega) (by rw [u8s_length];omega) (fun w1 hw1=>hb _ (zW (f:=[_]) hw1))) (zM (v:=.int .u8 (L.getD (((((p:Int)*(7:Int))+(3:Int)) % (L.length:Int)).toNat) 0)) Z (qG Z yV Z (fun w1 hw1=>u8s_cell (hb _ (zW (f:=[_]) hw1)) (by omega) (by omega))) (zM (v:=i6_ (L.getD (((((p:Int)*(7:Int))+(3:Int)) % (L.length:Int)).toNat) 0)) Z (OpQ.convInt .i64 Z Tryd.underlying5 xM Z (IntWalk.i64_in _ (by omega))) (zM Z (OpQ.mul Z Z Z (by omega) (by omega)) (zM Z (yE Z Z Z (by omega) (by omega)) (zK 1 Z (zM Z (OpQ.mul Z Z Z (by omega) (by omega)) (zM Z (yE Z Z Z (by omega) (by omega)) (zK 2 Z (zM (v:=pt_ rp) Z (zL Z Z) (zM Z (zD Z yZ Z qL Z Z) (zM Z (zO 0 Z yN Z Z Z) (zM (v:=i6_ (L.length:Int)) Z (xZ Z yD Z (u8s_length _) (fun w1 hw1=>hb _ (zW (f:=[_]) hw1))) (zM (v:=i6_ ((p:Int) / (L.length:Int))) Z (OpQ.quo Z Z Z (by omega) (by omega) (by omega)) (zM Z (OpQ.mul Z Z Z (by omega) (by omega)) (zM Z (yE Z Z Z (by omega) (by omega)) (zK 1 Z (zN (zI [1,6] [_,_] Z (zH (zC (zK 2 Z (zM (v:=i6_ ((((((L.getD (((p:Int) % (L.length:Int)).toNat) 0)*(131:Int))+((L.getD (((((p:Int)*(7:Int))+(3:Int)) % (L.length:Int)).toNat) 0)*(1117:Int)))+((p:Int)*(29:Int)))+(((p:Int) / (L.length:Int))*(53:Int))) / (64:Int))) Z (OpQ.quo Z Z Z (by omega) (by omega) (by decide)) (zM (v:=i6_ (bits .xor .i64 (((((L.getD (((p:Int) % (L.length:Int)).toNat) 0)*(131:Int))+((L.getD (((((p:Int)*(7:Int))+(3:Int)) % (L.length:Int)).toNat) 0)*(1117:Int)))+((p:Int)*(29:Int)))+(((p:Int) / (L.length:Int))*(53:Int))) ((((((L.getD (((p:Int) % (L.length:Int)).toNat) 0)*(131:Int))+((L.getD (((((p:Int)*(7:Int))+(3:Int)) % (L.length:Int)).toNat) 0)*(1117:Int)))+((p:Int)*(29:Int)))+(((p:Int) / (L.length:Int))*(53:Int))) / (64:Int)))) Z (OpQ.xor Z Z Z) (zK 1 Z (zN (zI [1,6] [_,_] Z (zH (zC ?_))))))))))))))))))))))))))))))))))))))))
  have hx0:0≤bits .xor .i64 (((((L.getD (((p:Int) % (L.length:Int)).toNat) 0)*(131:Int))+((L.getD (((((p:Int)*(7:Int))+(3:Int)) % (L.length:Int)).toNat) 0)*(1117:Int)))+((p:Int)*(29:Int)))+(((p:Int) / (L.length:Int))*(53:Int))) ((((((L.getD (((p:Int) % (L.length:Int)).toNat) 0)*(131:Int))+((L.getD (((((p:Int)*(7:Int))+(3:Int)) % (L.length:Int)).toNat) 0)*(1117:Int)))+((p:Int)*(29:Int)))+(((p:Int) / (L.length:Int))*(53:Int))) / (64:Int)):=xor_pos (by omega) (by omega) (Int.ediv_nonneg (by omega) (by decide)) (by omega);refine zK 2 Z (zM (v:=i6_ ((bits .xor .i64 (((((L.getD (((p:Int) % (L.length:Int)).toNat) 0)*(131:Int))+((L.getD (((((p:Int)*(7:Int))+(3:Int)) % (L.length:Int)).toNat) 0)*(1117:Int)))+((p:Int)*(29:Int)))+(((p:Int) / (L.length:Int))*(53:Int))) ((((((L.getD (((p:Int) % (L.length:Int)).toNat) 0)*(131:Int))+((L.getD (((((p:Int)*(7:Int))+(3:Int)) % (L.length:Int)).toNat) 0)*(1117:Int)))+((p:Int)*(29:Int)))+(((p:Int) / (L.length:Int))*(53:Int))) / (64:Int))) % n)) Z (OpQ.rem Z Z Z hx0 (by omega)) (zK 1 Z (zN (zI [4] [_] Z (qN (qS Z Z fun w' hw=>?_))))))
  exact ⟨_,p+1,rfl,⟨Int.emod_nonneg _ (by omega),fun _=>Int.emod_lt_of_pos _ (by omega),rfl⟩,hw⟩
 replace hg17:=zV hg17;refine zQ Z (zQ Z (zQ Z (zQ Z (zQ Z (zQ Z (zK 1 Z (zN (zI [0,1,24] [_,_,_] Z (xE Z (zH (zC (zK 1 Z (zN (zI [4] [_] Z (qN (qS Z Z fun w' hw=>?_))))))))))))))))
 exact ⟨0,p+1,rfl,⟨Int.le_refl 0,fun _=>by omega,rfl⟩,hw⟩
set_option maxHeartbeats 400000 in
theorem num_ok (B:Nat) (w0:World) (hs:List (Nat×Obj)) (rp p:Nat) (bv:Value) (L:List Int) (va:Value) (xs:List Int) (w:World) (hb:∀ w,Own B w0 hs w→Row w bv (u8s L)) (hL8:Bytes8 L) (hL:L.length≤2000) (hva:∀ w,Own B w0 hs w→Ints w va xs) (hne:0<xs.length) (hp:p≤1000000) (hw:Own B w0 ((rp,.cells #[bv,.int .i64 (p:Int)] 130 (0,0))::hs) w) :
    Calls Tryd.prog 126 [pt_ rp,va].toArray w fun en w'=>∃ v:Int,∃ p':Nat,en=.returned (i6_ v)∧(v∈xs∧p'=p+1)∧Own B w0 (((rp,.cells #[bv,.int .i64 (p':Int)] 130 (0,0))::hs)) w':=by
 refine fnStartC (Own B w0 ((rp,.cells #[bv,.int .i64 (p:Int)] 130 (0,0))::hs)) (n:=12) (e:=[(0,pt_ rp),(1,va)]) Tryd.func126 Z Z Z Z Ends.both hw (zH (zC (zK 1 Z (zN (zI [0,1] [_,_] Z (zH (qC (qD 3 Z (zJ (v:=i6_ (xs.length:Int)) Z (xZ Z qF Z (ints_length _) (fun w1 hw1=>hva _ (zW (f:=[_]) hw1))) (xI (rp:=rp) (RT:=130) (p:=p) (bv:=bv) (hs:=hs) (ok:=fun (k:Int) p'=>0≤k∧(1≤(xs.length:Int)→k<(xs.length:Int))∧p'=p+1) (v:=fun (k:Int)=>i6_ k) (new:=fun (k:Int)=>[]) (xs:=[.tmp 6,.tmp 8]) (vs:=[pt_ rp,i6_ (xs.length:Int)]) ([]:List (Nat×Obj)) Z Z Z Z Tryd.call61 Z (fun w1 hw1=>(pick_ok B w0 (([]:List (Nat×Obj))++hs) rp p bv L (xs.length:Int) w1 (fun w2 hw2=>hb w2 (zW (f:=([]:List (Nat×Obj))) hw2)) hL8 hL (by omega) hw1).mono fun en w' ⟨k',p',h1,h2,h3⟩=>⟨k',p',h1,h2,h3⟩) fun k9 p_9 hKp_9=>?_))))))))))
 show Ll _ _ (Own _ _ (_::hs)) _ _ ((9,i6_ k9)::_) _ _ _
 obtain ⟨h0k9,h1k9,hep_9⟩:=hKp_9
 try have hltk9:=h1k9 (by first | omega | (split <;> omega) | decide);refine zJ (v:=.pointer (some (sAt va k9))) Z (xX Z qF zE Z Z (by omega) (by rw [ints_length];omega) (fun w1 hw1=>hva _ (zW (f:=[_]) hw1))) (zJ (v:=i6_ (xs.getD ((k9).toNat) 0)) Z (qG Z zT Z (fun w1 hw1=>Ints.cell (hva _ (zW (f:=[_]) hw1)) (by omega) (by omega))) (qD 1 Z (zG (zI [4] [_] Z (qN (qS Z Z fun w' hw=>?_))))))
 exact ⟨_,p_9,rfl,⟨by rw [getD_at (by omega)];exact List.getElem_mem _,hep_9⟩,hw⟩
set_option maxHeartbeats 400000 in
theorem of_ok (B:Nat) (w0:World) (hs:List (Nat×Obj)) (rp p:Nat) (bv:Value) (L:List Int) (va:Value) (xs:List (List UInt8)) (w:World) (hb:∀ w,Own B w0 hs w→Row w bv (u8s L)) (hL8:Bytes8 L) (hL:L.length≤2000) (hva:∀ w,Own B w0 hs w→Strs w va xs) (hne:0<xs.length) (hp:p≤1000000) (hw:Own B w0 ((rp,.cells #[bv,.int .i64 (p:Int)] 130 (0,0))::hs) w) :
    Calls Tryd.prog 60 [pt_ rp,va].toArray w fun en w'=>∃ v:List UInt8,∃ p':Nat,en=.returned (str v)∧(v∈xs∧p'=p+1)∧Own B w0 (((rp,.cells #[bv,.int .i64 (p':Int)] 130 (0,0))::hs)) w':=by
 refine fnStartC (Own B w0 ((rp,.cells #[bv,.int .i64 (p:Int)] 130 (0,0))::hs)) (n:=12) (e:=[(0,pt_ rp),(1,va)]) Tryd.func60 Z Z Z Z Ends.both hw (zH (zC (zM (v:=str ([])) Z (yJ Z Z) (zN (zI [0,1] [_,_] Z (zH (qC (qD 3 Z (zJ (v:=i6_ (xs.length:Int)) Z (xZ Z Tryd.runUnderlying25 Z (strs_length _) (fun w1 hw1=>hva _ (zW (f:=[_]) hw1))) (xI (rp:=rp) (RT:=130) (p:=p) (bv:=bv) (hs:=hs) (ok:=fun (k:Int) p'=>0≤k∧(1≤(xs.length:Int)→k<(xs.length:Int))∧p'=p+1) (v:=fun (k:Int)=>i6_ k) (new:=fun (k:Int)=>[]) (xs:=[.tmp 6,.tmp 8]) (vs:=[pt_ rp,i6_ (xs.length:Int)]) ([]:List (Nat×Obj)) Z Z Z Z Tryd.call61 Z (fun w1 hw1=>(pick_ok B w0 (([]:List (Nat×Obj))++hs) rp p bv L (xs.length:Int) w1 (fun w2 hw2=>hb w2 (zW (f:=([]:List (Nat×Obj))) hw2)) hL8 hL (by omega) hw1).mono fun en w' ⟨k',p',h1,h2,h3⟩=>⟨k',p',h1,h2,h3⟩) fun k9 p_9 hKp_9=>?_))))))))))
 show Ll _ _ (Own _ _ (_::hs)) _ _ ((9,i6_ k9)::_) _ _ _
 obtain ⟨h0k9,h1k9,hep_9⟩:=hKp_9
 try have hltk9:=h1k9 (by first | omega | (split <;> omega) | decide);refine zJ (v:=.pointer (some (sAt va k9))) Z (xX Z Tryd.runUnderlying25 qH Z Z (by omega) (by rw [strs_length];omega) (fun w1 hw1=>hva _ (zW (f:=[_]) hw1))) (zJ (v:=str (xs.getD ((k9).toNat) [])) Z (qG Z yG Z (fun w1 hw1=>Strs.cell (hva _ (zW (f:=[_]) hw1)) (by omega) (by omega))) (qD 1 Z (zG (zI [4] [_] Z (qN (qS Z Z fun w' hw=>?_))))))
 exact ⟨_,p_9,rfl,⟨by rw [getD_at (by omega)];exact List.getElem_mem _,hep_9⟩,hw⟩
set_option maxHeartbeats 400000 in
theorem many_ok (s:List UInt8) (w:World) (n:Int) (hn0:0≤n) (hn:n≤100) (hs1:s.length=1) :
    Calls Tryd.prog 148 [str s,i6_ n].toArray w fun en w'=>∃ t:List UInt8,en=.returned (str t)∧(t.length≤40000)∧Below w.heap.size w w':=by
 refine fnStart (n:=20) (e:=[(0,str s),(1,i6_ n)]) Tryd.func148 Z Z Z Z Ends.both (zH (zC (zM (v:=str ([])) Z (yJ Z Z) (zN (zI [0,1] [_,_] Z (zH (zC (zM (v:=str ([])) Z (yJ Z Z) (zN (zI [0,1,5] [_,_,_] Z (zH (qU (jP (σ:=Nat×List UInt8×List UInt8×Int) (fun ⟨i,t,u,m⟩=>(0≤m∧m≤100)∧m.toNat*2 ^ i≤100∧u.length=2 ^ i∧t.length≤2 ^ i∧i≤7) (fun ⟨i,t,u,m⟩=>[(0,str u),(1,i6_ m),(5,str t)]) (fun ⟨i,t,u,m⟩=>Own w.heap.size w []) (fun ⟨i,t,u,m⟩=>m.toNat) (0,[],s,n) ⟨by omega,by omega,hs1,by simp,by omega⟩ (Sub.sel [0,1,5] Z) (fun _ h=>h) ?_)))))))))))))
 rintro ⟨i,t,u,m⟩ ⟨⟨hm0,hm9⟩,hm1,hu,ht,hi⟩
 dsimp only;refine zH (zH (zC (zK 2 Z (zN (zI [0,1,5,7] [_,_,_,_] Z (qW (b:=decide ((0:Int)<m)) Z (fun h7=>?_) (fun h7=>?_)))))))
 ·
  replace h7:=zV h7
  have h128:2 ^ i≤128:=Nat.le_trans (Nat.pow_le_pow_right (by decide) hi) (by decide);refine qQ (zI [0,1,5] [_,_,_] Z (qU (zH (zH (zC (zK 1 Z (zM (v:=i6_ (m % (2:Int))) Z (OpQ.rem Z Z Z (by omega) (by decide)) (zK 1 Z (zN (zI [0,1,5,10] [_,_,_,_] Z (xN Z (fun h10=>?_) (fun h10=>?_))))))))))))
  ·
   refine zC (zK 2 Z (zM Z (xB Z Z Z (by first | omega | (simp only [qE,yA,yF];omega))) (zK 1 Z (zN (zI [0,1,5] [_,_,_] Z (zH (zC (zK 2 Z (zM Z (xB Z Z Z (by first | omega | (simp only [qE,yA,yF];omega))) (zK 1 Z (zN (zI [0,1,5] [_,_,_] Z (zC (zK 1 Z (zM (v:=i6_ (m / (2:Int))) Z (OpQ.quo Z Z Z (by omega) (by omega) (by decide)) (zK 1 Z (zN (xH (i+1,t++u,u++u,m / (2:Int)) ⟨by dsimp only;omega,many_half hm0 hm1,by rw [qE,hu,Nat.pow_succ];omega,by dsimp only;(try rw [qE]);rw [Nat.pow_succ];omega,many_more hm1 (by omega)⟩ (by dsimp only;omega) (Sub.sel [0,1,5] Z) (fun _ h=>h)))))))))))))))))))
  refine qQ (zI [0,1,5] [_,_,_] Z (zH (zC (zK 2 Z (zM Z (xB Z Z Z (by first | omega | (simp only [qE,yA,yF];omega))) (zK 1 Z (zN (zI [0,1,5] [_,_,_] Z (zC (zK 1 Z (zM (v:=i6_ (m / (2:Int))) Z (OpQ.quo Z Z Z (by omega) (by omega) (by decide)) (zK 1 Z (zN (xH (i+1,t,u++u,m / (2:Int)) ⟨by dsimp only;omega,many_half hm0 hm1,by rw [qE,hu,Nat.pow_succ];omega,by dsimp only;(try rw [qE]);rw [Nat.pow_succ];omega,many_more hm1 (by omega)⟩ (by dsimp only;omega) (Sub.sel [0,1,5] Z) (fun _ h=>h)))))))))))))))
 replace h7:=zU h7;refine xO Z (zI [5] [_] Z (zH (zC (zK 2 Z (zN (zI [4] [_] Z (qN (qS Z Z fun w' hw=>?_))))))))
 exact ⟨t,rfl,Nat.le_trans ht (Nat.le_trans (Nat.pow_le_pow_right (by decide) hi) (by decide)),hw.below⟩
end Go.Proofs.YtefiibghfgfdnaaDoor
namespace Go.Proofs.YtefiibghfgfdnaaDoor
open Go.RowKit Go.Wk
set_option linter.unusedSimpArgs false
set_option maxHeartbeats 400000 in
theorem bitOf_ok (b:Bool) (w:World) :
    Calls Tryd.prog 53 [bo_ b].toArray w fun en w'=>en=.returned (str (if b then [49] else [48]))∧Below w.heap.size w w':=by
 refine fnStart (n:=4) (e:=[(0,bo_ b)]) Tryd.func53 Z Z Z Z Ends.both (zH (zC (zM (v:=str ([])) Z (yJ Z Z) (zN (zI [0] [_] Z (zH (zH (zC (zK 1 Z (zN (zI [3] [_] Z (qW (b:=b) Z (fun h3=>?_) (fun h3=>?_)))))))))))))
 ·
  refine zH (zC (zM (v:=str ([49])) Z (yJ Z Z) (zN (zI [2] [_] Z (qN (qS Z Z fun w' hw=>?_))))))
  exact ⟨by rw [‹b=_›];rfl,hw.below⟩
 refine qQ (zI [] [] Z (zH (zC (zM (v:=str ([48])) Z (yJ Z Z) (zN (zI [2] [_] Z (qN (qS Z Z fun w' hw=>?_))))))))
 exact ⟨by rw [‹b=_›];rfl,hw.below⟩
set_option maxHeartbeats 400000 in
theorem nameOf_ok (i:Nat) (w:World) (hi:i<4) :
    Calls Tryd.prog 174 [i6_ (i:Int)].toArray w fun en w'=>en=.returned (str (nameS i))∧Below w.heap.size w w':=by
 refine fnStart (n:=7) (e:=[(0,i6_ (i:Int))]) Tryd.func174 Z Z Z Z Ends.both (zH (zC (zM (v:=str ([])) Z (yJ Z Z) (zN (zI [0] [_] Z (zH (zC (zK 2 Z (zM Z (yE Z Z Z (by omega) (by omega)) (zM (v:=str (nameS i)) Z (yH (congrArg str (slice_name i)) (OpQ.sliceStr Z qV Z Z Z (by omega) (by omega) (by first | omega | (simp;omega)))) (zK 1 Z (zN (zI [2] [_] Z (qN (qS Z Z fun w' hw=>?_)))))))))))))))
 exact ⟨ret_s (by first | rfl | (simp_all;done) | (simp_all;omega)),hw.below⟩
set_option maxHeartbeats 400000 in
theorem tell_ok (B:Nat) (w0:World) (p7 p6 p2:Nat) (a2:Array Value) (s:Boxed) (F:List (List UInt8)) (H:List Bool) (f:List UInt8) (b:Bool) (w:World) (hs:s.Ok B F H) (hF:F.length≤1000) (hH:H.length≤1000) (hw:Own B w0 [bk_ p7 #[sl_ s.q2 ((H:List Bool).length) s.c2] 124,bk_ p6 #[sl_ s.q1 ((F:List (List UInt8)).length) s.c1] 25,bk_ s.q2 s.u2 4,bk_ s.q1 s.u1 9,bk_ p2 a2 24] w) :
    Calls Tryd.prog 173 [str f,bo_ b,pt_ p6,pt_ p7].toArray w fun en w'=>en=.returned (.tuple #[])∧∃ t:Boxed,t.Ok B (F++[f]) (H++[b])∧Own B w0 [bk_ p7 #[sl_ t.q2 ((H++[b]:List Bool).length) t.c2] 124,bk_ p6 #[sl_ t.q1 ((F++[f]:List (List UInt8)).length) t.c1] 25,bk_ t.q2 t.u2 4,bk_ t.q1 t.u1 9,bk_ p2 a2 24] w':=by
 refine fnStartC (Own B w0 [bk_ p7 #[sl_ s.q2 ((H:List Bool).length) s.c2] 124,bk_ p6 #[sl_ s.q1 ((F:List (List UInt8)).length) s.c1] 25,bk_ s.q2 s.u2 4,bk_ s.q1 s.u1 9,bk_ p2 a2 24]) (n:=14) (e:=[(0,str f),(1,bo_ b),(2,pt_ p6),(3,pt_ p7)]) Tryd.func173 Z Z Z Z Ends.both hw (zH (qC (zJ Z (zO 1 Z Tryd.isAgg25 Z Z Z) (qD 1 Z (yT (xs:=[.tmp 7]) (vs:=[str f]) jZ Z Z Z Z Z Z (by decide) Z fun p8 hp8=>(Ll.appendStrs (xs:=F) (ys:=([f]:List (List UInt8))) jZ 4 Z Z Z Z Z Z Z hs.s1 hs.l1 (by simpa using hs.t1) (fun w1 hw1=>(jB hw1 (i:=0) Z (n:=1) (cap:=1) (vs:=strs ([f]:List (List UInt8))) Z Z (by decide))) ((F++([f]:List (List UInt8))).length) (by first | (simp;done) | (simp;omega)) (by first | (simp;done) | (simp;omega) | omega) fun p9 cap9 cur9 hp9 hcp9 hlp9 htp9=>?_))))))
 show Ll _ _ (Own _ _ [_,_,_,_,_,_]) _ _ ((9,sl_ p9 (((F++([f]:List (List UInt8))).length)) cap9)::_) _ _ _;refine qB (v:=sl_ p9 (((F++([f]:List (List UInt8))).length)) cap9) (hs':=[_,_,bk_ p6 #[sl_ p9 (((F++([f]:List (List UInt8))).length)) cap9] 25,_,_,_]) 2 Z Z Z Z Z Z Tryd.sizeOf25 Z (by simp) Z (zG (zI [1,3] [_,_] Z (qC (zJ Z (zO 1 Z Tryd.isAgg124 Z Z Z) (qD 1 Z (yT (xs:=[.tmp 11]) (vs:=[bo_ b]) Base.elem124 Z Z Z Z Z Z (by decide) Z fun p12 hp12=>(Ll.appendBools (xs:=H) (ys:=([b]:List Bool)) Base.elem124 4 Z Z Z Z Z Z Z hs.s2 hs.l2 (by simpa using hs.t2) (fun w1 hw1=>(jB hw1 (i:=0) Z (n:=1) (cap:=1) (vs:=bools ([b]:List Bool)) Z Z (by decide))) ((H++([b]:List Bool)).length) (by first | (simp;done) | (simp;omega)) (by first | (simp;done) | (simp;omega) | omega) fun p13 cap13 cur13 hp13 hcp13 hlp13 htp13=>?_)))))))
 show Ll _ _ (Own _ _ [_,_,_,_,_,_,_]) _ _ ((13,sl_ p13 (((H++([b]:List Bool)).length)) cap13)::_) _ _ _;refine qB (v:=sl_ p13 (((H++([b]:List Bool)).length)) cap13) (hs':=[_,_,bk_ p7 #[sl_ p13 (((H++([b]:List Bool)).length)) cap13] 124,_,_,_,_]) 2 Z Z Z Z Z Z Tryd.sizeOf124 Z (by simp) Z (zG (Kt.end0 Z fun w' hw=>?_))
 exact ⟨rfl,⟨p9,cap9,cur9,p13,cap13,cur13⟩,⟨hp9,hcp9,by simpa using hlp9,by simpa using htp9,hp13,hcp13,by simpa using hlp13,by simpa using htp13⟩,by simpa using hw.tail.tail⟩
set_option maxHeartbeats 400000 in
theorem factsOf_ok (a:St) (va:Value) (xs:List Int) (w:World) (ha:a.Fine) (hva:Ints w va xs) (hA:a.Els xs) (hl4:xs.length≤4) :
    Calls Tryd.prog 129 [vS a,va].toArray w fun en w'=>∃ v,en=.returned v∧Below w.heap.size w w'∧NewRows w.heap.size 9 4 w' v ((factsL a xs xs.length).map Prod.fst).length (strs ((factsL a xs xs.length).map Prod.fst)) ((factsL a xs xs.length).map Prod.snd).length (bools ((factsL a xs xs.length).map Prod.snd)):=by
 refine fnStart (n:=92) (e:=[(0,vS a),(1,va)]) Tryd.func129 Z Z Z Z Ends.both (zH (qC (jH (v:=vS a) Z Z Z Z Z fun p2 hp2=>?_)))
 show Ll _ _ (Own _ _ [_]) _ _ ((2,pt_ p2)::_) _ _ _;refine qD 2 Z (zG (zI [1,2] [_,_] Z (zH (qC (yT (xs:=[]) (vs:=[]) jZ Z Z Z Z Z Z (by decide) Z fun p15 hp15=>(yT (xs:=[]) (vs:=[]) Base.elem124 Z Z Z Z Z Z (by decide) Z fun p16 hp16=>(Ll.alloc Z Z Z Z Tryd.zeroValue25 fun p6 hp6=>?_)))))))
 show Ll _ _ (Own _ _ [bk_ p6 #[.slice none 0 0] 25,_,_,_]) _ _ ((6,pt_ p6)::_) _ _ _;refine Ll.alloc Z Z Z Z Tryd.zeroValue124 fun p7 hp7=>?_
 show Ll _ _ (Own _ _ [bk_ p7 #[.slice none 0 0] 124,_,_,_,_]) _ _ ((7,pt_ p7)::_) _ _ _;refine qB (v:=sl_ p15 0 0) (hs':=[_,bk_ p6 #[sl_ p15 0 0] 25,_,_,_]) 1 Z Z Z Z Z Z Tryd.sizeOf25 Z (by simp) Z (qB (v:=sl_ p16 0 0) (hs':=[bk_ p7 #[sl_ p16 0 0] 124,_,_,_,_]) 0 Z Z Z Z Z Z Tryd.sizeOf124 Z (by simp) Z (zG (zI [1,2,6,7] [_,_,_,_] Z (zH (zC (zM (v:=.func (.func 173) #[] #[pt_ p6,pt_ p7]) Z (OpQ.func' (cap:=[.tmp 6,.tmp 7]) Z Z) (zK 1 Z (zN (zI [1,2,6,7,8] [_,_,_,_,_] Z (zH (zH (zC (zK 1 Z (zM (v:=i6_ (xs.length:Int)) Z (xZ Z qF Z (ints_length _) (fun w1 hw1=>Row.own hva hw1)) (zK 1 Z (zN (zI [1,2,6,7,8,18,19,20] [_,_,_,_,_,_,_,_] Z (qU (jP (σ:=Nat×Boxed) (fun ⟨k,s⟩=>k≤xs.length∧s.Ok w.heap.size ((factsL a xs k).map Prod.fst) ((factsL a xs k).map Prod.snd)) (fun ⟨k,s⟩=>[(1,va),(2,pt_ p2),(6,pt_ p6),(7,pt_ p7),(8,.func (.func 173) #[] #[pt_ p6,pt_ p7]),(18,va),(19,i6_ (xs.length:Int)),(20,i6_ (k:Int))]) (fun ⟨k,s⟩=>Own w.heap.size w [bk_ p7 #[sl_ s.q2 (((factsL a xs k).map Prod.snd:List Bool).length) s.c2] 124,bk_ p6 #[sl_ s.q1 (((factsL a xs k).map Prod.fst:List (List UInt8)).length) s.c1] 25,bk_ s.q2 s.u2 4,bk_ s.q1 s.u1 9,bk_ p2 #[i6_ a.n,str a.set,str a.rel] 24]) (fun ⟨k,s⟩=>xs.length - k) (0,⟨p15,0,#[],p16,0,#[]⟩) ⟨by omega,⟨hp15,rfl,by simp [factsL],rfl,hp16,rfl,by simp [factsL],rfl⟩⟩ (Sub.sel [1,2,6,7,8,18,19,20] Z) (fun _ h=>h) ?_)))))))))))))))))))
 rintro ⟨k,s⟩ ⟨hk,hs⟩
 dsimp only;refine zH (zC (zK 1 Z (zN (zI [1,2,6,7,8,18,19,20,21] [_,_,_,_,_,_,_,_,_] Z (zH (qW (b:=decide ((k:Int)<(xs.length:Int))) Z (fun h21=>?_) (fun h21=>?_)))))))
 ·
  replace h21:=zV h21
  have hk4:k<4:=by omega
  have hfl:=factsL_length a xs k (by omega)
  have hnk:=nameS_length hk4;refine qQ (zI [1,2,6,7,8,18,19,20] [_,_,_,_,_,_,_,_] Z (zH (qU (zH (zC (zK 1 Z (zM (v:=.pointer (some (sAt va (k:Int)))) Z (xX Z qF zE Z Z (by omega) (by rw [ints_length];omega) (fun w1 hw1=>Row.own hva hw1)) (zM (v:=i6_ (xs.getD ((k:Int).toNat) 0)) Z (qG Z zT Z (fun w1 hw1=>Ints.cell (Row.own hva hw1) (by omega) (by omega))) (zK 2 Z (zN (zI [1,2,6,7,8,9,10,18,19,20] [_,_,_,_,_,_,_,_,_,_] Z (zH (zC (zM (v:=str ([63])) Z (yJ Z Z) (zN (zI [1,2,6,7,8,9,10,11,18,19,20] [_,_,_,_,_,_,_,_,_,_,_] Z (zH (zH (zC (zK 2 Z (zN (zI [1,2,6,7,8,9,10,11,18,19,20,26] [_,_,_,_,_,_,_,_,_,_,_,_] Z (qW (b:=decide ((k:Int)<(4:Int))) Z (fun h26=>?_) (fun h26=>?_))))))))))))))))))))))))
  ·
   replace h26:=zV h26;refine zC (zK 1 Z (zM (v:=str (nameS k)) Z (qX Z Tryd.call174 Z qK (fun w1 hw1=>nameOf_ok k w1 (by omega))) (zK 1 Z (zN (zI [1,2,6,7,8,9,10,11,18,19,20] [_,_,_,_,_,_,_,_,_,_,_] Z (zH (qC (qD 2 Z (zJ Z (xB Z Z Z (by first | omega | (simp only [qE,yA,yF];omega))) (zJ Z (qR (cs:=#[i6_ a.n,str a.set,str a.rel]) 4 Z qO Z Z qJ) (qD 1 Z (zJ (v:=bo_ (a.inSet (xs.getD ((k:Int).toNat) 0))) Z (qX Z Tryd.call82 Z qK (fun w1 hw1=>inSet_ok a (xs.getD ((k:Int).toNat) 0) w1 ha (by first | assumption | exact St.Els.at (by assumption) (by omega) (by omega)))) (Ll.callFnTo (v:=.tuple #[]) (xs:=[.tmp 31,.tmp 34]) (vs:=[str (([80])++(nameS k)),bo_ (a.inSet (xs.getD ((k:Int).toNat) 0))]) (ok:=fun t:Boxed=>t.Ok w.heap.size (((factsL a xs k).map Prod.fst)++[([80])++(nameS k)]) (((factsL a xs k).map Prod.snd)++[a.inSet (xs.getD ((k:Int).toNat) 0)])) (hs':=fun t:Boxed=>[bk_ p7 #[sl_ t.q2 ((((factsL a xs k).map Prod.snd)++[a.inSet (xs.getD ((k:Int).toNat) 0)]:List Bool).length) t.c2] 124,bk_ p6 #[sl_ t.q1 ((((factsL a xs k).map Prod.fst)++[([80])++(nameS k)]:List (List UInt8)).length) t.c1] 25,bk_ t.q2 t.u2 4,bk_ t.q1 t.u1 9,bk_ p2 #[i6_ a.n,str a.set,str a.rel] 24]) Z Z Z Z Z Tryd.call173 Z (fun w1 hw1=>tell_ok _ _ _ _ _ _ s ((factsL a xs k).map Prod.fst) ((factsL a xs k).map Prod.snd) (([80])++(nameS k)) (a.inSet (xs.getD ((k:Int).toNat) 0)) w1 hs (by first | (simp;done) | (simp;omega)) (by first | (simp;done) | (simp;omega)) hw1) fun s35 hs35=>?_)))))))))))))
   show Ll _ _ (Own _ _ [_,_,_,_,_]) _ _ _ _ _ _;refine zG (zI [1,2,6,7,8,9,10,11,18,19,20] [_,_,_,_,_,_,_,_,_,_,_] Z (zH (qC (qD 2 Z (zJ Z (xB Z Z Z (by first | omega | (simp only [qE,yA,yF];omega))) (qD 1 Z (zJ Z (xB Z Z Z (by first | omega | (simp only [qE,yA,yF];omega))) (zJ Z (qR (cs:=#[i6_ a.n,str a.set,str a.rel]) 4 Z qO Z Z qJ) (qD 2 Z (zJ (v:=bo_ (a.inRel (xs.getD ((k:Int).toNat) 0) (xs.getD ((k:Int).toNat) 0))) Z (qX Z Tryd.call83 Z qK (fun w1 hw1=>inRel_ok a (xs.getD ((k:Int).toNat) 0) (xs.getD ((k:Int).toNat) 0) w1 ha (by first | assumption | exact St.Els.at (by assumption) (by omega) (by omega)) (by first | assumption | exact St.Els.at (by assumption) (by omega) (by omega)))) (Ll.callFnTo (v:=.tuple #[]) (xs:=[.tmp 40,.tmp 44]) (vs:=[str ((([69])++(nameS k))++(nameS k)),bo_ (a.inRel (xs.getD ((k:Int).toNat) 0) (xs.getD ((k:Int).toNat) 0))]) (ok:=fun t:Boxed=>t.Ok w.heap.size ((((factsL a xs k).map Prod.fst)++[([80])++(nameS k)])++[(([69])++(nameS k))++(nameS k)]) ((((factsL a xs k).map Prod.snd)++[a.inSet (xs.getD ((k:Int).toNat) 0)])++[a.inRel (xs.getD ((k:Int).toNat) 0) (xs.getD ((k:Int).toNat) 0)])) (hs':=fun t:Boxed=>[bk_ p7 #[sl_ t.q2 (((((factsL a xs k).map Prod.snd)++[a.inSet (xs.getD ((k:Int).toNat) 0)])++[a.inRel (xs.getD ((k:Int).toNat) 0) (xs.getD ((k:Int).toNat) 0)]:List Bool).length) t.c2] 124,bk_ p6 #[sl_ t.q1 (((((factsL a xs k).map Prod.fst)++[([80])++(nameS k)])++[(([69])++(nameS k))++(nameS k)]:List (List UInt8)).length) t.c1] 25,bk_ t.q2 t.u2 4,bk_ t.q1 t.u1 9,bk_ p2 #[i6_ a.n,str a.set,str a.rel] 24]) Z Z Z Z Z Tryd.call173 Z (fun w1 hw1=>tell_ok _ _ _ _ _ _ s35 (((factsL a xs k).map Prod.fst)++[([80])++(nameS k)]) (((factsL a xs k).map Prod.snd)++[a.inSet (xs.getD ((k:Int).toNat) 0)]) ((([69])++(nameS k))++(nameS k)) (a.inRel (xs.getD ((k:Int).toNat) 0) (xs.getD ((k:Int).toNat) 0)) w1 hs35 (by first | (simp;done) | (simp;omega)) (by first | (simp;done) | (simp;omega)) hw1) fun s45 hs45=>?_)))))))))))
   show Ll _ _ (Own _ _ [_,_,_,_,_]) _ _ _ _ _ _;refine zG (zI [1,2,6,7,8,9,10,11,18,19,20] [_,_,_,_,_,_,_,_,_,_,_] Z (zH (zC (zK 2 Z (zM (v:=sTake va k) Z (OpQ.takeRow (i:=(k:Int)) Z qF zE Z Z (by omega) (by rw [ints_length];omega) (fun w1 hw1=>Row.own hva hw1)) (zM (v:=i6_ (k:Int)) Z (xZ Z qF Z (by rw [ints_length,qT];omega) (fun w1 hw1=>Ints.take (Row.own hva hw1) k (by omega))) (zK 1 Z (zN (zI [1,2,6,7,8,10,11,18,19,20,48,49,50] [_,_,_,_,_,_,_,_,_,_,_,_,_] Z (qU (jP (σ:=Nat×Boxed) (fun ⟨j,t⟩=>j≤k∧t.Ok w.heap.size ((factsL a xs k++(headL a xs k++moreL a xs k j)).map Prod.fst) ((factsL a xs k++(headL a xs k++moreL a xs k j)).map Prod.snd)) (fun ⟨j,t⟩=>[(1,va),(2,pt_ p2),(6,pt_ p6),(7,pt_ p7),(8,.func (.func 173) #[] #[pt_ p6,pt_ p7]),(10,i6_ (xs.getD ((k:Int).toNat) 0)),(11,str (nameS k)),(18,va),(19,i6_ (xs.length:Int)),(20,i6_ (k:Int)),(48,sTake va k),(49,i6_ (k:Int)),(50,i6_ (j:Int))]) (fun ⟨j,t⟩=>Own w.heap.size w [bk_ p7 #[sl_ t.q2 (((factsL a xs k++(headL a xs k++moreL a xs k j)).map Prod.snd:List Bool).length) t.c2] 124,bk_ p6 #[sl_ t.q1 (((factsL a xs k++(headL a xs k++moreL a xs k j)).map Prod.fst:List (List UInt8)).length) t.c1] 25,bk_ t.q2 t.u2 4,bk_ t.q1 t.u1 9,bk_ p2 #[i6_ a.n,str a.set,str a.rel] 24]) (fun ⟨j,t⟩=>k - j) (0,s45) ⟨by omega,by rw [tell_head1,tell_head2];exact hs45⟩ (Sub.sel [1,2,6,7,8,10,11,18,19,20,48,49,50] Z) (fun _ h=>by dsimp only;rw [tell_head1,tell_head2];exact h) ?_)))))))))))
   rintro ⟨j,t⟩ ⟨hj,ht⟩
   dsimp only;refine zH (zC (zK 1 Z (zN (zI [1,2,6,7,8,10,11,18,19,20,48,49,50,51] [_,_,_,_,_,_,_,_,_,_,_,_,_,_] Z (zH (qW (b:=decide ((j:Int)<(k:Int))) Z (fun h51=>?_) (fun h51=>?_)))))))
   ·
    replace h51:=zV h51
    have hlk:(xs.take k).length=k:=by rw [qT];omega
    have hjk:j<k:=by omega
    have hnj:=nameS_length (show j<4 by omega);refine qQ (zI [1,2,6,7,8,10,11,18,19,20,48,49,50] [_,_,_,_,_,_,_,_,_,_,_,_,_] Z (zH (qU (zH (zC (zK 1 Z (zM (v:=.pointer (some (sAt (sTake va k) (j:Int)))) Z (xX Z qF zE Z Z (by omega) (by rw [ints_length,qT];omega) (fun w1 hw1=>Ints.take (Row.own hva hw1) k (by omega))) (zM (v:=i6_ (xs.getD (j:Int).toNat 0)) Z (yH (by rw [Int.toNat_natCast,take_getD hjk]) (qG Z zT Z (fun w1 hw1=>Ints.cell (Ints.take (Row.own hva hw1) k (by omega)) (by omega) (by omega)))) (zK 2 Z (zN (zI [1,2,6,7,8,10,11,12,13,18,19,20,48,49,50] [_,_,_,_,_,_,_,_,_,_,_,_,_,_,_] Z (zH (zC (zM (v:=str ([63])) Z (yJ Z Z) (zN (zI [1,2,6,7,8,10,11,12,13,14,18,19,20,48,49,50] [_,_,_,_,_,_,_,_,_,_,_,_,_,_,_,_] Z (zH (zH (zC (zK 2 Z (zN (zI [1,2,6,7,8,10,11,12,13,14,18,19,20,48,49,50,56] [_,_,_,_,_,_,_,_,_,_,_,_,_,_,_,_,_] Z (qW (b:=decide ((j:Int)<(4:Int))) Z (fun h56=>?_) (fun h56=>?_))))))))))))))))))))))))
    ·
     replace h56:=zV h56;refine zC (zK 1 Z (zM (v:=str (nameS j)) Z (qX Z Tryd.call174 Z qK (fun w1 hw1=>nameOf_ok j w1 (by omega))) (zK 1 Z (zN (zI [1,2,6,7,8,10,11,13,14,18,19,20,48,49,50] [_,_,_,_,_,_,_,_,_,_,_,_,_,_,_] Z (zH (qC (qD 2 Z (zJ Z (xB Z Z Z (by first | omega | (simp only [qE,yA,yF];omega))) (qD 1 Z (zJ Z (xB Z Z Z (by first | omega | (simp only [qE,yA,yF];omega))) (qD 3 Z (Ll.callFnTo (v:=.tuple #[]) (xs:=[.tmp 63,.tmp 66]) (vs:=[str ((([61])++(nameS j))++(nameS k)),bo_ (decide ((xs.getD ((k:Int).toNat) 0)=(xs.getD (j:Int).toNat 0)))]) (ok:=fun t:Boxed=>t.Ok w.heap.size (((factsL a xs k++(headL a xs k++moreL a xs k j)).map Prod.fst)++[(([61])++(nameS j))++(nameS k)]) (((factsL a xs k++(headL a xs k++moreL a xs k j)).map Prod.snd)++[decide ((xs.getD ((k:Int).toNat) 0)=(xs.getD (j:Int).toNat 0))])) (hs':=fun t:Boxed=>[bk_ p7 #[sl_ t.q2 ((((factsL a xs k++(headL a xs k++moreL a xs k j)).map Prod.snd)++[decide ((xs.getD ((k:Int).toNat) 0)=(xs.getD (j:Int).toNat 0))]:List Bool).length) t.c2] 124,bk_ p6 #[sl_ t.q1 ((((factsL a xs k++(headL a xs k++moreL a xs k j)).map Prod.fst)++[(([61])++(nameS j))++(nameS k)]:List (List UInt8)).length) t.c1] 25,bk_ t.q2 t.u2 4,bk_ t.q1 t.u1 9,bk_ p2 #[i6_ a.n,str a.set,str a.rel] 24]) Z Z Z Z Z Tryd.call173 Z (fun w1 hw1=>tell_ok _ _ _ _ _ _ t ((factsL a xs k++(headL a xs k++moreL a xs k j)).map Prod.fst) ((factsL a xs k++(headL a xs k++moreL a xs k j)).map Prod.snd) ((([61])++(nameS j))++(nameS k)) (decide ((xs.getD ((k:Int).toNat) 0)=(xs.getD (j:Int).toNat 0))) w1 ht (by first | (simp;done) | (simp;omega)) (by first | (simp;done) | (simp;omega)) hw1) fun s67 hs67=>?_)))))))))))))
     show Ll _ _ (Own _ _ [_,_,_,_,_]) _ _ _ _ _ _;refine zG (zI [1,2,6,7,8,10,11,13,14,18,19,20,48,49,50] [_,_,_,_,_,_,_,_,_,_,_,_,_,_,_] Z (zH (qC (qD 2 Z (zJ Z (xB Z Z Z (by first | omega | (simp only [qE,yA,yF];omega))) (qD 1 Z (zJ Z (xB Z Z Z (by first | omega | (simp only [qE,yA,yF];omega))) (zJ Z (qR (cs:=#[i6_ a.n,str a.set,str a.rel]) 4 Z qO Z Z qJ) (qD 2 Z (zJ (v:=bo_ (a.inRel (xs.getD (j:Int).toNat 0) (xs.getD ((k:Int).toNat) 0))) Z (qX Z Tryd.call83 Z qK (fun w1 hw1=>inRel_ok a (xs.getD (j:Int).toNat 0) (xs.getD ((k:Int).toNat) 0) w1 ha (by first | assumption | exact St.Els.at (by assumption) (by omega) (by omega)) (by first | assumption | exact St.Els.at (by assumption) (by omega) (by omega)))) (Ll.callFnTo (v:=.tuple #[]) (xs:=[.tmp 72,.tmp 76]) (vs:=[str ((([69])++(nameS j))++(nameS k)),bo_ (a.inRel (xs.getD (j:Int).toNat 0) (xs.getD ((k:Int).toNat) 0))]) (ok:=fun t:Boxed=>t.Ok w.heap.size ((((factsL a xs k++(headL a xs k++moreL a xs k j)).map Prod.fst)++[(([61])++(nameS j))++(nameS k)])++[(([69])++(nameS j))++(nameS k)]) ((((factsL a xs k++(headL a xs k++moreL a xs k j)).map Prod.snd)++[decide ((xs.getD ((k:Int).toNat) 0)=(xs.getD (j:Int).toNat 0))])++[a.inRel (xs.getD (j:Int).toNat 0) (xs.getD ((k:Int).toNat) 0)])) (hs':=fun t:Boxed=>[bk_ p7 #[sl_ t.q2 (((((factsL a xs k++(headL a xs k++moreL a xs k j)).map Prod.snd)++[decide ((xs.getD ((k:Int).toNat) 0)=(xs.getD (j:Int).toNat 0))])++[a.inRel (xs.getD (j:Int).toNat 0) (xs.getD ((k:Int).toNat) 0)]:List Bool).length) t.c2] 124,bk_ p6 #[sl_ t.q1 (((((factsL a xs k++(headL a xs k++moreL a xs k j)).map Prod.fst)++[(([61])++(nameS j))++(nameS k)])++[(([69])++(nameS j))++(nameS k)]:List (List UInt8)).length) t.c1] 25,bk_ t.q2 t.u2 4,bk_ t.q1 t.u1 9,bk_ p2 #[i6_ a.n,str a.set,str a.rel] 24]) Z Z Z Z Z Tryd.call173 Z (fun w1 hw1=>tell_ok _ _ _ _ _ _ s67 (((factsL a xs k++(headL a xs k++moreL a xs k j)).map Prod.fst)++[(([61])++(nameS j))++(nameS k)]) (((factsL a xs k++(headL a xs k++moreL a xs k j)).map Prod.snd)++[decide ((xs.getD ((k:Int).toNat) 0)=(xs.getD (j:Int).toNat 0))]) ((([69])++(nameS j))++(nameS k)) (a.inRel (xs.getD (j:Int).toNat 0) (xs.getD ((k:Int).toNat) 0)) w1 hs67 (by first | (simp;done) | (simp;omega)) (by first | (simp;done) | (simp;omega)) hw1) fun s77 hs77=>?_)))))))))))
     show Ll _ _ (Own _ _ [_,_,_,_,_]) _ _ _ _ _ _;refine zG (zI [1,2,6,7,8,10,11,13,14,18,19,20,48,49,50] [_,_,_,_,_,_,_,_,_,_,_,_,_,_,_] Z (qC (qD 2 Z (zJ Z (xB Z Z Z (by first | omega | (simp only [qE,yA,yF];omega))) (qD 1 Z (zJ Z (xB Z Z Z (by first | omega | (simp only [qE,yA,yF];omega))) (zJ Z (qR (cs:=#[i6_ a.n,str a.set,str a.rel]) 4 Z qO Z Z qJ) (qD 2 Z (zJ (v:=bo_ (a.inRel (xs.getD ((k:Int).toNat) 0) (xs.getD (j:Int).toNat 0))) Z (qX Z Tryd.call83 Z qK (fun w1 hw1=>inRel_ok a (xs.getD ((k:Int).toNat) 0) (xs.getD (j:Int).toNat 0) w1 ha (by first | assumption | exact St.Els.at (by assumption) (by omega) (by omega)) (by first | assumption | exact St.Els.at (by assumption) (by omega) (by omega)))) (Ll.callFnTo (v:=.tuple #[]) (xs:=[.tmp 82,.tmp 86]) (vs:=[str ((([69])++(nameS k))++(nameS j)),bo_ (a.inRel (xs.getD ((k:Int).toNat) 0) (xs.getD (j:Int).toNat 0))]) (ok:=fun t:Boxed=>t.Ok w.heap.size (((((factsL a xs k++(headL a xs k++moreL a xs k j)).map Prod.fst)++[(([61])++(nameS j))++(nameS k)])++[(([69])++(nameS j))++(nameS k)])++[(([69])++(nameS k))++(nameS j)]) (((((factsL a xs k++(headL a xs k++moreL a xs k j)).map Prod.snd)++[decide ((xs.getD ((k:Int).toNat) 0)=(xs.getD (j:Int).toNat 0))])++[a.inRel (xs.getD (j:Int).toNat 0) (xs.getD ((k:Int).toNat) 0)])++[a.inRel (xs.getD ((k:Int).toNat) 0) (xs.getD (j:Int).toNat 0)])) (hs':=fun t:Boxed=>[bk_ p7 #[sl_ t.q2 ((((((factsL a xs k++(headL a xs k++moreL a xs k j)).map Prod.snd)++[decide ((xs.getD ((k:Int).toNat) 0)=(xs.getD (j:Int).toNat 0))])++[a.inRel (xs.getD (j:Int).toNat 0) (xs.getD ((k:Int).toNat) 0)])++[a.inRel (xs.getD ((k:Int).toNat) 0) (xs.getD (j:Int).toNat 0)]:List Bool).length) t.c2] 124,bk_ p6 #[sl_ t.q1 ((((((factsL a xs k++(headL a xs k++moreL a xs k j)).map Prod.fst)++[(([61])++(nameS j))++(nameS k)])++[(([69])++(nameS j))++(nameS k)])++[(([69])++(nameS k))++(nameS j)]:List (List UInt8)).length) t.c1] 25,bk_ t.q2 t.u2 4,bk_ t.q1 t.u1 9,bk_ p2 #[i6_ a.n,str a.set,str a.rel] 24]) Z Z Z Z Z Tryd.call173 Z (fun w1 hw1=>tell_ok _ _ _ _ _ _ s77 ((((factsL a xs k++(headL a xs k++moreL a xs k j)).map Prod.fst)++[(([61])++(nameS j))++(nameS k)])++[(([69])++(nameS j))++(nameS k)]) ((((factsL a xs k++(headL a xs k++moreL a xs k j)).map Prod.snd)++[decide ((xs.getD ((k:Int).toNat) 0)=(xs.getD (j:Int).toNat 0))])++[a.inRel (xs.getD (j:Int).toNat 0) (xs.getD ((k:Int).toNat) 0)]) ((([69])++(nameS k))++(nameS j)) (a.inRel (xs.getD ((k:Int).toNat) 0) (xs.getD (j:Int).toNat 0)) w1 hs77 (by first | (simp;done) | (simp;omega)) (by first | (simp;done) | (simp;omega)) hw1) fun s87 hs87=>?_))))))))))
     show Ll _ _ (Own _ _ [_,_,_,_,_]) _ _ _ _ _ _;refine zG (zI [1,2,6,7,8,10,11,18,19,20,48,49,50] [_,_,_,_,_,_,_,_,_,_,_,_,_] Z (zC (zM Z (yE Z Z Z (by omega) (by omega)) (zK 1 Z (zN (xH (j+1,s87) ⟨by omega,by rw [tell_step1,tell_step2];exact hs87⟩ (by omega) (Sub.sel [1,2,6,7,8,10,11,18,19,20,48,49,50] Z) (fun _ h=>by dsimp only;rw [tell_step1,tell_step2];exact h)))))))
    replace h56:=zU h56
    omega
   replace h51:=zU h51;refine xO Z (zI [1,2,6,7,8,18,19,20] [_,_,_,_,_,_,_,_] Z (zC (zM Z (yE Z Z Z (by omega) (by omega)) (zK 1 Z (zN (xH (k+1,t) ⟨by omega,by rw [facts_end1 (j:=j) (by omega),facts_end2 (j:=j) (by omega)];exact ht⟩ (by omega) (Sub.sel [1,2,6,7,8,18,19,20] Z) (fun _ h=>by dsimp only;rw [facts_end1 (j:=j) (by omega),facts_end2 (j:=j) (by omega)];exact h)))))))
  replace h26:=zU h26
  omega
 replace h21:=zU h21;refine xO Z (zI [6,7] [_,_] Z (zH (Wk.regionD yP (fun _ h=>h.drawn) (by kernel_rfl) (zM Z (zO 1 Z Tryd.isAgg25 Z Z Z) (zM Z (zO 0 Z Tryd.isAgg124 Z Z Z) (zK 2 Z (zN (zI [4,5] [_,_] Z (qN (xU Z Z Z fun w' hw=>?_))))))))))
 obtain rfl:k=xs.length:=by omega
 exact ⟨_,rfl,hw.below,hw.newRows (i:=3) (j:=2) rfl rfl (by decide) hs.s1 hs.l1 hs.t1 hs.s2 hs.l2 hs.t2⟩
set_option maxHeartbeats 400000 in
theorem atomsOf_ok (a:St) (va:Value) (xs:List Int) (w:World) (ha:a.Fine) (hva:Ints w va xs) (hA:a.Els xs) (hl4:xs.length≤4) :
    Calls Tryd.prog 75 [vS a,va].toArray w fun en w'=>en=.returned (str (atomsT (factsL a xs xs.length)))∧Below w.heap.size w w':=by
 refine fnStart (n:=28) (e:=[(0,vS a),(1,va)]) Tryd.func75 Z Z Z Z Ends.both ?_
 have hfl:=factsL_length a xs xs.length hl4;refine zH (qC (jH (v:=vS a) Z Z Z Z Z fun p2 hp2=>?_))
 show Ll _ _ (Own _ _ [_]) _ _ ((2,pt_ p2)::_) _ _ _;refine zJ (v:=str ([])) Z (yJ Z Z) (zG (zI [1,2] [_,_] Z (zH (qC (zJ Z (qR (cs:=#[i6_ a.n,str a.set,str a.rel]) 0 Z qO Z Z qJ) (qD 1 Z (Ll.callRows (xs:=[.tmp 11,.tmp 12]) (m1:=((factsL a xs xs.length).map Prod.fst).length) (vs1:=strs ((factsL a xs xs.length).map Prod.fst)) (el1:=9) (m2:=((factsL a xs xs.length).map Prod.snd).length) (vs2:=bools ((factsL a xs xs.length).map Prod.snd)) (el2:=4) Z Z Z Z Tryd.call129 Z (fun w1 hw1=>factsOf_ok a va xs w1 ha (Row.own hva hw1) hA hl4) fun p13a cap13a cur13a p13b cap13b cur13b hp13a hcp13a hlp13a htp13a hp13b hcp13b hlp13b htp13b=>(qD 1 Z (zJ (v:=sl_ p13a (((factsL a xs xs.length).map Prod.fst).length) cap13a) Z (yK Z Z Z) (zJ (v:=sl_ p13b (((factsL a xs xs.length).map Prod.snd).length) cap13b) Z (yK Z Z Z) (qD 2 Z (zG (zI [6] [_] Z (zH (zC (zM (v:=str ([])) Z (yJ Z Z) (zN (zI [6,7] [_,_] Z (zH (zH (zC (zK 1 Z (zM Z (OpQ.lenS Z Tryd.runUnderlying124 Z) (zK 1 Z (zN (zI [7,16,17,18] [_,_,_,_] Z (qU (jP (σ:=Nat) (fun j=>j≤(factsL a xs xs.length).length) (fun j=>[(7,str (atomsT ((factsL a xs xs.length).take j))),(16,sl_ p13b (((factsL a xs xs.length).map Prod.snd).length) cap13b),(17,i6_ ((((factsL a xs xs.length).map Prod.snd).length:Int))),(18,i6_ (j:Int))]) (fun j=>Own w.heap.size w [bk_ p13a cur13a 9,bk_ p13b cur13b 4,bk_ p2 #[i6_ a.n,str a.set,str a.rel] 24]) (fun j=>(factsL a xs xs.length).length - j) (0) (by omega) (Sub.cons Z (Sub.sel [16,17,18] Z)) (fun _ h=>h) ?_))))))))))))))))))))))))))))
 rintro j hj;refine zH (zC (zK 1 Z (zN (zI [7,16,17,18,19] [_,_,_,_,_] Z (zH (qW (b:=decide ((j:Int)<((((factsL a xs xs.length).map Prod.snd).length:Int)))) Z (fun h19=>?_) (fun h19=>?_)))))))
 ·
  replace h19:=zV h19
  have hj2:j<(factsL a xs xs.length).length:=by rw [List.length_map] at h19;omega
  refine qQ (zI [7,16,17,18] [_,_,_,_] Z (zH (qU (zH (zC (zM (v:=pf_ p13b ((j:Int).toNat)) Z (yH (by rw [Nat.zero_add]) (qY (i:=(j:Int)) Z Tryd.runUnderlying124 Tryd.sizeOf4 Z Z (by omega) (by omega))) (zM (v:=bo_ (((factsL a xs xs.length).map Prod.snd).getD ((j:Int).toNat) false)) Z (yS 1 Z Tryd.isAgg4 Z Z (cur_at (by simpa using htp13b) (bools_at (c:=(factsL a xs xs.length).map Prod.snd) (off:=(j:Int).toNat) (by first | (simp;done) | (simp;omega) | omega)))) (zK 1 Z (zN (zI [7,9,16,17,18] [_,_,_,_,_] Z (zC (zK 2 Z (zM (v:=str ((if ((factsL a xs xs.length).map Prod.snd).getD ((j:Int).toNat) false then [49] else [48]))) Z (qX Z Tryd.call53 Z qK (fun w1 hw1=>bitOf_ok (((factsL a xs xs.length).map Prod.snd).getD ((j:Int).toNat) false) w1 )) (zM Z (xB Z Z Z (by rw [bit_len];simp;omega)) (zK 1 Z (zN (zI [7,16,17,18] [_,_,_,_] Z (zC (zM Z (yE Z Z Z (by omega) (by omega)) (zK 1 Z (zN (xH (j+1) (by omega) (by omega) (Sub.cons (by rw [atoms_step2 hj2];rfl) (Sub.sel [16,17,18] Z)) (fun _ h=>h)))))))))))))))))))))))
 replace h19:=zU h19;refine xO Z (zI [7] [_] Z (zH (zC (zK 2 Z (zN (zI [4] [_] Z (qN (qS Z Z fun w' hw=>?_))))))))
 exact ⟨ret_s (by rw [List.take_of_length_le (by rw [List.length_map] at h19;omega)]),hw.below⟩
set_option maxHeartbeats 400000 in
theorem listsOf_ok (B:Nat) (w0:World) (hs:List (Nat×Obj)) (N W:Int) (w:World) (hN0:0≤N) (hN8:N≤8) (hW0:0≤W) (hW3:W≤3) (hw:Own B w0 hs w) :
    Calls Tryd.prog 88 [i6_ N,i6_ W].toArray w fun en w'=>∃ (g cap:Nat) (cur:Array Value) (rr:List RR),en=.returned (.slice (some ⟨g,0,none⟩) rr.length cap)∧(RowsOk rr cur cap∧rr.map RR.xs=listsL N.toNat W.toNat)∧Own B w0 ((g,.cells cur 30 (0,0))::(rowsB 3 rr++hs)) w':=by
 refine fnStartC (Own B w0 hs) (n:=40) (e:=[(0,i6_ N),(1,i6_ W)]) Tryd.func88 Z Z Z Z Ends.both hw (zH (zC (zK 1 Z (zN (zI [0,1] [_,_] Z (zH (qC (yT (xs:=[]) (vs:=[]) jL Z Z Z Z Z Z (by decide) Z fun p10 hp10=>(yT (xs:=[.tmp 10]) (vs:=[sl_ p10 0 0]) Base.elem95 Z Z Z Z Z Z (by decide) Z fun p11 hp11=>(qD 1 Z (zG (zI [0,1,5] [_,_,_] Z (zH (zH (zC (zK 2 Z (zN (zI [0,5,12,13] [_,_,_,_] Z (qU (jP (σ:=Nat×Nat×Nat×Array Value×List RR) (fun ⟨r,gO,cO,uO,rr⟩=>r≤W.toNat∧RowsOk rr uO cO∧rr.map RR.xs=listsL N.toNat r) (fun ⟨r,gO,cO,uO,rr⟩=>[(0,i6_ N),(5,sl_ gO rr.length cO),(12,i6_ W),(13,i6_ (r:Int))]) (fun ⟨r,gO,cO,uO,rr⟩=>Own B w0 (bk_ gO uO 30::(rowsB 3 rr++hs))) (fun ⟨r,gO,cO,uO,rr⟩=>W.toNat - r) (0,p11,1,_,[⟨p10,0,#[],[]⟩]) ⟨by omega,RowsOk.one p10,rfl⟩ (Sub.sel [0,5,12,13] Z) (fun _ h=>h) ?_))))))))))))))))))))
 rintro ⟨r,gO,cO,uO,rr⟩ ⟨hr,hR,hXr⟩
 dsimp only
 have hrl:rr.length=N.toNat ^ r:=by rw [← listsL_length N.toNat r,← hXr,List.length_map]
 have h512:=pow8 (size:=N.toNat) (w:=r) (by omega) (by omega);refine zH (zC (zK 1 Z (zN (zI [0,5,12,13,14] [_,_,_,_,_] Z (zH (xN Z (fun h14=>?_) (fun h14=>?_)))))))
 ·
  refine qQ (zI [0,5,12,13] [_,_,_,_] Z (zH (qU (zH (qC (yT (xs:=[]) (vs:=[]) Base.elem95 Z Z Z Z Z Z (by decide) Z fun p15 hp15=>(qD 1 Z (zG (zI [0,5,6,12,13] [_,_,_,_,_] Z (zH (zH (zC (zK 1 Z (zM Z (OpQ.lenS Z xW Z) (zK 1 Z (zN (zI [0,6,12,13,16,17,18] [_,_,_,_,_,_,_] Z (qU (jP (σ:=Nat×Nat×Nat×Array Value×List RR) (fun ⟨i,gN,cN,uN,nn⟩=>i≤rr.length∧RowsOk nn uN cN∧nn.map RR.xs=nextL N.toNat ((listsL N.toNat r).take i)) (fun ⟨i,gN,cN,uN,nn⟩=>[(0,i6_ N),(6,sl_ gN nn.length cN),(12,i6_ W),(13,i6_ (r:Int)),(16,sl_ gO rr.length cO),(17,i6_ (rr.length:Int)),(18,i6_ (i:Int))]) (fun ⟨i,gN,cN,uN,nn⟩=>Own B w0 (bk_ gN uN 30::bk_ gO uO 30::(rowsB 3 nn++(rowsB 3 rr++hs)))) (fun ⟨i,gN,cN,uN,nn⟩=>rr.length - i) (0,p15,0,#[],[]) ⟨by omega,RowsOk.nil,rfl⟩ (Sub.sel [0,6,12,13,16,17,18] Z) (fun _ h=>h) ?_)))))))))))))))))))
  rintro ⟨i,gN,cN,uN,nn⟩ ⟨hi,hN,hX⟩
  dsimp only;refine zH (zC (zK 1 Z (zN (zI [0,6,12,13,16,17,18,19] [_,_,_,_,_,_,_,_] Z (zH (qW (b:=decide ((i:Int)<(rr.length:Int))) Z (fun h19=>?_) (fun h19=>?_)))))))
  ·
   replace h19:=zV h19;refine qQ (zI [0,6,12,13,16,17,18] [_,_,_,_,_,_,_] Z (zH (qU (zH (zC (zM (v:=pf_ gO i) Z (yH (v':=pf_ gO i) (by simp) (qY (i:=(i:Int)) Z xW Tryd.sizeOf30 Z Z (by omega) (by omega))) (zM (v:=rv (rr.getD i rd)) Z (yS (v:=rv (rr.getD i rd)) 1 Z Tryd.isAgg30 Z Z (by have:=rvs_at (rr:=rr) (i:=i) (by omega);rw [← hR.vals,List.getElem?_take,if_pos (by omega)] at this;simpa using this)) ?_)))))));refine zK 1 Z (zN (zI [0,6,8,12,13,16,17,18] [_,_,_,_,_,_,_,_] Z (zH (zC (zK 2 Z (zN (zI [0,6,8,12,13,16,17,18,22,23] [_,_,_,_,_,_,_,_,_,_] Z (qU (jP (σ:=Nat×Nat×Nat×Array Value×List RR) (fun ⟨k,gM,cM,uM,nm⟩=>k≤N.toNat∧RowsOk nm uM cM∧nm.map RR.xs=nextTo N.toNat (listsL N.toNat r) i k) (fun ⟨k,gM,cM,uM,nm⟩=>[(0,i6_ N),(6,sl_ gM nm.length cM),(8,rv (rr.getD i rd)),(12,i6_ W),(13,i6_ (r:Int)),(16,sl_ gO rr.length cO),(17,i6_ (rr.length:Int)),(18,i6_ (i:Int)),(22,i6_ N),(23,i6_ (k:Int))]) (fun ⟨k,gM,cM,uM,nm⟩=>Own B w0 (bk_ gM uM 30::bk_ gO uO 30::(rowsB 3 nm++(rowsB 3 rr++hs)))) (fun ⟨k,gM,cM,uM,nm⟩=>N.toNat - k) (0,gN,cN,uN,nn) ⟨by omega,hN,by rw [nextTo_zero];exact hX⟩ (Sub.sel [0,6,8,12,13,16,17,18,22,23] Z) (fun _ h=>h) ?_)))))))))
   rintro ⟨k,gM,cM,uM,nm⟩ ⟨hk,hN,hXm⟩
   dsimp only
   have hxl:=xs_len hXr (i:=i)
   have hnl:=next_len hXm (by rw [listsL_length];omega) (by omega) (by omega);refine zH (zC (zK 1 Z (zN (zI [0,6,8,12,13,16,17,18,22,23,24] [_,_,_,_,_,_,_,_,_,_,_] Z (zH (qW (b:=decide ((k:Int)<N)) Z (fun h24=>?_) (fun h24=>?_)))))))
   ·
    replace h24:=zV h24
    have hkn:k<N.toNat:=by omega
    refine qQ (zI [0,6,8,12,13,16,17,18,22,23] [_,_,_,_,_,_,_,_,_,_] Z (zH (qU (zH (zC (zK 2 Z (zN (zI [0,6,8,9,12,13,16,17,18,22,23] [_,_,_,_,_,_,_,_,_,_,_] Z (qC (qD 1 Z (yT (xs:=[]) (vs:=[]) jL Z Z Z Z Z Z (by decide) Z fun p27 hp27=>(qD 1 Z (Ll.appendInts (xs:=[]) (ys:=(rr.getD i rd).xs) jL 0 Z Z Z Z Z Z Z Z (by decide) Z (fun w1 hw1=>(Own.ofRows (zW (f:=bk_ p27 #[] 3::bk_ gM uM 30::bk_ gO uO 30::(rowsB 3 nm)) hw1) hR.ok (i:=i) (by omega))) (((rr.getD i rd).xs).length) (by first | (simp;done) | (simp;omega)) (by first | (simp;done) | (simp;omega) | omega) fun p29 cap29 cur29 hp29 hcp29 hlp29 htp29=>?_)))))))))))))
    show Ll _ _ (Own _ _ (_::_::_::(rowsB 3 nm++(rowsB 3 rr++hs)))) _ _ ((29,sl_ p29 ((((rr.getD i rd).xs).length)) cap29)::_) _ _ _;refine qD 1 Z (yT (xs:=[.tmp 30]) (vs:=[i6_ (k:Int)]) jL Z Z Z Z Z Z (by decide) Z fun p31 hp31=>(Ll.appendInts (xs:=(rr.getD i rd).xs) (ys:=[(k:Int)]) jL 1 Z Z Z Z Z Z Z hcp29 hlp29 (by simpa using htp29) (fun w1 hw1=>(jB hw1 (i:=0) Z (n:=1) (cap:=1) (vs:=ints [(k:Int)]) Z Z (by decide))) ((((rr.getD i rd).xs)++([(k:Int)])).length) (by first | (simp;done) | (simp;omega)) (by rw [qE,List.length_singleton];omega) fun p32 cap32 cur32 hp32 hcp32 hlp32 htp32=>?_))
    show Ll _ _ (Own _ _ (_::_::_::_::(rowsB 3 nm++(rowsB 3 rr++hs)))) _ _ ((32,sl_ p32 (((((rr.getD i rd).xs)++([(k:Int)])).length)) cap32)::_) _ _ _;refine yT (xs:=[.tmp 32]) (vs:=[sl_ p32 (((((rr.getD i rd).xs)++([(k:Int)])).length)) cap32]) Base.elem95 Z Z Z Z Z Z (by decide) Z fun p33 hp33=>(Ll.append Base.elem95 3 [sl_ p32 (((((rr.getD i rd).xs)++([(k:Int)])).length)) cap32] Z Z Z Z Z Z Z hN.size hN.len Z (fun h=>by cases h) (fun w1 hw1 ad had j u hj=>by injection had with had;subst had;rw [Addr.add_lit,Nat.zero_add,hw1.cell (i:=0) rfl];simpa using hj) (by simp [Value.oneCell']) (by omega) fun gq capq curq hgq hcgq hlgq htgq=>?_)
    show Ll _ _ (Own _ _ (_::_::_::_::_::(rowsB 3 nm++(rowsB 3 rr++hs)))) _ _ ((34,sl_ gq (nm.length+1) capq)::_) _ _ _;refine qD 1 Z (zG (zI [0,6,8,12,13,16,17,18,22,23] [_,_,_,_,_,_,_,_,_,_] Z (zC (zM Z (yE Z Z Z (by omega) (by omega)) (zK 1 Z (zN (xH ((k+1,gq,capq,curq,nm++[(RR.mk p32 cap32 cur32 ((rr.getD i rd).xs++[(k:Int)]))])) ⟨by omega,hN.add (r:=(RR.mk p32 cap32 cur32 ((rr.getD i rd).xs++[(k:Int)]))) ⟨hcp32,hlp32,by simpa using htp32⟩ hcgq hlgq htgq,by rw [List.map_append,hXm,nextTo_step,← hXr,map_xs (by omega)];rfl⟩ (by omega) (Sub.cons Z (Sub.cons (by rw [qE];rfl) (Sub.sel [8,12,13,16,17,18,22,23] Z))) (fun _ h=>rows_more (cap:=cap32) (xs:=(rr.getD i rd).xs++[(k:Int)]) (f:=[_,_]) (h.sub (qI _ (qI _ (zA _ (zA _ (zA _ (zR _)))))))))))))))
   replace h24:=zU h24;refine xO Z (zI [0,6,12,13,16,17,18] [_,_,_,_,_,_,_] Z (zC (zM Z (yE Z Z Z (by omega) (by omega)) (zK 1 Z (zN (xH (i+1,gM,cM,uM,nm) ⟨by omega,hN,by rw [hXm,show k=N.toNat from by omega,nextTo_end (by rw [listsL_length];omega)]⟩ (by omega) (Sub.sel [0,6,12,13,16,17,18] Z) (fun _ h=>h)))))))
  replace h19:=zU h19
  have hend:nextL N.toNat ((listsL N.toNat r).take i)=nextL N.toNat (listsL N.toNat r):=by rw [List.take_of_length_le (by rw [listsL_length];omega)]
  refine xO Z (zI [0,6,12,13] [_,_,_,_] Z (zC (zK 2 Z (zN (zI [0,5,12,13] [_,_,_,_] Z (zC (zM Z (yE Z Z Z (by omega) (by omega)) (zK 1 Z (zN (xH (r+1,gN,cN,uN,nn) ⟨by omega,hN,by rw [hX,hend];rfl⟩ (by omega) (Sub.sel [0,5,12,13] Z) (fun _ h=>rows_forget h)))))))))))
 refine xO Z (zI [5] [_] Z (zH (zC (zK 2 Z (zN (zI [4] [_] Z (qN (qS Z Z fun w' hw=>?_))))))))
 obtain rfl:r=W.toNat:=by omega
 exact ⟨_,_,_,rr,rfl,⟨hR,hXr⟩,hw⟩
set_option maxHeartbeats 400000 in
theorem iKinds_ok (a:St) (W:Int) (w:World) (hsa:a.Small) :
    Calls Tryd.prog 35 [vS a,i6_ W].toArray w fun en w'=>en=.returned (.int .i64 (kindsI a W))∧Below w.heap.size w w':=by
 refine fnStart (n:=36) (e:=[(0,vS a),(1,i6_ W)]) Tryd.func35 Z Z Z Z Ends.both (zH (qC (jH (v:=vS a) Z Z Z Z Z fun p2 hp2=>?_)))
 show Ll _ _ (Own _ _ [_]) _ _ ((2,pt_ p2)::_) _ _ _;refine qD 1 Z (zG (zI [1,2] [_,_] Z (zH (zH (zC (zM Z (qR (cs:=#[i6_ a.n,str a.set,str a.rel]) 0 Z qO Z Z qJ) (zM (v:=bo_ (validB a)) Z (qX Z Tryd.call52 Z qK (fun w1 hw1=>isStructure_ok a w1 hsa)) (zK 2 Z (xT fun b11 hg11=>?_)))))))))
 cases b11
 ·
  replace hg11:=not_false hg11;refine zK 4 Z (xT fun b15 hg15=>?_)
  cases b15
  ·
   replace hg15:=zU hg15;refine zK 3 Z (zN (zI [1,2,18] [_,_,_] Z (qW (b:=decide ((3:Int)<W)) Z (fun h18=>?_) (fun h18=>?_))))
   ·
    replace h18:=zV h18;refine zH (zC (zK 1 Z (zN (zI [4] [_] Z (qN (qS Z Z fun w' hw=>?_))))))
    exact ⟨ret_i (by unfold kindsI;first | (rw [if_neg (by unfold inB;first | (simp_all;done) | (simp_all;omega))];done) | (rw [if_pos (by unfold inB;simp [hV,h0,h3]),List.take_of_length_le (by rw [kindsL_length];omega)])),hw.below⟩
   replace h18:=zU h18
   have hV:validB a=true:=by simp_all
   have ha:=validB_fine hV
   have hm8:=ha.hi
   have hm1:=ha.lo
   have h0:0≤W:=by omega
   have h3:W≤3:=by omega
   have h512:=pow8 (size:=a.n.toNat) (w:=W.toNat) (by omega) (by omega);refine qQ (zI [1,2] [_,_] Z (zH (qC (Ll.makeMap Z Z Z Z fun p19 hp19=>(qD 1 Z (zG (zI [1,2,5] [_,_,_] Z (zH (zH (qC (zJ Z (zD Z zZ Z zE Z Z) (zJ Z (zO 1 Z zT Z Z Z) (qD 1 Z (jR (σ:=Nat×Nat×Array Value×List RR) (ok:=fun (g,c',u,rr)=>RowsOk rr u c'∧rr.map RR.xs=listsL (a.n).toNat (W).toNat) (v:=fun (g,c',u,rr)=>.slice (some ⟨g,0,none⟩) rr.length c') (xs:=[.tmp 21,.tmp 22]) (vs:=[i6_ a.n,i6_ W]) (hs':=fun (g,c',u,rr)=>[(p19,mapO ([])),bk_ p2 #[i6_ a.n,str a.set,str a.rel] 24]++((g,.cells u 30 (0,0))::(rowsB 3 rr++[]))) Z Z Z Z Tryd.call88 Z (fun w1 hw1=>(listsOf_ok _ _ _ a.n W w1 (by omega) hm8 h0 h3 hw1).mono fun en w' ⟨g,c',u,rr,h1,h2,h3⟩=>⟨(g,c',u,rr),h1,h2,h3.perm (rows_behind _ _ _)⟩) fun ⟨gL,cL,uL,rrL⟩ ⟨hL,hLX⟩=>?_))))))))))))))
   show Ll _ _ (Own _ _ (_::_::_::(rowsB 3 rrL++[]))) _ _ ((23,sl_ gL rrL.length cL)::_) _ _ _;refine zJ Z (OpQ.lenS Z xW Z) (qD 1 Z (zG (zI [2,5,23,24,25] [_,_,_,_,_] Z (qU (jP (σ:=Nat) (fun k=>k≤rrL.length) (fun k=>[(2,pt_ p2),(5,.map (some p19)),(23,sl_ gL rrL.length cL),(24,i6_ (rrL.length:Int)),(25,i6_ (k:Int))]) (fun k=>Own w.heap.size w ((p19,mapO ((dedup ((kindsL a W.toNat).take k))))::bk_ p2 #[i6_ a.n,str a.set,str a.rel] 24::bk_ gL uL 30::(rowsB 3 rrL++[]))) (fun k=>rrL.length - k) (0) (by omega) (Sub.sel [2,5,23,24,25] Z) (fun _ h=>h) ?_)))))
   rintro k hk;refine zH (zC (zK 1 Z (zN (zI [2,5,23,24,25,26] [_,_,_,_,_,_] Z (zH (qW (b:=decide ((k:Int)<(rrL.length:Int))) Z (fun h26=>?_) (fun h26=>?_)))))))
   ·
    replace h26:=zV h26
    have hkr:k<rrL.length:=by omega
    have hrl:rrL.length=a.n.toNat ^ W.toNat:=by rw [← listsL_length a.n.toNat W.toNat,← hLX,List.length_map]
    have hkp:k<a.n.toNat ^ W.toNat:=by omega
    have hkl:k<(kindsL a W.toNat).length:=by rw [kindsL_length];exact hkp
    have hxp:=rows_point (by omega) hLX hkr
    have hA:a.Els (rrL.getD k rd).xs:=by rw [hxp];exact point_els ha _ _
    have hl4:(rrL.getD k rd).xs.length≤4:=by rw [hxp,pointL_length];omega
    refine qQ (zI [2,5,23,24,25] [_,_,_,_,_] Z (zH (qU (zH (zC (zM (v:=pf_ gL k) Z (yH (v':=pf_ gL k) (by simp) (qY (i:=(k:Int)) Z xW Tryd.sizeOf30 Z Z (by omega) (by omega))) (zM (v:=rv (rrL.getD k rd)) Z (yS (v:=rv (rrL.getD k rd)) 2 Z Tryd.isAgg30 Z Z (by have:=rvs_at (rr:=rrL) (i:=k) (by omega);rw [← hL.vals,List.getElem?_take,if_pos (by omega)] at this;simpa using this)) ?_)))))));refine zK 1 Z (zN (zI [2,5,7,23,24,25] [_,_,_,_,_,_] Z (qC (qD 1 Z (zJ Z (qR (cs:=#[i6_ a.n,str a.set,str a.rel]) 1 Z qO Z Z qJ) (qD 1 Z (zJ (v:=str ((kindsL a W.toNat).getD k [])) Z (yH (by rw [kinds_at ha hkp,← hxp]) (qX Z Tryd.call75 Z qK (fun w1 hw1=>atomsOf_ok a (rv (rrL.getD k rd)) ((rrL.getD k rd).xs) w1 ha (Own.ofRows (zW (f:=[(p19,mapO ((dedup ((kindsL a W.toNat).take k)))),bk_ p2 #[i6_ a.n,str a.set,str a.rel] 24,bk_ gL uL 30]) hw1) hL.ok (i:=k) (by omega)) hA hl4))) (Ll.mapSet 0 Z Z Z Tryd.underlying107 qV Z Z Z Z ?_))))))))
    show Ll _ _ (Own _ _ (_::_::_::(rowsB 3 rrL++[]))) _ _ _ _ _ _;refine zG (zI [2,5,23,24,25] [_,_,_,_,_] Z (zC (zM Z (yE Z Z Z (by omega) (by omega)) (zK 1 Z (zN (xH (k+1) (by omega) (by omega) (Sub.sel [2,5,23,24,25] Z) (fun _ h=>by rw [dedup_step hkl];exact h)))))))
   replace h26:=zU h26
   have hrl:rrL.length=a.n.toNat ^ W.toNat:=by rw [← listsL_length a.n.toNat W.toNat,← hLX,List.length_map]
   refine xO Z (zI [5] [_] Z (zH (zC (zK 1 Z (zM (v:=i6_ ((((dedup ((kindsL a W.toNat).take k))).length:Int))) Z (OpQ.lenMap 0 Z Tryd.underlying107 Z Z) (zK 1 Z (zN (zI [4] [_] Z (qN (qS Z Z fun w' hw=>?_))))))))))
   exact ⟨ret_i (by unfold kindsI;first | (rw [if_neg (by unfold inB;first | (simp_all;done) | (simp_all;omega))];done) | (rw [if_pos (by unfold inB;simp [hV,h0,h3]),List.take_of_length_le (by rw [kindsL_length];omega)])),hw.below⟩
  replace hg15:=zV hg15;refine zQ Z (zQ Z (zK 1 Z (zN (zI [1,2,18] [_,_,_] Z (xE Z (zH (zC (zK 1 Z (zN (zI [4] [_] Z (qN (qS Z Z fun w' hw=>?_))))))))))))
  exact ⟨ret_i (by unfold kindsI;first | (rw [if_neg (by unfold inB;first | (simp_all;done) | (simp_all;omega))];done) | (rw [if_pos (by unfold inB;simp [hV,h0,h3]),List.take_of_length_le (by rw [kindsL_length];omega)])),hw.below⟩
 replace hg11:=not_true hg11;refine zQ Z (zQ Z (zK 2 Z (zQ Z (zQ Z (zK 1 Z (zN (zI [1,2,18] [_,_,_] Z (xE Z (zH (zC (zK 1 Z (zN (zI [4] [_] Z (qN (qS Z Z fun w' hw=>?_)))))))))))))))
 exact ⟨ret_i (by unfold kindsI;first | (rw [if_neg (by unfold inB;first | (simp_all;done) | (simp_all;omega))];done) | (rw [if_pos (by unfold inB;simp [hV,h0,h3]),List.take_of_length_le (by rw [kindsL_length];omega)])),hw.below⟩
end Go.Proofs.YtefiibghfgfdnaaDoor
namespace Go.Proofs.YtefiibghfgfdnaaDoor
open Go.RowKit Go.Wk
set_option linter.unusedSimpArgs false
set_option maxHeartbeats 400000 in
theorem l1Draw_ok (B:Nat) (w0:World) (hs:List (Nat×Obj)) (rp p:Nat) (bv:Value) (L:List Int) (n:Int) (w:World) (hb:∀ w,Own B w0 hs w→Row w bv (u8s L)) (hL8:Bytes8 L) (hL:L.length≤2000) (hn0:0≤n) (hn8:n≤8) (hp:p≤900000) (hw:Own B w0 ((rp,.cells #[bv,.int .i64 (p:Int)] 130 (0,0))::hs) w) :
    Calls Tryd.prog 147 [pt_ rp,i6_ n].toArray w fun en w'=>∃ a:St,∃ p':Nat,en=.returned (vS a)∧((a.n=n∧(a.set.length:Int)=n∧a.rel.length=n.toNat*n.toNat)∧p'≤p+100)∧Own B w0 (((rp,.cells #[bv,.int .i64 (p':Int)] 130 (0,0))::hs)) w':=by
 refine fnStartC (Own B w0 ((rp,.cells #[bv,.int .i64 (p:Int)] 130 (0,0))::hs)) (n:=111) (e:=[(0,pt_ rp),(1,i6_ n)]) Tryd.func147 Z Z Z Z Ends.both hw (zH (qC (Ll.alloc Z Z Z Z jN fun p4 hp4=>?_)))
 show Ll _ _ (Own _ _ (bk_ p4 #[i6_ 0,str ([]),str ([])] 24::_::hs)) _ _ ((4,pt_ p4)::_) _ _ _;refine zG (zI [0,1,4] [_,_,_] Z (zH (qC (qD 1 Z (zJ (v:=.agg #[i6_ n,str ([]),str ([])]) Z (OpQ.build (xs:=[.tmp 10]) (vs:=[i6_ n]) Z Z (by kernel_rfl)) (Ll.alloc Z Z Z Z jN fun p5 hp5=>?_))))))
 show Ll _ _ (Own _ _ (bk_ p5 #[i6_ 0,str ([]),str ([])] 24::_::_::hs)) _ _ ((5,pt_ p5)::_) _ _ _;refine jU (cs':=#[i6_ n,str ([]),str ([])]) (hs':=(bk_ p5 #[i6_ n,str ([]),str ([])] 24::_::_::hs)) 0 Z Z Z Z Z (by kernel_rfl:_=some Tryd.t24) Z Z Z Z Z (zG (zI [0,1,4,5] [_,_,_,_] Z (zH (qC (qD 1 Z (xI (rp:=rp) (RT:=130) (p:=p) (bv:=bv) (hs:=hs) (ok:=fun (k:Int) p'=>0≤k∧(1≤(8:Int)→k<8)∧p'=p+1) (v:=fun (k:Int)=>i6_ k) (new:=fun (k:Int)=>[]) (xs:=[.tmp 12,.const (i6_ 8)]) (vs:=[pt_ rp,i6_ 8]) ([bk_ p5 #[i6_ n,str ([]),str ([])] 24,bk_ p4 #[i6_ 0,str ([]),str ([])] 24]:List (Nat×Obj)) Z Z Z Z Tryd.call61 Z (fun w1 hw1=>(pick_ok B w0 (([bk_ p5 #[i6_ n,str ([]),str ([])] 24,bk_ p4 #[i6_ 0,str ([]),str ([])] 24]:List (Nat×Obj))++hs) rp p bv L 8 w1 (fun w2 hw2=>hb w2 (zW (f:=([bk_ p5 #[i6_ n,str ([]),str ([])] 24,bk_ p4 #[i6_ 0,str ([]),str ([])] 24]:List (Nat×Obj))) hw2)) hL8 hL (by omega) hw1).mono fun en w' ⟨k',p',h1,h2,h3⟩=>⟨k',p',h1,h2,h3⟩) fun k13 p_13 hKp_13=>?_))))))
 show Ll _ _ (Own _ _ (_::_::_::hs)) _ _ ((13,i6_ k13)::_) _ _ _
 obtain ⟨h0k13,h1k13,hep_13⟩:=hKp_13
 try have hltk13:=h1k13 (by first | omega | (split <;> omega) | decide);refine qD 1 Z (zG (zI [0,1,4,5,6] [_,_,_,_,_] Z (zH (zH (zC (zK 1 Z (zN (zI [0,1,4,5,6,7] [_,_,_,_,_,_] Z (qU (jP (σ:=Nat×List UInt8×List UInt8×Nat) (fun ⟨k,S,R,p0⟩=>(k:Int)≤n∧S.length=k∧R.length=k*n.toNat∧p0≤p+2+k*9) (fun ⟨k,S,R,p0⟩=>[(0,pt_ rp),(1,i6_ n),(4,pt_ p4),(5,pt_ p5),(6,i6_ k13),(7,i6_ (k:Int))]) (fun ⟨k,S,R,p0⟩=>Own B w0 (bk_ p5 #[i6_ n,str S,str R] 24::bk_ p4 #[i6_ 0,str ([]),str ([])] 24::bk_ rp #[bv,i6_ (p0:Int)] 130::hs)) (fun ⟨k,S,R,p0⟩=>(n - k).toNat) (0,[],[],p_13) ⟨by omega,rfl,by simp,by omega⟩ (Sub.sel [0,1,4,5,6,7] Z) (fun _ h=>h) ?_))))))))))
 rintro ⟨k,S,R,p0⟩ ⟨hk,hS,hR,hp0⟩
 dsimp only
 have hkn:k*n.toNat≤8*8:=Nat.mul_le_mul (by omega) (by omega);refine zH (zH (zC (zK 3 Z (zN (zI [0,1,4,5,6,7,16] [_,_,_,_,_,_,_] Z (xN Z (fun h16=>?_) (fun h16=>?_)))))))
 ·
  refine qQ (zI [0,1,4,5,6,7] [_,_,_,_,_,_] Z (zH (qU (zH (xR (σ:=List UInt8×Nat) (fun ⟨S2,p2⟩=>S2.length=k+1∧p2≤p0+1) (fun ⟨S2,p2⟩=>[(0,pt_ rp),(1,i6_ n),(4,pt_ p4),(5,pt_ p5),(6,i6_ k13),(7,i6_ (k:Int))]) (fun ⟨S2,p2⟩=>Own B w0 (bk_ p5 #[i6_ n,str S2,str R] 24::bk_ p4 #[i6_ 0,str ([]),str ([])] 24::bk_ rp #[bv,i6_ (p2:Int)] 130::hs)) ?_ ?_)))))
  ·
   refine xV (S:=Own B w0 [bk_ p4 #[i6_ 0,str ([]),str ([])] 24]) (.take 0 (.take 2 (.take 3 (.take 4 (.take 5 (.two 1 (.one 6 (.take 7 (.take 8 (.one 9 (.take 10 (.take 11 (.one 12 .done))))))) 6 (.take 7 (.take 8 (.two 1 (.one 9 (.take 10 (.take 11 (.one 12 .done)))) 9 (.one 1 (.take 10 (.take 11 (.one 12 .done))))))))))))) yP (fun _ h=>h.drawn) (by kernel_rfl) (zP Z Z Z Z Z (zD Z zZ Z qH Z Z) (pk [1] Z Z) (jS 3 Z (pk [1] Z Z) (Lu.bool fun b23 hg23=>?_)))
   cases b23
   ·
    replace hg23:=zU hg23;refine Lu.pass Z Z Z Z (pk [1] Z Z) (yO Z Z ?_ ?_)
    ·
     refine zJ Z (zO 0 Z yG Z Z Z) (zG (zF (pk [1] Z Z) ?_));refine zS Z (jO Z (zG (zF (pk [1] Z Z) ?_)));refine Lu.pass Z Z Z Z (pk [1] Z Z) (jS 1 Z (pk [1] Z Z) (zS Z (zJ (v:=str (if false then [49] else [48])) Z (qX Z vA Z qK (fun w1 hw1=>bitD_ok false w1 )) (zG (zF (pk [1] Z Z) ?_)))));refine zP Z Z Z Z Z (xB Z Z Z (by first | (rw [bit_len];omega) | omega)) (pk [1] Z Z) (zP Z Z Z Z Z (zD Z zZ Z qH Z Z) (pk [1] Z Z) (zS Z (qB (v:=str (S++(if false then [49] else [48]))) (hs':=(bk_ p5 #[i6_ n,str (S++(if false then [49] else [48])),str R] 24::_::_::hs)) 0 Z Z Z Z Z Z qH Z (by simp) Z (zG (zF (pk [1] Z Z) ?_)))));refine qZ (qA (S++(if false then [49] else [48]),p0) ⟨by (try dsimp only);rw [qE];first | (rw [bit_len];omega) | (simp;omega),by (try dsimp only);omega⟩ (Sub.sel [0,1,4,5,6,7] Z) (fun _ h=>h))
    refine jO Z (zG (zF (pk [1] Z Z) ?_));refine Lu.pass Z Z Z Z (pk [1] Z Z) (jS 1 Z (pk [1] Z Z) (yO Z Z ?_ ?_))
    ·
     refine zJ Z (zO 0 Z yG Z Z Z) (zG (zF (pk [1] Z Z) ?_));refine zS Z (zJ (v:=str (if false then [49] else [48])) Z (qX Z vA Z qK (fun w1 hw1=>bitD_ok false w1 )) (zG (zF (pk [1] Z Z) ?_)));refine zP Z Z Z Z Z (xB Z Z Z (by first | (rw [bit_len];omega) | omega)) (pk [1] Z Z) (zP Z Z Z Z Z (zD Z zZ Z qH Z Z) (pk [1] Z Z) (zS Z (qB (v:=str (S++(if false then [49] else [48]))) (hs':=(bk_ p5 #[i6_ n,str (S++(if false then [49] else [48])),str R] 24::_::_::hs)) 0 Z Z Z Z Z Z qH Z (by simp) Z (zG (zF (pk [1] Z Z) ?_)))));refine qZ (qA (S++(if false then [49] else [48]),p0) ⟨by (try dsimp only);rw [qE];first | (rw [bit_len];omega) | (simp;omega),by (try dsimp only);omega⟩ (Sub.sel [0,1,4,5,6,7] Z) (fun _ h=>h))
    refine zJ (v:=str (if false then [49] else [48])) Z (qX Z vA Z qK (fun w1 hw1=>bitD_ok false w1 )) (zG (zF (pk [1] Z Z) ?_));refine zS Z (zJ Z (zO 0 Z yG Z Z Z) (zG (zF (pk [1] Z Z) ?_)));refine zP Z Z Z Z Z (xB Z Z Z (by first | (rw [bit_len];omega) | omega)) (pk [1] Z Z) (zP Z Z Z Z Z (zD Z zZ Z qH Z Z) (pk [1] Z Z) (zS Z (qB (v:=str (S++(if false then [49] else [48]))) (hs':=(bk_ p5 #[i6_ n,str (S++(if false then [49] else [48])),str R] 24::_::_::hs)) 0 Z Z Z Z Z Z qH Z (by simp) Z (zG (zF (pk [1] Z Z) ?_)))));refine qZ (qA (S++(if false then [49] else [48]),p0) ⟨by (try dsimp only);rw [qE];first | (rw [bit_len];omega) | (simp;omega),by (try dsimp only);omega⟩ (Sub.sel [0,1,4,5,6,7] Z) (fun _ h=>h))
   replace hg23:=zV hg23;refine jS 1 Z (pk [1] Z Z) (yO Z Z ?_ ?_)
   ·
    refine zJ Z (zO 0 Z yG Z Z Z) (zG (zF (pk [1] Z Z) ?_));refine zS Z (xI (rp:=rp) (RT:=130) (p:=p0) (bv:=bv) (hs:=hs) (ok:=fun (k:Int) p'=>0≤k∧(1≤(3:Int)→k<3)∧p'=p0+1) (v:=fun (k:Int)=>i6_ k) (new:=fun (k:Int)=>[]) (xs:=[.tmp 24,.const (i6_ 3)]) (vs:=[pt_ rp,i6_ 3]) ([bk_ p5 #[i6_ n,str S,str R] 24,bk_ p4 #[i6_ 0,str ([]),str ([])] 24]:List (Nat×Obj)) Z Z Z Z Tryd.call61 Z (fun w1 hw1=>(pick_ok B w0 (([bk_ p5 #[i6_ n,str S,str R] 24,bk_ p4 #[i6_ 0,str ([]),str ([])] 24]:List (Nat×Obj))++hs) rp p0 bv L 3 w1 (fun w2 hw2=>hb w2 (zW (f:=([bk_ p5 #[i6_ n,str S,str R] 24,bk_ p4 #[i6_ 0,str ([]),str ([])] 24]:List (Nat×Obj))) hw2)) hL8 hL (by omega) hw1).mono fun en w' ⟨k',p',h1,h2,h3⟩=>⟨k',p',h1,h2,h3⟩) fun k25 p_25 hKp_25=>?_)
    show Ll _ _ (Own _ _ (_::_::_::hs)) _ _ ((25,i6_ k25)::_) _ _ _
    obtain ⟨h0k25,h1k25,hep_25⟩:=hKp_25
    try have hltk25:=h1k25 (by first | omega | (split <;> omega) | decide);refine zG (zF (pk [1] Z Z) ?_);refine jS 2 Z (pk [1] Z Z) (zS Z (zJ (v:=str ((if decide (k25=(0:Int)) then [49] else [48]))) Z (qX Z vA Z qK (fun w1 hw1=>bitD_ok (decide (k25=(0:Int))) w1 )) (zG (zF (pk [1] Z Z) ?_))));refine zP Z Z Z Z Z (xB Z Z Z (by first | (rw [bit_len];omega) | omega)) (pk [1] Z Z) (zP Z Z Z Z Z (zD Z zZ Z qH Z Z) (pk [1] Z Z) (zS Z (qB (v:=str (S++((if decide (k25=(0:Int)) then [49] else [48])))) (hs':=(bk_ p5 #[i6_ n,str (S++((if decide (k25=(0:Int)) then [49] else [48]))),str R] 24::_::_::hs)) 0 Z Z Z Z Z Z qH Z (by simp) Z (zG (zF (pk [1] Z Z) ?_)))));refine qZ (qA ((S++((if decide (k25=(0:Int)) then [49] else [48])),p_25)) ⟨by (try dsimp only);rw [qE];first | (rw [bit_len];omega) | (simp;omega),by (try dsimp only);omega⟩ (Sub.sel [0,1,4,5,6,7] Z) (fun _ h=>h))
   refine xI (rp:=rp) (RT:=130) (p:=p0) (bv:=bv) (hs:=hs) (ok:=fun (k:Int) p'=>0≤k∧(1≤(3:Int)→k<3)∧p'=p0+1) (v:=fun (k:Int)=>i6_ k) (new:=fun (k:Int)=>[]) (xs:=[.tmp 24,.const (i6_ 3)]) (vs:=[pt_ rp,i6_ 3]) ([bk_ p5 #[i6_ n,str S,str R] 24,bk_ p4 #[i6_ 0,str ([]),str ([])] 24]:List (Nat×Obj)) Z Z Z Z Tryd.call61 Z (fun w1 hw1=>(pick_ok B w0 (([bk_ p5 #[i6_ n,str S,str R] 24,bk_ p4 #[i6_ 0,str ([]),str ([])] 24]:List (Nat×Obj))++hs) rp p0 bv L 3 w1 (fun w2 hw2=>hb w2 (zW (f:=([bk_ p5 #[i6_ n,str S,str R] 24,bk_ p4 #[i6_ 0,str ([]),str ([])] 24]:List (Nat×Obj))) hw2)) hL8 hL (by omega) hw1).mono fun en w' ⟨k',p',h1,h2,h3⟩=>⟨k',p',h1,h2,h3⟩) fun k25_1 p_25_1 hKp_25_1=>?_
   show Ll _ _ (Own _ _ (_::_::_::hs)) _ _ ((25,i6_ k25_1)::_) _ _ _
   obtain ⟨h0k25_1,h1k25_1,hep_25_1⟩:=hKp_25_1
   try have hltk25_1:=h1k25_1 (by first | omega | (split <;> omega) | decide);refine zG (zF (pk [1] Z Z) ?_);refine jS 2 Z (pk [1] Z Z) (yO Z Z ?_ ?_)
   ·
    refine zJ Z (zO 0 Z yG Z Z Z) (zG (zF (pk [1] Z Z) ?_));refine zS Z (zJ (v:=str ((if decide (k25_1=(0:Int)) then [49] else [48]))) Z (qX Z vA Z qK (fun w1 hw1=>bitD_ok (decide (k25_1=(0:Int))) w1 )) (zG (zF (pk [1] Z Z) ?_)));refine zP Z Z Z Z Z (xB Z Z Z (by first | (rw [bit_len];omega) | omega)) (pk [1] Z Z) (zP Z Z Z Z Z (zD Z zZ Z qH Z Z) (pk [1] Z Z) (zS Z (qB (v:=str (S++((if decide (k25_1=(0:Int)) then [49] else [48])))) (hs':=(bk_ p5 #[i6_ n,str (S++((if decide (k25_1=(0:Int)) then [49] else [48]))),str R] 24::_::_::hs)) 0 Z Z Z Z Z Z qH Z (by simp) Z (zG (zF (pk [1] Z Z) ?_)))));refine qZ (qA ((S++((if decide (k25_1=(0:Int)) then [49] else [48])),p_25_1)) ⟨by (try dsimp only);rw [qE];first | (rw [bit_len];omega) | (simp;omega),by (try dsimp only);omega⟩ (Sub.sel [0,1,4,5,6,7] Z) (fun _ h=>h))
   refine zJ (v:=str ((if decide (k25_1=(0:Int)) then [49] else [48]))) Z (qX Z vA Z qK (fun w1 hw1=>bitD_ok (decide (k25_1=(0:Int))) w1 )) (zG (zF (pk [1] Z Z) ?_));refine zS Z (zJ Z (zO 0 Z yG Z Z Z) (zG (zF (pk [1] Z Z) ?_)));refine zP Z Z Z Z Z (xB Z Z Z (by first | (rw [bit_len];omega) | omega)) (pk [1] Z Z) (zP Z Z Z Z Z (zD Z zZ Z qH Z Z) (pk [1] Z Z) (zS Z (qB (v:=str (S++((if decide (k25_1=(0:Int)) then [49] else [48])))) (hs':=(bk_ p5 #[i6_ n,str (S++((if decide (k25_1=(0:Int)) then [49] else [48]))),str R] 24::_::_::hs)) 0 Z Z Z Z Z Z qH Z (by simp) Z (zG (zF (pk [1] Z Z) ?_)))));refine qZ (qA ((S++((if decide (k25_1=(0:Int)) then [49] else [48])),p_25_1)) ⟨by (try dsimp only);rw [qE];first | (rw [bit_len];omega) | (simp;omega),by (try dsimp only);omega⟩ (Sub.sel [0,1,4,5,6,7] Z) (fun _ h=>h))
  rintro ⟨S2,p2⟩ ⟨hS2,hp2⟩
  dsimp only;refine zI [0,1,4,5,6,7] [_,_,_,_,_,_] Z (zH (zC (zK 1 Z (zN (zI [0,1,4,5,6,7,8] [_,_,_,_,_,_,_] Z (qU (jP (σ:=Nat×List UInt8×Nat) (fun ⟨j,R1,p1⟩=>(j:Int)≤n∧R1.length=k*n.toNat+j∧p1≤p+3+k*9+j) (fun ⟨j,R1,p1⟩=>[(0,pt_ rp),(1,i6_ n),(4,pt_ p4),(5,pt_ p5),(6,i6_ k13),(7,i6_ (k:Int)),(8,i6_ (j:Int))]) (fun ⟨j,R1,p1⟩=>Own B w0 (bk_ p5 #[i6_ n,str S2,str R1] 24::bk_ p4 #[i6_ 0,str ([]),str ([])] 24::bk_ rp #[bv,i6_ (p1:Int)] 130::hs)) (fun ⟨j,R1,p1⟩=>(n - j).toNat) (0,R,p2) ⟨by omega,by omega,by omega⟩ (Sub.sel [0,1,4,5,6,7,8] Z) (fun _ h=>h) ?_)))))))
  rintro ⟨j,R1,p1⟩ ⟨hj,hR1,hp1⟩
  dsimp only
  have hj8:j≤8:=by omega
  refine zH (zH (zC (zK 3 Z (zN (zI [0,1,4,5,6,7,8,33] [_,_,_,_,_,_,_,_] Z (xN Z (fun h33=>?_) (fun h33=>?_)))))))
  ·
   refine qQ (zI [0,1,4,5,6,7,8] [_,_,_,_,_,_,_] Z (zH (qU (zH (qC (qD 1 Z (xI (rp:=rp) (RT:=130) (p:=p1) (bv:=bv) (hs:=hs) (ok:=fun (k:Int) p'=>0≤k∧(1≤(3:Int)→k<3)∧p'=p1+1) (v:=fun (k:Int)=>i6_ k) (new:=fun (k:Int)=>[]) (xs:=[.tmp 36,.const (i6_ 3)]) (vs:=[pt_ rp,i6_ 3]) ([bk_ p5 #[i6_ n,str S2,str R1] 24,bk_ p4 #[i6_ 0,str ([]),str ([])] 24]:List (Nat×Obj)) Z Z Z Z Tryd.call61 Z (fun w1 hw1=>(pick_ok B w0 (([bk_ p5 #[i6_ n,str S2,str R1] 24,bk_ p4 #[i6_ 0,str ([]),str ([])] 24]:List (Nat×Obj))++hs) rp p1 bv L 3 w1 (fun w2 hw2=>hb w2 (zW (f:=([bk_ p5 #[i6_ n,str S2,str R1] 24,bk_ p4 #[i6_ 0,str ([]),str ([])] 24]:List (Nat×Obj))) hw2)) hL8 hL (by omega) hw1).mono fun en w' ⟨k',p',h1,h2,h3⟩=>⟨k',p',h1,h2,h3⟩) fun k37 p_37 hKp_37=>?_)))))))
   show Ll _ _ (Own _ _ (_::_::_::hs)) _ _ ((37,i6_ k37)::_) _ _ _
   obtain ⟨h0k37,h1k37,hep_37⟩:=hKp_37
   try have hltk37:=h1k37 (by first | omega | (split <;> omega) | decide);refine qD 2 Z (zG (zI [0,1,4,5,6,7,8,9] [_,_,_,_,_,_,_,_] Z (zH (zH (zC (zK 1 Z (zN (zI [0,1,4,5,6,7,8,9,39] [_,_,_,_,_,_,_,_,_] Z (xR (σ:=Bool) (fun b9=>True) (fun b9=>[(0,pt_ rp),(1,i6_ n),(4,pt_ p4),(5,pt_ p5),(6,i6_ k13),(7,i6_ (k:Int)),(8,i6_ (j:Int)),(9,bo_ b9)]) (fun b9=>Own B w0 (bk_ p5 #[i6_ n,str S2,str R1] 24::bk_ p4 #[i6_ 0,str ([]),str ([])] 24::bk_ rp #[bv,i6_ (p_37:Int)] 130::hs)) ?_ ?_)))))))))
   ·
    refine qU (zH (zC (zK 2 Z (zN (zI [0,1,4,5,6,7,8,9,39,40] [_,_,_,_,_,_,_,_,_,_] Z (xN Z (fun h40=>?_) (fun h40=>?_)))))))
    ·
     refine zC (zK 2 Z (zM Z (yE Z Z Z (by omega) (by omega)) (zK 1 Z (zM (v:=i6_ (((k:Int)+(1:Int)) % n)) Z (OpQ.rem Z Z Z (by omega) (by omega)) (zK 2 Z (zN (qA (decide ((j:Int)=(((k:Int)+(1:Int)) % n))) trivial (Sub.sel [0,1,4,5,6,7,8,9] Z) (fun _ h=>h))))))))
    refine zH (zC (zK 2 Z (zN (zI [0,1,4,5,6,7,8,9,39,48] [_,_,_,_,_,_,_,_,_,_] Z (xN Z (fun h48=>?_) (fun h48=>?_))))))
    ·
     refine zC (zK 4 Z (zN (qA (decide ((k:Int)<(j:Int))) trivial (Sub.sel [0,1,4,5,6,7,8,9] Z) (fun _ h=>h))))
    refine zH (zC (zK 2 Z (zN (zI [0,1,4,5,6,7,8,9,39,53] [_,_,_,_,_,_,_,_,_,_] Z (xN Z (fun h53=>?_) (fun h53=>?_))))))
    ·
     refine zC (zK 4 Z (xT fun b58 hg58=>?_))
     cases b58
     ·
      replace hg58:=not_false hg58
      replace hg58:=zV hg58;refine zQ Z (zQ Z (zQ Z (zQ Z (zQ Z (zK 2 Z (zN (qA (false) trivial (Sub.sel [0,1,4,5,6,7,8,9] Z) (fun _ h=>h))))))))
     replace hg58:=not_true hg58
     replace hg58:=zU hg58;refine zK 2 Z (zM Z (yE Z Z Z (by omega) (by omega)) (zM (v:=i6_ (((k:Int)+(j:Int)) % (2:Int))) Z (OpQ.rem Z Z Z (by omega) (by decide)) (zK 3 Z (zN (qA (decide ((((k:Int)+(j:Int)) % (2:Int))=(1:Int))) trivial (Sub.sel [0,1,4,5,6,7,8,9] Z) (fun _ h=>h))))))
    refine zH (zC (zK 2 Z (zN (zI [0,1,4,5,6,7,8,9,39,65] [_,_,_,_,_,_,_,_,_,_] Z (xN Z (fun h65=>?_) (fun h65=>?_))))))
    ·
     refine zC (zK 4 Z (xT fun b70 hg70=>?_))
     cases b70
     ·
      replace hg70:=zU hg70;refine zK 2 Z (zM Z (yE Z Z Z (by omega) (by omega)) (zK 3 Z (xT fun b76 hg76=>?_)))
      cases b76
      ·
       replace hg76:=zU hg76;refine zK 2 Z (zM Z (yE Z Z Z (by omega) (by omega)) (zK 3 Z (zN (qA (decide ((k:Int)=((j:Int)+(1:Int)))) trivial (Sub.sel [0,1,4,5,6,7,8,9] Z) (fun _ h=>h)))))
      replace hg76:=zV hg76;refine zQ Z (zQ Z (zQ Z (zQ Z (zK 2 Z (zN (qA (true) trivial (Sub.sel [0,1,4,5,6,7,8,9] Z) (fun _ h=>h)))))))
     replace hg70:=zV hg70;refine zQ Z (zQ Z (zQ Z (zQ Z (zK 2 Z (zQ Z (zQ Z (zQ Z (zQ Z (zK 2 Z (zN (qA (true) trivial (Sub.sel [0,1,4,5,6,7,8,9] Z) (fun _ h=>h))))))))))))
    refine zH (zC (zK 2 Z (zN (zI [0,1,4,5,6,7,8,9,39,82] [_,_,_,_,_,_,_,_,_,_] Z (xN Z (fun h82=>?_) (fun h82=>?_))))))
    ·
     refine zC (zK 2 Z (xT fun b85 hg85=>?_))
     cases b85
     ·
      replace hg85:=zU hg85;refine zQ Z (zQ Z (zQ Z (zK 2 Z (zN (qA (false) trivial (Sub.sel [0,1,4,5,6,7,8,9] Z) (fun _ h=>h))))))
     replace hg85:=zV hg85;refine zK 5 Z (zN (qA (!(decide ((k:Int)=(j:Int)))) trivial (Sub.sel [0,1,4,5,6,7,8,9] Z) (fun _ h=>h)))
    refine zH (zC (zK 2 Z (zN (zI [0,1,4,5,6,7,8,9,90] [_,_,_,_,_,_,_,_,_] Z (xN Z (fun h90=>?_) (fun h90=>?_))))))
    ·
     refine zC (zK 1 Z (zM Z (yE Z Z Z (by omega) (by omega)) (zM (v:=i6_ (((k:Int)+(1:Int)) / (2:Int))) Z (OpQ.quo Z Z Z (by omega) (by omega) (by decide)) (zK 1 Z (zM Z (yE Z Z Z (by omega) (by omega)) (zM (v:=i6_ (((j:Int)+(1:Int)) / (2:Int))) Z (OpQ.quo Z Z Z (by omega) (by omega) (by decide)) (zK 2 Z (xT fun b99 hg99=>?_))))))))
     cases b99
     ·
      replace hg99:=zU hg99;refine zQ Z (zQ Z (zQ Z (zK 2 Z (zN (qA (false) trivial (Sub.sel [0,1,4,5,6,7,8,9] Z) (fun _ h=>h))))))
     replace hg99:=zV hg99;refine zK 5 Z (zN (qA (!(decide ((k:Int)=(j:Int)))) trivial (Sub.sel [0,1,4,5,6,7,8,9] Z) (fun _ h=>h)))
    refine qQ (qA (decide (k37=(0:Int))) trivial (Sub.sel [0,1,4,5,6,7,8,9] Z) (fun _ h=>h))
   rintro b9 _;refine zI [0,1,4,5,6,7,8,9] [_,_,_,_,_,_,_,_] Z (xV (S:=Own B w0 [bk_ p4 #[i6_ 0,str ([]),str ([])] 24,bk_ rp #[bv,i6_ (p_37:Int)] 130]) (.take 0 (.take 2 (.two 1 (.one 3 (.take 4 (.take 5 (.one 6 .done)))) 3 (.one 1 (.take 4 (.take 5 (.one 6 .done))))))) yP (fun _ h=>h.drawn) (by kernel_rfl) (zP Z Z Z Z Z (zD Z zZ Z qH Z Z) (pk [1,2] Z Z) (jS 1 Z (pk [1,2] Z Z) (yO Z Z ?_ ?_))))
   ·
    refine zJ Z (zO 0 Z yG Z Z Z) (zG (zF (pk [1,2] Z Z) ?_));refine zS Z (zJ (v:=str (if b9 then [49] else [48])) Z (qX Z vA Z qK (fun w1 hw1=>bitD_ok b9 w1 )) (zG (zF (pk [1,2] Z Z) ?_)));refine zP Z Z Z Z Z (xB Z Z Z (by first | (rw [bit_len];omega) | omega)) (pk [1,2] Z Z) (zP Z Z Z Z Z (zD Z zZ Z qH Z Z) (pk [1,2] Z Z) (zS Z (qB (v:=str (R1++(if b9 then [49] else [48]))) (hs':=(bk_ p5 #[i6_ n,str S2,str (R1++(if b9 then [49] else [48]))] 24::_::_::hs)) 0 Z Z Z Z Z Z qH Z (by simp) Z (zG (zF (pk [1,2] Z Z) ?_)))));refine qZ (zI [0,1,4,5,6,7,8] [_,_,_,_,_,_,_] Z (zC (zK 1 Z (zM Z (yE Z Z Z (by omega) (by omega)) (zK 1 Z (zN (xH (j+1,R1++(if b9 then [49] else [48]),p_37) ⟨by omega,by (try dsimp only);rw [qE,bit_len];omega,by (try dsimp only);omega⟩ (by omega) (Sub.sel [0,1,4,5,6,7,8] Z) (fun _ h=>h))))))))
   refine zJ (v:=str (if b9 then [49] else [48])) Z (qX Z vA Z qK (fun w1 hw1=>bitD_ok b9 w1 )) (zG (zF (pk [1,2] Z Z) ?_));refine zS Z (zJ Z (zO 0 Z yG Z Z Z) (zG (zF (pk [1,2] Z Z) ?_)));refine zP Z Z Z Z Z (xB Z Z Z (by first | (rw [bit_len];omega) | omega)) (pk [1,2] Z Z) (zP Z Z Z Z Z (zD Z zZ Z qH Z Z) (pk [1,2] Z Z) (zS Z (qB (v:=str (R1++(if b9 then [49] else [48]))) (hs':=(bk_ p5 #[i6_ n,str S2,str (R1++(if b9 then [49] else [48]))] 24::_::_::hs)) 0 Z Z Z Z Z Z qH Z (by simp) Z (zG (zF (pk [1,2] Z Z) ?_)))));refine qZ (zI [0,1,4,5,6,7,8] [_,_,_,_,_,_,_] Z (zC (zK 1 Z (zM Z (yE Z Z Z (by omega) (by omega)) (zK 1 Z (zN (xH (j+1,R1++(if b9 then [49] else [48]),p_37) ⟨by omega,by (try dsimp only);rw [qE,bit_len];omega,by (try dsimp only);omega⟩ (by omega) (Sub.sel [0,1,4,5,6,7,8] Z) (fun _ h=>h))))))))
  refine xO Z (zI [0,1,4,5,6,7] [_,_,_,_,_,_] Z (zC (zK 1 Z (zM Z (yE Z Z Z (by omega) (by omega)) (zK 1 Z (zN (xH (k+1,S2,R1,p1) ⟨by omega,by (try dsimp only);omega,by (try dsimp only);rw [Nat.add_mul,Nat.one_mul];omega,by (try dsimp only);omega⟩ (by omega) (Sub.sel [0,1,4,5,6,7] Z) (fun _ h=>h))))))))
 refine xO Z (zI [4,5] [_,_] Z (zH (qC (zJ Z (qR (cs:=#[i6_ n,str S,str R]) 0 Z qO Z Z qJ) (jU (cs':=#[i6_ n,str S,str R]) (hs':=(_::bk_ p4 #[i6_ n,str S,str R] 24::_::hs)) 1 Z Z Z Z Z (by kernel_rfl:_=some Tryd.t24) Z Z Z Z Z (zG (zI [4] [_] Z (qN (Kt.endBox (cs:=#[i6_ n,str S,str R]) 1 Z Z Z qO qJ fun w' hw=>?_)))))))))
 exact ⟨⟨n,S,R⟩,p0,rfl,⟨⟨rfl,by dsimp only;omega,by dsimp only;rw [hR,show k=n.toNat from by omega]⟩,by omega⟩,hw.sub (qI _ (qI _ (zA _ (zR _))))⟩
set_option maxHeartbeats 400000 in
theorem l1Some_ok (B:Nat) (w0:World) (hs:List (Nat×Obj)) (rp p:Nat) (bv:Value) (L:List Int) (w:World) (hb:∀ w,Own B w0 hs w→Row w bv (u8s L)) (hL8:Bytes8 L) (hL:L.length≤2000) (hp:p≤800000) (hw:Own B w0 ((rp,.cells #[bv,.int .i64 (p:Int)] 130 (0,0))::hs) w) :
    Calls Tryd.prog 107 [pt_ rp].toArray w fun en w'=>∃ a:St,∃ p':Nat,en=.returned (vS a)∧((a.Fine∧a.n≤5)∧p'≤p+200)∧Own B w0 (((rp,.cells #[bv,.int .i64 (p':Int)] 130 (0,0))::hs)) w':=by
 refine fnStartC (Own B w0 ((rp,.cells #[bv,.int .i64 (p:Int)] 130 (0,0))::hs)) (n:=8) (e:=[(0,pt_ rp)]) Tryd.func107 Z Z Z Z Ends.both hw (zH (qC (Ll.alloc Z Z Z Z jN fun p2 hp2=>?_)))
 show Ll _ _ (Own _ _ (bk_ p2 #[i6_ 0,str ([]),str ([])] 24::_::hs)) _ _ ((2,pt_ p2)::_) _ _ _;refine zG (zI [0,2] [_,_] Z (zH (qC (qD 2 Z (yT (xs:=[.const (i6_ 3),.const (i6_ 4),.const (i6_ 2),.const (i6_ 1),.const (i6_ 5),.const (i6_ 3)]) (vs:=[i6_ 3,i6_ 4,i6_ 2,i6_ 1,i6_ 5,i6_ 3]) jL Z Z Z Z Z Z (by decide) Z fun p5 hp5=>(xI (rp:=rp) (RT:=130) (p:=p) (bv:=bv) (hs:=hs) (ok:=fun (v:Int) p'=>v∈([3,4,2,1,5,3])∧p'=p+1) (v:=fun (v:Int)=>i6_ v) (new:=fun (v:Int)=>[]) (xs:=[.tmp 4,.tmp 5]) (vs:=[pt_ rp,sl_ p5 6 6]) ([bk_ p5 #[i6_ 3,i6_ 4,i6_ 2,i6_ 1,i6_ 5,i6_ 3] 3,bk_ p2 #[i6_ 0,str ([]),str ([])] 24]:List (Nat×Obj)) Z Z Z Z Tryd.call126 Z (fun w1 hw1=>(num_ok B w0 (([bk_ p5 #[i6_ 3,i6_ 4,i6_ 2,i6_ 1,i6_ 5,i6_ 3] 3,bk_ p2 #[i6_ 0,str ([]),str ([])] 24]:List (Nat×Obj))++hs) rp p bv L (sl_ p5 6 6) ([3,4,2,1,5,3]) w1 (fun w2 hw2=>hb w2 (zW (f:=([bk_ p5 #[i6_ 3,i6_ 4,i6_ 2,i6_ 1,i6_ 5,i6_ 3] 3,bk_ p2 #[i6_ 0,str ([]),str ([])] 24]:List (Nat×Obj))) hw2)) hL8 hL (fun w2 h2=>(jB h2 (i:=0) Z (n:=6) (cap:=6) (vs:=ints [3,4,2,1,5,3]) Z Z (by decide))) (by simp) (by omega) hw1).mono fun en w' ⟨v',p',h1,h2,h3⟩=>⟨v',p',h1,h2,h3⟩) fun v6 p_6 hKp_6=>?_))))))
 show Ll _ _ (Own _ _ (_::_::_::hs)) _ _ ((6,i6_ v6)::_) _ _ _
 obtain ⟨hmv6,hep_6⟩:=hKp_6
 have hvv6:1≤v6∧v6≤5:=by simp at hmv6;omega
 have hv6:1≤v6∧v6≤5:=by simp at hmv6;omega
 refine xI (rp:=rp) (RT:=130) (p:=p_6) (bv:=bv) (hs:=hs) (ok:=fun (a:St) p'=>(a.n=v6∧(a.set.length:Int)=v6∧a.rel.length=v6.toNat*v6.toNat)∧p'≤p_6+100) (v:=fun (a:St)=>vS a) (new:=fun (a:St)=>[]) (xs:=[.tmp 3,.tmp 6]) (vs:=[pt_ rp,i6_ v6]) ([bk_ p5 #[i6_ 3,i6_ 4,i6_ 2,i6_ 1,i6_ 5,i6_ 3] 3,bk_ p2 #[i6_ 0,str ([]),str ([])] 24]:List (Nat×Obj)) Z Z Z Z Tryd.call147 Z (fun w1 hw1=>(l1Draw_ok B w0 (([bk_ p5 #[i6_ 3,i6_ 4,i6_ 2,i6_ 1,i6_ 5,i6_ 3] 3,bk_ p2 #[i6_ 0,str ([]),str ([])] 24]:List (Nat×Obj))++hs) rp p_6 bv L v6 w1 (fun w2 hw2=>hb w2 (zW (f:=([bk_ p5 #[i6_ 3,i6_ 4,i6_ 2,i6_ 1,i6_ 5,i6_ 3] 3,bk_ p2 #[i6_ 0,str ([]),str ([])] 24]:List (Nat×Obj))) hw2)) hL8 hL (by omega) (by omega) (by omega) hw1).mono fun en w' ⟨a',p',h1,h2,h3⟩=>⟨a',p',h1,h2,h3⟩) fun a7 p_7 hKp_7=>?_
 show Ll _ _ (Own _ _ (_::_::_::hs)) _ _ ((7,vS a7)::_) _ _ _
 obtain ⟨⟨hna7,hsa7,hra7⟩,hep_7⟩:=hKp_7;refine jU (cs':=#[i6_ a7.n,str a7.set,str a7.rel]) (hs':=(_::bk_ p2 #[i6_ a7.n,str a7.set,str a7.rel] 24::_::hs)) 1 Z Z Z Z Z (by kernel_rfl:_=some Tryd.t24) Z Z Z Z Z (zG (zI [2] [_] Z (qN (Kt.endBox (cs:=#[i6_ a7.n,str a7.set,str a7.rel]) 1 Z Z Z qO qJ fun w' hw=>?_))))
 exact ⟨a7,p_7,rfl,⟨⟨⟨by omega,by omega,by omega,by rw [hra7,hna7];exact sq_cast (by omega)⟩,by omega⟩,by omega⟩,hw.sub (qI _ (qI _ (zA _ (zR _))))⟩
end Go.Proofs.YtefiibghfgfdnaaDoor
namespace Go.Proofs.YtefiibghfgfdnaaDoor
open Go.RowKit Go.Wk
set_option linter.unusedSimpArgs false
set_option maxHeartbeats 400000 in
theorem open_ok (B:Nat) (w0:World) (fr hs:List (Nat×Obj)) (bv:Value) (L:List Int) (w:World) (hb:∀ w,Own B w0 hs w→Row w bv (u8s L)) (hL8:Bytes8 L) (hLs:L.length≤1048576) (hw:Own B w0 (fr++hs) w) :
    Calls Tryd.prog 49 [bv].toArray w fun en w'=>∃ (rp:Nat) (v:Value) (M:List Int),en=.returned (.pointer (some ⟨rp,0,none⟩))∧(M.length≤2000∧Bytes8 M∧∀ w,Own B w0 hs w→Row w v (u8s M))∧Own B w0 ([(rp,.cells #[v,.int .i64 ((0:Nat):Int)] 130 (0,0))]++(fr++hs)) w':=by
 refine fnStartC (Own B w0 (fr++hs)) (n:=11) (e:=[(0,bv)]) Tryd.func49 Z Z Z Z Ends.both hw ?_
 obtain ⟨ad,cap,hbv,-⟩:=hb w (zW (f:=fr) hw);refine zH (zC (zK 1 Z (zN (zI [0] [_] Z (zH (zH (zC (zK 1 Z (zM (v:=i6_ (L.length:Int)) Z (xZ Z yD Z (u8s_length _) (fun w1 hw1=>hb _ (zW (f:=fr) hw1))) (zK 1 Z (zN (zI [0,5] [_,_] Z (xN Z (fun h5=>?_) (fun h5=>?_))))))))))))))
 ·
  refine zC (zK 1 Z (zM (v:=sTake bv ((2000:Int).toNat)) Z (OpQ.takeRow (i:=2000) Z yD yY Z Z (by omega) (by rw [u8s_length];omega) (fun w1 hw1=>hb _ (zW (f:=fr) hw1))) (zK 1 Z (zN (zI [0] [_] Z (zH (qC (qD 1 Z (zJ (v:=.agg #[sTake bv ((2000:Int).toNat),i6_ ((0:Nat):Int)]) Z (OpQ.build (xs:=[.tmp 8]) (vs:=[sTake bv ((2000:Int).toNat)]) Z Z (by rw [hbv];kernel_rfl)) (jH (v:=.agg #[sTake bv ((2000:Int).toNat),i6_ ((0:Nat):Int)]) Z Z Z Z Z fun p10 hp10=>?_))))))))))
  show Ll _ _ (Own _ _ (_::(fr++hs))) _ _ ((10,pt_ p10)::_) _ _ _;refine qD 1 Z (zG (zI [2] [_] Z (qN (qS Z Z fun w' hw=>?_))))
  exact ⟨p10,_,L.take 2000,rfl,⟨by rw [qT];omega,hL8.take _,fun w1 h1=>by rw [u8s_take];exact Row.take (hb _ h1) 2000 (by rw [u8s_length];omega)⟩,hw⟩
 refine qQ (zI [0] [_] Z (zH (qC (qD 1 Z (zJ (v:=.agg #[bv,i6_ ((0:Nat):Int)]) Z (OpQ.build (xs:=[.tmp 8]) (vs:=[bv]) Z Z (by rw [hbv];kernel_rfl)) (jH (v:=.agg #[bv,i6_ ((0:Nat):Int)]) Z Z Z Z Z fun p10_1 hp10_1=>?_))))))
 show Ll _ _ (Own _ _ (_::(fr++hs))) _ _ ((10,pt_ p10_1)::_) _ _ _;refine qD 1 Z (zG (zI [2] [_] Z (qN (qS Z Z fun w' hw=>?_))))
 exact ⟨p10_1,bv,L,rfl,⟨by omega,hL8,hb⟩,hw⟩
end Go.Proofs.YtefiibghfgfdnaaDoor
