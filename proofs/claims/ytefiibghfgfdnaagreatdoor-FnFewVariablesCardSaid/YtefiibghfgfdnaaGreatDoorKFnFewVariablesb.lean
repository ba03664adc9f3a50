/-
  FnFewVariables: all that its proof names (part 2)
-/
import Derived.Test.YtefiibghfgfdnaaGreatDoorKFnFewVariablesa
import Derived.MapKept
import Derived.Laws.Cover3
import Derived.LoopN
import Derived.Lib.Bytealg
import Derived.LaidEqlPtr
namespace Go.Wk
open Go.RowKit
theorem Means.lt {T:List (List UInt8)}:∀ {n:Nat} {a:St} {xs:List Int} {i:Nat},Means T n a xs i→i<T.length:=by
 have key:∀ {i:Nat} {s:List UInt8},T[i]?=some s→i<T.length:=fun h=>(List.getElem?_eq_some_iff.1 h).1
 intro n a xs i h
 cases n with
 | zero=>exact key h
 | succ n=>obtain ⟨L,_,_,_,h⟩:=h;exact key h
structure FoundL (T:List (List UInt8)) (n:Nat) (a:St) (xs L:List Int) (k:Nat):Prop where
  sorted:L.Pairwise (·<·)
  len:L.length≤k
  all:∀ x:Nat,x<k→∃ i:Nat,(i:Int)∈L∧Means T n a (xs++[(x:Int)]) i
  only:∀ m∈L,∃ i x:Nat,m=i∧x<k∧Means T n a (xs++[(x:Int)]) i
theorem FoundL.zero {T:List (List UInt8)} {n:Nat} {a:St} {xs:List Int}:FoundL T n a xs [] 0:=⟨List.Pairwise.nil,Nat.le_refl _,fun x hx=>absurd hx (by omega),fun m hm=>by cases hm⟩
theorem FoundL.step {T T':List (List UInt8)} {n:Nat} {a:St} {xs L:List Int} {k i:Nat} (h:FoundL T n a xs L k) (hp:T <+: T') (hm:Means T' n a (xs++[(k:Int)]) i):FoundL T' n a xs (insS L (i:Int)) (k+1):=by
  refine ⟨sorted_insS h.sorted,Nat.le_trans insS_length (by have:=h.len;omega),fun x hx=>?_,fun m hmem=>?_⟩
  · rcases Nat.lt_or_ge x k with h1 | h1
    · obtain ⟨j,hj,hM⟩:=h.all x h1
      exact ⟨j,mem_insS.2 (.inr hj),hM.mono hp _ _ _ _⟩
    · obtain rfl:x=k:=by omega
      exact ⟨i,mem_insS.2 (.inl rfl),hm⟩
  · rcases mem_insS.1 hmem with h1 | h1
    · exact ⟨i,k,h1,by omega,hm⟩
    · obtain ⟨j,x,e,hx,hM⟩:=h.only m h1
      exact ⟨j,x,e,by omega,hM.mono hp _ _ _ _⟩
theorem FoundL.small {T:List (List UInt8)} {n:Nat} {a:St} {xs L:List Int} {k:Nat} (h:FoundL T n a xs L k) (hT:T.length≤1000000):∀ m∈L,0≤m∧m<1000000000000:=fun m hm=>by
 obtain ⟨j,x,e,hx,hM⟩:=h.only m hm
 have:=hM.lt
 omega
theorem FoundL.means {T T':List (List UInt8)} {n:Nat} {a:St} {xs L:List Int} {m:Nat} (h:FoundL T n a xs L a.n.toNat) (hp:T <+: T') (hd:T'[m]?=some ((decS (n+1)++[58])++(atomBits a xs++commas L))):Means T' (n+1) a xs m :=
 ⟨L,h.sorted,fun x hx=>(h.all x hx).elim fun i hi=>⟨i,hi.1,hi.2.mono hp _ _ _ _⟩,fun m hm=>by
  obtain ⟨i,x,e,hx,hM⟩:=h.only m hm;exact ⟨i,x,e,hx,hM.mono hp _ _ _ _⟩,hd⟩
theorem TabTo.trans {T T1 T2:List (List UInt8)} {b1 b2:List Bkt} {m n k:Nat} (h:TabTo T b1 T1 m) (h2:TabTo T1 b2 T2 n) (hk:m+n≤k):TabTo T b2 T2 k:=⟨h2.ok,h.pre.trans h2.pre,by have:=h.len;have:=h2.len;omega⟩
theorem cnt_succ (n:Nat):cnt (n+1)=1+8*cnt n:=rfl
theorem cnt_small {n:Nat} (h:n≤3):cnt n≤585:=by
 match n,h with
 | 0,_=>decide
 | 1,_=>decide
 | 2,_=>decide
 | 3,_=>decide
theorem cnt_le (k n:Nat) (h:k≤8):k*cnt n≤8*cnt n:=Nat.mul_le_mul_right _ h
theorem at_small {L:List Int} (h:∀ m∈L,0≤m∧m<1000000000000) {i:Nat} (hi:i<L.length):0≤L.getD i 0∧L.getD i 0<1000000000000:=by
 rw [getD_at hi];exact h _ (List.getElem_mem _)
theorem winB_eq {n:Nat} {a b:St} {xs ys:List Int} {T:List (List UInt8)} (hT:T.Nodup) (hl:xs.length=ys.length) {i j:Nat} (hi:Means T n a xs i) (hj:Means T n b ys j):decide ((i:Int)=j)=winB n a xs b ys:=by
 rw [Bool.eq_iff_iff,decide_eq_true_eq,win_iff n a xs b ys hl,← means_win hT n a xs b ys i j hl hi hj];omega
end Go.Wk
namespace Go.Wk
open Go.RowKit
theorem find_congr {f g:Nat→Bool}:∀ {l:List Nat},(∀ i∈l,f i=g i)→l.find? f=l.find? g
 | [],_=>rfl
 | x::l,h=>by
  rw [List.find?_cons,List.find?_cons,h x (by simp),find_congr (l:=l) (fun i hi=>h i (by simp [hi]))]
theorem rep_win {n:Nat} {a b:St} {xs ys:List Int} {x:Int} (hl:xs.length=ys.length):rep (goB n) a xs b ys x=(List.range b.n.toNat).find? (fun y:Nat=>winB n a (xs++[x]) b (ys++[(y:Int)])):=by
 unfold rep winB
 cases hs:sameB a xs b ys with
 | false =>
  rw [if_neg (by simp)]
  symm
  rw [List.find?_eq_none]
  intro y _
  simp [same_more hl,hs]
 | true =>
  rw [if_pos rfl]
  exact find_congr fun y _=>by simp [same_more hl,hs]
def repI (o:Option Nat):Int:=match o with | some y=>(y:Int) | none => -1
theorem repI_at {n:Nat} {a b:St} {xs ys:List Int} {x:Int} (hl:xs.length=ys.length) {k:Nat} (hk:k<b.n.toNat) (hall:∀ i:Nat,i<k→winB n a (xs++[x]) b (ys++[(i:Int)])=false) (h:winB n a (xs++[x]) b (ys++[(k:Int)])=true) :
  repI (rep (goB n) a xs b ys x)=k:=by
 rw [rep_win hl,find_at (f:=fun y:Nat=>winB n a (xs++[x]) b (ys++[(y:Int)])) hk hall h];rfl
theorem repI_no {n:Nat} {a b:St} {xs ys:List Int} {x:Int} (hl:xs.length=ys.length) (hall:∀ i:Nat,i<b.n.toNat→winB n a (xs++[x]) b (ys++[(i:Int)])=false):repI (rep (goB n) a xs b ys x) = -1:=by
 rw [rep_win hl]
 have:(List.range b.n.toNat).find? (fun y:Nat=>winB n a (xs++[x]) b (ys++[(y:Int)]))=none:=by
  rw [List.find?_eq_none];intro y hy;rw [hall y (List.mem_range.1 hy)];simp
 rw [this];rfl
theorem repI_neg {o:Option Nat}:repI o<0↔o.isSome=false:=by cases o <;> simp [repI]
theorem repI_some {o:Option Nat} (h:¬ repI o<0):o.isSome=true∧repI o=((o.getD 0:Nat):Int):=by
 cases o with
 | none=>simp [repI] at h
 | some y=>simp [repI]
def moveO (n:Nat) (a:St) (xs:List Int) (b:St) (ys:List Int):Option (Bool×Nat) :=
 match (List.range a.n.toNat).find? (fun x:Nat=>!(rep (goB n) a xs b ys x).isSome) with
 | some x=>some (true,x)
 | none=>match (List.range b.n.toNat).find? (fun y:Nat=>!(rep (goB n) b ys a xs y).isSome) with
  | some y=>some (false,y)
  | none=>none
def sideS (o:Option (Bool×Nat)):List UInt8:=match o with | some (true,_)=>[97] | some (false,_)=>[98] | none=>[]
def moveI (o:Option (Bool×Nat)):Int:=match o with | some (_,x)=>(x:Int) | none=>0
section
variable {n:Nat} {a b:St} {xs ys:List Int}
theorem move_1 {k:Nat} (hk:k<a.n.toNat) (hall:∀ i:Nat,i<k→(rep (goB n) a xs b ys i).isSome=true) (h:(rep (goB n) a xs b ys k).isSome=false):moveO n a xs b ys=some (true,k):=by
 unfold moveO
 rw [find_at (f:=fun x:Nat=>!(rep (goB n) a xs b ys x).isSome) hk (fun i hi=>by simp [hall i hi]) (by simp [h])]
theorem move_none1 (hall:∀ i:Nat,i<a.n.toNat→(rep (goB n) a xs b ys i).isSome=true):(List.range a.n.toNat).find? (fun x:Nat=>!(rep (goB n) a xs b ys x).isSome)=none:=by
 rw [List.find?_eq_none];intro i hi;simp [hall i (List.mem_range.1 hi)]
theorem move_2 {k:Nat} (hall1:∀ i:Nat,i<a.n.toNat→(rep (goB n) a xs b ys i).isSome=true) (hk:k<b.n.toNat) (hall:∀ i:Nat,i<k→(rep (goB n) b ys a xs i).isSome=true) (h:(rep (goB n) b ys a xs k).isSome=false):moveO n a xs b ys=some (false,k):=by
 unfold moveO
 rw [move_none1 hall1,find_at (f:=fun x:Nat=>!(rep (goB n) b ys a xs x).isSome) hk (fun i hi=>by simp [hall i hi]) (by simp [h])]
theorem move_none (hall1:∀ i:Nat,i<a.n.toNat→(rep (goB n) a xs b ys i).isSome=true) (hall:∀ i:Nat,i<b.n.toNat→(rep (goB n) b ys a xs i).isSome=true):moveO n a xs b ys=none:=by
 unfold moveO
 rw [move_none1 hall1]
 have:(List.range b.n.toNat).find? (fun y:Nat=>!(rep (goB n) b ys a xs y).isSome)=none:=by rw [List.find?_eq_none];intro i hi;simp [hall i (List.mem_range.1 hi)]
 rw [this]
end
def fmO (a:St) (xs:List Int) (b:St) (ys:List Int) (r:Int):Option (Bool×Nat):=if gameB a xs b ys r&&sameB a xs b ys&&decide (1≤r) then moveO (r - 1).toNat a xs b ys else none
section
variable {P:Program} {n:Nat} {C:World→Prop} {e:Env}
theorem results_tmp3 {fn:Func} {t u s:Nat} (hr:fn.results=#[.tmp t,.tmp u,.tmp s]) (w:World) (ts:Array Value):(results fn ts).run P w=.ok (.tuple #[ts.getD t undef,ts.getD u undef,ts.getD s undef]) w:=by
 unfold results;rw [hr];simp [go_sem]
theorem Kt.end3 {fn:Func} {R:Ending→World→Prop} {t u s:Nat} {v x y:Value} (hr:fn.results=#[.tmp t,.tmp u,.tmp s]) (he:e.lookup t=some v) (he':e.lookup u=some x) (he2:e.lookup s=some y) (h:∀ w,C w→R (.returned (.tuple #[v,x,y])) w):Kt n C e (Ends P fn R):=by
 unfold Kt Wk.Ends
 exact fun a w hf hc=>⟨hf.defers,_,by rw [results_tmp3 hr];rw [Array.getD_eq_getD_getElem?,hf.slot t v he,Array.getD_eq_getD_getElem?,hf.slot u x he',Array.getD_eq_getD_getElem?,hf.slot s y he2];rfl,h w hc⟩
end
end Go.Wk
namespace Go.Wk
open Go.RowKit
inductive Fm where
 | leaf (c:UInt8) (vs:List UInt8)
 | one (c:UInt8) (vs:List UInt8) (p:Fm)
 | two (c:UInt8) (p q:Fm)
def isV (v:UInt8):Bool:=decide (97≤v.toNat)&&decide (v.toNat≤100)
def arV (c:UInt8):Nat:=if c=80 then 1 else if c=61∨c=69 then 2 else if c=65∨c=83∨c=50∨c=51∨c=52 then 1 else 0
def arP (c:UInt8):Nat:=if c=33 then 1 else if c=38∨c=124 then 2 else if c=65∨c=83∨c=50∨c=51∨c=52 then 1 else 0
def isOp (c:UInt8):Bool:=decide (c∈([116,102,80,61,69,33,38,124,65,83,50,51,52]:List UInt8))
def takeV:Nat→List UInt8→Option (List UInt8×List UInt8)
 | 0,s=>some ([],s)
 | _+1,[]=>none
 | k+1,v::s=>if isV v then (match takeV k s with | some (vs,r)=>some (v::vs,r) | none=>none) else none
def psF:Nat→List UInt8→Option (Fm×List UInt8)
  | 0,_=>none
  | _+1,[]=>none
  | n+1,c::s =>
    if isOp c then
      match takeV (arV c) s with
      | none=>none
      | some (vs,r) =>
        if arP c=0 then some (.leaf c vs,r)
        else if arP c=1 then (match psF n r with | some (p,r')=>some (.one c vs p,r') | none=>none)
        else (match psF n r with
          | some (p,r')=>(match psF n r' with | some (q,r2)=>some (.two c p q,r2) | none=>none)
          | none=>none)
    else none
theorem takeV_len:∀ {k:Nat} {s vs r:List UInt8},takeV k s=some (vs,r)→vs.length=k∧vs.length+r.length=s.length∧s=vs++r∧∀ v∈vs,isV v=true
  | 0,s,vs,r,h=>by
    injection h with h;injection h with h1 h2;subst h1;subst h2
    exact ⟨rfl,by simp,rfl,fun v hv=>by cases hv⟩
  | k+1,[],vs,r,h=>by cases h
  | k+1,v::s,vs,r,h=>by
    unfold takeV at h
    split at h
    · rename_i hv
      split at h
      · rename_i us r' e
        injection h with h;injection h with h1 h2;subst h1;subst h2
        obtain ⟨h3,h4,h5,h6⟩:=takeV_len e
        refine ⟨by simp [h3],by simp;omega,by rw [h5];rfl,fun u hu=>?_⟩
        rcases List.mem_cons.1 hu with rfl | hu
        · exact hv
        · exact h6 u hu
      · cases h
    · cases h
theorem psF_len:∀ {n:Nat} {s:List UInt8} {p:Fm} {r:List UInt8},psF n s=some (p,r)→r.length<s.length
  | 0,_,_,_,h=>by cases h
  | _+1,[],_,_,h=>by cases h
  | n+1,c::s,p,r,h=>by
    unfold psF at h
    split at h
    · split at h
      · cases h
      · rename_i vs t e
        obtain ⟨_,h2,_⟩:=takeV_len e
        split at h
        · injection h with h;injection h with _ h;subst h
          simp;omega
        · split at h
          · split at h
            · rename_i q r' e2
              injection h with h;injection h with _ h;subst h
              have:=psF_len e2
              simp;omega
            · cases h
          · split at h
            · rename_i q r' e2
              split at h
              · rename_i q2 r2 e3
                injection h with h;injection h with _ h;subst h
                have h3:=psF_len e2
                have h4:=psF_len e3
                simp;omega
              · cases h
            · cases h
    · cases h
theorem psF_fuel:∀ {n m:Nat} {s:List UInt8},s.length<n→s.length<m→psF n s=psF m s
  | 0,_,_,h,_=>by omega
  | _+1,0,_,_,h=>by omega
  | _+1,_+1,[],_,_=>rfl
  | n+1,m+1,c::s,h1,h2=>by
    unfold psF
    simp only [List.length_cons] at h1 h2
    split
    · cases e:takeV (arV c) s with
      | none=>rfl
      | some x =>
        obtain ⟨vs,r⟩:=x
        dsimp only
        obtain ⟨_,h3,_⟩:=takeV_len e
        have e1:psF n r=psF m r:=psF_fuel (by omega) (by omega)
        rw [e1]
        cases e2:psF m r with
        | none=>rfl
        | some y =>
          obtain ⟨p,r'⟩:=y
          dsimp only
          have h4:=psF_len e2
          rw [psF_fuel (n:=n) (m:=m) (s:=r') (by omega) (by omega)]
    · rfl
def parse (s:List UInt8):Option (Fm×List UInt8):=psF (s.length+1) s
theorem parse_len {s r:List UInt8} {p:Fm} (h:parse s=some (p,r)):r.length<s.length:=psF_len h
theorem parse_of {n:Nat} {s:List UInt8} (h:s.length<n):psF n s=parse s:=psF_fuel h (Nat.lt_succ_self _)
theorem parse_cons (c : UInt8) (s : List UInt8) : parse (c :: s) = if isOp c then
      match takeV (arV c) s with
      | none=>none
      | some (vs,r) =>
        if arP c=0 then some (.leaf c vs,r)
        else if arP c=1 then (match parse r with | some (p,r')=>some (.one c vs p,r') | none=>none)
        else (match parse r with
          | some (p,r')=>(match parse r' with | some (q,r2)=>some (.two c p q,r2) | none=>none)
          | none=>none)
    else none:=by
  unfold parse
  rw [psF]
  split
  · cases e:takeV (arV c) s with
    | none=>rfl
    | some x =>
      obtain ⟨vs,r⟩:=x
      dsimp only
      obtain ⟨_,h3,_⟩:=takeV_len e
      rw [parse_of (n:=(c::s).length) (s:=r) (by simp only [List.length_cons];omega)]
      unfold parse
      cases e2:psF (r.length+1) r with
      | none=>rfl
      | some y =>
        obtain ⟨p,r'⟩:=y
        dsimp only
        have h4:=psF_len e2
        rw [parse_of (n:=(c::s).length) (s:=r') (by simp only [List.length_cons];omega)]
        rfl
  · rfl
def endI (f:List UInt8) (i:Int):Int:=if 0≤i then (match parse (f.drop i.toNat) with | some (_,r)=>(f.length:Int) - r.length | none => -1) else -1
def fT:Fm→List UInt8
 | .leaf c vs=>c::vs
 | .one c vs p=>c::(vs++fT p)
 | .two c p q=>c::(fT p++fT q)
theorem ar_two {c:UInt8} (h0:¬ arP c=0) (h1:¬ arP c=1):arV c=0:=by
  by_cases e:c=38∨c=124
  · rcases e with rfl | rfl <;> rfl
  · exfalso
    unfold arP at h0 h1
    by_cases e2:c=33
    · rw [if_pos e2] at h1;exact h1 rfl
    · rw [if_neg e2,if_neg e] at h0 h1
      split at h1
      · exact h1 rfl
      · rename_i h3;rw [if_neg h3] at h0;exact h0 rfl
theorem parse_text:∀ (n:Nat) {s r:List UInt8} {p:Fm},s.length≤n→parse s=some (p,r)→s=fT p++r
  | 0,[],_,_,_,h=>by cases h
  | 0,_::_,_,_,hn,_=>by simp at hn
  | _+1,[],_,_,_,h=>by cases h
  | n+1,c::s,r,p,hn,h=>by
    rw [parse_cons] at h
    simp only [List.length_cons] at hn
    split at h
    · split at h
      · cases h
      · rename_i vs t e
        obtain ⟨_,h2,h3,_⟩:=takeV_len e
        by_cases h0:arP c=0
        · rw [if_pos h0] at h
          injection h with h;injection h with h4 h;subst h;subst h4
          rw [h3];rfl
        · rw [if_neg h0] at h
          by_cases h1:arP c=1
          · rw [if_pos h1] at h
            split at h
            · rename_i q r' e2
              injection h with h;injection h with h4 h;subst h;subst h4
              have:=parse_text n (s:=t) (by omega) e2
              rw [h3,this];simp [fT]
            · cases h
          · rw [if_neg h1] at h
            split at h
            · rename_i q r' e2
              split at h
              · rename_i q2 r2 e3
                injection h with h;injection h with h4 h;subst h;subst h4
                have h5:=parse_len e2
                have h6:=parse_text n (s:=t) (by omega) e2
                have h7:=parse_text n (s:=r') (by omega) e3
                have hvs:vs=[]:=by
                  have h8:=(takeV_len e).1
                  rw [ar_two h0 h1] at h8
                  exact List.length_eq_zero_iff.1 h8
                rw [h3,hvs,h6,h7];simp [fT]
              · cases h
            · cases h
    · cases h
def vI (v:UInt8):Nat:=v.toNat - 97
def vBit (v:UInt8):Nat:=2 ^ vI v
def vBits:List UInt8→Nat
 | []=>0
 | v::vs=>vBit v ||| vBits vs
def frB:Fm→Nat
 | .leaf _ vs=>vBits vs
 | .one _ [] p=>frB p
 | .one _ (v::_) p=>frB p &&& (15 ^^^ vBit v)
 | .two _ p q=>frB p ||| frB q
def allB:Fm→Nat
 | .leaf _ vs=>vBits vs
 | .one _ vs p=>vBits vs ||| allB p
 | .two _ p q=>allB p ||| allB q
def cntT (f:Nat→Bool):Nat→Nat
 | 0=>0
 | x+1=>cntT f x+(if f x then 1 else 0)
def need (c:UInt8) (n:Nat):Nat:=if c=65 then n else if c=83 then 1 else c.toNat - 48
def atV (env:List Int) (v:UInt8):Int:=env.getD (vI v) 0
def ev (a:St):Fm→List Int→Bool
 | .leaf c vs,env=>if c=116 then true else if c=102 then false else if c=80 then a.inSet (atV env (vs.getD 0 0)) else if c=61 then decide (atV env (vs.getD 0 0)=atV env (vs.getD 1 0)) else a.inRel (atV env (vs.getD 0 0)) (atV env (vs.getD 1 0))
 | .one c vs p,env=>if c=33 then !ev a p env else decide (need c a.n.toNat≤cntT (fun x=>ev a p (env.set (vI (vs.getD 0 0)) (x:Int))) a.n.toNat)
 | .two c p q,env=>if c=38 then ev a p env&&ev a q env else ev a p env||ev a q env
def rankF:Fm→Nat
 | .leaf _ _=>0
 | .one c _ p=>if c=33 then rankF p else if c=65∨c=83 then rankF p+1 else rankF p+(c.toNat - 48)
 | .two _ p q=>max (rankF p) (rankF q)
theorem cntT_le (f:Nat→Bool):∀ n:Nat,cntT f n≤n
 | 0=>Nat.le_refl _
 | n+1=>by
  have:=cntT_le f n
  unfold cntT;split <;> omega
theorem cntT_mono (f:Nat→Bool) {m:Nat}:∀ {n:Nat},m≤n→cntT f m≤cntT f n∧cntT f n≤cntT f m+(n - m)
  | 0, h => by obtain rfl : m = 0 := by omega
               exact ⟨Nat.le_refl _,by omega⟩
  | n+1,h=>by
    rcases Nat.lt_or_ge n m with h1 | h1
    · obtain rfl:m=n+1:=by omega
      exact ⟨Nat.le_refl _,by omega⟩
    · obtain ⟨h2,h3⟩:=cntT_mono f (m:=m) (n:=n) h1
      rw [show cntT f (n+1)=cntT f n+(if f n then 1 else 0) from rfl]
      split <;> exact ⟨by omega,by omega⟩
end Go.Wk
namespace Go.Wk
open Go.RowKit
def wfF:Fm→Prop
 | .leaf c vs=>isOp c=true∧arP c=0∧vs.length=arV c∧∀ v∈vs,isV v=true
 | .one c vs p=>isOp c=true∧arP c=1∧vs.length=arV c∧(∀ v∈vs,isV v=true)∧wfF p
 | .two c p q=>isOp c=true∧¬ arP c=0∧¬ arP c=1∧wfF p∧wfF q
theorem parse_wf:∀ (n:Nat) {s r:List UInt8} {p:Fm},s.length≤n→parse s=some (p,r)→wfF p
  | 0,[],_,_,_,h=>by cases h
  | 0,_::_,_,_,hn,_=>by simp at hn
  | _+1,[],_,_,_,h=>by cases h
  | n+1,c::s,r,p,hn,h=>by
    rw [parse_cons] at h
    simp only [List.length_cons] at hn
    split at h
    · rename_i hop
      split at h
      · cases h
      · rename_i vs t e
        obtain ⟨h7,h2,_,h4⟩:=takeV_len e
        by_cases h0:arP c=0
        · rw [if_pos h0] at h
          injection h with h;injection h with h5 h;subst h5
          exact ⟨hop,h0,h7,h4⟩
        · rw [if_neg h0] at h
          by_cases h1:arP c=1
          · rw [if_pos h1] at h
            split at h
            · rename_i q r' e2
              injection h with h;injection h with h5 h;subst h5
              exact ⟨hop,h1,h7,h4,parse_wf n (by omega) e2⟩
            · cases h
          · rw [if_neg h1] at h
            split at h
            · rename_i q r' e2
              split at h
              · rename_i q2 r2 e3
                injection h with h;injection h with h5 h;subst h5
                have h6:=parse_len e2
                exact ⟨hop,h0,h1,parse_wf n (by omega) e2,parse_wf n (by omega) e3⟩
              · cases h
            · cases h
    · cases h
theorem vI_lt {v:UInt8} (h:isV v=true):vI v<4∧v.toNat=97+vI v:=by
 unfold isV at h
 simp only [Bool.and_eq_true,decide_eq_true_eq] at h
 unfold vI;omega
theorem vBit_test (v:UInt8) (i:Nat):(vBit v).testBit i=decide (vI v=i):=by
 unfold vBit;rw [Nat.testBit_two_pow]
theorem vBits_test:∀ (vs:List UInt8) (i:Nat),(vBits vs).testBit i=true↔∃ v∈vs,vI v=i
 | [],i=>by simp [vBits]
 | v::vs,i=>by
  unfold vBits
  rw [Nat.testBit_or,Bool.or_eq_true,vBit_test,decide_eq_true_eq,vBits_test vs i]
  simp
theorem vBits_lt:∀ {vs:List UInt8},(∀ v∈vs,isV v=true)→vBits vs<16
 | [],_=>by decide
 | v::vs,h=>by
  unfold vBits
  have h1:vBit v<2 ^ 4:=by
   unfold vBit
   exact Nat.pow_lt_pow_right (by decide) (vI_lt (h v (by simp))).1
  exact Nat.or_lt_two_pow (n:=4) h1 (vBits_lt fun u hu=>h u (by simp [hu]))
theorem frB_lt:∀ {p:Fm},wfF p→frB p<16
 | .leaf _ _,h=>vBits_lt h.2.2.2
 | .one _ [] p,h=>frB_lt (p:=p) h.2.2.2.2
 | .one _ (_::_) p,h=>Nat.lt_of_le_of_lt Nat.and_le_left (frB_lt (p:=p) h.2.2.2.2)
 | .two _ p q,h=>Nat.or_lt_two_pow (n:=4) (frB_lt (p:=p) h.2.2.2.1) (frB_lt (p:=q) h.2.2.2.2)
theorem allB_lt:∀ {p:Fm},wfF p→allB p<16
 | .leaf _ _,h=>vBits_lt h.2.2.2
 | .one _ _ p,h=>Nat.or_lt_two_pow (n:=4) (vBits_lt h.2.2.2.1) (allB_lt (p:=p) h.2.2.2.2)
 | .two _ p q,h=>Nat.or_lt_two_pow (n:=4) (allB_lt (p:=p) h.2.2.2.1) (allB_lt (p:=q) h.2.2.2.2)
theorem test15 {i:Nat} (h:i<4):(15:Nat).testBit i=true:=by
 rcases (by omega:i=0∨i=1∨i=2∨i=3) with e | e | e | e <;> subst e <;> decide
theorem frQ_test {v:UInt8} {p:Fm} {i:Nat} (hi:i<4):(frB p &&& (15 ^^^ vBit v)).testBit i=((frB p).testBit i&&!decide (vI v=i)):=by
 rw [Nat.testBit_and,Nat.testBit_xor,test15 hi,vBit_test];simp
theorem ev_free (a:St):∀ {p:Fm},wfF p→∀ {e e':List Int},e.length=4→e'.length=4→(∀ i:Nat,i<4→(frB p).testBit i=true→e.getD i 0=e'.getD i 0)→ev a p e=ev a p e'
  | .leaf c vs,h,e,e',hl,hl',hfr=>by
    obtain ⟨hop,h0,h1,h2⟩:=h
    have key:∀ v∈vs,atV e v=atV e' v:=fun v hv=>by
      unfold atV
      exact hfr _ (vI_lt (h2 v hv)).1 ((vBits_test vs _).2 ⟨v,hv,rfl⟩)
    unfold ev
    by_cases e1:c=116
    · rw [if_pos e1,if_pos e1]
    · rw [if_neg e1,if_neg e1]
      by_cases e2:c=102
      · rw [if_pos e2,if_pos e2]
      · rw [if_neg e2,if_neg e2]
        by_cases e3:c=80
        · subst e3
          have hl1:vs.length=1:=h1
          rw [if_pos rfl,if_pos rfl,key (vs.getD 0 0) (by rw [getD_at (by omega)];exact List.getElem_mem _)]
        · rw [if_neg e3,if_neg e3]
          have hl2:vs.length=2:=by
            rw [h1]
            unfold isOp at hop
            rw [decide_eq_true_eq] at hop
            simp only [List.mem_cons,List.not_mem_nil,or_false] at hop
            rcases hop with rfl | rfl | rfl | rfl | rfl | rfl | rfl | rfl | rfl | rfl | rfl | rfl | rfl <;> first | rfl | exact absurd rfl e1 | exact absurd rfl e2 | exact absurd rfl e3 | exact absurd h0 (by decide)
          rw [key (vs.getD 0 0) (by rw [getD_at (by omega)];exact List.getElem_mem _),key (vs.getD 1 0) (by rw [getD_at (by omega)];exact List.getElem_mem _)]
  | .one c [] p,h,e,e',hl,hl',hfr=>by
    obtain ⟨hop,h0,h1,h2,h3⟩:=h
    have hc:c=33:=by
      have h4:arV c=0:=h1.symm
      unfold isOp at hop
      rw [decide_eq_true_eq] at hop
      simp only [List.mem_cons,List.not_mem_nil,or_false] at hop
      rcases hop with rfl | rfl | rfl | rfl | rfl | rfl | rfl | rfl | rfl | rfl | rfl | rfl | rfl <;> first | rfl | exact absurd h0 (by decide) | exact absurd h4 (by decide)
    subst hc
    unfold ev
    rw [if_pos rfl,if_pos rfl,ev_free a h3 hl hl' hfr]
  | .one c (v::vs) p,h,e,e',hl,hl',hfr=>by
    obtain ⟨hop,h0,h1,h2,h3⟩:=h
    have hv:=(vI_lt (h2 v (by simp))).1
    have key:∀ x:Int,ev a p (e.set (vI v) x)=ev a p (e'.set (vI v) x):=fun x=>by
      refine ev_free a h3 (by rw [List.length_set];exact hl) (by rw [List.length_set];exact hl') fun i hi ht=>?_
      by_cases ei:vI v=i
      · subst ei
        rw [List.getD_eq_getElem?_getD,List.getD_eq_getElem?_getD,List.getElem?_set_self (by omega),List.getElem?_set_self (by omega)]
      · rw [List.getD_eq_getElem?_getD,List.getD_eq_getElem?_getD,List.getElem?_set_ne ei,List.getElem?_set_ne ei,← List.getD_eq_getElem?_getD,← List.getD_eq_getElem?_getD]
        refine hfr i hi ?_
        show (frB p &&& (15 ^^^ vBit v)).testBit i=true
        rw [frQ_test hi,ht,decide_eq_false ei];rfl
    have hc:¬ c=33:=fun e=>by subst e;exact absurd h1 (by simp [arV])
    unfold ev
    rw [if_neg hc,if_neg hc]
    simp only [List.getD_cons_zero,key]
  | .two c p q,h,e,e',hl,hl',hfr=>by
    obtain ⟨_,_,_,h3,h4⟩:=h
    unfold ev
    rw [ev_free a h3 hl hl' fun i hi ht=>hfr i hi (by show (frB p ||| frB q).testBit i=true;rw [Nat.testBit_or,ht];rfl),ev_free a h4 hl hl' fun i hi ht=>hfr i hi (by show (frB p ||| frB q).testBit i=true;rw [Nat.testBit_or,ht,Bool.or_true])]
end Go.Wk
namespace Go.Wk
open Go.RowKit
def EnvOk (e:List Int):Prop:=e.length=4∧∀ i:Nat,i<4→0≤e.getD i 0∧e.getD i 0<8
def kSum (b:Nat) (e:List Int):Nat→Nat
 | 0=>0
 | i+1=>kSum b e i+(if b.testBit i then (e.getD i 0).toNat*8 ^ i else 0)
theorem kSum_lt {b:Nat} {e:List Int} (h:EnvOk e):∀ {i:Nat},i≤4→kSum b e i<8 ^ i
 | 0,_=>Nat.one_pos
 | i+1,hi=>by
  have h1:=kSum_lt (b:=b) h (i:=i) (by omega)
  have h2:=h.2 i (by omega)
  have h3:(e.getD i 0).toNat*8 ^ i≤7*8 ^ i:=Nat.mul_le_mul_right _ (by omega)
  unfold kSum
  rw [Nat.pow_succ]
  split <;> omega
theorem kSum_inj {b:Nat} {e e':List Int} (h:EnvOk e) (h':EnvOk e'):∀ {n:Nat},n≤4→kSum b e n=kSum b e' n→∀ i:Nat,i<n→b.testBit i=true→e.getD i 0=e'.getD i 0
  | 0,_,_,i,hi,_=>by omega
  | n+1,hn,he,i,hi,ht=>by
    have h1:=kSum_lt (b:=b) h (i:=n) (by omega)
    have h1':=kSum_lt (b:=b) h' (i:=n) (by omega)
    unfold kSum at he
    by_cases hb:b.testBit n=true
    · rw [if_pos hb,if_pos hb] at he
      have hd:(e.getD n 0).toNat=(e'.getD n 0).toNat:=by
        have e1:=congrArg (fun z=>z / 8 ^ n) he
        rwa [Nat.add_mul_div_right _ _ (by omega),Nat.add_mul_div_right _ _ (by omega),Nat.div_eq_of_lt h1,Nat.div_eq_of_lt h1',Nat.zero_add,Nat.zero_add] at e1
      rw [hd] at he
      rcases Nat.lt_or_ge i n with h2 | h2
      · exact kSum_inj h h' (by omega) (by omega) i h2 ht
      · obtain rfl:i=n:=by omega
        have h3:=h.2 i (by omega)
        have h4:=h'.2 i (by omega)
        omega
    · rw [if_neg hb,if_neg hb] at he
      rcases Nat.lt_or_ge i n with h2 | h2
      · exact kSum_inj h h' (by omega) (by omega) i h2 ht
      · obtain rfl:i=n:=by omega
        exact absurd ht hb
theorem kSum_or {b:Nat} {e:List Int} (h:EnvOk e) {i:Nat} (hi:i<4) (hb:b.testBit i=true):kSum b e i ||| ((e.getD i 0).toNat*8 ^ i)=kSum b e (i+1):=by
 have h1:=kSum_lt (b:=b) h (i:=i) (by omega)
 have e8:(8:Nat) ^ i=2 ^ (3*i):=by rw [Nat.pow_mul]
 have h2:=Nat.two_pow_add_eq_or_of_lt (i:=3*i) (b:=kSum b e i) (by rw [← e8];exact h1) ((e.getD i 0).toNat)
 rw [show kSum b e (i+1)=kSum b e i+(if b.testBit i then (e.getD i 0).toNat*8 ^ i else 0) from rfl,if_pos hb,e8,Nat.or_comm,Nat.mul_comm,← h2]
 omega
def keyF (p:Fm) (e:List Int):Int:=(kSum (frB p) e 4:Int)
theorem key_ev {a:St} {p:Fm} (hp:wfF p) {e e':List Int} (h:EnvOk e) (h':EnvOk e') (hk:keyF p e=keyF p e'):ev a p e=ev a p e' :=
 ev_free a hp h.1 h'.1 (kSum_inj h h' (Nat.le_refl 4) (by unfold keyF at hk;omega))
end Go.Wk
namespace Go.Wk
open Go.RowKit
def chI (f:List UInt8) (i:Int):Int:=((f.getD i.toNat 0).toNat:Int)
def varI (f:List UInt8) (i:Int):Int:=if 0≤i∧i<(f.length:Int)∧isV (f.getD i.toNat 0)=true then (vI (f.getD i.toNat 0):Int) else -1
theorem u8_of {c:UInt8} {n:Nat} (_hn:n<256) (h:(c.toNat:Int)=(n:Int)):c=UInt8.ofNat n:=by
 have:c.toNat=n:=by omega
 rw [← this];simp
theorem drop_at {f:List UInt8} {i:Nat} (h:i<f.length):f.drop i=f.getD i 0::f.drop (i+1):=by
 rw [getD_at h];exact List.drop_eq_getElem_cons h
theorem varI_neg {f:List UInt8} {i:Int}:varI f i<0↔¬ (0≤i∧i<(f.length:Int)∧isV (f.getD i.toNat 0)=true):=by
  unfold varI
  split
  · rename_i h;exact ⟨fun e=>by omega,fun e=>absurd h e⟩
  · rename_i h;exact ⟨fun _=>h,fun _=>by decide⟩
theorem takeV_one (f:List UInt8) (i:Nat):takeV 1 (f.drop i)=if varI f (i:Int)<0 then none else some ([f.getD i 0],f.drop (i+1)):=by
  rcases Nat.lt_or_ge i f.length with h | h
  · rw [drop_at h]
    unfold takeV takeV
    by_cases hv:isV (f.getD i 0)=true
    · rw [if_pos hv,if_neg (by rw [varI_neg];exact fun e=>e ⟨by omega,by omega,by simpa using hv⟩)]
    · rw [if_neg hv,if_pos (by rw [varI_neg];exact fun e=>hv (by simpa using e.2.2))]
  · rw [List.drop_of_length_le h,if_pos (by rw [varI_neg];omega)];rfl
theorem takeV_two (f:List UInt8) (i:Nat):takeV 2 (f.drop i)=if varI f (i:Int)<0∨varI f ((i:Int)+1)<0 then none else some ([f.getD i 0,f.getD (i+1) 0],f.drop (i+2)):=by
  rcases Nat.lt_or_ge i f.length with h | h
  · rw [drop_at h]
    unfold takeV
    by_cases hv:isV (f.getD i 0)=true
    · have h0:¬ varI f (i:Int)<0:=by rw [varI_neg];exact fun e=>e ⟨by omega,by omega,by simpa using hv⟩
      rw [if_pos hv,takeV_one]
      by_cases h1:varI f ((i+1:Nat):Int)<0
      · rw [if_pos h1,if_pos (.inr (by simpa using h1))]
      · rw [if_neg h1,if_neg (fun e=>e.elim h0 (fun e=>h1 (by simpa using e)))]
    · rw [if_neg hv,if_pos (.inl (by rw [varI_neg];exact fun e=>hv (by simpa using e.2.2)))]
  · rw [List.drop_of_length_le h,if_pos (.inl (by rw [varI_neg];omega))];rfl
theorem parse_rest {f r:List UInt8} {i:Nat} {p:Fm} (h:parse (f.drop i)=some (p,r)):r=f.drop (f.length - r.length)∧i<f.length - r.length∧r.length≤f.length:=by
 have h1:=parse_text _ (Nat.le_refl _) h
 have h2:=parse_len h
 rw [List.length_drop] at h2
 refine ⟨?_,by omega,by omega⟩
 have h3:f=f.take i++(fT p++r):=by rw [← h1];exact (List.take_append_drop i f).symm
 have h4:f.length=(f.take i).length+((fT p).length+r.length):=by
  have:=congrArg List.length h3
  rwa [List.length_append,List.length_append] at this
 have h5:f.drop (f.length - r.length)=(f.take i++(fT p++r)).drop ((f.take i++fT p).length):=by
  rw [← h3]
  congr 1
  rw [List.length_append];omega
 rw [h5,← List.append_assoc]
 exact (List.drop_left).symm
theorem endI_some {f r:List UInt8} {i:Nat} {p:Fm} (h:parse (f.drop i)=some (p,r)):endI f (i:Int)=((f.length - r.length:Nat):Int):=by
 have:=parse_rest h
 unfold endI
 rw [if_pos (by omega),Int.toNat_natCast,h]
 dsimp only
 omega
theorem endI_none {f:List UInt8} {i:Nat} (h:parse (f.drop i)=none):endI f (i:Int) = -1:=by
 unfold endI
 rw [if_pos (by omega),Int.toNat_natCast,h]
theorem endI_neg {f:List UInt8} {i:Int} (h:i<0):endI f i = -1:=by unfold endI;rw [if_neg (by omega)]
theorem endI_out {f:List UInt8} {i:Int} (h:(f.length:Int)≤i):endI f i = -1:=by
  unfold endI
  split
  · rw [List.drop_of_length_le (by omega)];rfl
  · rfl
theorem endI_ahead {f:List UInt8} {i:Int}:endI f i = -1∨(0≤i∧i<endI f i∧endI f i≤(f.length:Int)):=by
  by_cases h:i<0
  · exact .inl (endI_neg h)
  · replace h:0≤i:=by omega
    obtain ⟨n,rfl⟩:∃ n:Nat,i=n:=⟨i.toNat,by omega⟩
    cases e:parse (f.drop n) with
    | none=>exact .inl (endI_none e)
    | some x =>
      obtain ⟨p,r⟩:=x
      have:=parse_rest e
      rw [endI_some e]
      exact .inr ⟨h,by omega,by omega⟩
def endC (f:List UInt8) (i:Int):Int :=
 if chI f i=116∨chI f i=102 then i+1
 else if chI f i=80 then (if varI f (i+1)<0 then -1 else i+2)
 else if chI f i=61∨chI f i=69 then (if varI f (i+1)<0∨varI f (i+2)<0 then -1 else i+3)
 else if chI f i=33 then endI f (i+1)
 else if chI f i=38∨chI f i=124 then endI f (endI f (i+1))
 else if chI f i=65∨chI f i=83∨chI f i=50∨chI f i=51∨chI f i=52 then (if varI f (i+1)<0 then -1 else endI f (i+2))
 else -1
theorem parse_leaf {f:List UInt8} {n:Nat} (hn:n<f.length) (ho:isOp (f.getD n 0)=true) (hp:arP (f.getD n 0)=0) {vs:List UInt8} {k:Nat} (ht:takeV (arV (f.getD n 0)) (f.drop (n+1))=some (vs,f.drop k)) (hk:k≤f.length):endI f (n:Int)=(k:Int):=by
 have e:parse (f.drop n)=some (.leaf (f.getD n 0) vs,f.drop k):=by rw [drop_at hn,parse_cons,if_pos ho,ht];dsimp only;rw [if_pos hp]
 rw [endI_some e,List.length_drop];omega
theorem parse_bad {f:List UInt8} {n:Nat} (hn:n<f.length) (h:isOp (f.getD n 0)=false∨takeV (arV (f.getD n 0)) (f.drop (n+1))=none):endI f (n:Int) = -1:=by
  refine endI_none ?_
  rw [drop_at hn,parse_cons]
  rcases h with h | h
  · rw [if_neg (by rw [h];decide)]
  · split
    · rw [h]
    · rfl
theorem parse_one {f:List UInt8} {n:Nat} (hn:n<f.length) (ho:isOp (f.getD n 0)=true) (hp:arP (f.getD n 0)=1) {vs:List UInt8} {k:Nat} (ht:takeV (arV (f.getD n 0)) (f.drop (n+1))=some (vs,f.drop k)):endI f (n:Int)=endI f (k:Int):=by
 cases e:parse (f.drop k) with
 | none =>
  rw [endI_none e]
  refine endI_none ?_
  rw [drop_at hn,parse_cons,if_pos ho,ht]
  dsimp only
  rw [if_neg (by omega),if_pos hp,e]
 | some x =>
  obtain ⟨p,r⟩:=x
  rw [endI_some e]
  refine endI_some (p:=.one (f.getD n 0) vs p) ?_
  rw [drop_at hn,parse_cons,if_pos ho,ht]
  dsimp only
  rw [if_neg (by omega),if_pos hp,e]
theorem parse_two {f:List UInt8} {n:Nat} (hn:n<f.length) (ho:isOp (f.getD n 0)=true) (hp:arP (f.getD n 0)=2) (hv:arV (f.getD n 0)=0):endI f (n:Int)=endI f (endI f ((n:Int)+1)):=by
 have hc:((n:Int)+1)=((n+1:Nat):Int):=by omega
 rw [hc]
 cases e:parse (f.drop (n+1)) with
 | none =>
  have hA:endI f ((n+1:Nat):Int) = -1:=endI_none e
  rw [hA]
  have hB:endI f (-1) = -1:=endI_neg (by decide)
  rw [hB]
  refine endI_none ?_
  rw [drop_at hn,parse_cons,if_pos ho,hv]
  dsimp only [takeV]
  rw [if_neg (by omega),if_neg (by omega),e]
 | some x =>
  obtain ⟨p,r⟩:=x
  have h1:=parse_rest e
  have hA:endI f ((n+1:Nat):Int)=((f.length - r.length:Nat):Int):=endI_some e
  rw [hA]
  cases e2:parse r with
  | none =>
   have hB:endI f ((f.length - r.length:Nat):Int) = -1:=endI_none (by rw [← h1.1];exact e2)
   rw [hB]
   refine endI_none ?_
   rw [drop_at hn,parse_cons,if_pos ho,hv]
   dsimp only [takeV]
   rw [if_neg (by omega),if_neg (by omega),e]
   dsimp only
   rw [e2]
  | some y =>
   obtain ⟨q,r2⟩:=y
   have hB:endI f ((f.length - r.length:Nat):Int)=((f.length - r2.length:Nat):Int):=endI_some (p:=q) (by rw [← h1.1];exact e2)
   rw [hB]
   refine endI_some (p:=.two (f.getD n 0) p q) ?_
   rw [drop_at hn,parse_cons,if_pos ho,hv]
   dsimp only [takeV]
   rw [if_neg (by omega),if_neg (by omega),e]
   dsimp only
   rw [e2]
theorem endI_case {f:List UInt8} {i:Int} (h0:0≤i) (hl:i<(f.length:Int)):endI f i=endC f i:=by
  obtain ⟨n,rfl⟩:∃ n:Nat,i=n:=⟨i.toNat,by omega⟩
  have hn:n<f.length:=by omega
  have hch:chI f (n:Int)=((f.getD n 0).toNat:Int):=by unfold chI;rw [Int.toNat_natCast]
  have e1:((n:Int)+1)=((n+1:Nat):Int):=by omega
  have e2:((n:Int)+2)=((n+2:Nat):Int):=by omega
  have c_of:∀ m:Nat,m<256→chI f (n:Int)=(m:Int)→f.getD n 0=UInt8.ofNat m:=fun m hm h=>u8_of hm (by rw [← hch];exact h)
  unfold endC
  by_cases c1:chI f (n:Int)=116∨chI f (n:Int)=102
  · rw [if_pos c1,e1]
    rcases c1 with c | c
    · have hc:=c_of 116 (by decide) c
      exact parse_leaf hn (by rw [hc];rfl) (by rw [hc];rfl) (vs:=[]) (k:=n+1) (by rw [hc];rfl) (by omega)
    · have hc:=c_of 102 (by decide) c
      exact parse_leaf hn (by rw [hc];rfl) (by rw [hc];rfl) (vs:=[]) (k:=n+1) (by rw [hc];rfl) (by omega)
  · rw [if_neg c1]
    by_cases c2:chI f (n:Int)=80
    · rw [if_pos c2]
      have hc:=c_of 80 (by decide) c2
      have ht:=takeV_one f (n+1)
      rw [← e1] at ht
      by_cases hv:varI f ((n:Int)+1)<0
      · rw [if_pos hv] at ht ⊢
        exact parse_bad hn (.inr (by rw [hc];exact ht))
      · rw [if_neg hv] at ht ⊢
        rw [varI_neg,Classical.not_not] at hv
        rw [e2]
        exact parse_leaf hn (by rw [hc];rfl) (by rw [hc];rfl) (k:=n+2) (by rw [hc];exact ht) (by omega)
    · rw [if_neg c2]
      by_cases c3:chI f (n:Int)=61∨chI f (n:Int)=69
      · rw [if_pos c3]
        have hc:(f.getD n 0)=61∨(f.getD n 0)=69:=c3.elim (fun c=>.inl (c_of 61 (by decide) c)) (fun c=>.inr (c_of 69 (by decide) c))
        have ho:isOp (f.getD n 0)=true∧arP (f.getD n 0)=0∧arV (f.getD n 0)=2:=by rcases hc with e | e <;> rw [e] <;> exact ⟨rfl,rfl,rfl⟩
        have ht:=takeV_two f (n+1)
        rw [← e1,show (n:Int)+1+1=(n:Int)+2 from by omega] at ht
        by_cases hv:varI f ((n:Int)+1)<0∨varI f ((n:Int)+2)<0
        · rw [if_pos hv] at ht ⊢
          exact parse_bad hn (.inr (by rw [ho.2.2];exact ht))
        · rw [if_neg hv] at ht ⊢
          have h9:¬ varI f ((n:Int)+2)<0:=fun e=>hv (.inr e)
          rw [varI_neg,Classical.not_not] at h9
          rw [show (n:Int)+3=((n+3:Nat):Int) from by omega]
          exact parse_leaf hn ho.1 ho.2.1 (k:=n+3) (by rw [ho.2.2];exact ht) (by omega)
      · rw [if_neg c3]
        by_cases c4:chI f (n:Int)=33
        · rw [if_pos c4,e1]
          have hc:=c_of 33 (by decide) c4
          exact parse_one hn (by rw [hc];rfl) (by rw [hc];rfl) (vs:=[]) (by rw [hc];rfl)
        · rw [if_neg c4]
          by_cases c5:chI f (n:Int)=38∨chI f (n:Int)=124
          · rw [if_pos c5]
            have hc:(f.getD n 0)=38∨(f.getD n 0)=124:=c5.elim (fun c=>.inl (c_of 38 (by decide) c)) (fun c=>.inr (c_of 124 (by decide) c))
            have ho:isOp (f.getD n 0)=true∧arP (f.getD n 0)=2∧arV (f.getD n 0)=0:=by rcases hc with e | e <;> rw [e] <;> exact ⟨rfl,rfl,rfl⟩
            exact parse_two hn ho.1 ho.2.1 ho.2.2
          · rw [if_neg c5]
            by_cases c6:chI f (n:Int)=65∨chI f (n:Int)=83∨chI f (n:Int)=50∨chI f (n:Int)=51∨chI f (n:Int)=52
            · rw [if_pos c6]
              have hc:(f.getD n 0)=65∨(f.getD n 0)=83∨(f.getD n 0)=50∨(f.getD n 0)=51∨(f.getD n 0)=52:=by
                rcases c6 with c | c | c | c | c
                · exact .inl (c_of 65 (by decide) c)
                · exact .inr (.inl (c_of 83 (by decide) c))
                · exact .inr (.inr (.inl (c_of 50 (by decide) c)))
                · exact .inr (.inr (.inr (.inl (c_of 51 (by decide) c))))
                · exact .inr (.inr (.inr (.inr (c_of 52 (by decide) c))))
              have ho:isOp (f.getD n 0)=true∧arP (f.getD n 0)=1∧arV (f.getD n 0)=1:=by rcases hc with e | e | e | e | e <;> rw [e] <;> exact ⟨rfl,rfl,rfl⟩
              have ht:=takeV_one f (n+1)
              rw [← e1] at ht
              by_cases hv:varI f ((n:Int)+1)<0
              · rw [if_pos hv] at ht ⊢
                exact parse_bad hn (.inr (by rw [ho.2.2];exact ht))
              · rw [if_neg hv] at ht ⊢
                rw [e2]
                exact parse_one hn ho.1 ho.2.1 (by rw [ho.2.2];exact ht)
            · rw [if_neg c6]
              refine parse_bad hn (.inl ?_)
              rw [hch] at c1 c2 c3 c4 c5 c6
              cases e:isOp (f.getD n 0) with
              | false=>rfl
              | true =>
                unfold isOp at e
                rw [decide_eq_true_eq] at e
                simp only [List.mem_cons,List.not_mem_nil,or_false] at e
                rcases e with e | e | e | e | e | e | e | e | e | e | e | e | e <;> rw [e] at c1 c2 c3 c4 c5 c6 <;> simp at c1 c2 c3 c4 c5 c6
end Go.Wk
namespace Go.Wk
open Go.RowKit
def Pa (f:List UInt8) (n:Nat) (p:Fm) (e:Nat):Prop:=parse (f.drop n)=some (p,f.drop e)∧n<e∧e≤f.length
theorem Pa.of {f r:List UInt8} {n:Nat} {p:Fm} (h:parse (f.drop n)=some (p,r)):Pa f n p (f.length - r.length)∧r=f.drop (f.length - r.length):=by
 obtain ⟨h1,h2,_⟩:=parse_rest h
 exact ⟨⟨by rw [h,← h1],h2,by omega⟩,h1⟩
theorem Pa.lt {f:List UInt8} {n e:Nat} {p:Fm} (h:Pa f n p e):n<f.length:=by have:=h.2;omega
theorem Pa.endI {f:List UInt8} {n e:Nat} {p:Fm} (h:Pa f n p e):endI f (n:Int)=(e:Int):=by
 have:=h.2.2
 rw [endI_some h.1,List.length_drop];omega
theorem Pa.wf {f:List UInt8} {n e:Nat} {p:Fm} (h:Pa f n p e):wfF p:=parse_wf _ (Nat.le_refl _) h.1
theorem Pa.same {f:List UInt8} {n e e':Nat} {p p':Fm} (h:Pa f n p e) (h':Pa f n p' e'):p=p'∧e=e':=by
 have h1:=h.1.symm.trans h'.1
 injection h1 with h1;injection h1 with h1 h2
 have h3:=congrArg List.length h2
 rw [List.length_drop,List.length_drop] at h3
 have:=h.2.2;have:=h'.2.2
 exact ⟨h1,by omega⟩
theorem drop_inj {f:List UInt8} {e k:Nat} (h:f.drop e=f.drop k) (h1:e≤f.length) (h2:k≤f.length):e=k:=by
 have h3:=congrArg List.length h
 rw [List.length_drop,List.length_drop] at h3;omega
theorem Pa.cons {f:List UInt8} {n e:Nat} {p:Fm} (h:Pa f n p e):isOp (f.getD n 0)=true∧∃ vs k,takeV (arV (f.getD n 0)) (f.drop (n+1))=some (vs,f.drop k)∧n<k∧k≤f.length∧vs.length=arV (f.getD n 0)∧k=n+1+arV (f.getD n 0) ∧
    ((arP (f.getD n 0)=0∧p=.leaf (f.getD n 0) vs∧e=k)∨(arP (f.getD n 0)=1∧∃ q,Pa f k q e∧p=.one (f.getD n 0) vs q) ∨
     (arP (f.getD n 0) ≠ 0∧arP (f.getD n 0) ≠ 1∧∃ q m q2,Pa f k q m∧Pa f m q2 e∧p=.two (f.getD n 0) q q2)):=by
  have hn:=h.lt
  obtain ⟨h1,h2,h3⟩:=h
  rw [drop_at hn,parse_cons] at h1
  split at h1
  · rename_i ho
    refine ⟨ho,?_⟩
    split at h1
    · cases h1
    · rename_i vs r et
      obtain ⟨h4,h5,h6,_⟩:=takeV_len et
      rw [List.length_drop] at h5
      have hr:r=f.drop (n+1+vs.length):=by
        rw [← List.drop_drop,h6,List.drop_left]
      have hk:n+1+vs.length≤f.length:=by omega
      refine ⟨vs,n+1+vs.length,by rw [et,hr],by omega,hk,h4,by omega,?_⟩
      by_cases c0:arP (f.getD n 0)=0
      · rw [if_pos c0] at h1
        injection h1 with h1;injection h1 with h7 h8
        exact .inl ⟨c0,h7.symm,drop_inj (h8.symm.trans hr) h3 hk⟩
      · rw [if_neg c0] at h1
        by_cases c1:arP (f.getD n 0)=1
        · rw [if_pos c1] at h1
          split at h1
          · rename_i q r' e2
            injection h1 with h1;injection h1 with h7 h8;subst h8
            have h9:=parse_len e2
            rw [hr] at e2
            refine .inr (.inl ⟨c1,q,⟨e2,?_,h3⟩,h7.symm⟩)
            rw [List.length_drop] at h9;omega
          · cases h1
        · rw [if_neg c1] at h1
          split at h1
          · rename_i q r' e2
            split at h1
            · rename_i q2 r2 e3
              injection h1 with h1;injection h1 with h7 h8;subst h8
              have h9:=parse_len e3
              rw [hr] at e2
              obtain ⟨h10,h11⟩:=Pa.of e2
              refine .inr (.inr ⟨c0,c1,q,_,q2,h10,⟨by rw [← h11];exact e3,?_,h3⟩,h7.symm⟩)
              rw [List.length_drop] at h9;omega
            · cases h1
          · cases h1
  · cases h1
theorem Pa.leaf0 {f:List UInt8} {n e:Nat} {p:Fm} (h:Pa f n p e) (hc:f.getD n 0=116∨f.getD n 0=102):p=.leaf (f.getD n 0) []∧e=n+1:=by
  have hv:arV (f.getD n 0)=0∧arP (f.getD n 0)=0:=by rcases hc with c | c <;> rw [c] <;> exact ⟨rfl,rfl⟩
  obtain ⟨_,vs,k,_,_,_,h4,h5,h6⟩:=h.cons
  obtain rfl:vs=[]:=List.length_eq_zero_iff.1 (by omega)
  rcases h6 with ⟨_,h7,h8⟩ | ⟨h7,_⟩ | ⟨h7,_⟩
  · exact ⟨h7,by omega⟩
  · omega
  · exact absurd hv.2 h7
theorem Pa.leaf1 {f:List UInt8} {n e:Nat} {p:Fm} (h:Pa f n p e) (hc:f.getD n 0=80):n+1<f.length∧isV (f.getD (n+1) 0)=true∧p=.leaf 80 [f.getD (n+1) 0]∧e=n+2:=by
  obtain ⟨_,vs,k,h1,h2,h3,h4,h5,h6⟩:=h.cons
  rw [hc] at h1 h4 h5 h6
  rw [show arV 80=1 from rfl] at h1 h5
  rw [takeV_one] at h1
  split at h1
  · cases h1
  · injection h1 with h1;injection h1 with h7 h8
    rename_i hv
    rw [varI_neg,Classical.not_not,Int.toNat_natCast] at hv
    subst h7
    rcases h6 with ⟨_,h7,h8⟩ | ⟨h7,_⟩ | ⟨h7,_⟩
    · exact ⟨by omega,hv.2.2,h7,by omega⟩
    · exact absurd h7 (by decide)
    · exact absurd (show arP 80=0 from rfl) h7
theorem Pa.leaf2 {f:List UInt8} {n e:Nat} {p:Fm} (h:Pa f n p e) (hc:f.getD n 0=61∨f.getD n 0=69):n+2<f.length∧isV (f.getD (n+1) 0)=true∧isV (f.getD (n+2) 0)=true∧p=.leaf (f.getD n 0) [f.getD (n+1) 0,f.getD (n+2) 0]∧e=n+3:=by
  have hv:arV (f.getD n 0)=2∧arP (f.getD n 0)=0:=by rcases hc with c | c <;> rw [c] <;> exact ⟨rfl,rfl⟩
  obtain ⟨_,vs,k,h1,h2,h3,h4,h5,h6⟩:=h.cons
  rw [hv.1] at h1 h5
  rw [takeV_two] at h1
  split at h1
  · cases h1
  · injection h1 with h1;injection h1 with h7 h8
    rename_i hw
    rw [not_or,varI_neg,varI_neg,Classical.not_not,Classical.not_not,Int.toNat_natCast] at hw
    obtain ⟨⟨_,_,hw1⟩,_,hw3,hw2⟩:=hw
    have e2:((n+1:Nat):Int)+1=((n+2:Nat):Int):=by omega
    rw [e2,Int.toNat_natCast] at hw2
    subst h7
    rcases h6 with ⟨_,h7,h8⟩ | ⟨h7,_⟩ | ⟨h7,_⟩
    · exact ⟨by omega,hw1,hw2,h7,by omega⟩
    · omega
    · exact absurd hv.2 h7
theorem Pa.one0 {f:List UInt8} {n e:Nat} {p:Fm} (h:Pa f n p e) (hc:f.getD n 0=33):∃ q,Pa f (n+1) q e∧p=.one 33 [] q:=by
  obtain ⟨_,vs,k,h1,h2,h3,h4,h5,h6⟩:=h.cons
  rw [hc] at h1 h4 h5 h6
  obtain rfl:vs=[]:=List.length_eq_zero_iff.1 h4
  rcases h6 with ⟨h7,_⟩ | ⟨_,q,h7,h8⟩ | ⟨_,h7,_⟩
  · exact absurd h7 (by decide)
  · obtain rfl:k=n+1:=h5
    exact ⟨q,h7,h8⟩
  · exact absurd (show arP 33=1 from rfl) h7
theorem Pa.two0 {f:List UInt8} {n e:Nat} {p:Fm} (h:Pa f n p e) (hc:f.getD n 0=38∨f.getD n 0=124):∃ q m q2,Pa f (n+1) q m∧Pa f m q2 e∧p=.two (f.getD n 0) q q2:=by
  have hv:arV (f.getD n 0)=0∧arP (f.getD n 0)=2:=by rcases hc with c | c <;> rw [c] <;> exact ⟨rfl,rfl⟩
  obtain ⟨_,vs,k,h1,h2,h3,h4,h5,h6⟩:=h.cons
  rcases h6 with ⟨h7,_⟩ | ⟨h7,_⟩ | ⟨_,_,q,m,q2,h7,h8,h9⟩
  · omega
  · omega
  · obtain rfl:k=n+1:=by omega
    exact ⟨q,m,q2,h7,h8,h9⟩
theorem Pa.one1 {f:List UInt8} {n e:Nat} {p:Fm} (h:Pa f n p e) (hc:f.getD n 0=65∨f.getD n 0=83∨f.getD n 0=50∨f.getD n 0=51∨f.getD n 0=52):n+1<f.length∧isV (f.getD (n+1) 0)=true∧∃ q,Pa f (n+2) q e∧p=.one (f.getD n 0) [f.getD (n+1) 0] q:=by
  have hv:arV (f.getD n 0)=1∧arP (f.getD n 0)=1:=by rcases hc with c | c | c | c | c <;> rw [c] <;> exact ⟨rfl,rfl⟩
  obtain ⟨_,vs,k,h1,h2,h3,h4,h5,h6⟩:=h.cons
  rw [hv.1] at h1 h5
  rw [takeV_one] at h1
  split at h1
  · cases h1
  · injection h1 with h1;injection h1 with h7 h8
    rename_i hw
    rw [varI_neg,Classical.not_not,Int.toNat_natCast] at hw
    subst h7
    rcases h6 with ⟨h7,_⟩ | ⟨_,q,h9,h10⟩ | ⟨_,h7,_⟩
    · omega
    · obtain rfl:k=n+2:=by omega
      exact ⟨by omega,hw.2.2,q,h9,h10⟩
    · exact absurd hv.2 h7
theorem Pa.other {f:List UInt8} {n e:Nat} {p:Fm} (h:Pa f n p e):(f.getD n 0=116∨f.getD n 0=102)∨f.getD n 0=80∨(f.getD n 0=61∨f.getD n 0=69)∨f.getD n 0=33∨(f.getD n 0=38∨f.getD n 0=124)∨(f.getD n 0=65∨f.getD n 0=83∨f.getD n 0=50∨f.getD n 0=51∨f.getD n 0=52):=by
 have h0:=h.cons.1
 unfold isOp at h0
 rw [decide_eq_true_eq] at h0
 simp only [List.mem_cons,List.not_mem_nil,or_false] at h0
 rcases h0 with c | c | c | c | c | c | c | c | c | c | c | c | c <;> rw [c] <;> simp
theorem varI_of {f:List UInt8} {i:Int} (h0:0≤i) (h1:i<(f.length:Int)) (hv:isV (f.getD i.toNat 0)=true):varI f i=(vI (f.getD i.toNat 0):Int)∧vI (f.getD i.toNat 0)<4:=by
 unfold varI
 rw [if_pos ⟨h0,h1,hv⟩]
 exact ⟨rfl,(vI_lt hv).1⟩
theorem varI_nat {f:List UInt8} {n:Nat} (h1:n<f.length) (hv:isV (f.getD n 0)=true):varI f (n:Int)=(vI (f.getD n 0):Int)∧vI (f.getD n 0)<4:=by
 have:=varI_of (f:=f) (i:=(n:Int)) (by omega) (by omega) (by simpa using hv)
 simpa using this
end Go.Wk
namespace Go.Wk
open Go.RowKit
section
variable {P:Program} {n:Nat} {C:World→Prop} {e:Env} {o:Oper}
theorem bits_nat {op:BinOp} {f:BitVec 64→BitVec 64→BitVec 64} {g:Nat→Nat→Nat} {a b:Nat} (ha:a<4611686018427387904) (hb:b<4611686018427387904) (hf:∀ x y:BitVec 64,x.toNat=a→y.toNat=b→(f x y).toNat=g a b) (hg:g a b<4611686018427387904) (h:bits op .i64 (a:Int) (b:Int)=IntKind.i64.wrap ((f (BitVec.ofInt 64 (a:Int)) (BitVec.ofInt 64 (b:Int))).toNat:Int)):bits op .i64 (a:Int) (b:Int)=(g a b:Int):=by
 rw [h,hf _ _ (by rw [BitVec.toNat_ofInt];omega) (by rw [BitVec.toNat_ofInt];omega),IntWalk.i64_in _ (by omega)]
theorem or_lt62 {a b:Nat} (ha:a<4611686018427387904) (hb:b<4611686018427387904):a ||| b<4611686018427387904:=Nat.or_lt_two_pow (n:=62) ha hb
theorem OpQ.or {t t':TypeId} {x y:Operand} {a b:Nat} (h:o.op=.binOp .or t x y t') (hx:opd e x=some (.int .i64 (a:Int))) (hy:opd e y=some (.int .i64 (b:Int))) (ha:a<4611686018427387904) (hb:b<4611686018427387904):OpQ P n C e o (.int .i64 ((a ||| b:Nat):Int)):=OpQ.val fun A hf w=>by
  unfold execOp;rw [h];simp only [hf.opd hx,hf.opd hy]
  have:=bits_nat (op:=.or) (f:=(· ||| ·)) (g:=(· ||| ·)) ha hb (fun x y h1 h2=>by rw [BitVec.toNat_or,h1,h2]) (or_lt62 ha hb) rfl
  simp [go_sem,this]
theorem OpQ.and {t t':TypeId} {x y:Operand} {a b:Nat} (h:o.op=.binOp .and t x y t') (hx:opd e x=some (.int .i64 (a:Int))) (hy:opd e y=some (.int .i64 (b:Int))) (ha:a<4611686018427387904) (hb:b<4611686018427387904):OpQ P n C e o (.int .i64 ((a &&& b:Nat):Int)):=OpQ.val fun A hf w=>by
  unfold execOp;rw [h];simp only [hf.opd hx,hf.opd hy]
  have:=bits_nat (op:=.and) (f:=(· &&& ·)) (g:=(· &&& ·)) ha hb (fun x y h1 h2=>by rw [BitVec.toNat_and,h1,h2]) (Nat.lt_of_le_of_lt Nat.and_le_left ha) rfl
  simp [go_sem,this]
theorem strike16:∀ a b:Fin 16,bits .andNot .i64 (a.val:Int) (b.val:Int)=((a.val &&& (15 ^^^ b.val):Nat):Int):=by decide
theorem OpQ.strike {t t':TypeId} {x y:Operand} {a b:Nat} (h:o.op=.binOp .andNot t x y t') (hx:opd e x=some (.int .i64 (a:Int))) (hy:opd e y=some (.int .i64 (b:Int))) (ha:a<16) (hb:b<16):OpQ P n C e o (.int .i64 ((a &&& (15 ^^^ b):Nat):Int)):=OpQ.val fun A hf w=>by
 unfold execOp;rw [h];simp only [hf.opd hx,hf.opd hy]
 have:=strike16 ⟨a,ha⟩ ⟨b,hb⟩
 simp only at this
 simp [go_sem,this]
theorem OpQ.shl {t t':TypeId} {x y:Operand} {k:IntKind} {a b:Nat} (h:o.op=.binOp .shl t x y t') (hx:opd e x=some (.int .i64 (a:Int))) (hy:opd e y=some (.int k (b:Int))) (hb:b≤62) (hr:a*2 ^ b<4611686018427387904):OpQ P n C e o (.int .i64 ((a*2 ^ b:Nat):Int)):=OpQ.val fun A hf w=>by
 unfold execOp;rw [h];simp only [hf.opd hx,hf.opd hy]
 have e2:IntKind.i64.wrap ((a:Int)*2 ^ b)=((a*2 ^ b:Nat):Int):=by
  have:((a:Int)*2 ^ b)=((a*2 ^ b:Nat):Int):=by rw [Int.natCast_mul,Int.natCast_pow];rfl
  rw [this,IntWalk.i64_in _ (by omega)]
 simp [go_sem,e2]
theorem OpQ.shr {t t':TypeId} {x y:Operand} {k:IntKind} {a b:Nat} (h:o.op=.binOp .shr t x y t') (hx:opd e x=some (.int .i64 (a:Int))) (hy:opd e y=some (.int k (b:Int))) (hb:b≤62):OpQ P n C e o (.int .i64 ((a / 2 ^ b:Nat):Int)):=OpQ.val fun A hf w=>by
 unfold execOp;rw [h];simp only [hf.opd hx,hf.opd hy]
 simp [go_sem]
end
end Go.Wk
namespace Go.Wk
abbrev jK := @OpQ.or
abbrev uF := @OpQ.shl
abbrev uQ := @OpQ.strike
end Go.Wk
namespace Go.Wk
open Go.RowKit
theorem varI_out {f:List UInt8} {i:Int} (h:i<0∨(f.length:Int)≤i):varI f i = -1:=by
 unfold varI;rw [if_neg (by omega)]
theorem find_abcd (c:UInt8):findS [97,98,99,100] (c.toNat:Int)=if isV c=true then (vI c:Int) else -1:=by
  by_cases h:isV c=true
  · rw [if_pos h]
    obtain ⟨h1,h2⟩:=vI_lt h
    rw [h2]
    rcases (by omega:vI c=0∨vI c=1∨vI c=2∨vI c=3) with e | e | e | e <;> rw [e] <;> decide
  · rw [if_neg h]
    refine findS_none fun i hi e=>h ?_
    unfold isV
    simp only [Bool.and_eq_true,decide_eq_true_eq]
    have hi4:i<4:=hi
    rcases (by omega:i=0∨i=1∨i=2∨i=3) with e1 | e1 | e1 | e1 <;> subst e1
    · have:(97:Int)=c.toNat:=e
      omega
    · have:(98:Int)=c.toNat:=e
      omega
    · have:(99:Int)=c.toNat:=e
      omega
    · have:(100:Int)=c.toNat:=e
      omega
theorem varI_find {f:List UInt8} {i:Int} (h0:0≤i) (h1:i<(f.length:Int)):findS [97,98,99,100] ((f.getD i.toNat 0).toNat:Int)=varI f i:=by
  rw [find_abcd]
  unfold varI
  by_cases h:isV (f.getD i.toNat 0)=true
  · rw [if_pos h,if_pos ⟨h0,h1,h⟩]
  · rw [if_neg h,if_neg fun e=>h e.2.2]
def endM (f:List UInt8) (j:Int):Nat:=if j<0 then 0 else ((f.length:Int)+4 - j).toNat
theorem endM_lt {f:List UInt8} {i j:Int} (h:0≤i∧i<(f.length:Int)) (hj:j<0∨i<j):endM f j<endM f i:=by
 unfold endM
 rw [if_neg (show ¬ i<0 by omega)]
 split <;> omega
theorem endI_gt {f:List UInt8} {i j:Int} (h:j<i):endI f i<0∨j<endI f i:=by
  rcases endI_ahead (f:=f) (i:=i) with e | e
  · exact .inl (by omega)
  · exact .inr (by omega)
theorem Pa.i0 {f:List UInt8} {n e:Nat} {p:Fm} (h:Pa f n p e) (hc:((f.getD (n:Int).toNat 0).toNat:Int)=116∨((f.getD (n:Int).toNat 0).toNat:Int)=102):p=.leaf (f.getD n 0) []∧e=n+1 :=
 h.leaf0 (hc.elim (fun c=>.inl (u8_of (n:=116) (by decide) c)) (fun c=>.inr (u8_of (n:=102) (by decide) c)))
theorem Pa.i1 {f:List UInt8} {n e:Nat} {p:Fm} (h:Pa f n p e) (hc:((f.getD (n:Int).toNat 0).toNat:Int)=80):n+1<f.length∧isV (f.getD (n+1) 0)=true∧p=.leaf 80 [f.getD (n+1) 0]∧e=n+2 :=
 h.leaf1 (u8_of (n:=80) (by decide) hc)
theorem Pa.i2 {f:List UInt8} {n e:Nat} {p:Fm} (h:Pa f n p e) (hc:((f.getD (n:Int).toNat 0).toNat:Int)=61∨((f.getD (n:Int).toNat 0).toNat:Int)=69):n+2<f.length∧isV (f.getD (n+1) 0)=true∧isV (f.getD (n+2) 0)=true∧p=.leaf (f.getD n 0) [f.getD (n+1) 0,f.getD (n+2) 0]∧e=n+3 :=
 h.leaf2 (hc.elim (fun c=>.inl (u8_of (n:=61) (by decide) c)) (fun c=>.inr (u8_of (n:=69) (by decide) c)))
theorem Pa.i3 {f:List UInt8} {n e:Nat} {p:Fm} (h:Pa f n p e) (hc:((f.getD (n:Int).toNat 0).toNat:Int)=33):∃ q,Pa f (n+1) q e∧p=.one 33 [] q :=
 h.one0 (u8_of (n:=33) (by decide) hc)
theorem Pa.i4 {f:List UInt8} {n e:Nat} {p:Fm} (h:Pa f n p e) (hc:((f.getD (n:Int).toNat 0).toNat:Int)=38∨((f.getD (n:Int).toNat 0).toNat:Int)=124):∃ q m q2,Pa f (n+1) q m∧Pa f m q2 e∧p=.two (f.getD n 0) q q2 :=
 h.two0 (hc.elim (fun c=>.inl (u8_of (n:=38) (by decide) c)) (fun c=>.inr (u8_of (n:=124) (by decide) c)))
def quI (c:Int):Prop:=c=65∨c=83∨c=50∨c=51∨c=52
instance (c:Int):Decidable (quI c):=by unfold quI;exact inferInstance
theorem quI_of {c:UInt8} (h:quI (c.toNat:Int)):c=65∨c=83∨c=50∨c=51∨c=52:=by
  rcases h with c | c | c | c | c
  · exact .inl (u8_of (n:=65) (by decide) c)
  · exact .inr (.inl (u8_of (n:=83) (by decide) c))
  · exact .inr (.inr (.inl (u8_of (n:=50) (by decide) c)))
  · exact .inr (.inr (.inr (.inl (u8_of (n:=51) (by decide) c))))
  · exact .inr (.inr (.inr (.inr (u8_of (n:=52) (by decide) c))))
theorem Pa.i5 {f:List UInt8} {n e:Nat} {p:Fm} (h:Pa f n p e) (hc:quI ((f.getD (n:Int).toNat 0).toNat:Int)):n+1<f.length∧isV (f.getD (n+1) 0)=true∧∃ q,Pa f (n+2) q e∧p=.one (f.getD n 0) [f.getD (n+1) 0] q :=
 h.one1 (quI_of hc)
theorem Pa.io {f:List UInt8} {n e:Nat} {p:Fm} (h:Pa f n p e):(((f.getD (n:Int).toNat 0).toNat:Int)=116∨((f.getD (n:Int).toNat 0).toNat:Int)=102)∨((f.getD (n:Int).toNat 0).toNat:Int)=80∨(((f.getD (n:Int).toNat 0).toNat:Int)=61∨((f.getD (n:Int).toNat 0).toNat:Int)=69)∨((f.getD (n:Int).toNat 0).toNat:Int)=33∨(((f.getD (n:Int).toNat 0).toNat:Int)=38∨((f.getD (n:Int).toNat 0).toNat:Int)=124)∨(((f.getD (n:Int).toNat 0).toNat:Int)=65∨((f.getD (n:Int).toNat 0).toNat:Int)=83∨((f.getD (n:Int).toNat 0).toNat:Int)=50∨((f.getD (n:Int).toNat 0).toNat:Int)=51∨((f.getD (n:Int).toNat 0).toNat:Int)=52):=by
 rw [Int.toNat_natCast]
 rcases h.other with (c | c) | c | (c | c) | c | (c | c) | c | c | c | c | c <;> rw [c] <;> decide
theorem find_quant (c:UInt8):decide ((0:Int)≤findS [65,83,50,51,52] (c.toNat:Int))=decide (quI (c.toNat:Int)):=by
  rw [decide_eq_decide]
  by_cases h:quI (c.toNat:Int)
  · rcases quI_of h with e | e | e | e | e <;> rw [e] <;> decide
  · rw [findS_none fun i hi e=>h ?_]
    · exact ⟨fun e=>absurd e (by decide),fun e=>absurd e h⟩
    · have hi4:i<5:=hi
      unfold quI
      rcases (by omega:i=0∨i=1∨i=2∨i=3∨i=4) with e1 | e1 | e1 | e1 | e1 <;> subst e1
      · exact .inl e.symm
      · exact .inr (.inl e.symm)
      · exact .inr (.inr (.inl e.symm))
      · exact .inr (.inr (.inr (.inl e.symm)))
      · exact .inr (.inr (.inr (.inr e.symm)))
theorem fre1 (c v:UInt8):(1*2 ^ vI v:Nat)=frB (.leaf c [v]):=by simp [frB,vBits,vBit]
theorem fre2 (c v u:UInt8):(1*2 ^ vI v ||| 1*2 ^ vI u:Nat)=frB (.leaf c [v,u]):=by simp [frB,vBits,vBit]
theorem freq (c v:UInt8) (q:Fm):(frB q &&& (15 ^^^ 1*2 ^ vI v):Nat)=frB (.one c [v] q):=by simp [frB,vBit]
theorem bit_lt {v:UInt8} (h:vI v<4):1*2 ^ vI v<16:=by
 have:=Nat.pow_le_pow_right (n:=2) (by decide) (show vI v≤3 by omega)
 omega
def EnvA (a:St) (e:List Int):Prop:=e.length=4∧∀ i:Nat,i<4→a.El (e.getD i 0)
theorem EnvA.set {a:St} {e:List Int} (h:EnvA a e) {k:Nat} {x:Int} (hx:a.El x):EnvA a (e.set k x):=by
  refine ⟨by rw [List.length_set];exact h.1,fun i hi=>?_⟩
  rw [List.getD_eq_getElem?_getD,List.getElem?_set]
  by_cases e1:k=i
  · subst e1
    have h9:=h.1
    rw [if_pos rfl,if_pos (by omega)];exact hx
  · rw [if_neg e1,← List.getD_eq_getElem?_getD];exact h.2 i hi
theorem EnvA.at {a:St} {e:List Int} (h:EnvA a e) {v:UInt8} (hv:vI v<4):a.El (e.getD (vI v) 0):=h.2 _ hv
theorem two_short {a:St} {q q2:Fm} {en:List Int} {c:UInt8} (hc:(c.toNat:Int)=38∨(c.toNat:Int)=124) (h:(ev a q en==decide ((c.toNat:Int)=124))=true):ev a q en=ev a (.two c q q2) en:=by
  rcases hc with e | e
  · have:c=38:=u8_of (n:=38) (by decide) e
    subst this
    have h2:ev a q en=false:=by simpa using h
    rw [show ev a (.two 38 q q2) en=(ev a q en&&ev a q2 en) from rfl,h2];rfl
  · have:c=124:=u8_of (n:=124) (by decide) e
    subst this
    have h2:ev a q en=true:=by simpa using h
    rw [show ev a (.two 124 q q2) en=(ev a q en||ev a q2 en) from rfl,h2];rfl
theorem two_long {a:St} {q q2:Fm} {en:List Int} {c:UInt8} (hc:(c.toNat:Int)=38∨(c.toNat:Int)=124) (h:(ev a q en==decide ((c.toNat:Int)=124))=false):ev a q2 en=ev a (.two c q q2) en:=by
  rcases hc with e | e
  · have:c=38:=u8_of (n:=38) (by decide) e
    subst this
    have h2:ev a q en=true:=by simpa using h
    rw [show ev a (.two 38 q q2) en=(ev a q en&&ev a q2 en) from rfl,h2];rfl
  · have:c=124:=u8_of (n:=124) (by decide) e
    subst this
    have h2:ev a q en=false:=by simpa using h
    rw [show ev a (.two 124 q q2) en=(ev a q en||ev a q2 en) from rfl,h2];rfl
theorem need65 {c:UInt8} {n:Int} (hc:(c.toNat:Int)=65) (hn:0≤n):((need c n.toNat:Nat):Int)=n:=by
 have:c=65:=u8_of (n:=65) (by decide) hc
 subst this
 show ((n.toNat:Nat):Int)=n
 omega
theorem need234 {c:UInt8} {n:Nat} (hc:(c.toNat:Int)=50∨(c.toNat:Int)=51∨(c.toNat:Int)=52):((need c n:Nat):Int)=(c.toNat:Int) - 48:=by
 unfold need
 have h1:¬ c=65:=fun e=>by subst e;revert hc;decide
 have h2:¬ c=83:=fun e=>by subst e;revert hc;decide
 rw [if_neg h1,if_neg h2];omega
theorem need83 {c:UInt8} {n:Nat} (hc:(c.toNat:Int)=83):((need c n:Nat):Int)=1:=by
 have:c=83:=u8_of (n:=83) (by decide) hc
 subst this;rfl
def evC (a:St) (v:UInt8) (q:Fm) (en:List Int):Nat→Bool:=fun x=>ev a q (en.set (vI v) (x:Int))
theorem cnt_step (F:Nat→Bool) (x:Nat):cntT F (x+1)=cntT F x+(if F x then 1 else 0):=rfl
theorem ev_quant {a:St} {c v:UInt8} {q:Fm} {en:List Int} (hc:quI (c.toNat:Int)) {k:Nat} (h:decide (((need c a.n.toNat:Nat):Int)≤(k:Int))=decide (need c a.n.toNat≤cntT (evC a v q en) a.n.toNat)):decide (((need c a.n.toNat:Nat):Int)≤(k:Int))=ev a (.one c [v] q) en:=by
 rw [h]
 unfold ev
 rw [if_neg (fun e=>by subst e;revert hc;decide)]
 rfl
theorem quant_end {F:Nat→Bool} {m x N:Nat} (hx:x≤N) (h:N≤x∨m≤cntT F x∨cntT F x+(N - x)<m):decide ((m:Int)≤(cntT F x:Int))=decide (m≤cntT F N):=by
  obtain ⟨h1,h2⟩:=cntT_mono F hx
  rw [decide_eq_decide]
  rcases h with h | h | h
  · obtain rfl:x=N:=by omega
    omega
  · omega
  · omega
theorem ev_tf {a:St} {en:List Int} {c:UInt8} (hc:(c.toNat:Int)=116∨(c.toNat:Int)=102):decide ((c.toNat:Int)=116)=ev a (.leaf c []) en:=by
  rcases hc with e | e
  · have:c=116:=u8_of (n:=116) (by decide) e
    subst this;rfl
  · have:c=102:=u8_of (n:=102) (by decide) e
    subst this;rfl
theorem ev_eq {a:St} {en:List Int} {c v u:UInt8} (hc:(c.toNat:Int)=61):decide (en.getD (vI v) 0=en.getD (vI u) 0)=ev a (.leaf c [v,u]) en:=by
 have:c=61:=u8_of (n:=61) (by decide) hc
 subst this;rfl
theorem ev_rel {a:St} {en:List Int} {c v u:UInt8} (hc:(c.toNat:Int)=69):a.inRel (en.getD (vI v) 0) (en.getD (vI u) 0)=ev a (.leaf c [v,u]) en:=by
 have:c=69:=u8_of (n:=69) (by decide) hc
 subst this;rfl
theorem evC_of {a:St} {v:UInt8} {q:Fm} {en E:List Int} (h:∀ z:Int,E.set (vI v) z=en.set (vI v) z) {x:Nat} {b:Bool} (hb:ev a q (E.set (vI v) (x:Int))=b):evC a v q en x=b:=by
 unfold evC;rw [← h];exact hb
theorem cnt_yes {F:Nat→Bool} {x:Nat} (h:F x=true):(cntT F x:Int)+1=((cntT F (x+1):Nat):Int):=by rw [cnt_step,h];rfl
theorem cnt_no {F:Nat→Bool} {x:Nat} (h:F x=false):cntT F (x+1)=cntT F x:=by rw [cnt_step,h];rfl
end Go.Wk
namespace Go.Wk
open Go.RowKit
def formO (f:List UInt8):Option Fm:=if f.length≤4000 then (match parse f with | some (p,[])=>some p | _=>none) else none
theorem formO_long {f:List UInt8} (h:¬ f.length≤4000):formO f=none:=by unfold formO;rw [if_neg h]
theorem formO_parse {f:List UInt8} {p:Fm} (h:formO f=some p):f.length≤4000∧parse f=some (p,[]):=by
  unfold formO at h
  by_cases hl:f.length≤4000
  · rw [if_pos hl] at h
    refine ⟨hl,?_⟩
    split at h
    · injection h with h;subst h;assumption
    · cases h
  · rw [if_neg hl] at h;cases h
theorem parse_formO {f:List UInt8} {p:Fm} (hl:f.length≤4000) (h:parse f=some (p,[])):formO f=some p:=by
 unfold formO;rw [if_pos hl,h]
theorem formO_pa {f:List UInt8} {p:Fm} (h:formO f=some p):Pa f 0 p f.length:=by
 obtain ⟨_,h⟩:=formO_parse h
 refine ⟨by rw [List.drop_zero,h,List.drop_length],?_,Nat.le_refl _⟩
 cases f with
 | nil=>cases h
 | cons c s=>simp
theorem formO_some {f:List UInt8}:(formO f).isSome=(decide ((f.length:Int)≤4000)&&decide (endI f 0=(f.length:Int))):=by
  unfold formO
  by_cases hl:f.length≤4000
  · rw [if_pos hl,decide_eq_true (show (f.length:Int)≤4000 by omega),Bool.true_and]
    have e0:endI f 0=endI f ((0:Nat):Int):=rfl
    rw [e0]
    cases e:parse f with
    | none =>
      have h1:=endI_none (f:=f) (i:=0) (by rw [List.drop_zero];exact e)
      rw [h1,decide_eq_false (by omega)];rfl
    | some x =>
      obtain ⟨p,r⟩:=x
      have h1:=endI_some (f:=f) (i:=0) (by rw [List.drop_zero];exact e)
      have h2:=parse_rest (f:=f) (i:=0) (by rw [List.drop_zero];exact e)
      rw [h1]
      cases r with
      | nil=>rw [decide_eq_true (by simp)];rfl
      | cons z r =>
        have h3:=h2.2.2
        simp only [List.length_cons] at h3
        rw [decide_eq_false (by simp only [List.length_cons];omega)];rfl
  · rw [if_neg hl,decide_eq_false (by omega)];rfl
theorem formO_wf {f:List UInt8} {p:Fm} (h:formO f=some p):wfF p:=(formO_pa h).wf
def envL (xs:List Int):List Int:=xs++List.replicate (4 - xs.length) 0
def envP (xs:List Int) (k:Nat):List Int:=xs.take k++List.replicate (4 - k) 0
theorem envP_len {xs:List Int} {k:Nat} (h:k≤4) (hk:k≤xs.length):(envP xs k).length=4:=by
 unfold envP;rw [List.length_append,List.length_take,List.length_replicate];omega
theorem envP_zero (xs:List Int):envP xs 0=[0,0,0,0]:=by unfold envP;rw [List.take_zero];rfl
theorem envP_all (xs:List Int):envP xs xs.length=envL xs:=by unfold envP envL;rw [List.take_length]
theorem envP_set {xs:List Int} {k:Nat} (hk:k<xs.length) (h4:k<4):(envP xs k).set k (xs.getD k 0)=envP xs (k+1):=by
 unfold envP
 rw [List.set_append_right _ _ (by rw [List.length_take];omega),List.length_take,Nat.min_eq_left (by omega),Nat.sub_self,show 4 - k=(4 - (k+1))+1 from by omega,List.replicate_succ,List.set_cons_zero,List.take_add_one,List.append_assoc,getD_at hk,List.getElem?_eq_getElem hk]
 rfl
theorem envL_len {xs:List Int} (h:xs.length≤4):(envL xs).length=4:=by unfold envL;rw [List.length_append,List.length_replicate];omega
theorem envL_ok {a:St} {xs:List Int} (h1:1≤a.n) (h:xs.length≤4) (hx:a.Els xs):EnvA a (envL xs):=by
  refine ⟨envL_len h,fun i hi=>?_⟩
  unfold envL
  rw [List.getD_eq_getElem?_getD,List.getElem?_append]
  split
  · rename_i hl
    rw [List.getElem?_eq_getElem hl]
    exact hx _ (List.getElem_mem _)
  · rename_i hl
    rw [List.getElem?_replicate,if_pos (by omega)]
    exact ⟨by decide,by show (0:Int)<a.n;omega⟩
open Classical in
noncomputable def holdO (a:St) (f:List UInt8) (xs:List Int):Option Bool :=
 match formO f with
 | none=>none
 | some p=>if validB a=true∧xs.length≤4∧(∀ x∈xs,a.El x)∧frB p / 2 ^ xs.length=0 then some (ev a p (envL xs)) else none
noncomputable def holdV (a:St) (f:List UInt8) (xs:List Int):Bool:=(holdO a f xs).getD false
noncomputable def holdK (a:St) (f:List UInt8) (xs:List Int):Bool:=(holdO a f xs).isSome
theorem holdO_none {a:St} {f:List UInt8} {xs:List Int} (h:∀ p,formO f=some p→¬ (validB a=true∧xs.length≤4∧(∀ x∈xs,a.El x)∧frB p / 2 ^ xs.length=0)):holdO a f xs=none:=by
 unfold holdO
 cases e:formO f with
 | none=>rfl
 | some p=>dsimp only;rw [if_neg (h p e)]
theorem holdO_some {a:St} {f:List UInt8} {xs:List Int} {p:Fm} (e:formO f=some p) (h:validB a=true∧xs.length≤4∧(∀ x∈xs,a.El x)∧frB p / 2 ^ xs.length=0):holdO a f xs=some (ev a p (envL xs)):=by
 unfold holdO;rw [e];dsimp only;rw [if_pos h]
theorem hold_no {a:St} {f:List UInt8} {xs:List Int} (h:holdO a f xs=none):holdV a f xs=false∧holdK a f xs=false:=by
 unfold holdV holdK;rw [h];exact ⟨rfl,rfl⟩
theorem hold_yes {a:St} {f:List UInt8} {xs:List Int} {b:Bool} (h:holdO a f xs=some b):holdV a f xs=b∧holdK a f xs=true:=by
 unfold holdV holdK;rw [h];exact ⟨rfl,rfl⟩
theorem rank_one {c:UInt8} {vs:List UInt8} {q:Fm} (hc:(c.toNat:Int)=65∨(c.toNat:Int)=83):((rankF (.one c vs q):Nat):Int)=(rankF q:Int)+1:=by
 have h:c=65∨c=83:=hc.elim (fun e=>.inl (u8_of (n:=65) (by decide) e)) (fun e=>.inr (u8_of (n:=83) (by decide) e))
 show (((if c=33 then rankF q else if c=65∨c=83 then rankF q+1 else rankF q+(c.toNat - 48):Nat)):Int)=_
 rw [if_neg (by rcases h with e | e <;> rw [e] <;> decide),if_pos h];rfl
theorem rank_cnt {c:UInt8} {vs:List UInt8} {q:Fm} (hq:quI (c.toNat:Int)) (hc:¬ ((c.toNat:Int)=65∨(c.toNat:Int)=83)):((rankF (.one c vs q):Nat):Int)=(rankF q:Int)+(c.toNat:Int) - 48:=by
 have h1:¬ (c=65∨c=83):=fun e=>hc (e.elim (fun e=>.inl (by rw [e];rfl)) (fun e=>.inr (by rw [e];rfl)))
 have h2:¬ c=33:=fun e=>by subst e;revert hq;decide
 have h3:(48:Int)≤c.toNat:=by rcases hq with e | e | e | e | e <;> omega
 show (((if c=33 then rankF q else if c=65∨c=83 then rankF q+1 else rankF q+(c.toNat - 48):Nat)):Int)=_
 rw [if_neg h2,if_neg h1];omega
theorem rank_le:∀ {p:Fm},rankF p≤255*(fT p).length
  | .leaf _ _=>Nat.zero_le _
  | .one c vs q=>by
    have h1:=rank_le (p:=q)
    have h2:=c.toNat_lt
    have h3:(fT (.one c vs q)).length=(vs.length+(fT q).length)+1:=by simp [fT]
    unfold rankF
    split
    · omega
    · split <;> omega
  | .two c p q=>by
    have h1:=rank_le (p:=p)
    have h2:=rank_le (p:=q)
    have h3:(fT (.two c p q)).length=((fT p).length+(fT q).length)+1:=by simp [fT]
    unfold rankF
    omega
theorem rank_pa {f:List UInt8} {n e:Nat} {p:Fm} (h:Pa f n p e):rankF p≤255*f.length:=by
 have h1:=parse_text _ (Nat.le_refl _) h.1
 have h2:=congrArg List.length h1
 rw [List.length_append,List.length_drop] at h2
 have h3:=rank_le (p:=p)
 have h4:(fT p).length≤f.length:=by omega
 omega
def rankI (f:List UInt8):Int:=match formO f with | some p=>(rankF p:Int) | none => -1
theorem els_take {a:St} {xs:List Int} {k:Nat} (hk:k<xs.length) (h:∀ x∈xs.take k,a.El x) (hx:a.El (xs.getD k 0)):∀ x∈xs.take (k+1),a.El x:=by
  intro x hm
  rw [List.take_add_one,List.mem_append] at hm
  rcases hm with hm | hm
  · exact h x hm
  · rw [List.getElem?_eq_getElem hk] at hm
    have:x=xs[k]:=by simpa using hm
    rw [this,← getD_at hk];exact hx
theorem in_el {a:St} {x:Int}:inB x 0 (a.n - 1)=true↔a.El x:=by
 unfold inB St.El
 simp only [Bool.and_eq_true,decide_eq_true_eq]
 omega
theorem op_cases {c:UInt8} (h:isOp c=true):c=116∨c=102∨c=80∨c=61∨c=69∨c=33∨c=38∨c=124∨c=65∨c=83∨c=50∨c=51∨c=52:=by
 unfold isOp at h
 rw [decide_eq_true_eq] at h
 simpa only [List.mem_cons,List.not_mem_nil,or_false] using h
theorem one_no_var {c:UInt8} {p:Fm} (h:wfF (.one c [] p)):c=33:=by
 obtain ⟨h1,h2,h3,_⟩:=h
 have h4:arV c=0:=h3.symm
 rcases op_cases h1 with rfl | rfl | rfl | rfl | rfl | rfl | rfl | rfl | rfl | rfl | rfl | rfl | rfl <;> first | rfl | exact absurd h2 (by decide) | exact absurd h4 (by decide)
theorem one_var {c:UInt8} {v:UInt8} {vs:List UInt8} {p:Fm} (h:wfF (.one c (v::vs) p)):(c=65∨c=83∨c=50∨c=51∨c=52)∧vs=[]∧isV v=true:=by
 obtain ⟨h1,h2,h3,h4,_⟩:=h
 have hv:=h4 v (by simp)
 rw [List.length_cons] at h3
 rcases op_cases h1 with rfl | rfl | rfl | rfl | rfl | rfl | rfl | rfl | rfl | rfl | rfl | rfl | rfl <;> first | exact absurd h2 (by decide) | exact absurd h3 (fun e=>by have e':vs.length+1=0:=e;omega) | exact ⟨by simp,List.length_eq_zero_iff.1 (by have:vs.length+1=1:=h3;omega),hv⟩
theorem two_op {c:UInt8} {p q:Fm} (h:wfF (.two c p q)):c=38∨c=124:=by
 obtain ⟨h1,h2,h3,_⟩:=h
 rcases op_cases h1 with rfl | rfl | rfl | rfl | rfl | rfl | rfl | rfl | rfl | rfl | rfl | rfl | rfl <;> first | exact .inl rfl | exact .inr rfl | exact absurd rfl h2 | exact absurd rfl h3
theorem len_two {vs:List UInt8} (h:vs.length=2):∃ v u,vs=[v,u]:=by
 match vs,h with
 | [v,u],_=>exact ⟨v,u,rfl⟩
theorem leaf_op {c:UInt8} {vs:List UInt8} (h:wfF (.leaf c vs)):(c=116∨c=102)∨(c=80∧∃ v,vs=[v])∨((c=61∨c=69)∧∃ v u,vs=[v,u]):=by
  obtain ⟨h1,h2,h3,h4⟩:=h
  rcases op_cases h1 with rfl | rfl | rfl | rfl | rfl | rfl | rfl | rfl | rfl | rfl | rfl | rfl | rfl <;> first | exact absurd h2 (by decide) | skip
  · exact .inl (.inl rfl)
  · exact .inl (.inr rfl)
  · exact .inr (.inl ⟨rfl,List.length_eq_one_iff.1 h3⟩)
  · exact .inr (.inr ⟨.inl rfl,len_two h3⟩)
  · exact .inr (.inr ⟨.inr rfl,len_two h3⟩)
end Go.Wk
namespace Go.Wk
open Go.RowKit
def clsN (q:Nat→Nat→Bool):Nat→List Int×Nat
 | 0=>([],0)
 | x+1=>match (List.range x).find? (fun y=>q y x) with
  | some y=>((clsN q x).1++[(clsN q x).1.getD y 0],(clsN q x).2)
  | none=>((clsN q x).1++[((clsN q x).2:Int)],(clsN q x).2+1)
section
variable {q:Nat→Nat→Bool}
theorem cls_old {x y:Nat} (hy:y<x) (hall:∀ i,i<y→q i x=false) (h:q y x=true):clsN q (x+1)=((clsN q x).1++[(clsN q x).1.getD y 0],(clsN q x).2):=by
 rw [clsN,find_at (f:=fun y=>q y x) hy hall h]
theorem cls_new {x:Nat} (hall:∀ i,i<x→q i x=false):clsN q (x+1)=((clsN q x).1++[((clsN q x).2:Int)],(clsN q x).2+1):=by
 have:(List.range x).find? (fun y=>q y x)=none:=by rw [List.find?_eq_none];intro i hi;rw [hall i (List.mem_range.1 hi)];simp
 rw [clsN,this]
theorem cls_cases (q:Nat→Nat→Bool) (x:Nat):(∃ y,y<x∧(∀ i,i<y→q i x=false)∧q y x=true)∨∀ i,i<x→q i x=false:=by
 cases h:(List.range x).find? (fun y=>q y x) with
 | none=>exact .inr fun i hi=>by simpa using List.find?_eq_none.1 h i (List.mem_range.2 hi)
 | some y =>
  rw [List.find?_range_eq_some] at h
  exact .inl ⟨y,List.mem_range.1 h.2.1,fun i hi=>by simpa using h.2.2 i hi,h.1⟩
theorem cls_length (q:Nat→Nat→Bool):∀ x,(clsN q x).1.length=x
  | 0=>rfl
  | x+1=>by
    rcases cls_cases q x with ⟨y,h1,h2,h3⟩ | h
    · rw [cls_old h1 h2 h3];simp [cls_length q x]
    · rw [cls_new h];simp [cls_length q x]
theorem cls_small (q:Nat→Nat→Bool):∀ x,(clsN q x).2≤x∧∀ m∈(clsN q x).1,0≤m∧m<((clsN q x).2:Int)
  | 0=>⟨Nat.le_refl _,fun m hm=>by cases hm⟩
  | x+1=>by
    obtain ⟨i1,i2⟩:=cls_small q x
    rcases cls_cases q x with ⟨y,h1,h2,h3⟩ | h
    · rw [cls_old h1 h2 h3]
      refine ⟨by dsimp only;omega,fun m hm=>?_⟩
      rcases List.mem_append.1 hm with h4 | h4
      · exact i2 m h4
      · rw [List.mem_singleton.1 h4]
        have hl:=cls_length q x
        rw [getD_at (by omega)];exact i2 _ (List.getElem_mem _)
    · rw [cls_new h]
      refine ⟨by dsimp only;omega,fun m hm=>?_⟩
      rcases List.mem_append.1 hm with h4 | h4
      · have:=i2 m h4;dsimp only;omega
      · rw [List.mem_singleton.1 h4];dsimp only;omega
end
structure SeenL (T:List (List UInt8)) (n:Nat) (a:St) (x:Nat) (S O:List Int):Prop where
 cls:clsN (fun y x=>winB n a [(y:Int)] a [(x:Int)]) x=(O,S.length)
 nodup:S.Nodup
 out:∀ y:Nat,y<x→∃ m k:Nat,Means T n a [(y:Int)] m∧O.getD y 0=(k:Int)∧S[k]?=some (m:Int)
 seen:∀ s∈S,∃ m y:Nat,s=(m:Int)∧y<x∧Means T n a [(y:Int)] m
theorem SeenL.zero {T:List (List UInt8)} {n:Nat} {a:St}:SeenL T n a 0 [] []:=⟨rfl,List.nodup_nil,fun y hy=>absurd hy (by omega),fun s hs=>by cases hs⟩
theorem SeenL.len {T:List (List UInt8)} {n:Nat} {a:St} {x:Nat} {S O:List Int} (h:SeenL T n a x S O):O.length=x∧S.length≤x:=by
 have h1:=cls_length (fun y x=>winB n a [(y:Int)] a [(x:Int)]) x
 have h2:=(cls_small (fun y x=>winB n a [(y:Int)] a [(x:Int)]) x).1
 rw [h.cls] at h1 h2
 exact ⟨h1,h2⟩
end Go.Wk
namespace Go.Wk
open Go.RowKit
section
variable {P:Program} {n:Nat} {C:World→Prop} {B:Nat} {w0:World} {hs hs':List (Nat×Obj)} {N R:Act→World→Prop} {X:List (Nat×(Act→World→Prop))} {e:Env} {ops:Array Oper} {l:List Oper} {o:Oper}
theorem OpQ.indexArr {t el:TypeId} {m:Nat} {x y:Operand} {b:Nat} {k:IntKind} {i:Int} (h:o.op=.indexAddr t x y) (hu:∀ w,(underlying t).run P w=.ok (.array m el) w) (hz:∀ w,(sizeOf el).run P w=.ok 1 w)
  (hx:opd e x=some (.pointer (some ⟨b,0,none⟩))) (hy:opd e y=some (.int k i)) (h0:0≤i) (h1:i<m):OpQ P n C e o (.pointer (some ⟨b,i.toNat,none⟩)):=OpQ.val fun A hF w=>by
 unfold execOp;rw [h];simp only [hF.opd hx,hF.opd hy]
 simp only [Instr.indexAt,Instr.sureAddr,asIntOf,Sem.run_bind,Sem.run_pure,hu,Result.andThen,hz,if_pos (And.intro h0 h1),Addr.add_lit,Nat.mul_one,Nat.zero_add]
theorem OpQ.max2 {x y:Operand} {ts:Array TypeId} {i j:Int} (h:o.op=.call ⟨.builtin .max,#[x,y],ts⟩) (hx:opd e x=some (.int .i64 i)) (hy:opd e y=some (.int .i64 j)):OpQ P n C e o (.int .i64 (if j > i then j else i)):=OpQ.val fun A hF w=>by
  unfold execOp;rw [h]
  simp only [resolve,invoke,BigFrame.builtin_max,List.map_toArray,List.map_cons,List.map_nil,hF.opd hx,hF.opd hy,Sem.run_bind,Sem.run_pure,Result.andThen,Builtin.max_,List.foldlM_cons,List.foldlM_nil,Builtin.max2]
def entM (x:List UInt8×Nat):MapEntry:={ key:=str x.1,val:=.bool true,born:=x.2 }
def mapO (ks:List (List UInt8)):Obj:=.map ((ks.zipIdx.map entM).toArray) ks.length
def addK (ks:List (List UInt8)) (s:List UInt8):List (List UInt8):=if s∈ks then ks else ks++[s]
theorem Own.setObj {w:World} (h:Own B w0 hs w) {i p:Nat} {u:Obj} (hi:hs[i]?=some (p,u)) (u':Obj):Own B w0 (hs.set i (p,u')) { w with heap:=w.heap.setIfInBounds p u' }:=by
  obtain ⟨hB,hp⟩:=h.has i p u hi
  obtain ⟨hh,hne⟩:=MapKept.heap_set (o':=u') hp
  have hil:i<hs.length:=(List.getElem?_eq_some_iff.1 hi).1
  refine Own.of_mem ⟨h.below.os,h.below.tape,h.below.output,by have:=h.below.size;simpa using this,fun k hk=>?_⟩ (by have:=h.base;simpa using this) (fun x hx=>?_) ?_
  · have:=h.below.block k hk
    rw [← this];exact hne k (by omega)
  · obtain ⟨j,hj⟩:=List.mem_iff_getElem?.1 hx
    rw [List.getElem?_set] at hj
    split at hj
    · rename_i e1;subst e1
      injection hj with hj;subst hj
      exact ⟨hB,hh⟩
    · rename_i e1
      obtain ⟨h1,h2⟩:=h.has j x.1 x.2 hj
      exact ⟨h1,by rw [← h2];exact hne _ (fun e2=>h.apart j i x.1 x.2 p u hj hi (fun e3=>e1 e3.symm) e2)⟩
  · have:(hs.set i (p,u')).map Prod.fst=hs.map Prod.fst:=by
      rw [List.map_set]
      refine set_same ?_
      rw [List.getElem?_map,hi];rfl
    rw [this];exact h.nodup
theorem Ll.makeMap {d t:Nat} (hd:Nat.blt d n=true) (hdst:o.dst=some d) (hg:wantE ops e o.guard=some true) (h:o.op=.makeMap t none)
  (k:∀ p,B≤p→Ll P n (Own B w0 ((p,mapO [])::hs)) ops l ((d,.map (some p))::e) N R X):Ll P n (Own B w0 hs) ops (o::l) e N R X :=
 Ll.turn hd hdst hg fun a w hF hw=>⟨.map (some w.heap.size),w.alloc (mapO []),by
  unfold execOp;rw [h];rfl,fun a' ha=>by
  have:=k _ hw.base
  unfold Ll at this
  exact this a' _ ha (hw.alloc _)⟩
end
structure RR where
 g:Nat
 cap:Nat
 cur:Array Value
 xs:List Int
def rd:RR:=⟨0,0,#[],[]⟩
def rv (r:RR):Value:=.slice (some ⟨r.g,0,none⟩) r.xs.length r.cap
structure RR.Ok (r:RR):Prop where
 size:r.cur.size=r.cap*1
 len:r.xs.length≤r.cap
 vals:r.cur.toList.take r.xs.length=ints r.xs
def rvs (rr:List RR):List Value:=rr.map rv
@[simp] theorem rvs_length (rr:List RR):(rvs rr).length=rr.length:=by simp [rvs]
theorem rvs_at {rr:List RR} {i:Nat} (h:i<rr.length):(rvs rr)[i]?=some (rv (rr.getD i rd)):=by
 rw [rvs,List.getElem?_map,List.getElem?_eq_getElem h,getD_at h];rfl
section
variable {B:Nat} {w0:World} {hs:List (Nat×Obj)}
end
structure RowsOk (rr:List RR) (u:Array Value) (c:Nat):Prop where
 size:u.size=c*1
 len:rr.length≤c
 vals:u.toList.take rr.length=rvs rr
 ok:∀ r∈rr,r.Ok
theorem RowsOk.nil:RowsOk [] #[] 0:=⟨rfl,Nat.le_refl 0,rfl,fun r hr=>by cases hr⟩
theorem RowsOk.one (p:Nat):RowsOk [⟨p,0,#[],[]⟩] #[.slice (some ⟨p,0,none⟩) 0 0] 1:=⟨rfl,Nat.le_refl 1,rfl,fun r hr=>by rw [List.mem_singleton.1 hr];exact ⟨rfl,Nat.le_refl 0,rfl⟩⟩
theorem RowsOk.add {rr:List RR} {u u':Array Value} {c c':Nat} {r:RR} (h:RowsOk rr u c) (hr:r.Ok) (hs:u'.size=c'*1) (hl:rr.length+1≤c') (hv:u'.toList.take ((rr.length+1)*1)=u.toList.take (rr.length*1)++[rv r]):RowsOk (rr++[r]) u' c':=by
  refine ⟨hs,by simpa using hl,?_,fun x hx=>?_⟩
  · have h1:=h.vals
    rw [Nat.mul_one,Nat.mul_one,h1] at hv
    rw [List.length_append,List.length_singleton,hv];simp [rvs]
  · rcases List.mem_append.1 hx with h1 | h1
    · exact h.ok x h1
    · rw [List.mem_singleton.1 h1];exact hr
def pointL (size:Nat):Nat→Nat→List Int
 | 0,_=>[]
 | w+1,k=>pointL size w (k / size)++[((k % size:Nat):Int)]
@[simp] theorem pointL_length (size:Nat):∀ w k,(pointL size w k).length=w
 | 0,_=>rfl
 | w+1,k=>by simp [pointL,pointL_length size w]
def dedup (l:List (List UInt8)):List (List UInt8):=l.foldl addK []
theorem dedup_step {l:List (List UInt8)} {i:Nat} (h:i<l.length):dedup (l.take (i+1))=addK (dedup (l.take i)) (l.getD i []):=by
 rw [List.take_succ_eq_append_getElem h,dedup,List.foldl_append,getD_at h];rfl
theorem addK_len (ks:List (List UInt8)) (s:List UInt8):(addK ks s).length≤ks.length+1:=by unfold addK;split <;> simp
theorem dedup_len:∀ (l:List (List UInt8)) (ks:List (List UInt8)),(l.foldl addK ks).length≤ks.length+l.length
 | [],ks=>by simp
 | s::l,ks=>by
  have h1:=dedup_len l (addK ks s)
  have h2:=addK_len ks s
  rw [List.foldl_cons,List.length_cons];omega
end Go.Wk
namespace Go.Wk
open Go.RowKit
def seenI (l:List (List UInt8)) (s:List UInt8):Int:=if s∈l then ((l.findIdx fun t=>t==s:Nat):Int) else -1
theorem seenI_at {l:List (List UInt8)} {s:List UInt8} {k:Nat} (hk:k<l.length) (hall:∀ i:Nat,i<k→(l.getD i []==s)=false) (h:(l.getD k []==s)=true):seenI l s=k:=by
 have hm:s∈l:=by
  have:l.getD k []=s:=by simpa using h
  rw [← this,getD_at hk];exact List.getElem_mem _
 unfold seenI
 rw [if_pos hm]
 congr 1
 refine List.findIdx_eq hk |>.2 ⟨by rw [getD_at hk] at h;exact h,fun j hj=>?_⟩
 have:=hall j hj
 rw [getD_at (by omega)] at this;exact this
theorem seenI_no {l:List (List UInt8)} {s:List UInt8} (hall:∀ i:Nat,i<l.length→(l.getD i []==s)=false):seenI l s = -1:=by
 unfold seenI
 rw [if_neg fun hm=>?_]
 obtain ⟨i,hi,e⟩:=List.mem_iff_getElem.1 hm
 have:=hall i hi
 rw [getD_at hi,e] at this
 simp at this
theorem seenI_neg {l:List (List UInt8)} {s:List UInt8}:seenI l s<0↔s ∉ l:=by
  unfold seenI
  split
  · rename_i h;simp [h]
  · rename_i h;simp [h]
theorem addK_new {ks:List (List UInt8)} {s:List UInt8} (h:s ∉ ks):addK ks s=ks++[s]:=by unfold addK;rw [if_neg h]
theorem addK_old {ks:List (List UInt8)} {s:List UInt8} (h:¬ s ∉ ks):addK ks s=ks:=by unfold addK;rw [if_pos (by simpa using h)]
theorem dedup_take (l:List (List UInt8)) (k:Nat):(dedup (l.take k)).length≤k:=by
 have:=dedup_len (l.take k) []
 rw [List.length_take,List.length_nil] at this
 unfold dedup;omega
end Go.Wk
namespace Go.Wk
open Go.RowKit
theorem insS_mem {l:List Int} {n:Int} (h:l.Pairwise (·<·)) (hn:n∈l):insS l n=l :=
  sorted_ext (sorted_insS h) h fun x=>by rw [mem_insS];constructor;rintro (rfl | h1);exact hn;exact h1;exact .inr
theorem insS_new {n:Int}:∀ {l:List Int},n ∉ l→(insS l n).length=l.length+1
  | [],_=>rfl
  | x::l,h=>by
    have h1:x ≠ n:=fun e=>h (by simp [e])
    have h2:n ∉ l:=fun e=>h (by simp [e])
    unfold insS
    rw [if_neg h1]
    split
    · rfl
    · rw [List.length_cons,insS_new h2,List.length_cons]
theorem cls_same {q:Nat→Nat→Bool} {k y:Nat} (hy:y<k) (h:q y k=true):(clsN q (k+1)).2=(clsN q k).2:=by
  rcases cls_cases q k with ⟨z,h1,h2,h3⟩ | hno
  · rw [cls_old h1 h2 h3]
  · rw [hno y hy] at h;cases h
theorem cls_more {q:Nat→Nat→Bool} {k:Nat} (h:∀ y,y<k→q y k=false):(clsN q (k+1)).2=(clsN q k).2+1:=by rw [cls_new h]
def qP (a:St) (r w:Nat) (y x:Nat):Bool:=winB r a (pointL a.n.toNat w y) a (pointL a.n.toNat w x)
structure CountL (T:List (List UInt8)) (r:Nat) (a:St) (w k:Nat) (S:List Int):Prop where
  cls:(clsN (qP a r w) k).2=S.length
  sorted:S.Pairwise (·<·)
  all:∀ y:Nat,y<k→∃ i:Nat,(i:Int)∈S∧Means T r a (pointL a.n.toNat w y) i
  only:∀ m∈S,∃ i y:Nat,m=i∧y<k∧Means T r a (pointL a.n.toNat w y) i
theorem CountL.zero {T:List (List UInt8)} {r:Nat} {a:St} {w:Nat}:CountL T r a w 0 []:=⟨rfl,List.Pairwise.nil,fun y hy=>absurd hy (by omega),fun m hm=>by cases hm⟩
theorem CountL.len {T:List (List UInt8)} {r:Nat} {a:St} {w k:Nat} {S:List Int} (h:CountL T r a w k S):S.length≤k:=by rw [← h.cls];exact (cls_small _ k).1
theorem CountL.step {T T':List (List UInt8)} {r:Nat} {a:St} {w k i:Nat} {S:List Int} (h:CountL T r a w k S) (hp:T <+: T') (hT:T'.Nodup) (hm:Means T' r a (pointL a.n.toNat w k) i):CountL T' r a w (k+1) (insS S (i:Int)):=by
  have heq:∀ (y j:Nat),Means T' r a (pointL a.n.toNat w y) j→(j=i↔qP a r w y k=true):=fun y j hj=>by
    unfold qP
    rw [means_win hT r a (pointL a.n.toNat w y) a (pointL a.n.toNat w k) j i (by simp) hj hm,win_iff r a (pointL a.n.toNat w y) a (pointL a.n.toNat w k) (by simp)]
  refine ⟨?_,sorted_insS h.sorted,fun y hy=>?_,fun m hmem=>?_⟩
  · by_cases hi:(i:Int)∈S
    · rw [insS_mem h.sorted hi,← h.cls]
      obtain ⟨j,y,e,hy,hM⟩:=h.only _ hi
      obtain rfl:i=j:=by omega
      exact cls_same hy ((heq y i (hM.mono hp _ _ _ _)).1 rfl)
    · rw [insS_new hi,← h.cls]
      refine cls_more fun y hy=>?_
      cases hq:qP a r w y k with
      | false=>rfl
      | true =>
        obtain ⟨j,hj,hM⟩:=h.all y hy
        have:=(heq y j (hM.mono hp _ _ _ _)).2 hq
        subst this
        exact absurd hj hi
  · rcases Nat.lt_or_ge y k with h1 | h1
    · obtain ⟨j,hj,hM⟩:=h.all y h1
      exact ⟨j,mem_insS.2 (.inr hj),hM.mono hp _ _ _ _⟩
    · obtain rfl:y=k:=by omega
      exact ⟨i,mem_insS.2 (.inl rfl),hm⟩
  · rcases mem_insS.1 hmem with h1 | h1
    · exact ⟨i,k,h1,by omega,hm⟩
    · obtain ⟨j,y,e,hy,hM⟩:=h.only m h1
      exact ⟨j,y,e,by omega,hM.mono hp _ _ _ _⟩
end Go.Wk
namespace Go.Wk
abbrev uM := @OpQ.indexArr
end Go.Wk
namespace Go.Wk
open Go.RowKit
theorem St.Tame.small {a:St} (h:a.Tame):a.Small:=⟨by have:=h.set;omega,by have:=h.rel;omega⟩
end Go.Wk
namespace Go.Wk
open Go.RowKit
theorem listB_of {a:St} {xs:List Int} (hv:validB a=true) (he:a.Els xs) (hl:xs.length≤4):listB a xs=true:=by
 unfold listB
 simp only [Bool.and_eq_true,decide_eq_true_eq]
 exact ⟨⟨hv,by omega⟩,List.all_eq_true.2 fun x hx=>elB_true.2 (he x hx)⟩
theorem listsB_of {a b:St} {xs ys:List Int} (ha:listB a xs=true) (hb:listB b ys=true) (hl:xs.length=ys.length):listsB a xs b ys=true:=by
 unfold listsB
 simp only [Bool.and_eq_true,decide_eq_true_eq]
 exact ⟨⟨ha,hb⟩,by omega⟩
end Go.Wk
namespace Go.Wk
open Go.RowKit
theorem pairOk_comm (a b:St) (x y v u:Int):pairOk a b x y v u=pairOk a b v u x y:=by
 unfold pairOk
 rw [show decide (v=x)=decide (x=v) from by simp [eq_comm],show decide (u=y)=decide (y=u) from by simp [eq_comm],Bool.and_assoc,Bool.and_assoc]
 congr 1
 exact Bool.and_comm _ _
theorem same_at {a b:St} {xs ys:List Int} {i:Nat} (hl:xs.length=ys.length) (hs:sameB a xs b ys=true) (hi:i<xs.length) :
  a.inSet (xs.getD i 0)=b.inSet (ys.getD i 0)∧a.inRel (xs.getD i 0) (xs.getD i 0)=b.inRel (ys.getD i 0) (ys.getD i 0)∧∀ k:Nat,k<i→pairOk a b (xs.getD i 0) (ys.getD i 0) (xs.getD k 0) (ys.getD k 0)=true:=by
 unfold sameB at hs
 have h1:=List.all_eq_true.1 hs i (List.mem_range.2 hi)
 unfold stillAt at h1
 obtain ⟨h2,h3,h4⟩:=(stillB_true (by simp [hl])).1 h1
 refine ⟨h2,h3,fun k hk=>?_⟩
 have h5:=h4 k (by rw [List.length_take];omega)
 rwa [take_getD hk,take_getD hk] at h5
theorem same_pairs {a b:St} {xs ys:List Int} {i k:Nat} (hl:xs.length=ys.length) (hs:sameB a xs b ys=true) (hi:i<xs.length) (hk:k<xs.length):pairOk a b (xs.getD i 0) (ys.getD i 0) (xs.getD k 0) (ys.getD k 0)=true:=by
  rcases Nat.lt_trichotomy k i with h | h | h
  · exact (same_at hl hs hi).2.2 k h
  · subst h
    have h1:=(same_at hl hs hi).2.1
    exact pairOk_true.2 ⟨by simp,h1,h1⟩
  · rw [pairOk_comm];exact (same_at hl hs hk).2.2 i h
end Go.Wk
namespace Go.Wk
open Go.RowKit
theorem peb_el {a:St} {xs:List Int} (h:pebB a xs=true):∀ x∈xs,-1≤x:=fun x hx=>by
 unfold pebB at h
 simp only [Bool.and_eq_true,List.all_eq_true] at h
 have:=h.2 x hx
 unfold inB at this
 simp only [Bool.and_eq_true,decide_eq_true_eq] at this
 exact this.1
end Go.Wk
namespace Go.Wk
open Go.RowKit
section
variable {a b:St} {xs ys:List Int} {r:Int}
end
theorem bools_all (bs:List Bool):((bs.map Value.bool).toArray).toList.take bs.length=bools bs:=by
 show (bs.map Value.bool).take bs.length=bs.map Value.bool
 rw [List.take_of_length_le (by simp)]
end Go.Wk
namespace Go.Wk
open Go.RowKit
def pW:Nat→St→List Int→St→List Int→Prop
 | 0,a,xs,b,ys=>(∀ i:Nat,i<xs.length→(xs.getD i 0<0↔ys.getD i 0<0))∧sameB a (placed xs xs.length) b (placed ys ys.length)=true
 | n+1,a,xs,b,ys=>pW n a xs b ys∧∀ i:Nat,i<xs.length→(∀ x:Nat,x<a.n.toNat→∃ y:Nat,y<b.n.toNat∧pW n a (xs.set i (x:Int)) b (ys.set i (y:Int))) ∧
   (∀ y:Nat,y<b.n.toNat→∃ x:Nat,x<a.n.toNat∧pW n a (xs.set i (x:Int)) b (ys.set i (y:Int)))
def idxP (size:Nat) (xs:List Int):Nat:=xs.foldl (fun n x=>n*(size+1)+(x+1).toNat) 0
def atP (size:Nat):Nat→Nat→List Int
 | 0,_=>[]
 | k+1,n=>atP size k (n / (size+1))++[((n % (size+1):Nat):Int) - 1]
def Peb (size k:Nat) (xs:List Int):Prop:=xs.length=k∧∀ x∈xs,-1≤x∧x<(size:Int)
@[simp] theorem atP_len (size:Nat):∀ k n,(atP size k n).length=k
 | 0,_=>rfl
 | k+1,n=>by simp [atP,atP_len size k]
theorem peb_set {size k i:Nat} {xs:List Int} (h:Peb size k xs) {x:Nat} (hx:x<size):Peb size k (xs.set i (x:Int)):=by
  refine ⟨by rw [List.length_set];exact h.1,fun y hy=>?_⟩
  rcases List.mem_or_eq_of_mem_set hy with h1 | h1
  · exact h.2 y h1
  · rw [h1];omega
def numP (size:Nat) (R:List Int) (xs:List Int):Int:=R.getD (idxP size xs) 0
structure GoodP (n k:Nat) (a b:St) (Ra Rb:List Int):Prop where
 aa:∀ xs ys,Peb a.n.toNat k xs→Peb a.n.toNat k ys→(numP a.n.toNat Ra xs=numP a.n.toNat Ra ys↔pW n a xs a ys)
 ab:∀ xs ys,Peb a.n.toNat k xs→Peb b.n.toNat k ys→(numP a.n.toNat Ra xs=numP b.n.toNat Rb ys↔pW n a xs b ys)
 bb:∀ xs ys,Peb b.n.toNat k xs→Peb b.n.toNat k ys→(numP b.n.toNat Rb xs=numP b.n.toNat Rb ys↔pW n b xs b ys)
theorem pW_comm:∀ (n:Nat) (a:St) (xs:List Int) (b:St) (ys:List Int),xs.length=ys.length→pW n a xs b ys→pW n b ys a xs
 | 0,a,xs,b,ys,hl,h=>by
  have e:=placed_len (xs:=xs) (ys:=ys) xs.length fun i hi=>h.1 i hi
  refine ⟨fun i hi=>(h.1 i (by omega)).symm,?_⟩
  have h2:=h.2
  rwa [sameB_comm (by rw [e,hl])] at h2
 | n+1,a,xs,b,ys,hl,h=>by
  refine ⟨pW_comm n _ _ _ _ hl h.1,fun i hi=>?_⟩
  obtain ⟨h1,h2⟩:=h.2 i (by omega)
  exact ⟨fun y hy=>(h2 y hy).elim fun x hx=>⟨x,hx.1,pW_comm n _ _ _ _ (by simp [hl]) hx.2⟩,fun x hx=>(h1 x hx).elim fun y hy=>⟨y,hy.1,pW_comm n _ _ _ _ (by simp [hl]) hy.2⟩⟩
def NumOf (T:List (List UInt8)) (text:Nat→List UInt8) (R:List Int) (N:Nat):Prop:=R.length=N∧∀ i:Nat,i<N→∃ m:Nat,R.getD i 0=(m:Int)∧T[m]?=some (text i)
theorem NumOf.mono {T T':List (List UInt8)} {text:Nat→List UInt8} {R:List Int} {N:Nat} (h:NumOf T text R N) (hp:T <+: T'):NumOf T' text R N :=
 ⟨h.1,fun i hi=>(h.2 i hi).elim fun m hm=>⟨m,hm.1,prefix_get hp hm.2⟩⟩
end Go.Wk
namespace Go.Wk
open Go.RowKit
theorem peb_at {size k i:Nat} {xs:List Int} (h:Peb size k xs) (hi:i<k) : -1≤xs.getD i 0∧xs.getD i 0<(size:Int):=by
 have hl:=h.1
 rw [getD_at (by omega)];exact h.2 _ (List.getElem_mem _)
end Go.Wk
namespace Go.Wk
open Go.RowKit
def NumTo (T:List (List UInt8)) (text:Nat→List UInt8) (R:List Int) (N k:Nat):Prop:=R.length=N∧∀ i:Nat,i<k→∃ m:Nat,R.getD i 0=(m:Int)∧T[m]?=some (text i)
theorem NumTo.zero (T:List (List UInt8)) (text:Nat→List UInt8) (N:Nat):NumTo T text (List.replicate N 0) N 0:=⟨by simp,fun i hi=>absurd hi (by omega)⟩
theorem NumTo.step {T T':List (List UInt8)} {text:Nat→List UInt8} {R:List Int} {N k m:Nat} (h:NumTo T text R N k) (hp:T <+: T') (hm:T'[m]?=some (text k)) (hk:k<N):NumTo T' text (R.set k (m:Int)) N (k+1):=by
  refine ⟨by rw [List.length_set];exact h.1,fun i hi=>?_⟩
  by_cases e:i=k
  · subst e
    exact ⟨m,by rw [List.getD_eq_getElem?_getD,List.getElem?_set_self (by rw [h.1];exact hk)];rfl,hm⟩
  · obtain ⟨p,h1,h2⟩:=h.2 i (by omega)
    exact ⟨p,by rw [List.getD_eq_getElem?_getD,List.getElem?_set_ne (fun e'=>e e'.symm),← List.getD_eq_getElem?_getD];exact h1,prefix_get hp h2⟩
theorem NumTo.all {T:List (List UInt8)} {text:Nat→List UInt8} {R:List Int} {N:Nat} (h:NumTo T text R N N):NumOf T text R N:=h
theorem NumOf.small {T:List (List UInt8)} {text:Nat→List UInt8} {R:List Int} {N:Nat} (h:NumOf T text R N) (hT:T.length≤1000000):∀ i:Nat,0≤R.getD i 0∧R.getD i 0<1000000:=fun i=>by
  rcases Nat.lt_or_ge i N with h1 | h1
  · obtain ⟨m,e,h2⟩:=h.2 i h1
    have:=(List.getElem?_eq_some_iff.1 h2).1
    rw [e];omega
  · rw [List.getD_eq_getElem?_getD,List.getElem?_eq_none (by rw [h.1];exact h1)];exact ⟨Int.le_refl 0,by decide⟩
end Go.Wk
namespace Go.Wk
open Go.RowKit
def Onto (T0 T:List (List UInt8)) (R:List Int) (k:Nat):Prop:=∀ m:Nat,T0.length≤m→m<T.length→∃ i:Nat,i<k∧R.getD i 0=(m:Int)
theorem Onto.zero (T:List (List UInt8)) (R:List Int):Onto T T R 0:=fun m h1 h2=>absurd h1 (by omega)
theorem Onto.step {T0 T T':List (List UInt8)} {R:List Int} {k m:Nat} {s:List UInt8} (h:Onto T0 T R k) (hd:T'=T∨T'=T++[s]∧m=T.length) (hk:k<R.length):Onto T0 T' (R.set k (m:Int)) (k+1):=fun p h1 h2=>by
  have old:∀ i:Nat,i<k→(R.set k (m:Int)).getD i 0=R.getD i 0:=fun i hi=>by
    rw [List.getD_eq_getElem?_getD,List.getElem?_set_ne (by omega),← List.getD_eq_getElem?_getD]
  have new:(R.set k (m:Int)).getD k 0=(m:Int):=by rw [List.getD_eq_getElem?_getD,List.getElem?_set_self hk];rfl
  rcases hd with e | ⟨e,e2⟩
  · subst e
    obtain ⟨i,hi,h3⟩:=h p h1 h2
    exact ⟨i,by omega,(old i hi).trans h3⟩
  · rw [e,List.length_append,List.length_singleton] at h2
    rcases Nat.lt_or_ge p T.length with h4 | h4
    · obtain ⟨i,hi,h3⟩:=h p h1 h4
      exact ⟨i,by omega,(old i hi).trans h3⟩
    · exact ⟨k,by omega,by rw [new,e2,show p=T.length from by omega]⟩
structure LevP (n k:Nat) (a b:St) (Ra Rb:List Int) (K:Nat):Prop where
 good:GoodP n k a b Ra Rb
 la:Ra.length=(a.n.toNat+1) ^ k
 lb:Rb.length=(b.n.toNat+1) ^ k
 sa:∀ i:Nat,i<Ra.length→0≤Ra.getD i 0∧Ra.getD i 0<(K:Int)
 sb:∀ i:Nat,i<Rb.length→0≤Rb.getD i 0∧Rb.getD i 0<(K:Int)
 onto:∀ m:Nat,m<K→(∃ i:Nat,i<Ra.length∧Ra.getD i 0=(m:Int))∨∃ i:Nat,i<Rb.length∧Rb.getD i 0=(m:Int)
def sS (a b:St) (s:Bool×List Int):St:=if s.1 then b else a
def sP (a b:St) (k:Nat) (s:Bool×List Int):Prop:=Peb (sS a b s).n.toNat k s.2
def pF (a:St) (xs:List Int) (b:St) (ys:List Int):Prop:=∀ n,pW n a xs b ys
def Still (n k:Nat) (a b:St):Prop:=∀ s t,sP a b k s→sP a b k t→pW n (sS a b s) s.2 (sS a b t) t.2→pW (n+1) (sS a b s) s.2 (sS a b t) t.2
theorem Still.next {n k:Nat} {a b:St} (h:Still n k a b):Still (n+1) k a b:=fun s t hs ht e=>by
  refine ⟨e,fun i hi=>?_⟩
  obtain ⟨h1,h2⟩:=e.2 i hi
  have put:∀ {u:Bool×List Int} {x:Nat},sP a b k u→x<(sS a b u).n.toNat→sP a b k (u.1,u.2.set i (x:Int)):=fun hu hx=>peb_set hu hx
  refine ⟨fun x hx=>?_,fun y hy=>?_⟩
  · obtain ⟨y,hy,e2⟩:=h1 x hx
    exact ⟨y,hy,h (s.1,s.2.set i (x:Int)) (t.1,t.2.set i (y:Int)) (put hs hx) (put ht hy) e2⟩
  · obtain ⟨x,hx,e2⟩:=h2 y hy
    exact ⟨x,hx,h (s.1,s.2.set i (x:Int)) (t.1,t.2.set i (y:Int)) (put hs hx) (put ht hy) e2⟩
theorem Still.all {n k:Nat} {a b:St} (h:Still n k a b):∀ m:Nat,Still (n+m) k a b
 | 0=>h
 | m+1=>(h.all m).next
theorem pW_less:∀ {n:Nat} {a:St} {xs:List Int} {b:St} {ys:List Int},∀ m:Nat,pW (n+m) a xs b ys→pW n a xs b ys
 | _,_,_,_,_,0,h=>h
 | _,_,_,_,_,m+1,h=>pW_less m (show pW (_+m) _ _ _ _ from h.1)
end Go.Wk
namespace Go.Wk
open Go.RowKit
structure Levs (k M:Nat) (a b:St) (A B:List (List Int)) (m g:Nat):Prop where
 la:A.length=m+1
 lb:B.length=m+1
 lev:∃ Ks:Nat→Nat,(∀ i:Nat,i≤m→Ks i≤1458∧LevP i k a b (A.getD i []) (B.getD i []) (Ks i))∧(4<M→∀ i:Nat,i<g→Ks i<Ks (i+1))
theorem Levs.at {k M m g:Nat} {a b:St} {A B:List (List Int)} (h:Levs k M a b A B m g) {i:Nat} (hi:i≤m):∃ K,K≤1458∧LevP i k a b (A.getD i []) (B.getD i []) K:=by
 obtain ⟨_,_,Ks,h1,_⟩:=h
 exact ⟨Ks i,h1 i hi⟩
open Classical in
noncomputable def pWinB (M:Nat) (a:St) (xs:List Int) (b:St) (ys:List Int):Bool:=if M≤4 then decide (pW M a xs b ys) else decide (pF a xs b ys)
end Go.Wk
namespace Go.Wk
open Go.RowKit
theorem RowsOk.cell {rr:List RR} {u:Array Value} {c i:Nat} (h:RowsOk rr u c) (hi:i<rr.length):u.toList[i]?=some (rv (rr.getD i rd)):=by
 have:=rvs_at hi
 rw [← h.vals,List.getElem?_take,if_pos hi] at this
 exact this
end Go.Wk
namespace Go.Wk
open Go.RowKit
end Go.Wk
namespace Go.Wk
open Go.RowKit
end Go.Wk
namespace Go.Wk
open Go.RowKit
theorem ready_peb {a b:St} {xs ys:List Int} (h:readyB a xs b ys=true):validB a=true∧validB b=true∧1≤xs.length∧xs.length≤3∧xs.length=ys.length∧Peb a.n.toNat xs.length xs∧Peb b.n.toNat xs.length ys:=by
  obtain ⟨Pa,Pb,hl,_⟩:=readyB_true h
  unfold readyB at h
  simp only [Bool.and_eq_true,decide_eq_true_eq] at h
  have ea:=peb_el h.1.1.1
  have eb:=peb_el h.1.1.2
  have la:=Pa.fine.lo
  have lb:=Pb.fine.lo
  refine ⟨Pa.valid,Pb.valid,Pa.lo,Pa.hi,hl,⟨rfl,fun x hx=>?_⟩,⟨hl.symm,fun x hx=>?_⟩⟩
  · have:=ea x hx;have:=Pa.top x hx;omega
  · have:=eb x hx;have:=Pb.top x hx;omega
noncomputable def pebWinB (a:St) (xs:List Int) (b:St) (ys:List Int) (t:Int):Bool:=readyB a xs b ys&&inB t 0 4&&pWinB t.toNat a xs b ys
noncomputable def pebEverB (a:St) (xs:List Int) (b:St) (ys:List Int):Bool:=readyB a xs b ys&&pWinB 2000 a xs b ys
end Go.Wk
namespace Go.Wk
open Go.RowKit
def dig (pr s i:Nat):Nat:=s / pr ^ i % pr
def zer (pr s i:Nat):Nat:=s - pr ^ i*dig pr s i
theorem dig_lt {pr s i:Nat} (h:0<pr):dig pr s i<pr:=Nat.mod_lt _ h
theorem dig_first {pr s c:Nat} (hc:c<pr):dig pr (s*pr+c) 0=c:=by
 unfold dig
 rw [Nat.pow_zero,Nat.div_one,Nat.add_comm,Nat.add_mul_mod_self_right,Nat.mod_eq_of_lt hc]
theorem dig_next {pr s c i:Nat} (hc:c<pr):dig pr (s*pr+c) (i+1)=dig pr s i:=by
 unfold dig
 rw [Nat.pow_succ',← Nat.div_div_eq_div_mul,Nat.add_comm (s*pr),Nat.add_mul_div_right _ _ (by omega),Nat.div_eq_of_lt hc,Nat.zero_add]
theorem dig_le {pr s i:Nat}:pr ^ i*dig pr s i≤s:=by
 unfold dig
 exact Nat.le_trans (Nat.mul_le_mul_left _ (Nat.mod_le _ _)) (Nat.mul_div_le _ _)
theorem zer_add {pr s i:Nat}:zer pr s i+pr ^ i*dig pr s i=s:=by
 have:=dig_le (pr:=pr) (s:=s) (i:=i)
 unfold zer;omega
theorem dig_cut (pr s i:Nat):s=(s / pr ^ (i+1))*pr ^ (i+1)+pr ^ i*dig pr s i+s % pr ^ i:=by
 have h1:=Nat.div_add_mod s (pr ^ i)
 have h2:=Nat.div_add_mod (s / pr ^ i) pr
 rw [Nat.div_div_eq_div_mul,← Nat.pow_succ] at h2
 have h3:pr ^ i*(s / pr ^ i)=pr ^ i*(pr*(s / pr ^ (i+1))+s / pr ^ i % pr):=by rw [h2]
 rw [Nat.mul_add,← Nat.mul_assoc,← Nat.pow_succ,Nat.mul_comm (pr ^ (i+1))] at h3
 unfold dig
 omega
theorem dig_of_cut {pr h q l i:Nat} (hq:q<pr) (hl:l<pr ^ i):dig pr (h*pr ^ (i+1)+pr ^ i*q+l) i=q:=by
 have hp:0<pr ^ i:=by omega
 unfold dig
 have e:h*pr ^ (i+1)+pr ^ i*q+l=l+pr ^ i*(h*pr+q):=by
  rw [Nat.mul_add,Nat.pow_succ,show pr ^ i*(h*pr)=h*(pr ^ i*pr) from by rw [Nat.mul_left_comm]];omega
 rw [e,Nat.add_mul_div_left _ _ hp,Nat.div_eq_of_lt hl,Nat.zero_add,Nat.add_comm,Nat.add_mul_mod_self_right,Nat.mod_eq_of_lt hq]
theorem dig_below {pr h q l i j:Nat} (hj:j<i):dig pr (h*pr ^ (i+1)+pr ^ i*q+l) j=dig pr l j:=by
 have key:∀ s,dig pr s j=s % pr ^ (j+1) / pr ^ j:=fun s=>by
  unfold dig
  rw [Nat.pow_succ,Nat.mod_mul_right_div_self]
 have e:h*pr ^ (i+1)+pr ^ i*q+l=l+pr ^ (j+1)*(pr ^ (i - j - 1)*(h*pr+q)):=by
  rw [← Nat.mul_assoc,← Nat.pow_add,show j+1+(i - j - 1)=i from by omega,Nat.mul_add,Nat.pow_succ,show pr ^ i*(h*pr)=h*(pr ^ i*pr) from by rw [Nat.mul_left_comm]];omega
 rw [key,key,e,Nat.add_mul_mod_self_left]
theorem cut_hi {pr h q l i:Nat} (hq:q<pr) (hl:l<pr ^ i):(h*pr ^ (i+1)+pr ^ i*q+l) / pr ^ (i+1)=h:=by
 have hp:0<pr ^ (i+1):=Nat.pow_pos (by omega)
 have hs:pr ^ i*q+l<pr ^ (i+1):=by
  have:pr ^ i*(q+1)≤pr ^ i*pr:=Nat.mul_le_mul_left _ hq
  rw [Nat.mul_add,Nat.mul_one] at this
  rw [Nat.pow_succ];omega
 rw [Nat.add_assoc,Nat.add_comm,Nat.add_mul_div_right _ _ hp,Nat.div_eq_of_lt hs,Nat.zero_add]
theorem dig_above {pr h q l i j:Nat} (hq:q<pr) (hl:l<pr ^ i) (hj:i<j):dig pr (h*pr ^ (i+1)+pr ^ i*q+l) j=dig pr h (j - (i+1)):=by
 obtain ⟨m,rfl⟩:∃ m,j=i+1+m:=⟨j - (i+1),by omega⟩
 unfold dig
 rw [show i+1+m - (i+1)=m from by omega,Nat.pow_add pr (i+1) m,← Nat.div_div_eq_div_mul,cut_hi hq hl]
theorem dig_put {pr s i q:Nat} (hp:0<pr) (h0:dig pr s i=0) (hq:q<pr):dig pr (s+pr ^ i*q) i=q∧∀ j,j ≠ i→dig pr (s+pr ^ i*q) j=dig pr s j:=by
  have hl:s % pr ^ i<pr ^ i:=Nat.mod_lt _ (Nat.pow_pos hp)
  have e:=dig_cut pr s i
  rw [h0,Nat.mul_zero,Nat.add_zero] at e
  have e2:s+pr ^ i*q=(s / pr ^ (i+1))*pr ^ (i+1)+pr ^ i*q+s % pr ^ i:=by omega
  have e0:s=(s / pr ^ (i+1))*pr ^ (i+1)+pr ^ i*0+s % pr ^ i:=by omega
  refine ⟨by rw [e2,dig_of_cut hq hl],fun j hj=>?_⟩
  rcases Nat.lt_or_ge j i with h1 | h1
  · rw [e2,dig_below h1]
    conv=>rhs;rw [e0,dig_below h1]
  · rw [e2,dig_above hq hl (by omega)]
    conv=>rhs;rw [e0,dig_above hp hl (by omega)]
theorem put_lt {pr s i q k:Nat} (hp:0<pr) (h0:dig pr s i=0) (hq:q<pr) (hi:i<k) (hs:s<pr ^ k):s+pr ^ i*q<pr ^ k:=by
 have hl:s % pr ^ i<pr ^ i:=Nat.mod_lt _ (Nat.pow_pos hp)
 have e:=dig_cut pr s i
 rw [h0,Nat.mul_zero,Nat.add_zero] at e
 have hh:s / pr ^ (i+1)<pr ^ (k - (i+1)):=Nat.div_lt_of_lt_mul (by rw [← Nat.pow_add,show i+1+(k - (i+1))=k from by omega];exact hs)
 have h1:(s / pr ^ (i+1)+1)*pr ^ (i+1)≤pr ^ (k - (i+1))*pr ^ (i+1):=Nat.mul_le_mul_right _ hh
 rw [← Nat.pow_add,show k - (i+1)+(i+1)=k from by omega,Nat.add_mul,Nat.one_mul] at h1
 have h2:pr ^ i*(q+1)≤pr ^ i*pr:=Nat.mul_le_mul_left _ hq
 rw [Nat.mul_add,Nat.mul_one,← Nat.pow_succ] at h2
 have h3:pr ^ i.succ=pr ^ (i+1):=rfl
 omega
theorem dig_zer {pr s i:Nat} (hp:0<pr):dig pr (zer pr s i) i=0∧∀ j,j ≠ i→dig pr (zer pr s i) j=dig pr s j:=by
 have hl:s % pr ^ i<pr ^ i:=Nat.mod_lt _ (Nat.pow_pos hp)
 have e:=dig_cut pr s i
 have hz:zer pr s i=(s / pr ^ (i+1))*pr ^ (i+1)+pr ^ i*0+s % pr ^ i:=by
  unfold zer
  rw [Nat.mul_zero,Nat.add_zero]
  have h9:=dig_le (pr:=pr) (s:=s) (i:=i)
  omega
 have h0:dig pr (zer pr s i) i=0:=by rw [hz,dig_of_cut hp hl]
 refine ⟨h0,fun j hj=>?_⟩
 have:=(dig_put (q:=dig pr s i) hp h0 (dig_lt hp)).2 j hj
 rw [zer_add] at this
 exact this.symm
theorem zer_iff {pr s t i:Nat} (hp:0<pr) (h0:dig pr t i=0):zer pr s i=t↔∃ q,q<pr∧s=t+pr ^ i*q:=by
  constructor
  · intro e
    exact ⟨dig pr s i,dig_lt hp,by rw [← e,zer_add]⟩
  · rintro ⟨q,hq,rfl⟩
    unfold zer
    rw [(dig_put hp h0 hq).1];omega
theorem zer_lt {pr s i k:Nat} (h:s<pr ^ k):zer pr s i<pr ^ k:=by unfold zer;omega
def xOf (nb d:Nat):Int:=if d=0 then -1 else (((d - 1) / nb:Nat):Int)
def yOf (nb d:Nat):Int:=if d=0 then -1 else (((d - 1) % nb:Nat):Int)
def pX (nb pr k s:Nat):List Int:=(List.range k).map fun i=>xOf nb (dig pr s i)
def pY (nb pr k s:Nat):List Int:=(List.range k).map fun i=>yOf nb (dig pr s i)
@[simp] theorem pX_len (nb pr k s:Nat):(pX nb pr k s).length=k:=by simp [pX]
@[simp] theorem pY_len (nb pr k s:Nat):(pY nb pr k s).length=k:=by simp [pY]
theorem pX_at {nb pr k s i:Nat} (h:i<k):(pX nb pr k s).getD i 0=xOf nb (dig pr s i):=by
 rw [getD_at (by rw [pX_len];exact h)];simp [pX]
theorem pY_at {nb pr k s i:Nat} (h:i<k):(pY nb pr k s).getD i 0=yOf nb (dig pr s i):=by
 rw [getD_at (by rw [pY_len];exact h)];simp [pY]
theorem set_ext {l m:List Int} {i:Nat} {x:Int} (hl:m.length=l.length) (hx:i<l.length→m.getD i 0=x) (hr:∀ j,j<l.length→j ≠ i→m.getD j 0=l.getD j 0):m=l.set i x:=by
  refine List.ext_getElem (by rw [List.length_set,hl]) fun j h1 h2=>?_
  rw [List.length_set] at h2
  rw [List.getElem_set]
  split
  · rename_i e
    subst e
    rw [← hx h2,getD_at h1]
  · rename_i e
    have:=hr j h2 (fun h=>e h.symm)
    rw [getD_at h1,getD_at h2] at this
    exact this
theorem pX_put {nb pr k s i x y:Nat} (hp:0<pr) (hi:i<k) (h0:dig pr s i=0) (hq:1+x*nb+y<pr) (hy:y<nb):pX nb pr k (s+pr ^ i*(1+x*nb+y))=(pX nb pr k s).set i (x:Int):=by
  obtain ⟨h1,h2⟩:=dig_put hp h0 hq
  refine set_ext (by simp) (fun _=>?_) fun j hj hne=>?_
  · rw [pX_at hi,h1]
    unfold xOf
    rw [if_neg (by omega),show 1+x*nb+y - 1=y+x*nb from by omega,Nat.add_mul_div_right _ _ (by omega),Nat.div_eq_of_lt hy,Nat.zero_add]
  · rw [pX_len] at hj
    rw [pX_at hj,pX_at hj,h2 j hne]
theorem pY_put {nb pr k s i x y:Nat} (hp:0<pr) (hi:i<k) (h0:dig pr s i=0) (hq:1+x*nb+y<pr) (hy:y<nb):pY nb pr k (s+pr ^ i*(1+x*nb+y))=(pY nb pr k s).set i (y:Int):=by
  obtain ⟨h1,h2⟩:=dig_put hp h0 hq
  refine set_ext (by simp) (fun _=>?_) fun j hj hne=>?_
  · rw [pY_at hi,h1]
    unfold yOf
    rw [if_neg (by omega),show 1+x*nb+y - 1=y+x*nb from by omega,Nat.add_mul_mod_self_right,Nat.mod_eq_of_lt hy]
  · rw [pY_len] at hj
    rw [pY_at hj,pY_at hj,h2 j hne]
theorem pX_zer {nb pr k s i:Nat} (hp:0<pr) {x:Int}:(pX nb pr k (zer pr s i)).set i x=(pX nb pr k s).set i x:=by
  obtain ⟨_,h2⟩:=dig_zer (s:=s) (i:=i) hp
  refine set_ext (by simp) (fun h=>?_) fun j hj hne=>?_
  · rw [pX_len] at h
    rw [List.getD_eq_getElem?_getD,List.getElem?_set_self (by rw [pX_len];exact h)];rfl
  · rw [pX_len] at hj
    rw [List.getD_eq_getElem?_getD,List.getElem?_set_ne (fun e=>hne e.symm),← List.getD_eq_getElem?_getD,pX_at hj,pX_at hj,h2 j hne]
theorem pY_zer {nb pr k s i:Nat} (hp:0<pr) {x:Int}:(pY nb pr k (zer pr s i)).set i x=(pY nb pr k s).set i x:=by
  obtain ⟨_,h2⟩:=dig_zer (s:=s) (i:=i) hp
  refine set_ext (by simp) (fun h=>?_) fun j hj hne=>?_
  · rw [pY_len] at h
    rw [List.getD_eq_getElem?_getD,List.getElem?_set_self (by rw [pY_len];exact h)];rfl
  · rw [pY_len] at hj
    rw [List.getD_eq_getElem?_getD,List.getElem?_set_ne (fun e=>hne e.symm),← List.getD_eq_getElem?_getD,pY_at hj,pY_at hj,h2 j hne]
def code (nb:Nat) (x y:Int):Nat:=if 0≤x then 1+x.toNat*nb+y.toNat else 0
def stU (nb pr:Nat) (xs ys:List Int) (k:Nat):Nat→Nat
 | 0=>0
 | j+1=>stU nb pr xs ys k j*pr+code nb (xs.getD (k - 1 - j) 0) (ys.getD (k - 1 - j) 0)
theorem stU_dig {nb pr k:Nat} {xs ys:List Int} (hc:∀ i:Nat,i<k→code nb (xs.getD i 0) (ys.getD i 0)<pr):∀ j:Nat,j≤k→∀ i:Nat,i<j→dig pr (stU nb pr xs ys k j) i=code nb (xs.getD (k - j+i) 0) (ys.getD (k - j+i) 0)
 | 0,_,i,hi=>absurd hi (by omega)
 | j+1,hj,i,hi=>by
  have hcj:=hc (k - 1 - j) (by omega)
  unfold stU
  cases i with
  | zero=>rw [dig_first hcj,show k - (j+1)+0=k - 1 - j from by omega]
  | succ i=>rw [dig_next hcj,stU_dig hc j (by omega) i (by omega),show k - (j+1)+(i+1)=k - j+i from by omega]
theorem stU_lt {nb pr k:Nat} {xs ys:List Int} (hc:∀ i:Nat,i<k→code nb (xs.getD i 0) (ys.getD i 0)<pr):∀ j:Nat,j≤k→stU nb pr xs ys k j<pr ^ j
 | 0,_=>Nat.one_pos
 | j+1,hj=>by
  have h1:=stU_lt hc j (by omega)
  have hcj:=hc (k - 1 - j) (by omega)
  have h2:(stU nb pr xs ys k j+1)*pr≤pr ^ j*pr:=Nat.mul_le_mul_right _ h1
  rw [Nat.add_mul,Nat.one_mul] at h2
  unfold stU
  rw [Nat.pow_succ];omega
end Go.Wk
namespace Go.Wk
open Go.RowKit
def prN (a b:St):Nat:=a.n.toNat*b.n.toNat+1
theorem prN_pos (a b:St):0<prN a b:=Nat.succ_pos _
theorem pair_lt {a b:St} {x y:Nat} (hx:x<a.n.toNat) (hy:y<b.n.toNat):1+x*b.n.toNat+y<prN a b:=by
 have:(x+1)*b.n.toNat≤a.n.toNat*b.n.toNat:=Nat.mul_le_mul_right _ hx
 rw [Nat.add_mul,Nat.one_mul] at this
 unfold prN;omega
theorem prN_le {a b:St} (ha:a.n.toNat≤8) (hb:b.n.toNat≤8):prN a b≤65:=by
 have:=Nat.mul_le_mul ha hb
 unfold prN;omega
theorem pow65 {p k:Nat} (h:p≤65) (hk:k≤3):p ^ k≤274625:=Nat.le_trans (Nat.pow_le_pow_left h k) (Nat.le_trans (Nat.pow_le_pow_right (by decide) hk) (by decide))
def stX (a b:St) (k s:Nat):List Int:=pX b.n.toNat (prN a b) k s
def stY (a b:St) (k s:Nat):List Int:=pY b.n.toNat (prN a b) k s
theorem dig_x {a b:St} {k s i:Nat} (h:i<k) : -1≤(stX a b k s).getD i 0∧(stX a b k s).getD i 0<(a.n.toNat:Int)∧((stX a b k s).getD i 0<0↔dig (prN a b) s i=0):=by
  have hd:=dig_lt (s:=s) (i:=i) (prN_pos a b)
  unfold stX
  rw [pX_at h]
  unfold xOf
  by_cases e:dig (prN a b) s i=0
  · rw [if_pos e];omega
  · rw [if_neg e]
    have h1:(dig (prN a b) s i - 1) / b.n.toNat<a.n.toNat:=Nat.div_lt_of_lt_mul (by rw [Nat.mul_comm];have hq:prN a b=a.n.toNat*b.n.toNat+1:=rfl;omega)
    generalize (dig (prN a b) s i - 1) / b.n.toNat=z at h1 ⊢
    omega
theorem dig_y {a b:St} {k s i:Nat} (hb:1≤b.n.toNat) (h:i<k) : -1≤(stY a b k s).getD i 0∧(stY a b k s).getD i 0<(b.n.toNat:Int)∧((stY a b k s).getD i 0<0↔dig (prN a b) s i=0):=by
  unfold stY
  rw [pY_at h]
  unfold yOf
  by_cases e:dig (prN a b) s i=0
  · rw [if_pos e];omega
  · rw [if_neg e]
    have h1:(dig (prN a b) s i - 1) % b.n.toNat<b.n.toNat:=Nat.mod_lt _ (by omega)
    omega
theorem stX_peb {a b:St} {k s:Nat}:Peb a.n.toNat k (stX a b k s):=by
 refine ⟨by unfold stX;simp,fun x hx=>?_⟩
 obtain ⟨i,hi,rfl⟩:=List.mem_iff_getElem.1 hx
 have:=dig_x (a:=a) (b:=b) (s:=s) (k:=k) (i:=i) (by unfold stX at hi;simpa using hi)
 rw [getD_at hi] at this
 omega
theorem stY_peb {a b:St} {k s:Nat} (hb:1≤b.n.toNat):Peb b.n.toNat k (stY a b k s):=by
 refine ⟨by unfold stY;simp,fun x hx=>?_⟩
 obtain ⟨i,hi,rfl⟩:=List.mem_iff_getElem.1 hx
 have:=dig_y (a:=a) (s:=s) hb (k:=k) (i:=i) (by unfold stY at hi;simpa using hi)
 rw [getD_at hi] at this
 omega
@[simp] theorem stX_len (a b:St) (k s:Nat):(stX a b k s).length=k:=by unfold stX;simp
@[simp] theorem stY_len (a b:St) (k s:Nat):(stY a b k s).length=k:=by unfold stY;simp
theorem st_signs {a b:St} {k s:Nat} (hb:1≤b.n.toNat):∀ i:Nat,i<k→((stX a b k s).getD i 0<0↔(stY a b k s).getD i 0<0):=fun _ hi =>
 (dig_x hi).2.2.trans (dig_y hb hi).2.2.symm
open Classical in
noncomputable def winAt (n:Nat) (a b:St) (k s:Nat):Bool:=decide (pW n a (stX a b k s) b (stY a b k s))
open Classical in
theorem winAt_true {n:Nat} {a b:St} {k s:Nat}:winAt n a b k s=true↔pW n a (stX a b k s) b (stY a b k s):=by
 unfold winAt;exact decide_eq_true_iff
noncomputable def WL (n:Nat) (a b:St) (k:Nat):List Bool:=(List.range (prN a b ^ k)).map (winAt n a b k)
@[simp] theorem WL_len (n:Nat) (a b:St) (k:Nat):(WL n a b k).length=prN a b ^ k:=by simp [WL]
theorem WL_at {n:Nat} {a b:St} {k s:Nat} (h:s<prN a b ^ k):(WL n a b k).getD s false=winAt n a b k s:=by
 rw [getD_at (by rw [WL_len];exact h)];simp [WL]
theorem win_zero {a b:St} {k s:Nat} (hb:1≤b.n.toNat):winAt 0 a b k s=sameB a (placed (stX a b k s) k) b (placed (stY a b k s) k):=by
 rw [Bool.eq_iff_iff,winAt_true]
 unfold pW
 rw [stX_len,stY_len]
 exact ⟨fun h=>h.2,fun h=>⟨st_signs hb,h⟩⟩
def Ans (W:Nat→Bool) (na nb rest step:Nat):Prop:=(∀ x:Nat,x<na→∃ y:Nat,y<nb∧W (rest+step*(1+x*nb+y))=true)∧∀ y:Nat,y<nb→∃ x:Nat,x<na∧W (rest+step*(1+x*nb+y))=true
theorem ans_iff {n:Nat} {a b:St} {k s i:Nat} (hi:i<k):Ans (winAt n a b k) a.n.toNat b.n.toNat (zer (prN a b) s i) (prN a b ^ i) ↔
    (∀ x:Nat,x<a.n.toNat→∃ y:Nat,y<b.n.toNat∧pW n a ((stX a b k s).set i (x:Int)) b ((stY a b k s).set i (y:Int)))∧(∀ y:Nat,y<b.n.toNat→∃ x:Nat,x<a.n.toNat∧pW n a ((stX a b k s).set i (x:Int)) b ((stY a b k s).set i (y:Int))):=by
  have hp:=prN_pos a b
  have key:∀ x y:Nat,x<a.n.toNat→y<b.n.toNat→(winAt n a b k (zer (prN a b) s i+prN a b ^ i*(1+x*b.n.toNat+y))=true↔pW n a ((stX a b k s).set i (x:Int)) b ((stY a b k s).set i (y:Int))):=fun x y hx hy=>by
    have h0:=(dig_zer (s:=s) (i:=i) hp).1
    rw [winAt_true]
    unfold stX stY
    rw [pX_put hp hi h0 (pair_lt hx hy) hy,pY_put hp hi h0 (pair_lt hx hy) hy,pX_zer hp,pY_zer hp]
  unfold Ans
  refine and_congr ?_ ?_
  · exact forall_congr' fun x=>imp_congr_right fun hx=>exists_congr fun y=>and_congr_right fun hy=>key x y hx hy
  · exact forall_congr' fun y=>imp_congr_right fun hy=>exists_congr fun x=>and_congr_right fun hx=>key x y hx hy
theorem pW_moves:∀ {n:Nat} {a:St} {xs:List Int} {b:St} {ys:List Int},pW 0 a xs b ys→(∀ i:Nat,i<xs.length→(∀ x:Nat,x<a.n.toNat→∃ y:Nat,y<b.n.toNat∧pW n a (xs.set i (x:Int)) b (ys.set i (y:Int)))∧(∀ y:Nat,y<b.n.toNat→∃ x:Nat,x<a.n.toNat∧pW n a (xs.set i (x:Int)) b (ys.set i (y:Int))))→pW n a xs b ys
 | 0,_,_,_,_,h,_=>h
 | n+1,a,xs,b,ys,h,hm=>by
  have hm':∀ i:Nat,i<xs.length→(∀ x:Nat,x<a.n.toNat→∃ y:Nat,y<b.n.toNat∧pW n a (xs.set i (x:Int)) b (ys.set i (y:Int)))∧(∀ y:Nat,y<b.n.toNat→∃ x:Nat,x<a.n.toNat∧pW n a (xs.set i (x:Int)) b (ys.set i (y:Int))):=fun i hi =>
   ⟨fun x hx=>((hm i hi).1 x hx).elim fun y hy=>⟨y,hy.1,hy.2.1⟩,fun y hy=>((hm i hi).2 y hy).elim fun x hx=>⟨x,hx.1,hx.2.1⟩⟩
  exact ⟨pW_moves h hm',hm'⟩
theorem win_step {n:Nat} {a b:St} {k s:Nat}:winAt (n+1) a b k s=true↔winAt 0 a b k s=true∧∀ i:Nat,i<k→Ans (winAt n a b k) a.n.toNat b.n.toNat (zer (prN a b) s i) (prN a b ^ i):=by
  rw [winAt_true,winAt_true]
  constructor
  · intro h
    refine ⟨?_,fun i hi=>(ans_iff hi).2 (h.2 i (by rw [stX_len];exact hi))⟩
    have:=pW_less (n:=0) (n+1) (by rw [Nat.zero_add];exact h)
    exact this
  · rintro ⟨h1,h2⟩
    have hm:∀ i:Nat,i<(stX a b k s).length→_:=fun i hi=>(ans_iff (n:=n) (s:=s) (by rw [stX_len] at hi;exact hi)).1 (h2 i (by rw [stX_len] at hi;exact hi))
    exact ⟨pW_moves h1 hm,hm⟩
theorem code_lt {a b:St} {k:Nat} {xs ys:List Int} (hx:Peb a.n.toNat k xs) (hy:Peb b.n.toNat k ys) (hs:∀ i:Nat,i<k→(xs.getD i 0<0↔ys.getD i 0<0)):∀ i:Nat,i<k→code b.n.toNat (xs.getD i 0) (ys.getD i 0)<prN a b:=fun i hi=>by
  obtain ⟨x1,x2⟩:=peb_at hx hi
  obtain ⟨y1,y2⟩:=peb_at hy hi
  have:=hs i hi
  unfold code
  split
  · exact pair_lt (by omega) (by omega)
  · exact prN_pos a b
theorem code_x {nb:Nat} {x y:Int} (h1 : -1≤x) (hs:x<0↔y<0) (hy:y<(nb:Int)):xOf nb (code nb x y)=x:=by
  unfold code
  split
  · unfold xOf
    rw [if_neg (by omega),show 1+x.toNat*nb+y.toNat - 1=y.toNat+x.toNat*nb from by omega,Nat.add_mul_div_right _ _ (by omega),Nat.div_eq_of_lt (by omega)]
    omega
  · unfold xOf;rw [if_pos rfl];omega
theorem code_y {nb:Nat} {x y:Int} (h1 : -1≤y) (hs:x<0↔y<0) (hy:y<(nb:Int)):yOf nb (code nb x y)=y:=by
  unfold code
  split
  · unfold yOf
    rw [if_neg (by omega),show 1+x.toNat*nb+y.toNat - 1=y.toNat+x.toNat*nb from by omega,Nat.add_mul_mod_self_right,Nat.mod_eq_of_lt (by omega)]
    omega
  · unfold yOf;rw [if_pos rfl];omega
def stN (a b:St) (xs ys:List Int):Nat:=stU b.n.toNat (prN a b) xs ys xs.length xs.length
theorem list_ext0 {l m:List Int} (hl:l.length=m.length) (h:∀ i:Nat,i<l.length→l.getD i 0=m.getD i 0):l=m:=by
 refine List.ext_getElem hl fun i h1 h2=>?_
 have:=h i h1
 rwa [getD_at h1,getD_at h2] at this
theorem stN_ok {a b:St} {xs ys:List Int} (hx:Peb a.n.toNat xs.length xs) (hy:Peb b.n.toNat xs.length ys) (hs:∀ i:Nat,i<xs.length→(xs.getD i 0<0↔ys.getD i 0<0)):stN a b xs ys<prN a b ^ xs.length∧stX a b xs.length (stN a b xs ys)=xs∧stY a b xs.length (stN a b xs ys)=ys:=by
  have hc:=code_lt hx hy hs
  refine ⟨stU_lt hc _ (Nat.le_refl _),list_ext0 (by simp) fun i hi=>?_,list_ext0 (by simp [hy.1]) fun i hi=>?_⟩
  · rw [stX_len] at hi
    unfold stX stN
    rw [pX_at hi,stU_dig hc _ (Nat.le_refl _) i hi,Nat.sub_self,Nat.zero_add]
    obtain ⟨x1,x2⟩:=peb_at hx hi
    obtain ⟨y1,y2⟩:=peb_at hy hi
    exact code_x x1 (hs i hi) y2
  · rw [stY_len] at hi
    unfold stY stN
    rw [pY_at hi,stU_dig hc _ (Nat.le_refl _) i hi,Nat.sub_self,Nat.zero_add]
    obtain ⟨x1,x2⟩:=peb_at hx hi
    obtain ⟨y1,y2⟩:=peb_at hy hi
    exact code_y y1 (hs i hi) y2
end Go.Wk
namespace Go.Wk
open Go.RowKit
def idxB (bs:List Bool) (y:Bool):Int:=if y∈bs then ((bs.findIdx (fun z=>y==z):Nat):Int) else -1
theorem idxB_at {bs:List Bool} {y:Bool} {k:Nat} (hk:k<bs.length) (h:∀ i:Nat,i<k→(y==bs.getD i false)=false) (hq:(y==bs.getD k false)=true):idxB bs y=k:=by
 rw [getD_at hk] at hq
 unfold idxB
 rw [if_pos (by rw [eq_of_beq hq];exact List.getElem_mem _)]
 congr 1
 rw [List.findIdx_eq hk]
 refine ⟨hq,fun j hj=>?_⟩
 have:=h j hj
 rwa [getD_at (by omega)] at this
theorem idxB_none {bs:List Bool} {y:Bool} (h:∀ i:Nat,i<bs.length→(y==bs.getD i false)=false):idxB bs y = -1:=by
 unfold idxB
 rw [if_neg fun hm=>?_]
 obtain ⟨i,hi,e⟩:=List.getElem_of_mem hm
 have:=h i hi
 rw [getD_at hi,e] at this
 simp at this
theorem idxB_has (bs:List Bool) (y:Bool):decide (0≤idxB bs y)=decide (y∈bs):=by
  unfold idxB
  by_cases h:y∈bs
  · rw [if_pos h];simp [h]
  · rw [if_neg h];simp [h]
theorem bools_same {xs ys:List Bool} (hl:xs.length=ys.length) (h:∀ i:Nat,i<xs.length→xs.getD i false=ys.getD i false):xs=ys:=by
 refine List.ext_getElem hl fun i h1 h2=>?_
 have:=h i h1
 rwa [getD_at h1,getD_at h2] at this
theorem set_at {l:List Bool} {i j:Nat} {b:Bool} (hi:i<l.length):(l.set i b).getD j false=if i=j then b else l.getD j false:=by
  rw [List.getD_eq_getElem?_getD,List.getElem?_set,List.getD_eq_getElem?_getD]
  by_cases e:i=j
  · subst e;simp [hi]
  · simp [e]
theorem all_in {l:List Bool}:decide (false∈l)=false↔∀ i:Nat,i<l.length→l.getD i false=true:=by
  rw [decide_eq_false_iff_not]
  constructor
  · intro h i hi
    rw [getD_at hi]
    cases e:l[i] with
    | true=>rfl
    | false=>exact absurd (by rw [← e];exact List.getElem_mem _) h
  · intro h hm
    obtain ⟨i,hi,e⟩:=List.getElem_of_mem hm
    have:=h i hi
    rw [getD_at hi,e] at this
    cases this
structure Marks (f:Nat→Nat→Bool) (na nb x y:Nat) (R C:List Bool):Prop where
 rl:R.length=na
 cl:C.length=nb
 rows:∀ i:Nat,i<na→(R.getD i false=true↔∃ j:Nat,j<nb∧(i<x∨i=x∧j<y)∧f i j=true)
 cols:∀ j:Nat,j<nb→(C.getD j false=true↔∃ i:Nat,i<na∧(i<x∨i=x∧j<y)∧f i j=true)
theorem marks_zero (f:Nat→Nat→Bool) (na nb:Nat):Marks f na nb 0 0 (List.replicate na false) (List.replicate nb false):=by
  refine ⟨by simp,by simp,fun i hi=>?_,fun j hj=>?_⟩
  · rw [getD_at (by simpa using hi)]
    simp
  · rw [getD_at (by simpa using hj)]
    simp
theorem marks_next {f:Nat→Nat→Bool} {na nb x:Nat} {R C:List Bool} (h:Marks f na nb x nb R C):Marks f na nb (x+1) 0 R C:=by
  refine ⟨h.rl,h.cl,fun i hi=>(h.rows i hi).trans ?_,fun j hj=>(h.cols j hj).trans ?_⟩
  · refine exists_congr fun j=>and_congr_right fun hj=>and_congr_left fun _=>?_
    omega
  · refine exists_congr fun i=>and_congr_right fun hi=>and_congr_left fun _=>?_
    omega
theorem marks_no {f:Nat→Nat→Bool} {na nb x y:Nat} {R C:List Bool} (h:Marks f na nb x y R C) (hf:f x y=false):Marks f na nb x (y+1) R C:=by
  refine ⟨h.rl,h.cl,fun i hi=>(h.rows i hi).trans ?_,fun j hj=>(h.cols j hj).trans ?_⟩
  · refine exists_congr fun j=>and_congr_right fun hj=>?_
    constructor
    · rintro ⟨h1,h2⟩;exact ⟨by omega,h2⟩
    · rintro ⟨h1,h2⟩
      refine ⟨?_,h2⟩
      rcases h1 with h1 | ⟨h1,h3⟩
      · exact .inl h1
      · by_cases e:j=y
        · subst e;subst h1;rw [hf] at h2;cases h2
        · exact .inr ⟨h1,by omega⟩
  · refine exists_congr fun i=>and_congr_right fun hi=>?_
    constructor
    · rintro ⟨h1,h2⟩;exact ⟨by omega,h2⟩
    · rintro ⟨h1,h2⟩
      refine ⟨?_,h2⟩
      rcases h1 with h1 | ⟨h1,h3⟩
      · exact .inl h1
      · by_cases e:j=y
        · subst e;subst h1;rw [hf] at h2;cases h2
        · exact .inr ⟨h1,by omega⟩
theorem marks_yes {f:Nat→Nat→Bool} {na nb x y:Nat} {R C:List Bool} (h:Marks f na nb x y R C) (hx:x<na) (hy:y<nb) (hf:f x y=true):Marks f na nb x (y+1) (R.set x true) (C.set y true):=by
  refine ⟨by rw [List.length_set];exact h.rl,by rw [List.length_set];exact h.cl,fun i hi=>?_,fun j hj=>?_⟩
  · rw [set_at (by rw [h.rl];exact hx)]
    by_cases e:x=i
    · subst e
      rw [if_pos rfl]
      exact ⟨fun _=>⟨y,hy,by omega,hf⟩,fun _=>rfl⟩
    · rw [if_neg e,h.rows i hi]
      refine exists_congr fun j=>and_congr_right fun hj=>and_congr_left fun _=>?_
      omega
  · rw [set_at (by rw [h.cl];exact hy)]
    by_cases e:y=j
    · subst e
      rw [if_pos rfl]
      exact ⟨fun _=>⟨x,hx,by omega,hf⟩,fun _=>rfl⟩
    · rw [if_neg e,h.cols j hj]
      refine exists_congr fun i=>and_congr_right fun hi=>and_congr_left fun _=>?_
      omega
open Classical in
noncomputable def ansB (W:Nat→Bool) (na nb rest step:Nat):Bool:=decide (Ans W na nb rest step)
open Classical in
theorem ansB_true {W:Nat→Bool} {na nb rest step:Nat}:ansB W na nb rest step=true↔Ans W na nb rest step:=by
 unfold ansB;exact decide_eq_true_iff
theorem marks_end {W:Nat→Bool} {na nb rest step:Nat} {R C:List Bool} (h:Marks (fun x y=>W (rest+step*(1+x*nb+y))) na nb na 0 R C):(!decide (false∈R)&&!decide (false∈C))=ansB W na nb rest step:=by
  rw [Bool.eq_iff_iff,ansB_true,Bool.and_eq_true,Bool.not_eq_true',Bool.not_eq_true',all_in,all_in,h.rl,h.cl]
  unfold Ans
  refine and_congr ?_ ?_
  · refine forall_congr' fun x=>imp_congr_right fun hx=>(h.rows x hx).trans (exists_congr fun y=>and_congr_right fun hy=>?_)
    exact ⟨fun e=>e.2,fun e=>⟨.inl hx,e⟩⟩
  · refine forall_congr' fun y=>imp_congr_right fun hy=>(h.cols y hy).trans (exists_congr fun x=>and_congr_right fun hx=>?_)
    exact ⟨fun e=>e.2,fun e=>⟨.inl hx,e⟩⟩
end Go.Wk
namespace Go.Wk
open Go.RowKit
theorem mul65 {x p:Nat} (hx:x≤274625) (hp:p≤65):0≤(x:Int)*(p:Int)∧(x:Int)*(p:Int)≤17850625:=by
 have:=Nat.mul_le_mul hx hp
 rw [← Int.natCast_mul];omega
theorem mul8 {x y:Int} (hx:0≤x) (hx8:x<8) (hy:0≤y) (hy8:y≤8):0≤x*y∧x*y≤64 :=
 ⟨Int.mul_nonneg hx hy,Int.le_trans (Int.mul_le_mul_of_nonneg_right (show x≤8 by omega) hy) (by omega)⟩
theorem stU_pos {b:St} {pr k j:Nat} {xs ys:List Int} (h:0≤xs.getD (k - 1 - j) 0) (hy:0≤ys.getD (k - 1 - j) 0) (hb:0≤b.n):((stU b.n.toNat pr xs ys k (j+1):Nat):Int)=((stU b.n.toNat pr xs ys k j:Nat):Int)*(pr:Int)+((1+xs.getD (k - 1 - j) 0*b.n)+ys.getD (k - 1 - j) 0):=by
 rw [stU,code,if_pos h,Int.natCast_add,Int.natCast_mul,Int.natCast_add,Int.natCast_add,Int.natCast_mul,Int.toNat_of_nonneg h,Int.toNat_of_nonneg hy,Int.toNat_of_nonneg hb]
 rfl
theorem stU_neg {nb pr k j:Nat} {xs ys:List Int} (h:¬ 0≤xs.getD (k - 1 - j) 0):((stU nb pr xs ys k (j+1):Nat):Int)=((stU nb pr xs ys k j:Nat):Int)*(pr:Int):=by
 rw [stU,code,if_neg h,Nat.add_zero,Int.natCast_mul]
end Go.Wk
namespace Go.Wk
theorem beq_no {xs ys:List Bool} (h:xs ≠ ys):(xs==ys)=false:=by simpa using h
end Go.Wk
namespace Go.Wk
open Go.RowKit
structure TurnAt (fit W:Nat→Bool) (a b:St) (k i S:Nat) (X:List Bool):Prop where
 len:X.length=prN a b ^ k
 at_:∀ s:Nat,s<prN a b ^ k→(X.getD s false=true↔fit s=true∧(∀ j:Nat,j<i→Ans W a.n.toNat b.n.toNat (zer (prN a b) s j) (prN a b ^ j))∧(zer (prN a b) s i<S→Ans W a.n.toNat b.n.toNat (zer (prN a b) s i) (prN a b ^ i)))
theorem turn_zero {W:Nat→Bool} {a b:St} {k:Nat} {X:List Bool} (h:X.length=prN a b ^ k):TurnAt (fun s=>X.getD s false) W a b k 0 0 X :=
 ⟨h,fun s _=>⟨fun e=>⟨e,fun j hj=>absurd hj (by omega),fun h=>absurd h (by omega)⟩,fun e=>e.1⟩⟩
theorem turn_round {fit W:Nat→Bool} {a b:St} {k i:Nat} {X:List Bool} (h:TurnAt fit W a b k i (prN a b ^ k) X):TurnAt fit W a b k (i+1) 0 X :=
  ⟨h.len,fun s hs=>(h.at_ s hs).trans (and_congr_right fun _=>⟨fun e=>⟨fun j hj=>by
    rcases Nat.lt_or_ge j i with h1 | h1
    · exact e.1 j h1
    · rw [show j=i from by omega];exact e.2 (zer_lt hs),fun h=>absurd h (by omega)⟩,fun e=>⟨fun j hj=>e.1 j (by omega),fun _=>e.1 i (by omega)⟩⟩)⟩
theorem turn_skip {fit W:Nat→Bool} {a b:St} {k i S:Nat} {X:List Bool} (h:TurnAt fit W a b k i S X) (hd:dig (prN a b) S i ≠ 0):TurnAt fit W a b k i (S+1) X :=
 ⟨h.len,fun s hs=>(h.at_ s hs).trans (and_congr_right fun _=>and_congr_right fun _=>by
  have hne:zer (prN a b) s i ≠ S:=fun e=>hd (by rw [← e];exact (dig_zer (prN_pos a b)).1)
  exact ⟨fun e h1=>e (by omega),fun e h1=>e (by omega)⟩)⟩
theorem turn_yes {fit W:Nat→Bool} {a b:St} {k i S:Nat} {X:List Bool} (h:TurnAt fit W a b k i S X) (hA:Ans W a.n.toNat b.n.toNat S (prN a b ^ i)):TurnAt fit W a b k i (S+1) X :=
  ⟨h.len,fun s hs=>(h.at_ s hs).trans (and_congr_right fun _=>and_congr_right fun _=>by
    refine ⟨fun e h1=>?_,fun e h1=>e (by omega)⟩
    by_cases hz:zer (prN a b) s i=S
    · rw [hz];exact hA
    · exact e (by omega))⟩
structure Cleared (X0 X:List Bool) (S step Q:Nat):Prop where
 len:X.length=X0.length
 at_:∀ s:Nat,s<X0.length→(X.getD s false=true↔X0.getD s false=true∧¬ ∃ q,q<Q∧s=S+step*q)
theorem clear_zero (X:List Bool) (S step:Nat):Cleared X X S step 0:=⟨rfl,fun s _=>⟨fun e=>⟨e,fun ⟨q,hq,_⟩=>absurd hq (by omega)⟩,fun e=>e.1⟩⟩
theorem clear_next {X0 X:List Bool} {S step Q:Nat} (h:Cleared X0 X S step Q) (hl:S+step*Q<X0.length):Cleared X0 (X.set (S+step*Q) false) S step (Q+1):=by
  refine ⟨by rw [List.length_set];exact h.len,fun s hs=>?_⟩
  rw [set_at (by rw [h.len];exact hl)]
  by_cases e:S+step*Q=s
  · rw [if_pos e]
    exact ⟨(fun h=>by cases h),fun h=>absurd ⟨Q,by omega,e.symm⟩ h.2⟩
  · rw [if_neg e,h.at_ s hs]
    refine and_congr_right fun _=>not_congr ⟨fun ⟨q,h1,h2⟩=>⟨q,by omega,h2⟩,fun ⟨q,h1,h2⟩=>⟨q,?_,h2⟩⟩
    rcases Nat.lt_or_ge q Q with h3 | h3
    · exact h3
    · exact absurd (by rw [h2,show q=Q from by omega]) e
theorem turn_no {fit W:Nat→Bool} {a b:St} {k i S:Nat} {X X':List Bool} (h:TurnAt fit W a b k i S X) (hd:dig (prN a b) S i=0) (hA:¬ Ans W a.n.toNat b.n.toNat S (prN a b ^ i)) (hc:Cleared X X' S (prN a b ^ i) (prN a b)):TurnAt fit W a b k i (S+1) X':=by
  refine ⟨hc.len.trans h.len,fun s hs=>?_⟩
  rw [hc.at_ s (by rw [h.len];exact hs),h.at_ s hs,← zer_iff (prN_pos a b) hd]
  constructor
  · rintro ⟨⟨h1,h2,h3⟩,h4⟩
    exact ⟨h1,h2,fun h5=>h3 (by omega)⟩
  · rintro ⟨h1,h2,h3⟩
    refine ⟨⟨h1,h2,fun h5=>h3 (by omega)⟩,fun e=>hA ?_⟩
    have:=h3 (by omega)
    rwa [e] at this
theorem ans_wl {n:Nat} {a b:St} {k s j:Nat} (hj:j<k) (hs:s<prN a b ^ k):Ans (fun s=>(WL n a b k).getD s false) a.n.toNat b.n.toNat (zer (prN a b) s j) (prN a b ^ j)↔Ans (winAt n a b k) a.n.toNat b.n.toNat (zer (prN a b) s j) (prN a b ^ j):=by
 have key:∀ x y:Nat,x<a.n.toNat→y<b.n.toNat→((WL n a b k).getD (zer (prN a b) s j+prN a b ^ j*(1+x*b.n.toNat+y)) false=true↔winAt n a b k (zer (prN a b) s j+prN a b ^ j*(1+x*b.n.toNat+y))=true):=fun x y hx hy=>by
  rw [WL_at (put_lt (prN_pos a b) (dig_zer (prN_pos a b)).1 (pair_lt hx hy) hj (zer_lt hs))]
 unfold Ans
 exact and_congr (forall_congr' fun x=>imp_congr_right fun hx=>exists_congr fun y=>and_congr_right fun hy=>key x y hx hy) (forall_congr' fun y=>imp_congr_right fun hy=>exists_congr fun x=>and_congr_right fun hx=>key x y hx hy)
theorem turn_end {n:Nat} {a b:St} {k:Nat} {X:List Bool} (h:TurnAt (fun s=>(WL 0 a b k).getD s false) (fun s=>(WL n a b k).getD s false) a b k k 0 X):X=WL (n+1) a b k:=by
 refine bools_same (by rw [h.len,WL_len]) fun s hs=>?_
 rw [h.len] at hs
 rw [WL_at hs,Bool.eq_iff_iff,h.at_ s hs,win_step,WL_at hs]
 exact and_congr_right fun _=>⟨fun e i hi=>(ans_wl hi hs).1 (e.1 i hi),fun e=>⟨fun i hi=>(ans_wl hi hs).2 (e i hi),fun h=>absurd h (by omega)⟩⟩
end Go.Wk
namespace Go.Wk
open Go.RowKit
theorem dig_down {p s i:Nat}:s / p ^ (i+1)=s / p ^ i / p:=by rw [Nat.pow_succ,Nat.div_div_eq_div_mul]
theorem dig_xv {a b:St} {k s i:Nat} (h:i<k) (hd:0<dig (prN a b) s i) {n:Int} (hn:n=b.n) (hb:0≤b.n):Value.int .i64 ((((dig (prN a b) s i:Nat):Int) - 1) / n)=Value.int .i64 ((stX a b k s).getD i 0):=by
 unfold stX
 rw [pX_at h,xOf,if_neg (by omega),hn,Int.natCast_ediv,show (((dig (prN a b) s i - 1:Nat):Int))=(dig (prN a b) s i:Int) - 1 from by omega,Int.toNat_of_nonneg hb]
theorem dig_yv {a b:St} {k s i:Nat} (h:i<k) (hd:0<dig (prN a b) s i) {n:Int} (hn:n=b.n) (hb:0≤b.n):Value.int .i64 ((((dig (prN a b) s i:Nat):Int) - 1) % n)=Value.int .i64 ((stY a b k s).getD i 0):=by
 unfold stY
 rw [pY_at h,yOf,if_neg (by omega),hn,Int.natCast_emod,show (((dig (prN a b) s i - 1:Nat):Int))=(dig (prN a b) s i:Int) - 1 from by omega,Int.toNat_of_nonneg hb]
end Go.Wk
namespace Go.Wk
open Go.RowKit
theorem row_put {u:Array Value} {L off:Nat} {X:List Bool} {b:Bool} (h:u.toList.take L=bools X):(u.setIfInBounds off (.bool b)).toList.take L=bools (X.set off b):=by
 rw [Array.toList_setIfInBounds,List.take_set,h]
 simp [bools,List.map_set]
end Go.Wk
namespace Go.Wk
open Go.RowKit
abbrev OptR:=Option (Nat×Nat×Array Value)
def optV:OptR→Nat→Value
 | none,_=>.slice none 0 0
 | some (g,c,_),m=>.slice (some ⟨g,0,none⟩) m c
def optB (el:TypeId):OptR→List (Nat×Obj)
 | none=>[]
 | some (g,_,u)=>[(g,.cells u el (0,0))]
def OptOk (bs:List Bool):OptR→Prop
 | none=>bs=[]
 | some (_,c,u)=>u.size=c*1∧bs.length≤c∧u.toList.take bs.length=bools bs
section
variable {P:Program} {n:Nat} {B:Nat} {w0:World} {N R:Act→World→Prop} {X:List (Nat×(Act→World→Prop))} {e:Env} {ops:Array Oper} {l:List Oper} {o:Oper}
theorem Ll.appendOpt {t el d p:Nat} {T:TypeId} {x y:Operand} {q:OptR} {bs:List Bool} {b:Bool} {m:Nat} (hm:bs.length=m) (E:Elem P t el 1) (f r:List (Nat×Obj)) (i:Nat) (hq:OptOk bs q) (hd:Nat.blt d n=true) (hdst:o.dst=some d) (hg:wantE ops e o.guard=some true)
    (h:o.op=.call ⟨.builtin .append,#[x,y],#[t,t]⟩) (hx:opd e x=some (optV q m)) (hy:opd e y=some (.slice (some ⟨p,0,none⟩) 1 1)) (hi:f[i]?=some (p,.cells #[.bool b] T (0,0))) (hb:m≤1000000)
    (k:∀ g' c' u',B≤g'→OptOk (bs++[b]) (some (g',c',u'))→Ll P n (Own B w0 (f++(optB el (some (g',c',u'))++r))) ops l ((d,.slice (some ⟨g',0,none⟩) (m+1) c')::e) N R X):Ll P n (Own B w0 (f++(optB el q++r))) ops (o::l) e N R X:=by
  subst hm
  have hlt:i<f.length:=by
    rcases Nat.lt_or_ge i f.length with h1 | h1
    · exact h1
    · rw [List.getElem?_eq_none h1] at hi;cases hi
  have news:∀ (hs:List (Nat×Obj)),hs[i]?=some (p,.cells #[.bool b] T (0,0))→∀ w,Own B w0 hs w→∀ ad,some (⟨p,0,none⟩:Addr)=some ad→∀ j u,([Value.bool b])[j]?=some u→w.cell? (ad.add j)=some u:=fun hs hh w1 hw1 ad had j u hj=>by
    injection had with had;subst had
    rw [Addr.add_lit,Nat.zero_add,hw1.cell (i:=i) hh]
    simpa using hj
  have bl:bools (bs++[b])=bools bs++[Value.bool b]:=by simp [bools]
  cases q with
  | none =>
    have hb0:bs=[]:=hq
    subst hb0
    refine Ll.appendNil E [.bool b] hd hdst hg h hx hy (by decide) (by simp) rfl (news _ (by rw [List.getElem?_append_left hlt];exact hi)) (by decide) fun g' c' u' h1 h2 h3 h4=>?_
    have:=k g' c' u' h1 ⟨h2,by simpa using h3,by simpa [bools] using h4⟩
    unfold Ll at this ⊢
    exact fun a w hf hc=>this a w hf (hc.perm (perm_back [_] f r))
  | some q =>
    obtain ⟨g,c,u⟩:=q
    obtain ⟨s1,s2,s3⟩:=hq
    refine Ll.append E f.length [.bool b] hd hdst hg h hx hy (by rw [List.getElem?_append_right (Nat.le_refl _),Nat.sub_self];rfl) s1 s2 rfl (fun h=>by cases h) (news _ (by rw [List.getElem?_append_left hlt];exact hi)) (by simp [Value.oneCell']) (by omega) fun g' c' u' h1 h2 h3 h4=>?_
    have:=k g' c' u' h1 ⟨h2,by simpa using h3,by rw [List.length_append,List.length_singleton,bl,← s3];simpa using h4⟩
    unfold Ll at this ⊢
    intro a w hf hc
    rw [List.set_append_right _ _ (Nat.le_refl _),Nat.sub_self] at hc
    exact this a w hf hc
end
theorem opt_some {bs:List Bool} {q:OptR} (h:OptOk bs q) (h0:0<bs.length):∃ (g c:Nat) (u:Array Value),q=some (g,c,u)∧u.size=c*1∧bs.length≤c∧u.toList.take bs.length=bools bs:=by
 cases q with
 | none=>rw [show bs=[] from h] at h0;exact absurd h0 (by decide)
 | some q=>obtain ⟨g,c,u⟩:=q;exact ⟨g,c,u,rfl,h⟩
theorem fit_next {a b:St} {k s:Nat} (hb:1≤b.n.toNat) (h:s<prN a b ^ k):(WL 0 a b k).take (s+1)=(WL 0 a b k).take s++[sameB a (placed (stX a b k s) k) b (placed (stY a b k s) k)]:=by
 rw [List.take_succ_eq_append_getElem (by rw [WL_len];exact h),← getD_at (d:=false),WL_at h,win_zero hb]
theorem Own.merge {B:Nat} {w0 w w':World} {hs new:List (Nat×Obj)} (h:Own B w0 hs w) (k:Own w.heap.size w new w'):Own B w0 (new++hs) w':=by
  have h':=h.calls k.below
  refine Own.of_mem h'.below h'.base (fun x hx=>?_) ?_
  · rcases List.mem_append.1 hx with h1 | h1
    · obtain ⟨h2,h3⟩:=k.mem h1
      exact ⟨Nat.le_trans h.base h2,h3⟩
    · exact h'.mem h1
  · rw [List.map_append,List.nodup_append]
    refine ⟨k.nodup,h.nodup,fun p hp q hq e=>?_⟩
    obtain ⟨x,hx,rfl⟩:=List.mem_map.1 hp
    obtain ⟨y,hy,rfl⟩:=List.mem_map.1 hq
    have h1:=(k.mem hx).1
    have h2:=(h.mem hy).2
    have h3:y.1<w.heap.size:=by
      rcases Nat.lt_or_ge y.1 w.heap.size with h4 | h4
      · exact h4
      · rw [Array.getElem?_eq_none h4] at h2;cases h2
    omega
section
variable {P:Program} {n:Nat} {C:World→Prop} {e:Env} {o:Oper}
theorem OpQ.eqNilP {t t' q:TypeId} {x y:Operand} {p:Option Addr} (h:o.op=.binOp .eql t x y t') (hu:P.underlying t=some (.pointer q)) (hx:opd e x=some (.pointer p)) (hy:opd e y=some (.pointer none)):OpQ P n C e o (.bool p.isNone):=OpQ.val fun A hf w=>by
 have hu':P.underlying t=some (.pointer (P.pointee t)):=by simp [Program.pointee,hu]
 unfold execOp;rw [h];simp only [hf.opd hx,hf.opd hy]
 rw [show eqGuard .eql t x y (Value.pointer p) (Value.pointer none)=pure () from rfl]
 simp only [Sem.run_bind,run_eql_pointer_nil w t p hu',Sem.run_pure,Result.andThen]
end
end Go.Wk
namespace Go.Wk
abbrev vR := @OpQ.eqNilP
end Go.Wk
namespace Go.Wk
open Go.RowKit
section
variable {P:Program} {n:Nat} {C:World→Prop} {N R:Act→World→Prop} {X:List (Nat×(Act→World→Prop))} {e:Env}
def Rn (P:Program) (c:Code) (N R:Act→World→Prop) (X:List (Nat×(Act→World→Prop))) (k:Nat):Act→World→Prop:=fun a w=>Code.rounds P c (post N R X) k a w
theorem then_post {Nn N R:Act→World→Prop} {X:List (Nat×(Act→World→Prop))}:∀ (x:Exit) (a:Act) (w:World),post Nn R X x a w→Exit.then Nn (post N R X) x a w:=fun x a w hh=>by
  cases x <;> first | exact hh | exact hh.elim
theorem Wk.unroll {c:Code} (k:Nat) (h:Wk P n C c (Rn P c N R X k) R X e):Wk P n C (.loop c) N R X e:=by
 unfold Wk at h ⊢;intro a w hf hc
 exact wp_loop_rounds (k+1) (by rw [rounds_succ];exact Code.wp_mono then_post (h a w hf hc))
theorem Kt.round {c:Code} {k:Nat} {e':Env} (hs:Sub e' e) (h:Wk P n C c (Rn P c N R X k) R X e'):Kt n C e (Rn P c N R X (k+1)):=by
 unfold Wk at h;unfold Kt;intro a w hf hc;unfold Rn;rw [rounds_succ];exact Code.wp_mono then_post (h a w (hf.sub hs) hc)
theorem Own.trans {B:Nat} {w0 w1 w:World} {hs:List (Nat×Obj)} (h:Own B w0 hs w1) (k:Below w1.heap.size w1 w):Own B w0 hs w:=h.calls k
end
section
variable {P:Program} {n:Nat} {B:Nat} {w0:World} {hs:List (Nat×Obj)} {N R:Act→World→Prop} {X:List (Nat×(Act→World→Prop))} {e:Env} {ops:Array Oper} {l:List Oper} {o:Oper}
theorem new_one {i p:Nat} {V:Value} {T:TypeId} (hi:hs[i]?=some (p,.cells #[V] T (0,0))):∀ w,Own B w0 hs w→∀ ad,some (⟨p,0,none⟩:Addr)=some ad→∀ j u,([V])[j]?=some u→w.cell? (ad.add j)=some u:=fun w1 hw1 ad had j u hj=>by
 injection had with had;subst had
 rw [Addr.add_lit,Nat.zero_add,hw1.cell (i:=i) hi]
 simpa using hj
theorem Ll.appendN1 {t el d p:Nat} {T:TypeId} {x y:Operand} {V:Value} (E:Elem P t el 1) (i:Nat) (hd:Nat.blt d n=true) (hdst:o.dst=some d) (hg:wantE ops e o.guard=some true)
  (h:o.op=.call ⟨.builtin .append,#[x,y],#[t,t]⟩) (hx:opd e x=some (.slice none 0 0)) (hy:opd e y=some (.slice (some ⟨p,0,none⟩) 1 1)) (hi:hs[i]?=some (p,.cells #[V] T (0,0)))
  (k:∀ g' c' u',B≤g'→u'.size=c'*1→1≤c'→u'.toList.take 1=[V]→Ll P n (Own B w0 ((g',.cells u' el (0,0))::hs)) ops l ((d,.slice (some ⟨g',0,none⟩) 1 c')::e) N R X):Ll P n (Own B w0 hs) ops (o::l) e N R X :=
 Ll.appendNil E [V] hd hdst hg h hx hy (by decide) (by simp) rfl (new_one hi) (by decide) fun g' c' u' h1 h2 h3 h4=>k g' c' u' h1 h2 h3 h4
theorem Ll.append1 {t el d p g m cap:Nat} {cur:Array Value} {vs:List Value} {T:TypeId} {x y:Operand} {V:Value} (E:Elem P t el 1) (j i:Nat) (hd:Nat.blt d n=true) (hdst:o.dst=some d) (hg:wantE ops e o.guard=some true)
  (h:o.op=.call ⟨.builtin .append,#[x,y],#[t,t]⟩) (hx:opd e x=some (.slice (some ⟨g,0,none⟩) m cap)) (hy:opd e y=some (.slice (some ⟨p,0,none⟩) 1 1)) (hj:hs[j]?=some (g,.cells cur el (0,0))) (hc:cur.size=cap*1) (hl:m≤cap) (ht:cur.toList.take m=vs) (hi:hs[i]?=some (p,.cells #[V] T (0,0))) (hV:V.oneCell'=true) (hb:m≤1000000)
  (k:∀ g' c' u',B≤g'→u'.size=c'*1→m+1≤c'→u'.toList.take (m+1)=vs++[V]→Ll P n (Own B w0 (hs.set j (g',.cells u' el (0,0)))) ops l ((d,.slice (some ⟨g',0,none⟩) (m+1) c')::e) N R X):Ll P n (Own B w0 hs) ops (o::l) e N R X :=
 Ll.append E j [V] hd hdst hg h hx hy hj hc hl rfl (fun h=>by cases h) (new_one hi) (by simpa using hV) (by omega) fun g' c' u' h1 h2 h3 h4=>k g' c' u' h1 h2 h3 (by rw [← ht];simpa using h4)
end
theorem u8_beq (b c:UInt8):(b==c)=decide (b.toNat=c.toNat):=by
 rw [Bool.eq_iff_iff,beq_iff_eq,decide_eq_true_eq]
 exact ⟨fun e=>by rw [e],fun e=>UInt8.toNat.inj e⟩
theorem idx_abcd (c:UInt8):decide ((0:Int)≤Lib.indexByte [97,98,99,100] c)=isV c:=by
  unfold isV
  have e:∀ k:UInt8,(k==c)=decide (k.toNat=c.toNat):=fun k=>u8_beq k c
  simp only [Lib.indexByte,e]
  have h1:(97:UInt8).toNat=97:=rfl
  have h2:(98:UInt8).toNat=98:=rfl
  have h3:(99:UInt8).toNat=99:=rfl
  have h4:(100:UInt8).toNat=100:=rfl
  rw [h1,h2,h3,h4,Bool.eq_iff_iff]
  simp only [decide_eq_true_eq,Bool.and_eq_true]
  by_cases c1:97=c.toNat
  · simp [← c1]
  · by_cases c2:98=c.toNat
    · simp [← c2]
    · by_cases c3:99=c.toNat
      · simp [← c3]
      · by_cases c4:100=c.toNat
        · simp [← c4]
        · simp [c1,c2,c3,c4];omega
theorem idx_quant (c:UInt8):decide ((0:Int)≤Lib.indexByte [65,83,50,51,52] c)=decide (quI (c.toNat:Int)):=by
  rw [decide_eq_decide]
  unfold quI
  have e:∀ k:UInt8,(k==c)=decide (k.toNat=c.toNat):=fun k=>u8_beq k c
  simp only [Lib.indexByte,e]
  have h1:(65:UInt8).toNat=65:=rfl
  have h2:(83:UInt8).toNat=83:=rfl
  have h3:(50:UInt8).toNat=50:=rfl
  have h4:(51:UInt8).toNat=51:=rfl
  have h5:(52:UInt8).toNat=52:=rfl
  rw [h1,h2,h3,h4,h5]
  simp only [decide_eq_true_eq]
  by_cases c1:65=c.toNat
  · simp [← c1]
  · by_cases c2:83=c.toNat
    · simp [← c2]
    · by_cases c3:50=c.toNat
      · simp [← c3]
      · by_cases c4:51=c.toNat
        · simp [← c4]
        · by_cases c5:52=c.toNat
          · simp [← c5]
          · exact ⟨fun h=>absurd h (by simp [c1,c2,c3,c4,c5]),fun h=>by exfalso;rcases h with h | h | h | h | h <;> omega⟩
theorem idx_cnt (c:UInt8):decide ((0:Int)≤Lib.indexByte [50,51,52] c)=decide ((c.toNat:Int)=50∨(c.toNat:Int)=51∨(c.toNat:Int)=52):=by
  have e:∀ k:UInt8,(k==c)=decide (k.toNat=c.toNat):=fun k=>u8_beq k c
  simp only [Lib.indexByte,e]
  have h3:(50:UInt8).toNat=50:=rfl
  have h4:(51:UInt8).toNat=51:=rfl
  have h5:(52:UInt8).toNat=52:=rfl
  rw [h3,h4,h5,Bool.eq_iff_iff]
  simp only [decide_eq_true_eq]
  by_cases c3:50=c.toNat
  · simp [← c3]
  · by_cases c4:51=c.toNat
    · simp [← c4]
    · by_cases c5:52=c.toNat
      · simp [← c5]
      · simp [c3,c4,c5];omega
theorem first_of {s:List UInt8} (h:s ≠ []):0<s.length∧s=s.getD 0 0::s.drop 1:=by
 cases s with
 | nil=>exact absurd rfl h
 | cons c s=>exact ⟨by simp,rfl⟩
theorem pp_by {s : List UInt8} (h : s ≠ []) : parse s = if isOp (s.getD 0 0) then
      match takeV (arV (s.getD 0 0)) (s.drop 1) with
      | none=>none
      | some (vs,r) =>
        if arP (s.getD 0 0)=0 then some (.leaf (s.getD 0 0) vs,r)
        else if arP (s.getD 0 0)=1 then (match parse r with | some (p,r')=>some (.one (s.getD 0 0) vs p,r') | none=>none)
        else (match parse r with
          | some (p,r')=>(match parse r' with | some (q,r2)=>some (.two (s.getD 0 0) p q,r2) | none=>none)
          | none=>none)
    else none:=by
  have:=parse_cons (s.getD 0 0) (s.drop 1)
  rw [← (first_of h).2] at this
  exact this
def okV (s:List UInt8) (k:Nat):Prop:=¬ s.drop k=[]∧isV (s.getD k 0)=true
theorem okV_iff {s:List UInt8} {k:Nat}:¬ varI s (k:Int)<0↔okV s k:=by
 rw [varI_neg,Classical.not_not,Int.toNat_natCast]
 unfold okV
 have h:¬ s.drop k=[]↔k<s.length:=by rw [List.drop_eq_nil_iff];omega
 rw [h]
 exact ⟨fun e=>⟨by omega,e.2.2⟩,fun e=>⟨by omega,by omega,e.2⟩⟩
theorem pp0 {s:List UInt8} (h:s ≠ []) (hc:s.getD 0 0=116∨s.getD 0 0=102):parse s=some (.leaf (s.getD 0 0) [],s.drop 1):=by
 rw [pp_by h];rcases hc with e | e <;> rw [e] <;> rfl
theorem pp1 {s:List UInt8} (h:s ≠ []) (hc:s.getD 0 0=80):(okV s 1→parse s=some (.leaf 80 [s.getD 1 0],s.drop 2))∧(¬ okV s 1→parse s=none):=by
  rw [pp_by h,hc,show arV 80=1 from rfl,takeV_one]
  refine ⟨fun hv=>?_,fun hv=>?_⟩
  · rw [if_neg (show ¬ varI s ((1:Nat):Int)<0 from okV_iff.2 hv)];rfl
  · rw [if_pos (show varI s ((1:Nat):Int)<0 from Classical.byContradiction fun e=>hv (okV_iff.1 e))];rfl
theorem pp2 {s:List UInt8} (h:s ≠ []) (hc:s.getD 0 0=61∨s.getD 0 0=69):(okV s 1→okV s 2→parse s=some (.leaf (s.getD 0 0) [s.getD 1 0,s.getD 2 0],s.drop 3))∧(¬ okV s 1∨¬ okV s 2→parse s=none):=by
  have ha:arV (s.getD 0 0)=2∧arP (s.getD 0 0)=0∧isOp (s.getD 0 0)=true:=by rcases hc with e | e <;> rw [e] <;> exact ⟨rfl,rfl,rfl⟩
  rw [pp_by h,if_pos ha.2.2,ha.1,takeV_two]
  refine ⟨fun h1 h2=>?_,fun hv=>?_⟩
  · rw [if_neg (fun e=>e.elim (fun e=>okV_iff.2 h1 e) (fun e=>okV_iff.2 h2 e))]
    dsimp only
    rw [if_pos ha.2.1]
  · rw [if_pos]
    rcases hv with e | e
    · exact .inl (Classical.byContradiction fun z=>e (okV_iff.1 z))
    · exact .inr (Classical.byContradiction fun z=>e (okV_iff.1 z))
theorem pp3 {s:List UInt8} (h:s ≠ []) (hc:s.getD 0 0=33):(∀ q r,parse (s.drop 1)=some (q,r)→parse s=some (.one 33 [] q,r))∧(parse (s.drop 1)=none→parse s=none):=by
 rw [pp_by h,hc]
 exact ⟨fun q r e=>by rw [show takeV (arV 33) (s.drop 1)=some ([],s.drop 1) from rfl];dsimp only;rw [e];rfl,fun e=>by rw [show takeV (arV 33) (s.drop 1)=some ([],s.drop 1) from rfl];dsimp only;rw [e];rfl⟩
theorem pp4 {s:List UInt8} (h:s ≠ []) (hc:s.getD 0 0=38∨s.getD 0 0=124):(∀ q r q2 r2,parse (s.drop 1)=some (q,r)→parse r=some (q2,r2)→parse s=some (.two (s.getD 0 0) q q2,r2))∧(parse (s.drop 1)=none→parse s=none)∧(∀ q r,parse (s.drop 1)=some (q,r)→parse r=none→parse s=none):=by
 have ha:arV (s.getD 0 0)=0∧arP (s.getD 0 0)=2∧isOp (s.getD 0 0)=true:=by rcases hc with e | e <;> rw [e] <;> exact ⟨rfl,rfl,rfl⟩
 have ht:takeV (arV (s.getD 0 0)) (s.drop 1)=some ([],s.drop 1):=by rw [ha.1];rfl
 rw [pp_by h,if_pos ha.2.2,ht]
 dsimp only
 rw [if_neg (by omega),if_neg (by omega)]
 exact ⟨fun q r q2 r2 e1 e2=>by rw [e1];dsimp only;rw [e2],fun e=>by rw [e],fun q r e1 e2=>by rw [e1];dsimp only;rw [e2]⟩
theorem pp5 {s:List UInt8} (h:s ≠ []) (hc:quI ((s.getD 0 0).toNat:Int)):(∀ q r,okV s 1→parse (s.drop 2)=some (q,r)→parse s=some (.one (s.getD 0 0) [s.getD 1 0] q,r))∧(¬ okV s 1→parse s=none)∧(parse (s.drop 2)=none→parse s=none):=by
  have ha:arV (s.getD 0 0)=1∧arP (s.getD 0 0)=1∧isOp (s.getD 0 0)=true:=by rcases quI_of hc with e | e | e | e | e <;> rw [e] <;> exact ⟨rfl,rfl,rfl⟩
  rw [pp_by h,if_pos ha.2.2,ha.1,takeV_one]
  refine ⟨fun q r hv e=>?_,fun hv=>?_,fun e=>?_⟩
  · rw [if_neg (show ¬ varI s ((1:Nat):Int)<0 from okV_iff.2 hv)]
    dsimp only
    rw [if_neg (by omega),if_pos ha.2.1,e]
  · rw [if_pos (show varI s ((1:Nat):Int)<0 from Classical.byContradiction fun e=>hv (okV_iff.1 e))]
  · split
    · rfl
    · rename_i vs r hh
      split at hh
      · cases hh
      · injection hh with hh;injection hh with _ hh;subst hh
        rw [if_neg (by omega),if_pos ha.2.1,e]
theorem ppX {s:List UInt8} (h:s ≠ []) (hc:isOp (s.getD 0 0)=false):parse s=none:=by
 rw [pp_by h,hc];rfl
theorem isOp_no {c:UInt8} (h1:¬ (c.toNat:Int)=116) (h2:¬ (c.toNat:Int)=102) (h3:¬ (c.toNat:Int)=80) (h4:¬ (c.toNat:Int)=61) (h5:¬ (c.toNat:Int)=69) (h6:¬ (c.toNat:Int)=33) (h7:¬ (c.toNat:Int)=38) (h8:¬ (c.toNat:Int)=124) (h9:¬ quI (c.toNat:Int)):isOp c=false:=by
 cases e:isOp c with
 | false=>rfl
 | true =>
  unfold quI at h9
  unfold isOp at e
  rw [decide_eq_true_eq] at e
  simp only [List.mem_cons,List.not_mem_nil,or_false] at e
  rcases e with e | e | e | e | e | e | e | e | e | e | e | e | e <;> rw [e] at h1 h2 h3 h4 h5 h6 h7 h8 h9 <;> simp at h1 h2 h3 h4 h5 h6 h7 h8 h9
theorem getD_drop {s:List UInt8} {k:Nat}:(s.drop k).getD 0 0=s.getD k 0:=by
 rw [List.getD_eq_getElem?_getD,List.getElem?_drop,Nat.add_zero,← List.getD_eq_getElem?_getD]
theorem take_drop1 {s:List UInt8} {k:Nat} (h:¬ s.drop k=[]):(s.drop k).take 1=[s.getD k 0]:=by
 have h2:=(first_of h).2
 rw [getD_drop] at h2
 rw [h2];rfl
theorem two_of {c:UInt8} {m n:Nat} (hm:m<256) (hn:n<256) (h:(c.toNat:Int)=(m:Int)∨(c.toNat:Int)=(n:Int)):c=UInt8.ofNat m∨c=UInt8.ofNat n :=
 h.elim (fun e=>.inl (u8_of hm e)) (fun e=>.inr (u8_of hn e))
end Go.Wk
namespace Go.Wk
abbrev uE := @Ll.appendN1
abbrev uG := @Wk.unroll
end Go.Wk
namespace Go.Wk
open Go.RowKit
theorem or_lt16 {a b:Nat} (ha:a<16) (hb:b<16):a ||| b<16:=Nat.or_lt_two_pow (n:=4) ha hb
def ptrV (p:Nat):Value:=.pointer (some ⟨p,0,none⟩)
def u8V (v:UInt8):Value:=.int .u8 (v.toNat:Int)
def NodeC (T:TypeId) (w:World) (p:Nat) (c:UInt8) (vs:List UInt8) (ps:List Nat) (fr al:Nat):Prop :=
 ∃ vv pv,w.heap[p]?=some (.cells #[u8V c,vv,pv,.int .i64 (fr:Int),.int .i64 (al:Int)] T (0,0))∧Row w vv (vs.map u8V)∧Row w pv (ps.map ptrV)
def Tree (T:TypeId) (w:World):Fm→Nat→Prop
 | .leaf c vs,p=>NodeC T w p c vs [] (frB (.leaf c vs)) (allB (.leaf c vs))
 | .one c vs q,p=>∃ q',NodeC T w p c vs [q'] (frB (.one c vs q)) (allB (.one c vs q))∧Tree T w q q'
 | .two c q r,p=>∃ q' r',NodeC T w p c [] [q',r'] (frB (.two c q r)) (allB (.two c q r))∧Tree T w q q'∧Tree T w r r'
theorem NodeC.own {T:TypeId} {w w':World} {p:Nat} {c:UInt8} {vs:List UInt8} {ps:List Nat} {fr al:Nat} {hs:List (Nat×Obj)} (h:NodeC T w p c vs ps fr al) (hw:Own w.heap.size w hs w'):NodeC T w' p c vs ps fr al:=by
  obtain ⟨vv,pv,h1,h2,h3⟩:=h
  refine ⟨vv,pv,?_,h2.own hw,h3.own hw⟩
  rw [hw.below.block p ?_]
  · exact h1
  · rcases Nat.lt_or_ge p w.heap.size with h | h
    · exact h
    · rw [Array.getElem?_eq_none h] at h1;cases h1
theorem Tree.own {T:TypeId} {w w':World} {hs:List (Nat×Obj)} (hw:Own w.heap.size w hs w'):∀ {fm:Fm} {p:Nat},Tree T w fm p→Tree T w' fm p
 | .leaf _ _,_,h=>NodeC.own h hw
 | .one _ _ _,_,h=>by obtain ⟨q',h1,h2⟩:=h;exact ⟨q',h1.own hw,Tree.own hw h2⟩
 | .two _ _ _,_,h=>by obtain ⟨q',r',h1,h2,h3⟩:=h;exact ⟨q',r',h1.own hw,Tree.own hw h2,Tree.own hw h3⟩
theorem Tree.node {T:TypeId} {w:World}:∀ {fm:Fm} {p:Nat},Tree T w fm p→∃ c vs ps,NodeC T w p c vs ps (frB fm) (allB fm)
 | .leaf c vs,_,h=>⟨c,vs,[],h⟩
 | .one c vs _,_,h=>by obtain ⟨q',h1,_⟩:=h;exact ⟨c,vs,[q'],h1⟩
 | .two c _ _,_,h=>by obtain ⟨q',r',h1,_⟩:=h;exact ⟨c,[],[q',r'],h1⟩
theorem Row.same {w:World} {v:Value} {vs us:List Value} (h:Row w v vs) (k:Row w v us):vs=us:=by
  obtain ⟨src,cap,h1,_,h3,h4⟩:=h
  obtain ⟨src',cap',k1,_,k3,k4⟩:=k
  rw [h1] at k1
  injection k1 with e1 e2 e3
  subst e1
  cases src with
  | none=>rw [h3 rfl,k3 rfl]
  | some ad =>
    apply List.ext_getElem? ;intro j
    rcases Nat.lt_or_ge j vs.length with hj | hj
    · have a1:=(h4 ad rfl).2 j vs[j] (List.getElem?_eq_getElem hj)
      have a2:=(k4 ad rfl).2 j us[j] (List.getElem?_eq_getElem (by omega))
      rw [List.getElem?_eq_getElem hj,List.getElem?_eq_getElem (show j<us.length by omega)]
      exact a1.symm.trans a2
    · rw [List.getElem?_eq_none hj,List.getElem?_eq_none (by omega)]
theorem u8V_inj {a b:UInt8} (h:u8V a=u8V b):a=b:=by
 unfold u8V at h;injection h with _ h
 exact UInt8.toNat.inj (by omega)
theorem ptrV_inj {a b:Nat} (h:ptrV a=ptrV b):a=b:=by
 unfold ptrV at h;injection h with h;injection h with h;injection h
theorem map_inj' {α β:Type} {f:α→β} (hf:∀ a b,f a=f b→a=b):∀ {xs ys:List α},xs.map f=ys.map f→xs=ys
 | [],[],_=>rfl
 | [],_::_,h=>by cases h
 | _::_,[],h=>by cases h
 | x::xs,y::ys,h=>by
  simp only [List.map_cons,List.cons.injEq] at h
  rw [hf x y h.1,map_inj' hf h.2]
theorem NodeC.same {T:TypeId} {w:World} {p:Nat} {c c':UInt8} {vs vs':List UInt8} {ps ps':List Nat} {fr al fr' al':Nat} (h:NodeC T w p c vs ps fr al) (k:NodeC T w p c' vs' ps' fr' al'):c=c'∧vs=vs'∧ps=ps':=by
 obtain ⟨vv,pv,h1,h2,h3⟩:=h
 obtain ⟨vv',pv',k1,k2,k3⟩:=k
 rw [h1] at k1
 have k4:=Option.some.inj k1
 injection k4 with k5
 have e1:u8V c=u8V c':=by have:=congrArg (fun a:Array Value=>a[0]?) k5;exact Option.some.inj this
 have e2:vv=vv':=by have:=congrArg (fun a:Array Value=>a[1]?) k5;exact Option.some.inj this
 have e3:pv=pv':=by have:=congrArg (fun a:Array Value=>a[2]?) k5;exact Option.some.inj this
 subst e2;subst e3
 exact ⟨u8V_inj e1,map_inj' (fun _ _=>u8V_inj) (h2.same k2),map_inj' (fun _ _=>ptrV_inj) (h3.same k3)⟩
theorem Tree.same {T:TypeId} {w:World}:∀ {fm fm':Fm} {p:Nat},Tree T w fm p→Tree T w fm' p→fm=fm'
 | .leaf c vs,.leaf c' vs',p,h,k=>by obtain ⟨e1,e2,_⟩:=NodeC.same h k;rw [e1,e2]
 | .leaf c vs,.one c' vs' q,p,h,k=>by obtain ⟨q',k1,_⟩:=k;have:=(NodeC.same h k1).2.2;cases this
 | .leaf c vs,.two c' q r,p,h,k=>by obtain ⟨q',r',k1,_⟩:=k;have:=(NodeC.same h k1).2.2;cases this
 | .one c vs q,.leaf c' vs',p,h,k=>by obtain ⟨q',h1,_⟩:=h;have:=(NodeC.same h1 k).2.2;cases this
 | .one c vs q,.one c' vs' r,p,h,k=>by
  obtain ⟨q',h1,h2⟩:=h
  obtain ⟨r',k1,k2⟩:=k
  obtain ⟨e1,e2,e3⟩:=NodeC.same h1 k1
  injection e3 with e3;subst e3
  rw [e1,e2,Tree.same h2 k2]
 | .one c vs q,.two c' r s,p,h,k=>by obtain ⟨q',h1,_⟩:=h;obtain ⟨r',s',k1,_⟩:=k;have:=(NodeC.same h1 k1).2.2;cases this
 | .two c q r,.leaf c' vs',p,h,k=>by obtain ⟨q',r',h1,_⟩:=h;have:=(NodeC.same h1 k).2.2;cases this
 | .two c q r,.one c' vs' s,p,h,k=>by obtain ⟨q',r',h1,_⟩:=h;obtain ⟨s',k1,_⟩:=k;have:=(NodeC.same h1 k1).2.2;cases this
 | .two c q r,.two c' q2 r2,p,h,k=>by
  obtain ⟨q',r',h1,h2,h3⟩:=h
  obtain ⟨q2',r2',k1,k2,k3⟩:=k
  obtain ⟨e1,_,e3⟩:=NodeC.same h1 k1
  injection e3 with e3 e4;injection e4 with e4;subst e3;subst e4
  rw [e1,Tree.same h2 k2,Tree.same h3 k3]
theorem Tree.lt {T:TypeId} {w:World} {fm:Fm} {p:Nat} (h:Tree T w fm p):p<w.heap.size:=by
  obtain ⟨c,vs,ps,vv,pv,h1,_⟩:=h.node
  rcases Nat.lt_or_ge p w.heap.size with h | h
  · exact h
  · rw [Array.getElem?_eq_none h] at h1;cases h1
theorem cell_of {w:World} {p:Nat} {cs:Array Value} {T:TypeId} {v:Value} {off:Nat} (h:w.heap[p]?=some (.cells cs T (0,0))) (hv:cs[off]?=some v):w.cell? ⟨p,off,none⟩=some v:=at_box h (Own.start w) off hv
theorem tree_free {T:TypeId} {w:World} {fm:Fm} {p:Nat} (h:Tree T w fm p):w.cell? ⟨p,3,none⟩=some (.int .i64 (frB fm:Int)):=by
 obtain ⟨c,vs,ps,vv,pv,h1,_⟩:=h.node
 exact cell_of h1 rfl
theorem tree_all {T:TypeId} {w:World} {fm:Fm} {p:Nat} (h:Tree T w fm p):w.cell? ⟨p,4,none⟩=some (.int .i64 (allB fm:Int)):=by
 obtain ⟨c,vs,ps,vv,pv,h1,_⟩:=h.node
 exact cell_of h1 rfl
theorem vI_wrap {v:UInt8} (h:isV v=true):IntKind.u8.wrap ((v.toNat:Int) - 97)=(vI v:Int):=by
 obtain ⟨h1,h2⟩:=vI_lt h
 rw [IntWalk.u8_in _ (by omega)];omega
theorem heap_own {w0 w:World} {hs:List (Nat×Obj)} {g T:Nat} {cs:Array Value} (hg:w0.heap[g]?=some (.cells cs T (0,0))) (hw:Own w0.heap.size w0 hs w):w.heap[g]?=some (.cells cs T (0,0)):=by
  rw [hw.below.block g ?_]
  · exact hg
  · rcases Nat.lt_or_ge g w0.heap.size with h | h
    · exact h
    · rw [Array.getElem?_eq_none h] at hg;cases hg
end Go.Wk
namespace Go.Wk
open Go.RowKit
def entP (x:(Nat×Nat)×Nat):MapEntry:={ key:=ptrV x.1.1,val:=.map (some x.1.2),born:=x.2 }
def mapP (K:List (Nat×Nat)):Obj:=.map ((K.zipIdx.map entP).toArray) K.length
def entI (x:(Int×Bool)×Nat):MapEntry:={ key:=.int .i64 x.1.1,val:=.bool x.1.2,born:=x.2 }
def mapI (L:List (Int×Bool)):Obj:=.map ((L.zipIdx.map entI).toArray) L.length
section
variable {P:Program} {w:World} {kt:TypeId} {k:Value}
theorem asking_no:∀ (l:List MapEntry) (i:Nat),(∀ e∈l,(Op.equal kt k e.key).run P w=.ok false w)→(Instr.findAsking kt k l i).run P w=.ok none w
 | [],_,_=>rfl
 | e::l,i,h=>by
  unfold Instr.findAsking
  simp only [Sem.run_bind,h e (by simp),Result.andThen]
  exact asking_no l (i+1) fun x hx=>h x (List.mem_cons_of_mem _ hx)
theorem asking_at:∀ (l:List MapEntry) (i j:Nat) {e:MapEntry},l[j]?=some e→(Op.equal kt k e.key).run P w=.ok true w→(∀ (q:Nat) (x:MapEntry),q<j→l[q]?=some x→(Op.equal kt k x.key).run P w=.ok false w)→(Instr.findAsking kt k l i).run P w=.ok (some (i+j,e.val)) w
 | [],_,_,_,h,_,_=>by simp at h
 | x::l,i,0,e,h,h1,_=>by
  have hx:x=e:=by simpa using h
  subst hx
  unfold Instr.findAsking
  simp only [Sem.run_bind,h1,Result.andThen]
  rfl
 | x::l,i,j+1,e,h,h1,h2=>by
  unfold Instr.findAsking
  simp only [Sem.run_bind,h2 0 x (by omega) rfl,Result.andThen]
  have:=asking_at l (i+1) j (e:=e) (by simpa using h) h1 fun q y hq hy=>h2 (q+1) y (by omega) (by simpa using hy)
  rw [show i+(j+1)=i+1+j from by omega]
  exact this
theorem findKeyP {te:TypeId} (hkt:P.underlying kt=some (.pointer te)) {l:List MapEntry} {r:Option (Nat×Value)} (h:(Instr.findAsking kt k l 0).run P w=.ok r w):(Instr.findKey kt k l).run P w=.ok r w:=by
 cases l with
 | nil =>
  have e:r=none:=by
   have:Result.ok (none:Option (Nat×Value)) w=.ok r w:=h
   injection this with this;exact this.symm
  subst e
  simp [Instr.findKey,run_underlying hkt,Result.andThen,Instr.findNow]
 | cons x l =>
  simp only [Instr.findKey,Sem.run_bind,run_underlying hkt,Result.andThen]
  simp only [Instr.findNow,Instr.sameNow]
  exact h
theorem ptr_same {te sz p:Nat} (hkt:P.underlying kt=some (.pointer te)) (hsz:∀ w,(sizeOf te).run P w=.ok sz w) (h0:sz ≠ 0):(Op.equal kt (ptrV p) (ptrV p)).run P w=.ok true w:=by
 have h:∀ d:Nat,(Op.equalIn (d+1) kt (ptrV p) (ptrV p)).run P w=.ok true w:=fun d=>by
  simp [Op.equalIn,ptrV,run_underlying hkt,hsz,h0,run_sameAddr_same,Result.andThen]
 exact h 9999
theorem ptr_other {te sz p q:Nat} {cp cq:Array Value} {tp tq:TypeId} (hkt:P.underlying kt=some (.pointer te)) (hsz:∀ w,(sizeOf te).run P w=.ok sz w) (h0:sz ≠ 0) (hne:p ≠ q)
  (hp:w.heap[p]?=some (.cells cp tp (0,0))) (hq:w.heap[q]?=some (.cells cq tq (0,0))):(Op.equal kt (ptrV p) (ptrV q)).run P w=.ok false w:=by
 have h:∀ d:Nat,(Op.equalIn (d+1) kt (ptrV p) (ptrV q)).run P w=.ok false w:=fun d=>by
  simp [Op.equalIn,ptrV,run_underlying hkt,hsz,h0,run_sameAddr_other w (a:=⟨p,0,none⟩) (b:=⟨q,0,none⟩) (fun e=>hne (by injection e)) hp hq,Result.andThen]
 exact h 9999
theorem checkKeyP {te:TypeId} (hkt:P.underlying kt=some (.pointer te)) (p:Nat) (b:Bool):(Instr.checkKey b 10000 kt (ptrV p)).run P w=.ok () w:=by
 show (Instr.checkKey b (9999+1) kt (ptrV p)).run P w=.ok () w
 unfold Instr.checkKey
 simp only [Sem.run_bind,run_underlying hkt,Result.andThen,ptrV]
 rfl
end
theorem zip_get {α:Type} {K:List α} {j:Nat} {x:α} {g:α×Nat→MapEntry} (h:K[j]?=some x):(K.zipIdx.map g)[j]?=some (g (x,j)):=by
 rw [List.getElem?_map,List.getElem?_zipIdx,h];simp
theorem zip_mem {α:Type} {K:List α} {e:MapEntry} {g:α×Nat→MapEntry} (h:e∈K.zipIdx.map g):∃ x j,K[j]?=some x∧e=g (x,j):=by
 obtain ⟨⟨x,j⟩,h1,h2⟩:=List.mem_map.1 h
 exact ⟨x,j,List.mem_zipIdx_iff_getElem?.1 h1,h2.symm⟩
theorem key_case (K:List (Nat×Nat)) (p:Nat):(∀ x∈K,x.1 ≠ p)∨∃ j m,K[j]?=some (p,m)∧∀ (q:Nat) (x:Nat×Nat),q<j→K[q]?=some x→x.1 ≠ p:=by
  induction K with
  | nil=>exact .inl fun x hx=>by cases hx
  | cons y K ih =>
    by_cases e:y.1=p
    · exact .inr ⟨0,y.2,by rw [← e];rfl,fun q x hq=>by omega⟩
    · rcases ih with h | ⟨j,m,h1,h2⟩
      · exact .inl fun x hx=>by
          rcases List.mem_cons.1 hx with rfl | hx
          · exact e
          · exact h x hx
      · refine .inr ⟨j+1,m,h1,fun q x hq hx=>?_⟩
        cases q with
        | zero=>rw [show x=y from by simpa using hx.symm];exact e
        | succ q=>exact h2 q x (by omega) (by simpa using hx)
section
variable {P:Program} {n:Nat} {B:Nat} {w0:World} {hs:List (Nat×Obj)} {N R:Act→World→Prop} {X:List (Nat×(Act→World→Prop))} {e:Env} {ops:Array Oper} {l:List Oper} {o:Oper}
def KeysIn (B:Nat) (w0:World) (hs:List (Nat×Obj)) (p:Nat):Prop:=∀ w,Own B w0 hs w→∃ cs T,w.heap[p]?=some (.cells cs T (0,0))
theorem findP_no {kt te sz p:Nat} {K:List (Nat×Nat)} {w:World} (hkt:P.underlying kt=some (.pointer te)) (hsz:∀ w,(sizeOf te).run P w=.ok sz w) (h0:sz ≠ 0) (hno:∀ x∈K,x.1 ≠ p)
  (hK:∀ x∈K,KeysIn B w0 hs x.1) (hp:KeysIn B w0 hs p) (hw:Own B w0 hs w):(Instr.findKey kt (ptrV p) ((K.zipIdx.map entP).toArray).toList).run P w=.ok none w:=by
 refine findKeyP hkt (asking_no _ 0 fun e he=>?_)
 obtain ⟨x,j,h1,rfl⟩:=zip_mem (show e∈K.zipIdx.map entP from he)
 have hm:=List.mem_of_getElem? h1
 obtain ⟨c1,t1,g1⟩:=hp w hw
 obtain ⟨c2,t2,g2⟩:=hK x hm w hw
 exact ptr_other hkt hsz h0 (fun q=>hno x hm q.symm) g1 g2
theorem findP_at {kt te sz p j m:Nat} {K:List (Nat×Nat)} {w:World} (hkt:P.underlying kt=some (.pointer te)) (hsz:∀ w,(sizeOf te).run P w=.ok sz w) (h0:sz ≠ 0) (hj:K[j]?=some (p,m)) (hf:∀ (q:Nat) (x:Nat×Nat),q<j→K[q]?=some x→x.1 ≠ p)
    (hK:∀ x∈K,KeysIn B w0 hs x.1) (hw:Own B w0 hs w):(Instr.findKey kt (ptrV p) ((K.zipIdx.map entP).toArray).toList).run P w=.ok (some (j,.map (some m))) w:=by
  have:=findKeyP hkt (asking_at (P:=P) (w:=w) (kt:=kt) (k:=ptrV p) (K.zipIdx.map entP) 0 j (zip_get (g:=entP) hj) (ptr_same hkt hsz h0) fun q x hq hx=>?_)
  · rw [Nat.zero_add] at this;exact this
  · obtain ⟨y,i,h1,rfl⟩:=zip_mem (List.mem_of_getElem? hx)
    have hq2:(K.zipIdx.map entP)[q]?=some (entP (y,i)):=hx
    rw [List.getElem?_map,List.getElem?_zipIdx] at hq2
    cases hy:K[q]? with
    | none=>rw [hy] at hq2;simp at hq2
    | some z =>
      rw [hy] at hq2
      have hz:z.1=y.1:=by
        have:=congrArg (Option.map fun u:MapEntry=>u.key) hq2
        simp [entP] at this
        exact ptrV_inj this
      obtain ⟨c1,t1,g1⟩:=hK _ (List.mem_of_getElem? hj) w hw
      obtain ⟨c2,t2,g2⟩:=hK _ (List.mem_of_getElem? h1) w hw
      exact ptr_other hkt hsz h0 (fun u=>hf q z hq hy (by rw [hz];exact u.symm)) g1 g2
theorem OpQ.lookP_no {t kt et te sz r p:Nat} {x y:Operand} {K:List (Nat×Nat)} (i:Nat) (h:o.op=.lookup t x y false) (hm:P.underlying t=some (.map kt et)) (hkt:P.underlying kt=some (.pointer te)) (hsz:∀ w,(sizeOf te).run P w=.ok sz w) (h0:sz ≠ 0) (hz:∀ w,(zeroValue et).run P w=.ok (.map none) w)
  (hx:opd e x=some (.map (some r))) (hy:opd e y=some (ptrV p)) (hi:hs[i]?=some (r,mapP K)) (hno:∀ x∈K,x.1 ≠ p) (hK:∀ x∈K,KeysIn B w0 hs x.1) (hp:KeysIn B w0 hs p):OpQ P n (Own B w0 hs) e o (.map none):=by
 unfold OpQ
 intro a hF w hw
 have hb:w.heap[r]?=some (.map ((K.zipIdx.map entP).toArray) K.length):=(hw.has i r _ hi).2
 unfold Oper.quietAt execOp;rw [h]
 simp only [hF.opd hx,hF.opd hy,Instr.lookup,Sem.run_bind,run_underlying hm,MapKept.run_getObj_map hb,checkKeyP hkt,findP_no hkt hsz h0 hno hK hp hw,hz,Sem.run_pure,Result.andThen]
 exact ⟨rfl,rfl⟩
theorem OpQ.lookP_at {t kt et te sz r p j m:Nat} {x y:Operand} {K:List (Nat×Nat)} (i:Nat) (h:o.op=.lookup t x y false) (hm:P.underlying t=some (.map kt et)) (hkt:P.underlying kt=some (.pointer te)) (hsz:∀ w,(sizeOf te).run P w=.ok sz w) (h0:sz ≠ 0)
  (hx:opd e x=some (.map (some r))) (hy:opd e y=some (ptrV p)) (hi:hs[i]?=some (r,mapP K)) (hj:K[j]?=some (p,m)) (hf:∀ (q:Nat) (x:Nat×Nat),q<j→K[q]?=some x→x.1 ≠ p) (hK:∀ x∈K,KeysIn B w0 hs x.1):OpQ P n (Own B w0 hs) e o (.map (some m)):=by
 unfold OpQ
 intro a hF w hw
 have hb:w.heap[r]?=some (.map ((K.zipIdx.map entP).toArray) K.length):=(hw.has i r _ hi).2
 unfold Oper.quietAt execOp;rw [h]
 simp only [hF.opd hx,hF.opd hy,Instr.lookup,Sem.run_bind,run_underlying hm,MapKept.run_getObj_map hb,checkKeyP hkt,findP_at hkt hsz h0 hj hf hK hw,Sem.run_pure,Result.andThen]
 exact ⟨rfl,rfl⟩
theorem mapP_add (K:List (Nat×Nat)) (p m:Nat):mapP (K++[(p,m)])=.map (((K.zipIdx.map entP).toArray).push { key:=ptrV p,val:=.map (some m),born:=K.length }) (K.length+1):=by
 unfold mapP
 rw [List.zipIdx_append,List.map_append,List.push_toArray]
 simp [entP]
theorem Ll.mapSetP {t kt et te sz r p m:Nat} {x y z:Operand} {K:List (Nat×Nat)} (i:Nat) (hdst:o.dst=none) (hg:wantE ops e o.guard=some true) (h:o.op=.mapUpdate t x y z) (hm:P.underlying t=some (.map kt et)) (hkt:P.underlying kt=some (.pointer te)) (hsz:∀ w,(sizeOf te).run P w=.ok sz w) (h0:sz ≠ 0)
    (hx:opd e x=some (.map (some r))) (hy:opd e y=some (ptrV p)) (hz:opd e z=some (.map (some m))) (hi:hs[i]?=some (r,mapP K)) (hno:∀ x∈K,x.1 ≠ p) (hK:∀ x∈K,KeysIn B w0 hs x.1) (hp:KeysIn B w0 hs p)
    (k:Ll P n (Own B w0 (hs.set i (r,mapP (K++[(p,m)])))) ops l e N R X):Ll P n (Own B w0 hs) ops (o::l) e N R X :=
  Ll.turnN hdst hg fun a w hF hw=>by
    have hb:w.heap[r]?=some (.map ((K.zipIdx.map entP).toArray) K.length):=(hw.has i r _ hi).2
    refine ⟨{ w with heap:=w.heap.setIfInBounds r (mapP (K++[(p,m)])) },?_,fun a' ha=>?_⟩
    · unfold execOp;rw [h];simp only [hF.opd hx,hF.opd hy,hF.opd hz]
      have run:(Instr.mapUpdate t (.map (some r)) (ptrV p) (.map (some m))).run P w=.ok () { w with heap:=w.heap.setIfInBounds r (mapP (K++[(p,m)])) }:=by
        rw [mapP_add]
        simp [Instr.mapUpdate,run_underlying hm,MapKept.run_getObj_map hb,checkKeyP hkt,findP_no hkt hsz h0 hno hK hp hw,MapKept.run_setObj_map _ hb,Result.andThen]
      simp only [Sem.run_bind,run,Result.andThen]
      rfl
    · unfold Ll at k
      exact k a' _ ha (hw.setObj hi _)
theorem Ll.makeMapP {d t:Nat} (hd:Nat.blt d n=true) (hdst:o.dst=some d) (hg:wantE ops e o.guard=some true) (h:o.op=.makeMap t none)
  (k:∀ p,B≤p→Ll P n (Own B w0 ((p,mapP [])::hs)) ops l ((d,.map (some p))::e) N R X):Ll P n (Own B w0 hs) ops (o::l) e N R X:=Ll.makeMap hd hdst hg h k
theorem Ll.makeMapI {d t:Nat} (hd:Nat.blt d n=true) (hdst:o.dst=some d) (hg:wantE ops e o.guard=some true) (h:o.op=.makeMap t none)
  (k:∀ p,B≤p→Ll P n (Own B w0 ((p,mapI [])::hs)) ops l ((d,.map (some p))::e) N R X):Ll P n (Own B w0 hs) ops (o::l) e N R X:=Ll.makeMap hd hdst hg h k
theorem keyI (k:Int):MapKept.IsKey (.int .i64) (.int .i64 k):=rfl
theorem keysI (L:List (Int×Bool)):∀ x∈((L.zipIdx.map entI).toArray).toList,MapKept.IsKey (.int .i64) x.key:=fun x hx=>by
 obtain ⟨y,j,_,rfl⟩:=zip_mem (show x∈L.zipIdx.map entI from hx)
 rfl
theorem findI (k:Int) (L:List (Int×Bool)):(Instr.findNow (.int .i64) (.int .i64 k) ((L.zipIdx.map entI).toArray).toList 0=some none∧∀ x∈L,x.1 ≠ k)∨∃ j b,Instr.findNow (.int .i64) (.int .i64 k) ((L.zipIdx.map entI).toArray).toList 0=some (some (j,.bool b))∧L[j]?=some (k,b):=by
  rcases MapKept.findNow_spec (keyI k) ((L.zipIdx.map entI).toArray).toList 0 (keysI L) with ⟨h1,h2⟩ | ⟨j,e,h1,h2,h3⟩
  · refine .inl ⟨h1,fun x hx q=>?_⟩
    obtain ⟨j,hj⟩:=List.mem_iff_getElem?.1 hx
    exact h2 (entI (x,j)) (List.mem_of_getElem? (zip_get (g:=entI) hj)) (by rw [← q];rfl)
  · have h2':(L.zipIdx.map entI)[j]?=some e:=by simpa using h2
    rw [List.getElem?_map,List.getElem?_zipIdx] at h2'
    cases hy:L[j]? with
    | none=>rw [hy] at h2';simp at h2'
    | some z =>
      rw [hy] at h2'
      simp at h2'
      subst h2'
      have hz:z.1=k:=by
        have:Value.int .i64 z.1=.int .i64 k:=h3
        injection this
      refine .inr ⟨j,z.2,by rw [h1,Nat.zero_add];rfl,by rw [← hz];exact hy⟩
theorem OpQ.lookI_nil {t kt et:Nat} {x y:Operand} {k:Int} (h:o.op=.lookup t x y true) (hm:P.underlying t=some (.map kt et)) (hkt:P.underlying kt=some (.int .i64)) (hz:∀ w,(zeroValue et).run P w=.ok (.bool false) w)
  (hx:opd e x=some (.map none)) (hy:opd e y=some (.int .i64 k)):OpQ P n (Own B w0 hs) e o (.tuple #[.bool false,.bool false]):=by
 unfold OpQ
 intro a hF w hw
 unfold Oper.quietAt execOp;rw [h]
 simp only [hF.opd hx,hF.opd hy,Instr.lookup,Sem.run_bind,run_underlying hm,MapKept.run_checkKey hkt (keyI k),MapKept.run_findKey hkt (show Instr.findNow (.int .i64) (.int .i64 k) (#[]:Array MapEntry).toList 0=some none from rfl),hz,Sem.run_pure,Result.andThen]
 exact ⟨rfl,rfl⟩
theorem OpQ.lookI_no {t kt et r:Nat} {x y:Operand} {k:Int} {L:List (Int×Bool)} (i:Nat) (h:o.op=.lookup t x y true) (hm:P.underlying t=some (.map kt et)) (hkt:P.underlying kt=some (.int .i64)) (hz:∀ w,(zeroValue et).run P w=.ok (.bool false) w)
    (hx:opd e x=some (.map (some r))) (hy:opd e y=some (.int .i64 k)) (hi:hs[i]?=some (r,mapI L)) (hno:∀ x∈L,x.1 ≠ k):OpQ P n (Own B w0 hs) e o (.tuple #[.bool false,.bool false]):=by
  unfold OpQ
  intro a hF w hw
  have hb:w.heap[r]?=some (.map ((L.zipIdx.map entI).toArray) L.length):=(hw.has i r _ hi).2
  unfold Oper.quietAt execOp;rw [h]
  rcases findI k L with ⟨h1,_⟩ | ⟨j,b,h1,h2⟩
  · simp only [hF.opd hx,hF.opd hy,Instr.lookup,Sem.run_bind,run_underlying hm,MapKept.run_getObj_map hb,MapKept.run_checkKey hkt (keyI k),MapKept.run_findKey hkt h1,hz,Sem.run_pure,Result.andThen]
    exact ⟨rfl,rfl⟩
  · exact absurd rfl (hno _ (List.mem_of_getElem? h2))
theorem OpQ.lookI_at {t kt et r:Nat} {x y:Operand} {k:Int} {b:Bool} {L:List (Int×Bool)} (i:Nat) (h:o.op=.lookup t x y true) (hm:P.underlying t=some (.map kt et)) (hkt:P.underlying kt=some (.int .i64))
    (hx:opd e x=some (.map (some r))) (hy:opd e y=some (.int .i64 k)) (hi:hs[i]?=some (r,mapI L)) (hin:∃ x∈L,x.1=k) (hu:∀ c,(k,c)∈L→c=b):OpQ P n (Own B w0 hs) e o (.tuple #[.bool b,.bool true]):=by
  unfold OpQ
  intro a hF w hw
  have hb:w.heap[r]?=some (.map ((L.zipIdx.map entI).toArray) L.length):=(hw.has i r _ hi).2
  unfold Oper.quietAt execOp;rw [h]
  rcases findI k L with ⟨h1,h2⟩ | ⟨j,c,h1,h2⟩
  · obtain ⟨x,hx,q⟩:=hin
    exact absurd q (h2 x hx)
  · have:=hu c (List.mem_of_getElem? h2)
    subst this
    simp only [hF.opd hx,hF.opd hy,Instr.lookup,Sem.run_bind,run_underlying hm,MapKept.run_getObj_map hb,MapKept.run_checkKey hkt (keyI k),MapKept.run_findKey hkt h1,Sem.run_pure,Result.andThen]
    exact ⟨rfl,rfl⟩
theorem mapI_add (L:List (Int×Bool)) (k:Int) (b:Bool):mapI (L++[(k,b)])=.map (((L.zipIdx.map entI).toArray).push { key:=.int .i64 k,val:=.bool b,born:=L.length }) (L.length+1):=by
 unfold mapI
 rw [List.zipIdx_append,List.map_append,List.push_toArray]
 simp [entI]
theorem mapI_set {L:List (Int×Bool)} {k:Int} {b:Bool} {j:Nat}:mapI (L.set j (k,b))=.map (((L.zipIdx.map entI).toArray).modify j fun e=>{ e with key:=.int .i64 k,val:=.bool b }) L.length:=by
  unfold mapI
  rw [List.length_set]
  congr 1
  apply Array.ext
  · simp
  · intro q h1 h2
    rw [Array.getElem_modify]
    simp only [List.getElem_toArray,List.getElem_map,List.getElem_zipIdx,List.getElem_set,entI]
    split
    · rename_i h;subst h;rfl
    · rfl
theorem Ll.mapSetI {t kt et r:Nat} {x y z:Operand} {k:Int} {b:Bool} {L:List (Int×Bool)} (i:Nat) (hdst:o.dst=none) (hg:wantE ops e o.guard=some true) (h:o.op=.mapUpdate t x y z) (hm:P.underlying t=some (.map kt et)) (hkt:P.underlying kt=some (.int .i64))
    (hx:opd e x=some (.map (some r))) (hy:opd e y=some (.int .i64 k)) (hz:opd e z=some (.bool b)) (hi:hs[i]?=some (r,mapI L))
    (kk:∀ L':List (Int×Bool),(∀ x∈L',x∈L∨x=(k,b))→Ll P n (Own B w0 (hs.set i (r,mapI L'))) ops l e N R X):Ll P n (Own B w0 hs) ops (o::l) e N R X :=
  Ll.turnN hdst hg fun a w hF hw=>by
    have hb:w.heap[r]?=some (.map ((L.zipIdx.map entI).toArray) L.length):=(hw.has i r _ hi).2
    rcases findI k L with ⟨h1,h2⟩ | ⟨j,c,h1,h2⟩
    · refine ⟨{ w with heap:=w.heap.setIfInBounds r (mapI (L++[(k,b)])) },?_,fun a' ha=>?_⟩
      · unfold execOp;rw [h];simp only [hF.opd hx,hF.opd hy,hF.opd hz]
        have run:(Instr.mapUpdate t (.map (some r)) (.int .i64 k) (.bool b)).run P w=.ok () { w with heap:=w.heap.setIfInBounds r (mapI (L++[(k,b)])) }:=by
          rw [mapI_add]
          simp [Instr.mapUpdate,run_underlying hm,MapKept.run_getObj_map hb,MapKept.run_checkKey hkt (keyI k),MapKept.run_findKey hkt h1,MapKept.run_setObj_map _ hb,Result.andThen]
        simp only [Sem.run_bind,run,Result.andThen]
        rfl
      · have:=kk (L++[(k,b)]) fun x hx=>by
          rcases List.mem_append.1 hx with hx | hx
          · exact .inl hx
          · exact .inr (List.mem_singleton.1 hx)
        unfold Ll at this
        exact this a' _ ha (hw.setObj hi _)
    · refine ⟨{ w with heap:=w.heap.setIfInBounds r (mapI (L.set j (k,b))) },?_,fun a' ha=>?_⟩
      · unfold execOp;rw [h];simp only [hF.opd hx,hF.opd hy,hF.opd hz]
        have hj:((L.zipIdx.map entI).toArray)[j]?=some (entI ((k,c),j)):=by
          have:=zip_get (g:=entI) h2
          simpa using this
        have run:(Instr.mapUpdate t (.map (some r)) (.int .i64 k) (.bool b)).run P w=.ok () { w with heap:=w.heap.setIfInBounds r (mapI (L.set j (k,b))) }:=by
          rw [mapI_set]
          simp only [Instr.mapUpdate,Sem.run_bind,run_underlying hm,MapKept.run_getObj_map hb,MapKept.run_checkKey hkt (keyI k),MapKept.run_findKey hkt h1,Result.andThen]
          rw [hj]
          simp only [Option.map_some,Option.getD_some]
          rw [show (entI ((k,c),j)).key=.int .i64 k from rfl]
          simp only [MapKept.run_keyThatStays (keyI k),MapKept.run_setObj_map _ hb]
        simp only [Sem.run_bind,run,Result.andThen]
        rfl
      · have:=kk (L.set j (k,b)) fun x hx=>by
          rcases List.mem_or_eq_of_mem_set hx with hx | hx
          · exact .inl hx
          · exact .inr hx
        unfold Ll at this
        exact this a' _ ha (hw.setObj hi _)
theorem OpQ.eqNilM {C:World→Prop} {t t' kt et:TypeId} {x y:Operand} {p:Option Nat} (h:o.op=.binOp .eql t x y t') (hu:P.underlying t=some (.map kt et)) (hx:opd e x=some (.map p)) (hy:opd e y=some (.map none)):OpQ P n C e o (.bool p.isNone):=OpQ.val fun A hf w=>by
 unfold execOp;rw [h];simp only [hf.opd hx,hf.opd hy]
 rw [show eqGuard .eql t x y (Value.map p) (Value.map none)=pure () from rfl]
 have h1:∀ d:Nat,(Op.equalIn (d+1) t (.map p) (.map none)).run P w=.ok p.isNone w:=fun d=>by
  cases p <;> simp [Op.equalIn,run_underlying hu,Result.andThen]
 simp only [Sem.run_bind,Sem.run_pure,Result.andThen,binOp]
 simp [Op.equal,Op.maxDepth,h1 9999]
end
end Go.Wk
namespace Go.Wk
abbrev kB := @OpQ.lookP_at
end Go.Wk
namespace Go.Wk
open Go.RowKit
def RowB (hs:List (Nat×Obj)) (v:Value) (vs:List Value):Prop :=
 (v=.slice none 0 0∧vs=[])∨∃ g cap cur el,v=.slice (some ⟨g,0,none⟩) vs.length cap∧(g,Obj.cells cur el (0,0))∈hs∧cur.toList.take vs.length=vs∧vs.length≤cap
theorem RowB.row {B:Nat} {w0 w:World} {hs:List (Nat×Obj)} {v:Value} {vs:List Value} (h:RowB hs v vs) (hw:Own B w0 hs w):Row w v vs:=by
  rcases h with ⟨rfl,rfl⟩ | ⟨g,cap,cur,el,rfl,h1,h2,h3⟩
  · exact Ints.nil
  · obtain ⟨i,hi⟩:=List.mem_iff_getElem?.1 h1
    exact Own.row hw hi h2 rfl h3
theorem RowB.more {hs hs':List (Nat×Obj)} {v:Value} {vs:List Value} (k:∀ x∈hs,x∈hs') (h:RowB hs v vs):RowB hs' v vs:=by
  rcases h with h | ⟨g,cap,cur,el,h0,h1,h2,h3⟩
  · exact .inl h
  · exact .inr ⟨g,cap,cur,el,h0,k _ h1,h2,h3⟩
theorem RowB.nil {hs:List (Nat×Obj)}:RowB hs (.slice none 0 0) []:=.inl ⟨rfl,rfl⟩
theorem RowB.at {hs:List (Nat×Obj)} {g n cap el:Nat} {cur:Array Value} {vs:List Value} (hm:(g,Obj.cells cur el (0,0))∈hs) (ht:cur.toList.take n=vs) (hn:vs.length=n) (hc:n≤cap):RowB hs (.slice (some ⟨g,0,none⟩) n cap) vs:=by
 subst hn
 exact .inr ⟨g,cap,cur,el,rfl,hm,ht,hc⟩
def NodeB (T:TypeId) (hs:List (Nat×Obj)) (p:Nat) (c:UInt8) (vs:List UInt8) (ps:List Nat) (fr al:Nat):Prop :=
 ∃ vv pv,(p,Obj.cells #[u8V c,vv,pv,.int .i64 (fr:Int),.int .i64 (al:Int)] T (0,0))∈hs∧RowB hs vv (vs.map u8V)∧RowB hs pv (ps.map ptrV)
def TreeB (T:TypeId) (hs:List (Nat×Obj)):Fm→Nat→Prop
 | .leaf c vs,p=>NodeB T hs p c vs [] (frB (.leaf c vs)) (allB (.leaf c vs))
 | .one c vs q,p=>∃ q',NodeB T hs p c vs [q'] (frB (.one c vs q)) (allB (.one c vs q))∧TreeB T hs q q'
 | .two c q r,p=>∃ q' r',NodeB T hs p c [] [q',r'] (frB (.two c q r)) (allB (.two c q r))∧TreeB T hs q q'∧TreeB T hs r r'
theorem NodeB.more {T:TypeId} {hs hs':List (Nat×Obj)} {p:Nat} {c:UInt8} {vs:List UInt8} {ps:List Nat} {fr al:Nat} (k:∀ x∈hs,x∈hs') (h:NodeB T hs p c vs ps fr al):NodeB T hs' p c vs ps fr al:=by
 obtain ⟨vv,pv,h1,h2,h3⟩:=h
 exact ⟨vv,pv,k _ h1,h2.more k,h3.more k⟩
theorem TreeB.more {T:TypeId} {hs hs':List (Nat×Obj)} (k:∀ x∈hs,x∈hs'):∀ {fm:Fm} {p:Nat},TreeB T hs fm p→TreeB T hs' fm p
 | .leaf _ _,_,h=>NodeB.more k h
 | .one _ _ _,_,h=>by obtain ⟨q',h1,h2⟩:=h;exact ⟨q',h1.more k,TreeB.more k h2⟩
 | .two _ _ _,_,h=>by obtain ⟨q',r',h1,h2,h3⟩:=h;exact ⟨q',r',h1.more k,TreeB.more k h2,TreeB.more k h3⟩
theorem TreeB.left {T:TypeId} {hs hs':List (Nat×Obj)} {fm:Fm} {p:Nat} (h:TreeB T hs fm p):TreeB T (hs++hs') fm p:=h.more fun _ hx=>List.mem_append_left _ hx
theorem TreeB.right {T:TypeId} {hs hs':List (Nat×Obj)} {fm:Fm} {p:Nat} (h:TreeB T hs fm p):TreeB T (hs'++hs) fm p:=h.more fun _ hx=>List.mem_append_right _ hx
theorem NodeB.node {T:TypeId} {B:Nat} {w0 w:World} {hs:List (Nat×Obj)} {p:Nat} {c:UInt8} {vs:List UInt8} {ps:List Nat} {fr al:Nat} (h:NodeB T hs p c vs ps fr al) (hw:Own B w0 hs w):NodeC T w p c vs ps fr al:=by
 obtain ⟨vv,pv,h1,h2,h3⟩:=h
 exact ⟨vv,pv,(hw.mem h1).2,h2.row hw,h3.row hw⟩
theorem TreeB.tree {T:TypeId} {B:Nat} {w0 w:World} {hs:List (Nat×Obj)} (hw:Own B w0 hs w):∀ {fm:Fm} {p:Nat},TreeB T hs fm p→Tree T w fm p
 | .leaf _ _,_,h=>NodeB.node h hw
 | .one _ _ _,_,h=>by obtain ⟨q',h1,h2⟩:=h;exact ⟨q',h1.node hw,TreeB.tree hw h2⟩
 | .two _ _ _,_,h=>by obtain ⟨q',r',h1,h2,h3⟩:=h;exact ⟨q',r',h1.node hw,TreeB.tree hw h2,TreeB.tree hw h3⟩
theorem TreeB.node {T:TypeId} {hs:List (Nat×Obj)}:∀ {fm:Fm} {p:Nat},TreeB T hs fm p→∃ c vs ps,NodeB T hs p c vs ps (frB fm) (allB fm)
 | .leaf c vs,_,h=>⟨c,vs,[],h⟩
 | .one c vs _,_,h=>by obtain ⟨q',h1,_⟩:=h;exact ⟨c,vs,[q'],h1⟩
 | .two c _ _,_,h=>by obtain ⟨q',r',h1,_⟩:=h;exact ⟨c,[],[q',r'],h1⟩
theorem TreeB.same {T:TypeId} {B:Nat} {w0 w:World} {hs:List (Nat×Obj)} (hw:Own B w0 hs w) {fm fm':Fm} {p:Nat} (h:TreeB T hs fm p) (k:TreeB T hs fm' p):fm=fm':=(TreeB.tree hw h).same (TreeB.tree hw k)
theorem mem_at {α:Type} {l:List α} {i:Nat} {x:α} (h:l[i]?=some x):x∈l:=List.mem_of_getElem? h
theorem mem_atL {α:Type} {l r:List α} {i:Nat} {x:α} (h:l[i]?=some x):x∈l++r:=List.mem_append_left _ (List.mem_of_getElem? h)
abbrev Memo:=List (Nat×Nat×List (Int×Bool))
def memoK (K:Memo):List (Nat×Nat):=K.map fun x=>(x.1,x.2.1)
def memoB (K:Memo):List (Nat×Obj):=K.map fun x=>(x.2.1,mapI x.2.2)
def MemoOk (T:TypeId) (a:St) (hs:List (Nat×Obj)) (K:Memo):Prop:=∀ x∈K,∃ fm,wfF fm∧TreeB T hs fm x.1∧∀ y∈x.2.2,∃ e,EnvA a e∧keyF fm e=y.1∧ev a fm e=y.2
theorem MemoOk.nil {T:TypeId} {a:St} {hs:List (Nat×Obj)}:MemoOk T a hs []:=fun x hx=>by cases hx
theorem EnvA.ok {a:St} {e:List Int} (h:EnvA a e) (ha:a.Fine):EnvOk e:=⟨h.1,fun i hi=>by
 have h1:=h.2 i hi
 have h2:=ha.hi
 unfold St.El at h1
 omega⟩
theorem memo_ev {T:TypeId} {a:St} {B:Nat} {w0 w:World} {hs ts:List (Nat×Obj)} {K:Memo} {fm:Fm} {p j m:Nat} {L:List (Int×Bool)} {en:List Int} (ha:a.Fine) (hK:MemoOk T a ts K) (hts:∀ x∈ts,x∈hs) (hw:Own B w0 hs w) (hT:TreeB T ts fm p) (hwf:wfF fm) (hE:EnvA a en) (hj:K[j]?=some (p,m,L)) :
  ∀ c,(keyF fm en,c)∈L→c=ev a fm en:=fun c hc=>by
 obtain ⟨fm',h1,h2,h3⟩:=hK _ (List.mem_of_getElem? hj)
 have e:=TreeB.same hw (h2.more hts) (hT.more hts)
 subst e
 obtain ⟨e,g1,g2,g3⟩:=h3 _ hc
 exact g3.symm.trans (key_ev hwf (g1.ok ha) (hE.ok ha) g2)
theorem memoK_get {K:Memo} {j p m:Nat} {L:List (Int×Bool)} (h:K[j]?=some (p,m,L)):(memoK K)[j]?=some (p,m):=by unfold memoK;rw [List.getElem?_map,h];rfl
theorem memoB_get {K:Memo} {j p m:Nat} {L:List (Int×Bool)} (h:K[j]?=some (p,m,L)):(memoB K)[j]?=some (m,mapI L):=by unfold memoB;rw [List.getElem?_map,h];rfl
theorem memoB_at {K:Memo} {j p m:Nat} {L:List (Int×Bool)} {r:List (Nat×Obj)} (h:K[j]?=some (p,m,L)):(memoB K++r)[j]?=some (m,mapI L):=by
 have:=memoB_get h
 rw [List.getElem?_append_left (List.getElem?_eq_some_iff.1 this).1];exact this
theorem memoB_set {K:Memo} {j p m:Nat} {L L':List (Int×Bool)} {r:List (Nat×Obj)} (h:K[j]?=some (p,m,L)):(memoB K++r).set j (m,mapI L')=memoB (K.set j (p,m,L'))++r:=by
 have h1:=(List.getElem?_eq_some_iff.1 (memoB_get h)).1
 rw [List.set_append_left _ _ h1]
 unfold memoB
 rw [List.map_set]
theorem memoK_set {K:Memo} {j p m:Nat} {L L':List (Int×Bool)} (h:K[j]?=some (p,m,L)):memoK (K.set j (p,m,L'))=memoK K:=by
 unfold memoK
 rw [List.map_set]
 exact set_same (by rw [List.getElem?_map,h];rfl)
theorem memoB_add (K:Memo) (p m:Nat):memoB (K++[(p,m,[])])=memoB K++[(m,mapI [])]:=by unfold memoB;rw [List.map_append];rfl
theorem memoK_add (K:Memo) (p m:Nat):memoK (K++[(p,m,[])])=memoK K++[(p,m)]:=by unfold memoK;rw [List.map_append];rfl
theorem memo_case (K:Memo) (p:Nat):(∀ x∈memoK K,x.1 ≠ p)∨∃ j m L,K[j]?=some (p,m,L)∧∀ (q:Nat) (x:Nat×Nat),q<j→(memoK K)[q]?=some x→x.1 ≠ p:=by
  rcases key_case (memoK K) p with h | ⟨j,m,h1,h2⟩
  · exact .inl h
  · unfold memoK at h1
    rw [List.getElem?_map] at h1
    cases e:K[j]? with
    | none=>rw [e] at h1;cases h1
    | some y =>
      rw [e] at h1
      have h3:(y.1,y.2.1)=(p,m):=by simpa using h1
      injection h3 with h3 h4
      exact .inr ⟨j,m,y.2.2,by rw [e,← h3,← h4],h2⟩
theorem has_case (L:List (Int×Bool)) (k:Int):(∀ x∈L,x.1 ≠ k)∨∃ x∈L,x.1=k:=by
  rcases Classical.em (∃ x∈L,x.1=k) with h | h
  · exact .inr h
  · exact .inl fun x hx e=>h ⟨x,hx,e⟩
theorem TreeB.key {T:TypeId} {B:Nat} {w0:World} {hs hs':List (Nat×Obj)} {fm:Fm} {p:Nat} (h:TreeB T hs fm p) (hsub:∀ x∈hs,x∈hs'):KeysIn B w0 hs' p:=fun w hw=>by
 obtain ⟨c,vs,ps,vv,pv,h1,_⟩:=h.node
 exact ⟨_,_,(hw.mem (hsub _ h1)).2⟩
theorem MemoOk.keys {T:TypeId} {a:St} {B:Nat} {w0:World} {hs hs':List (Nat×Obj)} {K:Memo} (h:MemoOk T a hs K) (hsub:∀ x∈hs,x∈hs'):∀ x∈memoK K,KeysIn B w0 hs' x.1:=fun x hx=>by
 obtain ⟨y,hy,rfl⟩:=List.mem_map.1 hx
 obtain ⟨fm,_,h2,_⟩:=h y hy
 exact h2.key hsub
theorem MemoOk.add {T:TypeId} {a:St} {hs:List (Nat×Obj)} {K:Memo} {fm:Fm} {p m:Nat} (h:MemoOk T a hs K) (hT:TreeB T hs fm p) (hwf:wfF fm):MemoOk T a hs (K++[(p,m,[])]):=fun x hx=>by
  rcases List.mem_append.1 hx with hx | hx
  · exact h x hx
  · rw [List.mem_singleton.1 hx]
    exact ⟨fm,hwf,hT,fun y hy=>by cases hy⟩
theorem MemoOk.set {T:TypeId} {a:St} {B:Nat} {w0 w:World} {hs ts:List (Nat×Obj)} {K:Memo} {fm:Fm} {p j m:Nat} {L L':List (Int×Bool)} {en:List Int} (h:MemoOk T a ts K) (hts:∀ x∈ts,x∈hs) (hw:Own B w0 hs w) (hT:TreeB T ts fm p) (hwf:wfF fm) (hE:EnvA a en) (hj:K[j]?=some (p,m,L)) (hL:∀ x∈L',x∈L∨x=(keyF fm en,ev a fm en)):MemoOk T a ts (K.set j (p,m,L')):=fun x hx=>by
  rcases List.mem_or_eq_of_mem_set hx with hx | rfl
  · exact h x hx
  · obtain ⟨fm',h1,h2,h3⟩:=h _ (List.mem_of_getElem? hj)
    have e:=TreeB.same hw (h2.more hts) (hT.more hts)
    subst e
    refine ⟨fm',hwf,hT,fun y hy=>?_⟩
    rcases hL y hy with hy | rfl
    · exact h3 y hy
    · exact ⟨en,hE,rfl,rfl⟩
end Go.Wk
namespace Go.Wk
open Go.RowKit
theorem formO_none {f:List UInt8} (h:parse f=none):formO f=none:=by unfold formO;rw [h];simp
theorem formO_rest {f r:List UInt8} {p:Fm} (h:parse f=some (p,r)) (hr:¬ r=[]):formO f=none:=by
 unfold formO;rw [h]
 cases r with
 | nil=>exact absurd rfl hr
 | cons c r=>simp
def szF:Fm→Nat
 | .leaf _ _=>0
 | .one _ _ p=>szF p+1
 | .two _ p q=>szF p+szF q+1
theorem rank_sub1 {c:UInt8} {vs:List UInt8} {q:Fm}:rankF q≤rankF (.one c vs q):=by
  show _≤(if c=33 then rankF q else if c=65∨c=83 then rankF q+1 else rankF q+(c.toNat - 48))
  split
  · exact Nat.le_refl _
  · split <;> omega
theorem rank_sub2 {c:UInt8} {q r:Fm}:rankF q≤rankF (.two c q r)∧rankF r≤rankF (.two c q r):=by
 show _≤max _ _∧_≤max _ _
 omega
def cntI (c:UInt8):Prop:=(c.toNat:Int)=50∨(c.toNat:Int)=51∨(c.toNat:Int)=52
theorem leaf_letter {c:UInt8} {vs:List UInt8} (h:wfF (.leaf c vs)):¬ quI (c.toNat:Int)∧¬ cntI c:=by
  unfold quI cntI
  rcases leaf_op h with hc | ⟨rfl,_⟩ | ⟨hc,_⟩
  · rcases hc with rfl | rfl <;> decide
  · decide
  · rcases hc with rfl | rfl <;> decide
theorem two_letter {c:UInt8} {p q:Fm} (h:wfF (.two c p q)):¬ quI (c.toNat:Int)∧¬ cntI c:=by
 unfold quI cntI
 rcases two_op h with rfl | rfl <;> decide
theorem one_letter {c:UInt8} {vs:List UInt8} {q:Fm} (h:wfF (.one c vs q)):(quI (c.toNat:Int)∧∃ v,vs=[v]∧isV v=true)∨(c=33∧vs=[]):=by
 cases vs with
 | nil=>exact .inr ⟨one_no_var h,rfl⟩
 | cons v vs =>
  obtain ⟨h1,rfl,h3⟩:=one_var h
  refine .inl ⟨?_,v,rfl,h3⟩
  unfold quI
  rcases h1 with rfl | rfl | rfl | rfl | rfl <;> decide
theorem rank_end1 {c:UInt8} {vs:List UInt8} {q:Fm} (hc:cntI c):(rankF q:Int)+((c.toNat:Int) - 48)=((rankF (.one c vs q):Nat):Int):=by
 have hq:quI (c.toNat:Int):=by unfold cntI at hc;unfold quI;omega
 rw [rank_cnt hq (by unfold cntI at hc;omega)];omega
theorem rank_end2 {c:UInt8} {vs:List UInt8} {q:Fm} (hc:¬ cntI c) (hq:quI (c.toNat:Int)):(rankF q:Int)+1=((rankF (.one c vs q):Nat):Int):=by
 rw [rank_one (by unfold cntI at hc;unfold quI at hq;omega)]
theorem rank_end3 {c:UInt8} {vs:List UInt8} {q:Fm} (h:wfF (.one c vs q)) (hq:¬ quI (c.toNat:Int)):(rankF q:Int)=((rankF (.one c vs q):Nat):Int):=by
  rcases one_letter h with ⟨h1,_⟩ | ⟨rfl,rfl⟩
  · exact absurd h1 hq
  · rfl
end Go.Wk
namespace Go.Wk
open Go.RowKit
section
variable {P:Program} {n:Nat} {C:World→Prop} {B:Nat} {w0:World} {hs hs':List (Nat×Obj)} {N R:Act→World→Prop} {X:List (Nat×(Act→World→Prop))} {e:Env} {ops:Array Oper} {l:List Oper} {o:Oper}
theorem OpQ.indexAgg {t el:TypeId} {m:Nat} {x y:Operand} {xs:List Int} {k:IntKind} {i:Int} (h:o.op=.index t x y) (hu:∀ w,(underlying t).run P w=.ok (.array m el) w) (hag:∀ w,(isAgg el).run P w=.ok false w) (hz:∀ w,(sizeOf el).run P w=.ok 1 w)
  (hx:opd e x=some (.agg (ints xs).toArray)) (hy:opd e y=some (.int k i)) (h0:0≤i) (h1:i<m) (hl:xs.length=m):OpQ P n C e o (.int .i64 (xs.getD i.toNat 0)):=OpQ.val fun A hF w=>by
 unfold execOp;rw [h];simp only [hF.opd hx,hF.opd hy]
 have hc:((ints xs).toArray)[i.toNat]?=some (.int .i64 (xs.getD i.toNat 0)):=by
  have hi:i.toNat<xs.length:=by omega
  rw [List.getElem?_toArray]
  unfold ints
  rw [List.getElem?_map,List.getElem?_eq_getElem hi,getD_at hi];rfl
 simp only [Instr.index,asIntOf,Sem.run_bind,Sem.run_pure,hu,Result.andThen,if_pos (And.intro h0 h1),hz,part,hag,Nat.mul_one]
 simp [hc]
theorem OpQ.loadHold {t:TypeId} {x:Operand} {p:Nat} {a:St} {k:Value} {T:TypeId} {fr:Nat×Nat} (i:Nat) (h:o.op=.load t x) (hag:∀ w,(isAgg t).run P w=.ok true w) (hsz:∀ w,(sizeOf t).run P w=.ok 3 w) (hx:opd e x=some (.pointer (some ⟨p,0,none⟩)))
  (hi:hs[i]?=some (p,.cells #[.int .i64 a.n,str a.set,str a.rel,k] T fr)):OpQ P n (Own B w0 hs) e o (vS a) :=
 OpQ.loadN (cs:=#[.int .i64 a.n,str a.set,str a.rel]) h hag hsz hx fun w hw j v hj=>by
  rw [Addr.add_lit,hw.cell hi,Nat.zero_add]
  match j,hj with
  | 0,hj=>exact hj
  | 1,hj=>exact hj
  | 2,hj=>exact hj
  | j+3,hj=>simp at hj
theorem Row.u8 {w:World} {v:Value} {vs:List UInt8} (h:Row w v (vs.map u8V)) {i:Int} (h0:0≤i) (h1:i<vs.length):w.cell? (sAt v i)=some (.int .u8 ((vs.getD i.toNat 0).toNat:Int)):=by
 have hi:i.toNat<vs.length:=by omega
 rw [Row.cell h h0 (by rw [List.length_map];exact h1),getD_at hi]
 congr 1
 rw [List.getD_eq_getElem?_getD,List.getElem?_map,List.getElem?_eq_getElem hi];rfl
abbrev memoF (TH h M:Nat) (a:St) (K:Memo) (r:List (Nat×Obj)):List (Nat×Obj):=(h,.cells #[.int .i64 a.n,str a.set,str a.rel,.map (some M)] TH (0,0))::(M,mapP (memoK K))::(memoB K++r)
theorem Own.offMemo {w:World} {M:Nat} {K:Memo} {f:List (Nat×Obj)} (h:Own B w0 (f++((M,mapP (memoK K))::(memoB K++hs))) w):Own B w0 (f++hs) w :=
 h.sub (List.Sublist.append_left (List.Sublist.cons _ (List.sublist_append_right _ _)) f)
theorem memo_perm {TH h M:Nat} {a:St} {K:Memo} (f r:List (Nat×Obj)):(f++memoF TH h M a K r).Perm (memoF TH h M a K (f++r)):=by
 have e:∀ r,memoF TH h M a K r=((h,Obj.cells #[.int .i64 a.n,str a.set,str a.rel,.map (some M)] TH (0,0))::(M,mapP (memoK K))::memoB K)++r:=fun _=>rfl
 rw [e,e]
 exact perm_back f _ r
theorem Ll.callMemo {TH h M d f:Nat} {a:St} {K:Memo} {ok:Memo→Prop} {b:Bool} {xs:List Operand} {ts:Array TypeId} {vs:List Value} (front:List (Nat×Obj)) (hd:Nat.blt d n=true) (hdst:o.dst=some d) (hg:wantE ops e o.guard=some true) (ho:o.op=.call ⟨.value (.func f),xs.toArray,ts⟩)
  (hcf:∀ args w,(callFunc f args).run P w=.ok (.enter f args) w) (hx:opds e xs=some vs)
  (hc:∀ w,Own B w0 (memoF TH h M a K (front++hs)) w→Calls P f vs.toArray w fun en w'=>∃ K',en=.returned (.bool b)∧ok K'∧Own B w0 (memoF TH h M a K' (front++hs)) w')
  (k:∀ K',ok K'→Ll P n (Own B w0 (front++memoF TH h M a K' hs)) ops l ((d,.bool b)::e) N R X):Ll P n (Own B w0 (front++memoF TH h M a K hs)) ops (o::l) e N R X :=
 Ll.call hd hdst hg ho hcf hx fun w hw=>(hc w (hw.perm (memo_perm _ _))).mono fun en w' ⟨K',h1,h2,h3⟩=>⟨_,h1,fun a' ha=>by
  have:=k K' h2
  unfold Ll at this
  exact this a' w' ha (h3.perm (memo_perm _ _).symm)⟩
end
theorem memo_new {M m p:Nat} {K:Memo} (f r:List (Nat×Obj)):((m,mapI [])::(f++((M,mapP (memoK K++[(p,m)]))::(memoB K++r)))).Perm (f++((M,mapP (memoK (K++[(p,m,[])])))::(memoB (K++[(p,m,[])])++r))):=by
 rw [memoK_add,memoB_add,List.append_assoc]
 refine (List.perm_middle (a:=(m,mapI [])) (l₁:=f) (l₂:=((M,mapP (memoK K++[(p,m)]))::(memoB K++r)))).symm.trans (List.Perm.append_left f ?_)
 refine (List.Perm.swap _ _ _).trans (List.Perm.cons _ ?_)
 exact (List.perm_middle (a:=(m,mapI [])) (l₁:=memoB K) (l₂:=r)).symm
theorem memo_set2 {M m p j:Nat} {K:Memo} {x y:Nat×Obj} {r:List (Nat×Obj)} {L L':List (Int×Bool)} (hj:K[j]?=some (p,m,L)):(x::y::(M,mapP (memoK K))::(memoB K++r)).set (j+3) (m,mapI L')=x::y::(M,mapP (memoK (K.set j (p,m,L'))))::(memoB (K.set j (p,m,L'))++r):=by
 rw [memoK_set hj,← memoB_set hj];rfl
theorem memo_last {K:Memo} {p m:Nat} (h:∀ x∈memoK K,x.1 ≠ p):(K++[(p,m,[])])[K.length]?=some (p,m,[])∧∀ (q:Nat) (x:Nat×Nat),q<K.length→(memoK (K++[(p,m,[])]))[q]?=some x→x.1 ≠ p:=by
 refine ⟨by simp,fun q x hq hx=>?_⟩
 rw [memoK_add,List.getElem?_append_left (by unfold memoK;rw [List.length_map];exact hq)] at hx
 exact h x (List.mem_of_getElem? hx)
theorem memo_case3 (K:Memo) (p:Nat) (k:Int):(∀ x∈memoK K,x.1 ≠ p)∨(∃ j m L,K[j]?=some (p,m,L)∧(∀ (q:Nat) (x:Nat×Nat),q<j→(memoK K)[q]?=some x→x.1 ≠ p)∧∀ x∈L,x.1 ≠ k)∨∃ j m L,K[j]?=some (p,m,L)∧(∀ (q:Nat) (x:Nat×Nat),q<j→(memoK K)[q]?=some x→x.1 ≠ p)∧∃ x∈L,x.1=k:=by
  rcases memo_case K p with h | ⟨j,m,L,h1,h2⟩
  · exact .inl h
  · rcases has_case L k with h3 | h3
    · exact .inr (.inl ⟨j,m,L,h1,h2,h3⟩)
    · exact .inr (.inr ⟨j,m,L,h1,h2,h3⟩)
theorem leaf_by {c:UInt8} {vs:List UInt8} (h:wfF (.leaf c vs)):(((c.toNat:Int)=116∨(c.toNat:Int)=102)∧vs=[])∨((c.toNat:Int)=80∧∃ v,vs=[v]∧isV v=true)∨(((c.toNat:Int)=61∨(c.toNat:Int)=69)∧∃ v u,vs=[v,u]∧isV v=true∧isV u=true):=by
  have hv:=h.2.2.2
  have hl:=h.2.2.1
  rcases leaf_op h with hc | ⟨rfl,v,rfl⟩ | ⟨hc,v,u,rfl⟩
  · refine .inl ⟨?_,?_⟩
    · rcases hc with rfl | rfl <;> decide
    · have e:arV c=0:=by rcases hc with rfl | rfl <;> rfl
      exact List.length_eq_zero_iff.1 (by omega)
  · exact .inr (.inl ⟨by decide,v,rfl,hv v (by simp)⟩)
  · refine .inr (.inr ⟨?_,v,u,rfl,hv v (by simp),hv u (by simp)⟩)
    rcases hc with rfl | rfl <;> decide
theorem one_by {c:UInt8} {vs:List UInt8} {q:Fm} (h:wfF (.one c vs q)):((c.toNat:Int)=33∧vs=[])∨(quI (c.toNat:Int)∧∃ v,vs=[v]∧isV v=true):=by
  rcases one_letter h with ⟨h1,v,h2,h3⟩ | ⟨rfl,h2⟩
  · exact .inr ⟨h1,v,h2,h3⟩
  · exact .inl ⟨by decide,h2⟩
theorem two_by {c:UInt8} {p q:Fm} (h:wfF (.two c p q)):(c.toNat:Int)=38∨(c.toNat:Int)=124:=by
 rcases two_op h with rfl | rfl <;> decide
theorem fm_by {fm:Fm} (h:wfF fm):(∃ c,fm=.leaf c []∧((c.toNat:Int)=116∨(c.toNat:Int)=102))∨(∃ c v,fm=.leaf c [v]∧(c.toNat:Int)=80∧isV v=true)∨(∃ c v u,fm=.leaf c [v,u]∧((c.toNat:Int)=61∨(c.toNat:Int)=69)∧isV v=true∧isV u=true) ∨
    (∃ c q,fm=.one c [] q∧(c.toNat:Int)=33)∨(∃ c v q,fm=.one c [v] q∧quI (c.toNat:Int)∧isV v=true)∨∃ c q r,fm=.two c q r∧((c.toNat:Int)=38∨(c.toNat:Int)=124):=by
  cases fm with
  | leaf c vs =>
    rcases leaf_by h with ⟨h1,rfl⟩ | ⟨h1,v,rfl,h2⟩ | ⟨h1,v,u,rfl,h2,h3⟩
    · exact .inl ⟨c,rfl,h1⟩
    · exact .inr (.inl ⟨c,v,rfl,h1,h2⟩)
    · exact .inr (.inr (.inl ⟨c,v,u,rfl,h1,h2,h3⟩))
  | one c vs q =>
    rcases one_by h with ⟨h1,rfl⟩ | ⟨h1,v,rfl,h2⟩
    · exact .inr (.inr (.inr (.inl ⟨c,q,rfl,h1⟩)))
    · exact .inr (.inr (.inr (.inr (.inl ⟨c,v,q,rfl,h1,h2⟩))))
  | two c q r=>exact .inr (.inr (.inr (.inr (.inr ⟨c,q,r,rfl,two_by h⟩))))
section
variable {a:St} {en:List Int} {c v u:UInt8} {q r:Fm}
theorem ev116 (h:(c.toNat:Int)=116):true=ev a (.leaf c []) en:=by
 obtain rfl:c=116:=u8_of (n:=116) (by decide) h
 rfl
theorem ev102 (h:(c.toNat:Int)=102):false=ev a (.leaf c []) en:=by
 obtain rfl:c=102:=u8_of (n:=102) (by decide) h
 rfl
theorem ev80 (h:(c.toNat:Int)=80):a.inSet (en.getD (vI v) 0)=ev a (.leaf c [v]) en:=by
 obtain rfl:c=80:=u8_of (n:=80) (by decide) h
 rfl
theorem ev33 (h:(c.toNat:Int)=33):(!ev a q en)=ev a (.one c [] q) en:=by
 obtain rfl:c=33:=u8_of (n:=33) (by decide) h
 rfl
theorem ev38 (h:(c.toNat:Int)=38):(ev a q en&&ev a r en)=ev a (.two c q r) en:=by
 obtain rfl:c=38:=u8_of (n:=38) (by decide) h
 rfl
theorem ev124 (h:(c.toNat:Int)=124):(ev a q en||ev a r en)=ev a (.two c q r) en:=by
 obtain rfl:c=124:=u8_of (n:=124) (by decide) h
 rfl
theorem and_t {x y z:Bool} (h:(x&&y)=z) (hx:x=true):y=z:=by rw [hx] at h;exact h
theorem and_f {x y z:Bool} (h:(x&&y)=z) (hx:x=false):false=z:=by rw [hx] at h;exact h
theorem or_t {x y z:Bool} (h:(x||y)=z) (hx:x=true):true=z:=by rw [hx] at h;exact h
theorem or_f {x y z:Bool} (h:(x||y)=z) (hx:x=false):y=z:=by rw [hx] at h;exact h
theorem ev_qu (h:quI (c.toNat:Int)):ev a (.one c [v] q) en=decide (need c a.n.toNat≤cntT (evC a v q en) a.n.toNat):=by
 unfold ev
 rw [if_neg (fun e=>by subst e;revert h;decide)];rfl
theorem ev65 (h:(c.toNat:Int)=65) {x:Nat} (hx:(x:Int)=a.n):decide ((cntT (evC a v q en) x:Int)=a.n)=ev a (.one c [v] q) en:=by
 rw [ev_qu (by unfold quI;omega),decide_eq_decide]
 have hn:=need65 h (show 0≤a.n by omega)
 have hl:=cntT_le (evC a v q en) x
 obtain rfl:x=a.n.toNat:=by omega
 omega
theorem ev83 (h:(c.toNat:Int)=83) {x:Nat} (hx:(x:Int)=a.n):decide ((0:Int)<(cntT (evC a v q en) x:Int))=ev a (.one c [v] q) en:=by
 rw [ev_qu (by unfold quI;omega),decide_eq_decide]
 have hn:=need83 (n:=a.n.toNat) h
 obtain rfl:x=a.n.toNat:=by omega
 omega
theorem ev234 (hq:quI (c.toNat:Int)) (h65:¬ (c.toNat:Int)=65) (h83:¬ (c.toNat:Int)=83) {x:Nat} (hx:(x:Int)=a.n):decide ((c.toNat:Int) - 48≤(cntT (evC a v q en) x:Int))=ev a (.one c [v] q) en:=by
 rw [ev_qu hq,decide_eq_decide]
 have hn:=need234 (c:=c) (n:=a.n.toNat) (by unfold quI at hq;omega)
 obtain rfl:x=a.n.toNat:=by omega
 omega
end
theorem bit_and {b i:Nat}:decide (((b / 2 ^ i &&& 1:Nat):Int)=1)=b.testBit i:=by
 rw [Nat.testBit_eq_decide_div_mod_eq,decide_eq_decide,Nat.and_one_is_mod]
 omega
theorem key_bound {a:St} {en:List Int} (hE:EnvA a en) (ha:a.Fine) {b i:Nat} (hi:i≤4):kSum b en i<4096:=by
 have h1:=kSum_lt (b:=b) (hE.ok ha) hi
 have h2:(8:Nat) ^ i≤8 ^ 4:=Nat.pow_le_pow_right (by decide) hi
 omega
theorem key_yes {a:St} {en:List Int} (hE:EnvA a en) (ha:a.Fine) {b i:Nat} (hi:i<4) (hb:b.testBit i=true):kSum b en i ||| (en.getD i 0).toNat*2 ^ (3*i)=kSum b en (i+1):=by
 rw [Nat.pow_mul,show (2:Nat) ^ 3=8 from rfl]
 exact kSum_or (hE.ok ha) hi hb
theorem key_no {en:List Int} {b i:Nat} (hb:b.testBit i=false):kSum b en i=kSum b en (i+1):=by
 rw [show kSum b en (i+1)=kSum b en i+(if b.testBit i then (en.getD i 0).toNat*8 ^ i else 0) from rfl,hb];rfl
theorem key_val {a:St} {en:List Int} (hE:EnvA a en) (ha:a.Fine) {i:Nat} (hi:i<4):en.getD i 0=((en.getD i 0).toNat:Int)∧(en.getD i 0).toNat<8:=by
 have:=(hE.ok ha).2 i hi
 omega
theorem shl_bound {x i:Nat} (hx:x<8) (hi:i<4):x*2 ^ (3*i)<4611686018427387904:=by
 have h2:(2:Nat) ^ (3*i)≤2 ^ 9:=Nat.pow_le_pow_right (by decide) (by omega)
 have:=Nat.mul_le_mul (show x≤7 by omega) h2
 omega
end Go.Wk
namespace Go.Wk
abbrev qZ := @Own.offMemo
abbrev uP := @Ll.callMemo
end Go.Wk
namespace Go.Wk
open Go.RowKit
section
variable {P:Program} {n:Nat} {C:World→Prop} {B:Nat} {w0:World} {hs hs':List (Nat×Obj)} {N R:Act→World→Prop} {X:List (Nat×(Act→World→Prop))} {e:Env} {ops:Array Oper} {l:List Oper} {o:Oper}
theorem OpQ.sliceAll {t el:TypeId} {m:Nat} {x:Operand} {b:Nat} (h:o.op=.slice t x none none none) (hu:∀ w,(underlying t).run P w=.ok (.array m el) w) (hz:∀ w,(sizeOf el).run P w=.ok 1 w)
  (hx:opd e x=some (.pointer (some ⟨b,0,none⟩))):OpQ P n C e o (.slice (some ⟨b,0,none⟩) m m):=OpQ.val fun A hF w=>by
 unfold execOp;rw [h];simp only [hF.opd hx,Option.map_none]
 simp only [Instr.sliceAt,Instr.sureAddr,Instr.sliceBounds,Sem.run_bind,Sem.run_pure,hu,hz,Result.andThen]
 simp [Addr.add]
theorem Ll.copyEnv {dT sT elem T:TypeId} {d g:Nat} {x y:Operand} {v:Value} {xs:List Int} (i:Nat) (hd:Nat.blt d n=true) (hdst:o.dst=some d) (hg:wantE ops e o.guard=some true) (h:o.op=.call ⟨.builtin .copy,#[x,y],#[dT,sT]⟩)
    (hu:P.underlying dT=some (.slice elem)) (hsz:(P.info? elem).map (·.size)=some 1) (hx:opd e x=some (.slice (some ⟨g,0,none⟩) 4 4)) (hy:opd e y=some v) (hi:hs[i]?=some (g,.cells (ints [0,0,0,0]).toArray T (0,0))) (hr:∀ w,Own B w0 hs w→Ints w v xs) (hl:xs.length≤4)
    (k:Ll P n (Own B w0 (hs.set i (g,.cells (ints (envL xs)).toArray T (0,0)))) ops l ((d,.int .i64 (xs.length:Int))::e) N R X):Ll P n (Own B w0 hs) ops (o::l) e N R X :=
  Ll.turn hd hdst hg fun a w hF hw=>by
    obtain ⟨src,cap,rfl,_,h3,h4⟩:=hr w hw
    have hlen:(ints xs).length=xs.length:=ints_length _
    have hgc:=(hw.has i g _ hi).2
    by_cases h0:xs=[]
    · subst h0
      refine ⟨.int .i64 (([]:List Int).length:Int),w,?_,fun a' ha=>?_⟩
      · unfold execOp;rw [h]
        simp only [resolve,invoke,BigFrame.builtin_copy,List.map_toArray,List.map_cons,List.map_nil,hF.opd hx,hF.opd hy,Sem.run_bind,Sem.run_pure,Result.andThen]
        rw [run_copy_none w dT sT _ elem (some ⟨g,0,none⟩) src 4 4 (ints ([]:List Int)).length cap hu hsz (by rw [ints_length];rfl)]
        rfl
      · unfold Ll at k
        refine k a' w ha ?_
        rw [show envL []=[0,0,0,0] from rfl,set_same hi];exact hw
    · have hone:∀ v∈ints xs,v.oneCell'=true:=fun v hv=>by
        obtain ⟨z,_,rfl⟩:=List.mem_map.1 hv;rfl
      obtain ⟨ad,rfl⟩:∃ ad,src=some ad:=by
        cases src with
        | none =>
          have:=h3 rfl
          exact absurd (List.map_eq_nil_iff.1 this) h0
        | some ad=>exact ⟨ad,rfl⟩
      obtain ⟨bk,off,sp⟩:=ad
      obtain rfl:sp=none:=(h4 _ rfl).1
      have hcells:∀ (j:Nat) (u:Value),(ints xs)[j]?=some u→w.cell? ((⟨bk,off,none⟩:Addr).add j)=some u:=fun j u hu=>by rw [Addr.add_lit];exact (h4 _ rfl).2 j u hu
      have e1:((ints [0,0,0,0]).toArray.toList.take 0++ints xs++(ints [0,0,0,0]).toArray.toList.drop (0+(ints xs).length)).toArray=(ints (envL xs)).toArray:=by
        have e2:(ints [0,0,0,0]).drop xs.length=ints (List.replicate (4 - xs.length) 0):=by
          rw [show ([0,0,0,0]:List Int)=List.replicate 4 0 from rfl]
          unfold ints
          rw [List.map_replicate,List.map_replicate,List.drop_replicate]
        rw [Nat.zero_add,hlen,List.take_zero,List.nil_append]
        show (ints xs++(ints [0,0,0,0]).drop xs.length).toArray=_
        rw [e2]
        unfold envL ints
        rw [List.map_append]
      refine ⟨.int .i64 (xs.length:Int),w.setRow g (ints (envL xs)).toArray,?_,fun a' ha=>?_⟩
      · unfold execOp;rw [h]
        simp only [resolve,invoke,BigFrame.builtin_copy,List.map_toArray,List.map_cons,List.map_nil,hF.opd hx,hF.opd hy,Sem.run_bind,Sem.run_pure,Result.andThen]
        rw [run_copy_row (P:=P) w dT sT _ elem g 0 4 4 ⟨bk,off,none⟩ (ints xs).length cap (ints [0,0,0,0]).toArray T (ints xs) hu hsz hgc (by rw [hlen];exact (Nat.min_eq_left hl).symm) hcells (by rw [hlen,List.size_toArray,ints_length];simpa using hl) hone,e1]
        show Result.ok _ _=_
        rw [hlen];rfl
      · unfold Ll at k
        exact k a' _ ha (hw.setRow hi _)
end
theorem hold_none {a:St} {f:List UInt8} {xs:List Int} (h:formO f=none):holdO a f xs=none:=holdO_none fun p e _=>by rw [h] at e;cases e
theorem hold_bad {a:St} {f:List UInt8} {xs:List Int} {fm:Fm} (h:formO f=some fm) (k:validB a=false∨4<(xs.length:Int)∨xs.all (elB a)=false∨¬ ((frB fm / 2 ^ xs.length:Nat):Int)=0):holdO a f xs=none:=holdO_none fun p e ⟨h1,h2,h3,h4⟩=>by
  rw [h] at e
  injection e with e
  subst e
  rcases k with k | k | k | k
  · rw [k] at h1;cases h1
  · omega
  · have:xs.all (elB a)=true:=List.all_eq_true.2 fun x hx=>elB_true.2 (h3 x hx)
    rw [k] at this;cases this
  · omega
theorem hold_good {a:St} {f:List UInt8} {xs:List Int} {fm:Fm} (h:formO f=some fm) (h1:validB a=true) (h2:xs.length≤4) (h3:xs.all (elB a)=true) (h4:((frB fm / 2 ^ xs.length:Nat):Int)=0):holdO a f xs=some (ev a fm (envL xs)) :=
 holdO_some h ⟨h1,h2,fun x hx=>elB_true.1 (List.all_eq_true.1 h3 x hx),by omega⟩
theorem hold_ret {a:St} {f:List UInt8} {xs:List Int} {o:Option Bool} (h:holdO a f xs=o):(Value.tuple #[.bool (o.getD false),.bool o.isSome])=.tuple #[.bool (holdV a f xs),.bool (holdK a f xs)]:=by
 unfold holdV holdK;rw [h]
end Go.Wk
namespace Go.Wk
open Go.RowKit
section
variable {P:Program} {n:Nat} {C:World→Prop} {e:Env} {o:Oper}
end
def bitC (b:Bool):List UInt8:=if b then [49] else [48]
@[simp] theorem bitC_len (b:Bool):(bitC b).length=1:=by cases b <;> rfl
def flipTo (s:List UInt8):Nat→List UInt8
 | 0=>[]
 | k+1=>flipTo s k++bitC (decide (s.getD k 0=48))
@[simp] theorem flip_len (s:List UInt8):∀ k,(flipTo s k).length=k
 | 0=>rfl
 | k+1=>by simp [flipTo,flip_len s k]
def mkSet (p:Nat→Bool):Nat→List UInt8
 | 0=>[]
 | k+1=>mkSet p k++bitC (p k)
@[simp] theorem mkSet_len (p:Nat→Bool):∀ k,(mkSet p k).length=k
 | 0=>rfl
 | k+1=>by simp [mkSet,mkSet_len p k]
def mkRel (q:Nat→Nat→Bool) (n:Nat):Nat→List UInt8
 | 0=>[]
 | k+1=>mkRel q n k++mkSet (q k) n
@[simp] theorem mkRel_len (q:Nat→Nat→Bool) (n:Nat):∀ k,(mkRel q n k).length=k*n
 | 0=>by simp [mkRel]
 | k+1=>by simp [mkRel,mkRel_len q n k,Nat.add_mul]
end Go.Wk
namespace Go.Wk
open Go.RowKit
def joinN (op:List UInt8) (l:List (List UInt8)):List UInt8:=preJ op l (l.length - 1)++l.getD (l.length - 1) []
theorem getM_len {l:List (List UInt8)} {M:Nat} (hl:∀ s∈l,s.length≤M) (k:Nat):(l.getD k []).length≤M:=by
  rw [List.getD_eq_getElem?_getD]
  rcases Nat.lt_or_ge k l.length with h | h
  · rw [List.getElem?_eq_getElem h];exact hl _ (List.getElem_mem _)
  · rw [List.getElem?_eq_none h];simp
theorem preJ_lenM {op:List UInt8} {l:List (List UInt8)} {M:Nat} (ho:op.length≤1) (hl:∀ s∈l,s.length≤M):∀ k,(preJ op l k).length≤(M+1)*k
 | 0=>by simp [preJ]
 | k+1=>by
  have h1:=preJ_lenM ho hl k
  have h2:=getM_len hl k
  simp only [preJ,List.length_append]
  rw [Nat.mul_succ];omega
theorem specJ_end' {op:List UInt8} {l:List (List UInt8)} {k:Nat} (h:l.length≤k):specJ op l k=joinN op l:=by
 unfold specJ joinN;rw [if_neg (by omega)]
theorem specJ_lenM {op:List UInt8} {l:List (List UInt8)} {M:Nat} (ho:op.length≤1) (hl:∀ s∈l,s.length≤M) (k:Nat):(specJ op l k).length≤(M+1)*k+(M+1)*l.length+M:=by
  have h1:=preJ_lenM ho hl k
  have h2:=preJ_lenM ho hl (l.length - 1)
  have h3:=getM_len hl (l.length - 1)
  have h4:(M+1)*(l.length - 1)≤(M+1)*l.length:=Nat.mul_le_mul_left _ (by omega)
  unfold specJ
  split
  · omega
  · rw [List.length_append];omega
theorem joinN_len {op:List UInt8} {l:List (List UInt8)} {M:Nat} (ho:op.length≤1) (hl:∀ s∈l,s.length≤M) (h0:l.length ≠ 0):(joinN op l).length≤(M+1)*l.length:=by
 have h2:=preJ_lenM ho hl (l.length - 1)
 have h3:=getM_len hl (l.length - 1)
 have e:(M+1)*l.length=(M+1)*(l.length - 1)+(M+1):=by
  rw [show l.length=(l.length - 1)+1 from by omega,Nat.mul_succ];simp
 unfold joinN
 rw [List.length_append];omega
theorem mulM {M k n:Nat} (hM:M≤100000) (hk:k≤n) (hn:n≤1000):(M+1)*k≤100001000:=Nat.le_trans (Nat.mul_le_mul (show M+1≤100001 by omega) (show k≤1000 by omega)) (by decide)
theorem dedup_memL {l:List (List UInt8)} {M:Nat} (h:∀ s∈l,s.length≤M):∀ s∈dedup l,s.length≤M:=fun s hs=>by
  have key:∀ (l ks:List (List UInt8)),(∀ t,t∈l.foldl addK ks→t∈ks∨t∈l):=fun l=>by
    induction l with
    | nil=>exact fun ks t ht=>.inl ht
    | cons s l ih =>
      intro ks t ht
      rcases ih (addK ks s) t ht with h1 | h1
      · unfold addK at h1
        split at h1
        · exact .inl h1
        · rcases List.mem_append.1 h1 with h2 | h2
          · exact .inl h2
          · exact .inr (by rw [List.mem_singleton.1 h2];simp)
      · exact .inr (by simp [h1])
  rcases key l [] s hs with h1 | h1
  · cases h1
  · exact h s h1
theorem dedup_le (l:List (List UInt8)):(dedup l).length≤l.length:=by
 have:=dedup_len l []
 simpa [dedup] using this
theorem dedup_pos {l:List (List UInt8)} (h:l.length ≠ 0):(dedup l).length ≠ 0:=by
 have key:∀ (l ks:List (List UInt8)),ks.length≤(l.foldl addK ks).length:=fun l=>by
  induction l with
  | nil=>exact fun ks=>Nat.le_refl _
  | cons s l ih =>
   intro ks
   refine Nat.le_trans ?_ (ih _)
   unfold addK;split <;> simp
 cases l with
 | nil=>simp at h
 | cons s l =>
  have:=key l (addK [] s)
  unfold dedup
  rw [List.foldl_cons]
  have e:(addK [] s).length=1:=by simp [addK]
  omega
def diffO:List (List UInt8×Bool)→List (List UInt8×Bool)→List UInt8
 | f::l,g::m=>if f.2=g.2 then diffO l m else signed f
 | _,_=>[]
theorem diffO_len:∀ (l m:List (List UInt8×Bool)),(∀ f∈l,f.1.length≤3)→(diffO l m).length≤4
  | [],_,_=>by simp [diffO]
  | _::_,[],_=>by simp [diffO]
  | f::l,g::m,h=>by
    unfold diffO
    split
    · exact diffO_len l m fun x hx=>h x (by simp [hx])
    · have:=h f (by simp)
      unfold signed signS
      split
      · omega
      · simp;omega
def apart (v:List UInt8) (turned:Bool) (l:List (List UInt8)):List UInt8:=((if turned then [33,83] else [83])++v)++joinN [38] (dedup l)
def tellF:Nat→St→List Int→St→List Int→List UInt8
 | 0,a,xs,b,ys=>diffO (factsL a xs xs.length) (factsL b ys ys.length)
 | r+1,a,xs,b,ys=>if sameB a xs b ys then
   (match moveO r a xs b ys with
   | some (true,x)=>apart (nameS xs.length) false ((List.range b.n.toNat).map fun y:Nat=>tellF r a (xs++[(x:Int)]) b (ys++[(y:Int)]))
   | some (false,y)=>apart (nameS xs.length) true ((List.range a.n.toNat).map fun x:Nat=>tellF r b (ys++[(y:Int)]) a (xs++[(x:Int)]))
   | none=>[])
  else diffO (factsL a xs xs.length) (factsL b ys ys.length)
end Go.Wk
namespace Go.Wk
open Go.RowKit
theorem dedup_old {l:List (List UInt8)} {k:Nat} (hk:k<l.length) (h:l.getD k []∈dedup (l.take k)):dedup (l.take (k+1))=dedup (l.take k):=by
 rw [dedup_step hk];exact addK_old (fun e=>e h)
theorem dedup_new {l:List (List UInt8)} {k:Nat} (hk:k<l.length) (h:¬ l.getD k []∈dedup (l.take k)):dedup (l.take (k+1))=dedup (l.take k)++[l.getD k []]:=by
 rw [dedup_step hk];exact addK_new h
end Go.Wk
namespace Go.Wk
open Go.RowKit
theorem more_names (a b:St) (xs ys:List Int) (i:Nat):∀ k:Nat,(moreL a xs i k).map Prod.fst=(moreL b ys i k).map Prod.fst
 | 0=>rfl
 | k+1=>by
  unfold moreL
  rw [List.map_append,List.map_append,more_names a b xs ys i k];rfl
theorem fact_names (a b:St) (xs ys:List Int) (i:Nat):(factL a xs i).map Prod.fst=(factL b ys i).map Prod.fst:=by
 unfold factL
 rw [List.map_append,List.map_append,more_names a b xs ys];rfl
theorem facts_names (a b:St) (xs ys:List Int):∀ i:Nat,(factsL a xs i).map Prod.fst=(factsL b ys i).map Prod.fst
 | 0=>rfl
 | i+1=>by unfold factsL;rw [List.map_append,List.map_append,facts_names a b xs ys i,fact_names a b xs ys]
theorem facts_len (a b:St) (xs ys:List Int) (i:Nat):(factsL a xs i).length=(factsL b ys i).length:=by
 have:=congrArg List.length (facts_names a b xs ys i)
 simpa using this
def diffS:List (List UInt8)→List (List UInt8)→List UInt8
 | f::l,g::m=>if f=g then diffS l m else f
 | _,_=>[]
theorem diffS_same:∀ l:List (List UInt8),diffS l l=[]
 | []=>rfl
 | f::l=>by unfold diffS;rw [if_pos rfl,diffS_same l]
theorem diffS_app:∀ {l m l' m':List (List UInt8)},l.length=m.length→diffS (l++l') (m++m')=if l=m then diffS l' m' else diffS l m
  | [],[],_,_,_=>by simp
  | [],_::_,_,_,h=>by simp at h
  | _::_,[],_,_,h=>by simp at h
  | f::l,g::m,l',m',h=>by
    have ih:=diffS_app (l:=l) (m:=m) (l':=l') (m':=m') (by simpa using h)
    by_cases e:f=g
    · subst e
      by_cases e2:l=m
      · subst e2
        rw [if_pos rfl] at ih ⊢
        show (if f=f then diffS (l++l') (l++m') else f)=diffS l' m'
        rw [if_pos rfl,ih]
      · rw [if_neg e2] at ih
        rw [if_neg (fun h=>e2 (by injection h))]
        show (if f=f then diffS (l++l') (m++m') else f)=(if f=f then diffS l m else f)
        rw [if_pos rfl,if_pos rfl,ih]
    · rw [if_neg (fun h=>e (by injection h))]
      show (if f=g then diffS (l++l') (m++m') else f)=(if f=g then diffS l m else f)
      rw [if_neg e,if_neg e]
theorem diffS_at:∀ {l m:List (List UInt8)} {k:Nat},k<l.length→k<m.length→(∀ i:Nat,i<k→l.getD i []=m.getD i [])→l.getD k [] ≠ m.getD k []→diffS l m=l.getD k []
 | [],_,_,h,_,_,_=>by simp at h
 | _::_,[],_,_,h,_,_=>by simp at h
 | f::l,g::m,0,_,_,_,h=>by
  simp at h
  unfold diffS;rw [if_neg h];rfl
 | f::l,g::m,k+1,h1,h2,h3,h4=>by
  have h0:=h3 0 (by omega)
  simp at h0
  unfold diffS
  rw [if_pos h0]
  exact diffS_at (by simpa using h1) (by simpa using h2) (fun i hi=>by simpa using h3 (i+1) (by omega)) (by simpa using h4)
theorem signS_inj {b c:Bool} {s:List UInt8} (h:signS b s=signS c s):b=c:=by
 have h1:=congrArg List.length h
 cases b <;> cases c <;> simp [signS] at h1 ⊢
theorem diffO_S:∀ {l m:List (List UInt8×Bool)},l.map Prod.fst=m.map Prod.fst→diffO l m=diffS (l.map signed) (m.map signed)
  | [],[],_=>rfl
  | [],_::_,h=>by simp at h
  | _::_,[],h=>by simp at h
  | f::l,g::m,h=>by
    obtain ⟨f1,f2⟩:=f
    obtain ⟨g1,g2⟩:=g
    rw [List.map_cons,List.map_cons] at h
    injection h with h1 h2
    obtain rfl:f1=g1:=h1
    have ih:=diffO_S h2
    unfold diffO
    rw [List.map_cons,List.map_cons]
    unfold diffS
    by_cases e:f2=g2
    · rw [if_pos e,if_pos (show signed (f1,f2)=signed (f1,g2) by rw [e]),ih]
    · have hne:¬ signed (f1,f2)=signed (f1,g2):=fun h=>e (signS_inj h)
      rw [if_neg e,if_neg hne]
theorem differ_at {a b:St} {xs ys:List Int} {n i k:Nat} (hi:i<n) (hk:k<(factL a xs i).length) (hall:(factsL a xs i).map signed=(factsL b ys i).map signed) (hal:∀ j:Nat,j<k→((factL a xs i).map signed).getD j []=((factL b ys i).map signed).getD j []) (hne:((factL a xs i).map signed).getD k [] ≠ ((factL b ys i).map signed).getD k []) :
  diffO (factsL a xs n) (factsL b ys n)=((factL a xs i).map signed).getD k []:=by
 rw [diffO_S (facts_names a b xs ys n)]
 have step:diffS ((factsL a xs (i+1)).map signed) ((factsL b ys (i+1)).map signed)=((factL a xs i).map signed).getD k []∧¬ (factsL a xs (i+1)).map signed=(factsL b ys (i+1)).map signed:=by
  have hlen:((factsL a xs i).map signed).length=((factsL b ys i).map signed).length:=by rw [hall]
  have hlf:(factL a xs i).length=(factL b ys i).length:=by simp
  rw [facts_step,facts_step,diffS_app hlen,if_pos hall]
  refine ⟨diffS_at (by simpa using hk) (by rw [List.length_map,← hlf];exact hk) hal hne,fun e=>?_⟩
  rw [hall] at e
  have:=List.append_cancel_left e
  exact hne (by rw [this])
 have go:∀ m:Nat,diffS ((factsL a xs (i+1+m)).map signed) ((factsL b ys (i+1+m)).map signed)=((factL a xs i).map signed).getD k []∧¬ (factsL a xs (i+1+m)).map signed=(factsL b ys (i+1+m)).map signed:=fun m=>by
  induction m with
  | zero=>exact step
  | succ m ih =>
   have hlen:((factsL a xs (i+1+m)).map signed).length=((factsL b ys (i+1+m)).map signed).length:=by
    rw [List.length_map,List.length_map];exact facts_len a b xs ys _
   rw [← Nat.add_assoc,facts_step,facts_step,diffS_app hlen,if_neg ih.2]
   refine ⟨ih.1,fun e=>ih.2 (List.append_inj_left e hlen)⟩
 have:=(go (n - (i+1))).1
 rwa [show i+1+(n - (i+1))=n from by omega] at this
theorem differ_none {a b:St} {xs ys:List Int} {n:Nat} (hall:(factsL a xs n).map signed=(factsL b ys n).map signed):diffO (factsL a xs n) (factsL b ys n)=[]:=by
 rw [diffO_S (facts_names a b xs ys n),hall,diffS_same]
theorem list_extS {l m:List (List UInt8)} (hl:l.length=m.length) (h:∀ i:Nat,i<l.length→l.getD i []=m.getD i []):l=m:=by
 refine List.ext_getElem hl fun i h1 h2=>?_
 have:=h i h1
 rwa [getD_at h1,getD_at h2] at this
theorem rep_not {n:Nat} {a b:St} {xs ys:List Int} {x:Int} (hl:xs.length=ys.length) (h:(rep (goB n) a xs b ys x).isSome=false) {y:Nat} (hy:y<b.n.toNat):winB n a (xs++[x]) b (ys++[(y:Int)])=false:=by
 cases e:winB n a (xs++[x]) b (ys++[(y:Int)]) with
 | false=>rfl
 | true=>rw [(rep_some (g:=goB n) (x:=x) hl).2 ⟨y,hy,e⟩] at h;cases h
theorem move_at1 {n x:Nat} {a b:St} {xs ys:List Int} (hl:xs.length=ys.length) (h:moveO n a xs b ys=some (true,x)):x<a.n.toNat∧∀ y:Nat,y<b.n.toNat→winB n a (xs++[(x:Int)]) b (ys++[(y:Int)])=false:=by
  unfold moveO at h
  split at h
  · rename_i z hz
    injection h with h
    injection h with _ h
    subst h
    exact ⟨List.mem_range.1 (List.mem_of_find?_eq_some hz),fun y hy=>rep_not hl (by have:=List.find?_some hz;simpa using this) hy⟩
  · split at h
    · injection h with h;injection h with h;cases h
    · cases h
theorem move_at2 {n y:Nat} {a b:St} {xs ys:List Int} (hl:xs.length=ys.length) (h:moveO n a xs b ys=some (false,y)):y<b.n.toNat∧∀ x:Nat,x<a.n.toNat→winB n b (ys++[(y:Int)]) a (xs++[(x:Int)])=false:=by
  unfold moveO at h
  split at h
  · injection h with h;injection h with h;cases h
  · split at h
    · rename_i z hz
      injection h with h
      injection h with _ h
      subst h
      exact ⟨List.mem_range.1 (List.mem_of_find?_eq_some hz),fun x hx=>rep_not hl.symm (by have:=List.find?_some hz;simpa using this) hx⟩
    · cases h
theorem isSome_of {o:Option Nat} (h:¬ (!o.isSome)=true):o.isSome=true:=by
 cases e:o.isSome with
 | true=>rfl
 | false=>rw [e] at h;exact absurd rfl h
theorem move_ex {n:Nat} {a b:St} {xs ys:List Int} (hs:sameB a xs b ys=true) (hw:winB (n+1) a xs b ys=false):∃ (sd:Bool) (x:Nat),moveO n a xs b ys=some (sd,x):=by
  cases e:moveO n a xs b ys with
  | some p=>exact ⟨p.1,p.2,rfl⟩
  | none =>
    exfalso
    unfold moveO at e
    split at e
    · cases e
    · rename_i h1
      split at e
      · cases e
      · rename_i h2
        rw [List.find?_eq_none] at h1 h2
        unfold winB at hw
        rw [hs,go_yes (fun i hi=>isSome_of (h1 i (List.mem_range.2 hi))) (fun i hi=>isSome_of (h2 i (List.mem_range.2 hi)))] at hw
        cases hw
def tlL (F:Nat→List UInt8) (k:Nat):List (List UInt8):=(List.range k).map F
@[simp] theorem tlL_len (F:Nat→List UInt8) (k:Nat):(tlL F k).length=k:=by simp [tlL]
theorem tlL_step (F:Nat→List UInt8) (k:Nat):tlL F (k+1)=tlL F k++[F k]:=by simp [tlL,List.range_succ]
def LT:Nat→Nat
 | 0=>4
 | n+1=>8*LT n+11
theorem LT_mono (n:Nat):4≤LT n:=by
 cases n with
 | zero=>exact Nat.le_refl _
 | succ n=>unfold LT;omega
theorem LT3 {n:Nat} (h:n≤3):LT n≤2851:=by
 rcases (by omega:n=0∨n=1∨n=2∨n=3) with e | e | e | e <;> subst e <;> decide
theorem more_small (a:St) (xs:List Int) (i:Nat):∀ k:Nat,∀ f∈moreL a xs i k,f.1.length≤3
  | 0,f,hf=>by cases hf
  | k+1,f,hf=>by
    have h1:=name_le i
    have h2:=name_le k
    unfold moreL at hf
    rcases List.mem_append.1 hf with h | h
    · exact more_small a xs i k f h
    · simp only [List.mem_cons,List.not_mem_nil,or_false] at h
      rcases h with rfl | rfl | rfl <;> simp only [List.length_append,List.length_cons,List.length_nil] <;> omega
theorem facts_small (a:St) (xs:List Int):∀ i:Nat,∀ f∈factsL a xs i,f.1.length≤3
  | 0,f,hf=>by cases hf
  | i+1,f,hf=>by
    have h1:=name_le i
    unfold factsL at hf
    rcases List.mem_append.1 hf with h | h
    · exact facts_small a xs i f h
    · unfold factL headL at h
      rcases List.mem_append.1 h with h | h
      · simp only [List.mem_cons,List.not_mem_nil,or_false] at h
        rcases h with rfl | rfl <;> simp only [List.length_append,List.length_cons,List.length_nil] <;> omega
      · exact more_small a xs i i f h
theorem apart_len {v:List UInt8} {turned:Bool} {F:Nat→List UInt8} {m M:Nat} (hv:v.length≤1) (h1:1≤m) (h8:m≤8) (hF:∀ i:Nat,i<m→(F i).length≤M):(apart v turned (tlL F m)).length≤8*M+11:=by
 have hl:∀ s∈tlL F m,s.length≤M:=fun s hs=>by
  obtain ⟨i,hi,rfl⟩:=List.mem_map.1 hs
  exact hF i (List.mem_range.1 hi)
 have hd:=dedup_le (tlL F m)
 rw [tlL_len] at hd
 have hj:=joinN_len (op:=[38]) (by decide) (dedup_memL hl) (dedup_pos (l:=tlL F m) (by rw [tlL_len];omega))
 have hm:(M+1)*(dedup (tlL F m)).length≤(M+1)*8:=Nat.mul_le_mul_left _ (by omega)
 unfold apart
 cases turned <;> simp only [List.length_append,List.length_cons,List.length_nil,if_true,Bool.false_eq_true,if_false] <;> omega
theorem tell_some1 {r x:Nat} {a b:St} {xs ys:List Int} (hs:sameB a xs b ys=true) (h:moveO r a xs b ys=some (true,x)):tellF (r+1) a xs b ys=apart (nameS xs.length) false (tlL (fun y:Nat=>tellF r a (xs++[(x:Int)]) b (ys++[(y:Int)])) b.n.toNat):=by
 rw [tellF,if_pos hs,h];rfl
theorem tell_some2 {r y:Nat} {a b:St} {xs ys:List Int} (hs:sameB a xs b ys=true) (h:moveO r a xs b ys=some (false,y)):tellF (r+1) a xs b ys=apart (nameS xs.length) true (tlL (fun x:Nat=>tellF r b (ys++[(y:Int)]) a (xs++[(x:Int)])) a.n.toNat):=by
 rw [tellF,if_pos hs,h];rfl
theorem tell_diff {r:Nat} {a b:St} {xs ys:List Int} (hs:sameB a xs b ys=false):tellF r a xs b ys=diffO (factsL a xs xs.length) (factsL b ys ys.length):=by
 cases r with
 | zero=>rfl
 | succ r=>rw [tellF,if_neg (by rw [hs];decide)]
theorem tell_len:∀ (n:Nat) {a b:St} {xs ys:List Int},a.n.toNat≤8→b.n.toNat≤8→1≤a.n.toNat→1≤b.n.toNat→(tellF n a xs b ys).length≤LT n
 | 0,a,b,xs,ys,_,_,_,_=>diffO_len _ _ (facts_small a xs _)
 | n+1,a,b,xs,ys,ha,hb,ha1,hb1=>by
  have hLT:=LT_mono (n+1)
  cases hs:sameB a xs b ys with
  | false=>rw [tell_diff hs];exact Nat.le_trans (diffO_len _ _ (facts_small a xs _)) hLT
  | true =>
   cases hm:moveO n a xs b ys with
   | none=>rw [tellF,if_pos hs,hm];exact Nat.zero_le _
   | some p =>
    obtain ⟨sd,x⟩:=p
    cases sd with
    | true=>rw [tell_some1 hs hm];exact apart_len (name_le _) hb1 hb fun i _=>tell_len n ha hb ha1 hb1
    | false=>rw [tell_some2 hs hm];exact apart_len (name_le _) ha1 ha fun i _=>tell_len n hb ha hb1 ha1
def telOut (a:St) (xs:List Int) (b:St) (ys:List Int) (r:Int):List UInt8×Bool:=if gameB a xs b ys r&&decide ((xs.length:Int)+r≤4)&&!winB r.toNat a xs b ys then (tellF r.toNat a xs b ys,true) else ([],false)
theorem telOut_yes {a b:St} {xs ys:List Int} {r:Int} (hg:gameB a xs b ys r=true) (h4:(xs.length:Int)+r≤4) (hw:winB r.toNat a xs b ys=false):telOut a xs b ys r=(tellF r.toNat a xs b ys,true):=by
 unfold telOut;rw [if_pos (by rw [hg,hw,decide_eq_true h4];rfl)]
theorem telOut_no {a b:St} {xs ys:List Int} {r:Int} (h:gameB a xs b ys r=false∨4<(xs.length:Int)+r∨winB r.toNat a xs b ys=true):telOut a xs b ys r=([],false):=by
  unfold telOut
  rw [if_neg]
  intro e
  simp only [Bool.and_eq_true,decide_eq_true_eq,Bool.not_eq_true'] at e
  rcases h with h | h | h
  · rw [h] at e;exact absurd e.1.1 (by decide)
  · omega
  · rw [h] at e;exact absurd e.2 (by decide)
theorem tell_short {a b:St} {xs ys:List Int} {n:Nat} (h3:n≤3) (ha:a.Fine) (hb:b.Fine):(tellF n a xs b ys).length≤4000:=by
 have h1:=ha.lo
 have h2:=ha.hi
 have h4:=hb.lo
 have h5:=hb.hi
 exact Nat.le_trans (tell_len n (by omega) (by omega) (by omega) (by omega)) (Nat.le_trans (LT3 h3) (by decide))
end Go.Wk
namespace Go.Wk
open Go.RowKit
theorem winAt_less {n:Nat} {a b:St} {k s:Nat} (h:winAt (n+1) a b k s=true):winAt n a b k s=true:=winAt_true.2 (winAt_true.1 h).1
theorem wl_less {n:Nat} {a b:St} {k:Nat} (s:Nat) (h:(WL (n+1) a b k).getD s false=true):(WL n a b k).getD s false=true:=by
  rcases Nat.lt_or_ge s (prN a b ^ k) with h1 | h1
  · rw [WL_at h1] at h ⊢;exact winAt_less h
  · rw [List.getD_eq_getElem?_getD,List.getElem?_eq_none (by rw [WL_len];exact h1)] at h;cases h
def nT:List Bool→Nat
 | []=>0
 | x::X=>(if x then 1 else 0)+nT X
theorem nT_le:∀ {X Y:List Bool},X.length=Y.length→(∀ s:Nat,X.getD s false=true→Y.getD s false=true)→nT X≤nT Y∧(X ≠ Y→nT X<nT Y)
  | [],[],_,_=>⟨Nat.le_refl _,fun h=>absurd rfl h⟩
  | [],_::_,h,_=>by cases h
  | _::_,[],h,_=>by cases h
  | x::X,y::Y,hl,h=>by
    obtain ⟨h1,h2⟩:=nT_le (X:=X) (Y:=Y) (by simpa using hl) (fun s hs=>h (s+1) hs)
    have h0:x=true→y=true:=h 0
    unfold nT
    cases x <;> cases y
    · exact ⟨by simpa using h1,fun hne=>by simpa using h2 (fun e=>hne (by rw [e]))⟩
    · refine ⟨?_,fun _=>?_⟩ <;> simp <;> omega
    · cases h0 rfl
    · exact ⟨by simpa using h1,fun hne=>by simpa using h2 (fun e=>hne (by rw [e]))⟩
theorem wl_down {n:Nat} {a b:St} {k:Nat} (h:¬ WL (n+1) a b k=WL n a b k):nT (WL (n+1) a b k)<nT (WL n a b k) :=
 (nT_le (by rw [WL_len,WL_len]) (fun s=>wl_less s)).2 h
theorem wl_next {n m:Nat} {a b:St} {k:Nat} (h:WL n a b k=WL m a b k):WL (n+1) a b k=WL (m+1) a b k:=by
 refine bools_same (by rw [WL_len,WL_len]) fun s hs=>?_
 rw [WL_len] at hs
 rw [WL_at hs,WL_at hs,Bool.eq_iff_iff,win_step,win_step]
 refine and_congr_right fun _=>forall_congr' fun i=>imp_congr_right fun hi=>?_
 rw [← ans_wl hi hs,← ans_wl hi hs,h]
theorem wl_all {n:Nat} {a b:St} {k:Nat} (h:WL (n+1) a b k=WL n a b k):∀ m:Nat,WL (n+m) a b k=WL n a b k
 | 0=>rfl
 | m+1=>(wl_next (wl_all h m)).trans h
theorem wl_ever {n:Nat} {a b:St} {k s:Nat} (h:WL (n+1) a b k=WL n a b k) (hs:s<prN a b ^ k):(WL (n+1) a b k).getD s false=true↔∀ m:Nat,winAt m a b k s=true:=by
  constructor
  · intro e m
    rw [h] at e
    have h1:(WL (n+m) a b k).getD s false=true:=by rw [wl_all h m];exact e
    rw [WL_at hs,winAt_true,Nat.add_comm n m] at h1
    exact winAt_true.2 (pW_less n h1)
  · intro e;rw [WL_at hs];exact e (n+1)
theorem ready_state {a b:St} {xs ys:List Int} (hr:readyB a xs b ys=true):stN a b xs ys<prN a b ^ xs.length∧stX a b xs.length (stN a b xs ys)=xs∧stY a b xs.length (stN a b xs ys)=ys:=by
 obtain ⟨_,_,_,_,_,hx,hy⟩:=ready_peb hr
 obtain ⟨_,_,_,hsg⟩:=readyB_true hr
 exact stN_ok hx hy (signsB_true hsg)
open Classical in
theorem ever_code {n:Nat} {a b:St} {xs ys:List Int} (hr:readyB a xs b ys=true) (h:WL (n+1) a b xs.length=WL n a b xs.length):(WL (n+1) a b xs.length).getD (stN a b xs ys) false=pebEverB a xs b ys:=by
 obtain ⟨hs,ex,ey⟩:=ready_state hr
 rw [Bool.eq_iff_iff,wl_ever h hs]
 unfold pebEverB pWinB
 rw [hr,if_neg (by omega),Bool.true_and,decide_eq_true_eq]
 unfold pF
 exact forall_congr' fun m=>by rw [winAt_true,ex,ey]
open Classical in
theorem win_code {t:Int} {a b:St} {xs ys:List Int} (hr:readyB a xs b ys=true) (h0:0≤t) (h4:t≤4):(WL t.toNat a b xs.length).getD (stN a b xs ys) false=pebWinB a xs b ys t:=by
 obtain ⟨hs,ex,ey⟩:=ready_state hr
 unfold pebWinB pWinB
 rw [hr,show inB t 0 4=true from by unfold inB;simp;omega,if_pos (by omega),Bool.true_and,Bool.true_and,WL_at hs,Bool.eq_iff_iff,winAt_true,decide_eq_true_eq,ex,ey]
def bes (k:Nat):List Int:=List.replicate k (-1)
@[simp] theorem bes_len (k:Nat):(bes k).length=k:=List.length_replicate
def Turns (a b:St) (k:Nat) (t:Int):Prop:=(∃ n:Nat,t=(n:Int)∧¬ pW n a (bes k) b (bes k)∧∀ m:Nat,m<n→pW m a (bes k) b (bes k))∨(t = -1∧pF a (bes k) b (bes k))
end Go.Wk
namespace Go.Wk
open Go.RowKit
theorem pebWin_at {a b:St} {xs ys:List Int} {t:Int} (h:readyB a xs b ys=true) (h0:0≤t) (h4:t≤4):pebWinB a xs b ys t=true↔pW t.toNat a xs b ys:=by
 unfold pebWinB pWinB
 rw [h,show inB t 0 4=true from by unfold inB;simp;omega,if_pos (by omega)]
 simp
theorem pebEver_at {a b:St} {xs ys:List Int} (h:readyB a xs b ys=true):pebEverB a xs b ys=true↔pF a xs b ys:=by
 unfold pebEverB pWinB
 rw [h,if_neg (by omega)]
 simp
theorem ever_ready {a b:St} {xs ys:List Int} (h:pebEverB a xs b ys=true):readyB a xs b ys=true:=by
 unfold pebEverB at h;simp only [Bool.and_eq_true] at h;exact h.1
theorem bes_snoc (k:Nat):bes (k+1)=bes k++[-1]:=by unfold bes;rw [List.replicate_succ']
end Go.Wk
namespace Go.Wk
open Go.RowKit
def InBoth (as_ bs:List Int) (x y:Int):Prop:=∃ j:Nat,j<as_.length∧x=as_.getD j 0∧y=bs.getD j 0
theorem getD_snoc {l:List Int} {x:Int} {i:Nat}:(l++[x]).getD i 0=if i<l.length then l.getD i 0 else if i=l.length then x else 0:=by
  rw [List.getD_eq_getElem?_getD]
  by_cases h:i<l.length
  · rw [if_pos h,List.getElem?_append_left h,← List.getD_eq_getElem?_getD]
  · rw [if_neg h,List.getElem?_append_right (by omega)]
    by_cases e:i=l.length
    · rw [if_pos e,e,Nat.sub_self];rfl
    · rw [if_neg e,List.getElem?_eq_none (by simp;omega)];rfl
theorem InBoth.more {as_ bs:List Int} {x y u v:Int} (hl:as_.length=bs.length) (h:InBoth as_ bs x y):InBoth (as_++[u]) (bs++[v]) x y:=by
 obtain ⟨j,hj,e1,e2⟩:=h
 exact ⟨j,by rw [List.length_append];omega,by rw [getD_snoc,if_pos hj];exact e1,by rw [getD_snoc,if_pos (by omega)];exact e2⟩
theorem InBoth.last {as_ bs:List Int} {u v:Int} (hl:as_.length=bs.length):InBoth (as_++[u]) (bs++[v]) u v :=
 ⟨as_.length,by rw [List.length_append];simp,by rw [getD_snoc,if_neg (by omega),if_pos rfl],by rw [getD_snoc,if_neg (by omega),if_pos hl]⟩
end Go.Wk
namespace Go.Wk
open Go.RowKit
def OnVars (xs ys:List Int) (fr:Nat) (e e':List Int):Prop:=∀ i:Nat,i<4→fr.testBit i=true→InBoth xs ys (e.getD i 0) (e'.getD i 0)
theorem in_pair {a b:St} {xs ys:List Int} (hl:xs.length=ys.length) (hs:sameB a xs b ys=true) {x y u v:Int} (h:InBoth xs ys x y) (k:InBoth xs ys u v) :
  a.inSet x=b.inSet y∧decide (x=u)=decide (y=v)∧a.inRel x u=b.inRel y v:=by
 obtain ⟨i,hi,rfl,rfl⟩:=h
 obtain ⟨j,hj,rfl,rfl⟩:=k
 have h1:=(same_at hl hs hi).1
 obtain ⟨h2,h3,h4⟩:=pairOk_true.1 (same_pairs hl hs hj hi)
 exact ⟨h1,h2,h3⟩
theorem cnt_all {f:Nat→Bool}:∀ {n:Nat},n≤cntT f n↔∀ x:Nat,x<n→f x=true
  | 0=>⟨fun _ x hx=>by omega,fun _=>Nat.le_refl _⟩
  | n+1=>by
    have h1:=cntT_le f n
    rw [cnt_step]
    constructor
    · intro h x hx
      have hf:f n=true:=by
        cases e:f n with
        | true=>rfl
        | false=>rw [e] at h;exfalso;simp at h;omega
      rw [if_pos hf] at h
      rcases Nat.lt_or_ge x n with h2 | h2
      · exact cnt_all.1 (by omega) x h2
      · rw [show x=n from by omega];exact hf
    · intro h
      rw [if_pos (h n (by omega))]
      have:=cnt_all (f:=f) (n:=n) |>.2 (fun x hx=>h x (show x<n+1 by omega))
      omega
theorem cnt_ex {f:Nat→Bool}:∀ {n:Nat},1≤cntT f n↔∃ x:Nat,x<n∧f x=true
  | 0=>⟨fun h=>by exact absurd h (by unfold cntT;omega),fun ⟨x,hx,_⟩=>by omega⟩
  | n+1=>by
    rw [cnt_step]
    constructor
    · intro h
      by_cases hf:f n=true
      · exact ⟨n,by omega,hf⟩
      · rw [if_neg hf] at h
        obtain ⟨x,hx,h2⟩:=cnt_ex.1 (show 1≤cntT f n by omega)
        exact ⟨x,by omega,h2⟩
    · rintro ⟨x,hx,h2⟩
      rcases Nat.lt_or_ge x n with h3 | h3
      · have:=cnt_ex.2 ⟨x,h3,h2⟩
        omega
      · obtain rfl:x=n:=by omega
        rw [if_pos h2];omega
theorem InBoth.left {as_ bs X Y:List Int} (hl:as_.length=bs.length) {x y:Int} (h:InBoth as_ bs x y):InBoth (as_++X) (bs++Y) x y:=by
  obtain ⟨j,hj,e1,e2⟩:=h
  refine ⟨j,by rw [List.length_append];omega,?_,?_⟩
  · rw [e1,List.getD_eq_getElem?_getD,List.getD_eq_getElem?_getD,List.getElem?_append_left hj]
  · rw [e2,List.getD_eq_getElem?_getD,List.getD_eq_getElem?_getD,List.getElem?_append_left (by omega)]
theorem OnVars.more {xs ys X Y:List Int} {fr:Nat} {e e':List Int} (hl:xs.length=ys.length) (h:OnVars xs ys fr e e'):OnVars (xs++X) (ys++Y) fr e e':=fun i hi ht=>(h i hi ht).left hl
theorem ev_quant_eq {a:St} {c v:UInt8} {p:Fm} {e:List Int} (hc:¬ c=33):ev a (.one c [v] p) e=decide (need c a.n.toNat≤cntT (evC a v p e) a.n.toNat):=by
 unfold ev;rw [if_neg hc];rfl
end Go.Wk
namespace Go.Wk
open Go.RowKit
theorem takeV_more {t:List UInt8}:∀ {k:Nat} {s vs r:List UInt8},takeV k s=some (vs,r)→takeV k (s++t)=some (vs,r++t)
  | 0,s,vs,r,h=>by injection h with h;injection h with h1 h2;subst h1;subst h2;rfl
  | k+1,[],vs,r,h=>by cases h
  | k+1,v::s,vs,r,h=>by
    unfold takeV at h
    split at h
    · rename_i hv
      split at h
      · rename_i us r' e
        injection h with h;injection h with h1 h2;subst h1;subst h2
        show (if isV v then (match takeV k (s++t) with | some (vs,r)=>some (v::vs,r) | none=>none) else none)=_
        rw [if_pos hv,takeV_more e]
      · cases h
    · cases h
theorem parse_more {t:List UInt8}:∀ (n:Nat) {s r:List UInt8} {p:Fm},s.length≤n→parse s=some (p,r)→parse (s++t)=some (p,r++t)
  | 0,[],_,_,_,h=>by cases h
  | 0,_::_,_,_,hn,_=>by simp at hn
  | _+1,[],_,_,_,h=>by cases h
  | n+1,c::s,r,p,hn,h=>by
    rw [List.cons_append]
    rw [parse_cons] at h ⊢
    simp only [List.length_cons] at hn
    split at h
    · rename_i hop
      rw [if_pos hop]
      split at h
      · cases h
      · rename_i vs r0 e
        obtain ⟨_,h2,_⟩:=takeV_len e
        rw [takeV_more e]
        dsimp only
        by_cases h0:arP c=0
        · rw [if_pos h0] at h ⊢
          injection h with h;injection h with h4 h;subst h;subst h4;rfl
        · rw [if_neg h0] at h ⊢
          by_cases h1:arP c=1
          · rw [if_pos h1] at h ⊢
            split at h
            · rename_i q r' e2
              injection h with h;injection h with h4 h;subst h;subst h4
              rw [parse_more n (by omega) e2]
            · cases h
          · rw [if_neg h1] at h ⊢
            split at h
            · rename_i q r' e2
              split at h
              · rename_i q2 r2 e3
                injection h with h;injection h with h4 h;subst h;subst h4
                have:=parse_len e2
                rw [parse_more n (by omega) e2]
                dsimp only
                rw [parse_more n (by omega) e3]
              · cases h
            · cases h
    · cases h
def Is (s:List UInt8) (p:Fm):Prop:=parse s=some (p,[])
theorem Is.more {s:List UInt8} {p:Fm} (h:Is s p) (t:List UInt8):parse (s++t)=some (p,t):=by
 have:=parse_more (t:=t) _ (Nat.le_refl _) h
 rwa [List.nil_append] at this
theorem Is.wf {s:List UInt8} {p:Fm} (h:Is s p):wfF p:=parse_wf _ (Nat.le_refl _) h
theorem Is.same {s:List UInt8} {p q:Fm} (h:Is s p) (k:Is s q):p=q:=by
 have:=h.symm.trans k
 injection this with this;injection this
theorem is_not {s:List UInt8} {p:Fm} (h:Is s p):Is (33::s) (.one 33 [] p):=by
 unfold Is;rw [parse_cons,show isOp 33=true from rfl,if_pos rfl,show takeV (arV 33) s=some ([],s) from rfl]
 dsimp only
 rw [if_neg (by decide),if_pos (by rfl),h]
def plainB:Fm→Bool
 | .leaf _ _=>true
 | .one c _ p=>!(decide (c=50)||decide (c=51)||decide (c=52))&&plainB p
 | .two _ p q=>plainB p&&plainB q
structure Tx (s:List UInt8) (lo hi k w:Nat) (φ:St→List Int→Prop):Prop where
 ex:∃ p,Is s p∧lo≤rankF p∧rankF p≤hi∧(∀ i:Nat,i<4→(frB p).testBit i=true→i<k)∧(∀ i:Nat,i<4→(allB p).testBit i=true→i<w)∧plainB p=true∧∀ a e,e.length=4→(ev a p e=true↔φ a e)
theorem tx_not {s:List UInt8} {lo hi k w:Nat} {φ:St→List Int→Prop} (h:Tx s lo hi k w φ):Tx (33::s) lo hi k w fun a e=>¬ φ a e:=by
  obtain ⟨p,g0,g1,g2,g3,g4,g5,g6⟩:=h.ex
  refine ⟨_,is_not g0,g1,g2,g3,fun i hi ht=>g4 i hi ?_,by show (!_&&plainB p)=true;rw [g5];rfl,fun a e he=>?_⟩
  · have:(0 ||| allB p).testBit i=true:=ht
    rwa [Nat.zero_or] at this
  · rw [← g6 a e he]
    show (!ev a p e)=true↔_
    cases ev a p e <;> simp
end Go.Wk
namespace Go.Wk
open Go.RowKit
inductive At where
 | P (i:Nat)
 | E (i j:Nat)
 | Q (i j:Nat)
def At.val (a:St) (xs:List Int):At→Bool
 | .P i=>a.inSet (xs.getD i 0)
 | .E i j=>a.inRel (xs.getD i 0) (xs.getD j 0)
 | .Q i j=>decide (xs.getD i 0=xs.getD j 0)
def At.lt (n:Nat):At→Prop
 | .P i=>i<n
 | .E i j=>i<n∧j<n
 | .Q i j=>i<n∧j<n
theorem At.same {a:St} {e xs:List Int} {n:Nat} (h:∀ j:Nat,j<n→e.getD j 0=xs.getD j 0):∀ {t:At},t.lt n→t.val a e=t.val a xs
 | .P i,k=>by have hk:i<n:=k;show a.inSet _=a.inSet _;rw [h i hk]
 | .E i j,k=>by show a.inRel _ _=a.inRel _ _;rw [h i k.1,h j k.2]
 | .Q i j,k=>by show decide (_=_)=decide (_=_);rw [h i k.1,h j k.2]
def TrueIn (s:List UInt8) (a:St) (e:List Int):Prop:=∃ p,Is s p∧ev a p e=true
theorem Tx.self {s:List UInt8} {lo hi k w:Nat} {φ:St→List Int→Prop} (h:Tx s lo hi k w φ):Tx s lo hi k w (TrueIn s):=by
 obtain ⟨p,g0,g1,g2,g3,g4,g5,g6⟩:=h.ex
 exact ⟨p,g0,g1,g2,g3,g4,g5,fun a e _=>⟨fun h=>⟨p,g0,h⟩,fun ⟨q,h1,h2⟩=>by rw [g0.same h1];exact h2⟩⟩
theorem Tx.at {s:List UInt8} {lo hi k w:Nat} {φ:St→List Int→Prop} (h:Tx s lo hi k w φ) {a:St} {e:List Int} (he:e.length=4):TrueIn s a e↔φ a e:=by
 obtain ⟨p,g0,g1,g2,g3,g4,g5,g6⟩:=h.ex
 exact ⟨fun ⟨q,h1,h2⟩=>(g6 a e he).1 (by rw [g0.same h1];exact h2),fun h=>⟨p,g0,(g6 a e he).2 h⟩⟩
def Tells2 (s:List UInt8) (r n:Nat) (a:St) (xs:List Int) (b:St) (ys:List Int):Prop :=
 Tx s 0 r n (n+r) (TrueIn s)∧(∀ e:List Int,e.length=4→e.take n=xs→TrueIn s a e)∧∀ e:List Int,e.length=4→e.take n=ys→¬ TrueIn s b e
theorem Tells2.not {s:List UInt8} {r n:Nat} {a b:St} {xs ys:List Int} (h:Tells2 s r n a xs b ys):Tells2 (33::s) r n b ys a xs:=by
 have hq:=tx_not h.1
 exact ⟨hq.self,fun e he hy=>(hq.at he).2 (h.2.2 e he hy),fun e he hx h1=>(hq.at he).1 h1 (h.2.1 e he hx)⟩
end Go.Wk
namespace Go.Wk
open Go.RowKit
def countsV (f:List UInt8):Bool:=match formO f with | some p=>!plainB p | none=>false
def anyF (l:List Fm) (i:Nat):Bool:=!plainB (l.getD i (.leaf 0 []))
def anyN (q:Nat→Bool) (n:Nat):Bool:=(List.range n).any q
def firstN (q:Nat→Bool) (n:Nat):Int:=match (List.range n).find? q with | some i=>(i:Int) | none => -1
theorem firstN_any (q:Nat→Bool) (n:Nat):decide (0≤firstN q n)=anyN q n:=by
 unfold firstN anyN
 cases h:(List.range n).find? q with
 | none =>
  have h1:(List.range n).any q=false:=by
   cases e:(List.range n).any q with
   | false=>rfl
   | true =>
    obtain ⟨x,hx,hq⟩:=List.any_eq_true.1 e
    have:=List.find?_eq_none.1 h x hx
    exact absurd hq this
  rw [h1];rfl
 | some i =>
  rw [List.any_eq_true.2 ⟨i,List.mem_of_find?_eq_some h,List.find?_some h⟩]
  exact decide_eq_true (by dsimp only;omega)
theorem firstN_at {q:Nat→Bool} {n k:Nat} (hk:k<n) (hall:∀ i:Nat,i<k→q i=false) (hq:q k=true):firstN q n=(k:Int):=by
 unfold firstN
 have:(List.range n).find? q=some k:=by
  rw [List.find?_range_eq_some]
  exact ⟨hq,List.mem_range.2 hk,fun j hj=>by rw [hall j hj];rfl⟩
 rw [this]
theorem firstN_no {q:Nat→Bool} {n:Nat} (hall:∀ i:Nat,i<n→q i=false):firstN q n = -1:=by
 unfold firstN
 have:(List.range n).find? q=none:=List.find?_eq_none.2 fun x hx=>by rw [hall x (List.mem_range.1 hx)];decide
 rw [this]
theorem ptrs_cell {w:World} {v:Value} {l:List Nat} (h:Row w v (l.map ptrV)) {i:Int} (h0:0≤i) (h1:i<l.length):w.cell? (sAt v i)=some (ptrV (l.getD i.toNat 0)):=by
 rw [h.cell h0 (by rw [List.length_map];exact h1)]
 congr 1
 have:i.toNat<l.length:=by omega
 rw [getD_at (by rw [List.length_map];exact this),getD_at this,List.getElem_map]
theorem tree_later {T:TypeId} {w w':World} (hb:Below w.heap.size w w') {fm:Fm} {p:Nat} (h:Tree T w fm p):Tree T w' fm p:=Tree.own ((Own.start w).calls hb) h
theorem cnF_iff {c:UInt8}:cntI c↔(decide (c=50)||decide (c=51)||decide (c=52))=true:=by
 have h (n:UInt8):c=n↔(c.toNat:Int)=(n.toNat:Int):=by
  rw [← UInt8.toNat_inj];omega
 unfold cntI
 simp only [Bool.or_eq_true,decide_eq_true_eq]
 rw [h 50,h 51,h 52]
 exact or_assoc.symm
theorem cnF_yes {c:UInt8} {vs:List UInt8} {q:Fm} (h:cntI c):true=!plainB (.one c vs q):=by
 show true=!(!(decide (c=50)||decide (c=51)||decide (c=52))&&plainB q)
 rw [cnF_iff.1 h];rfl
theorem cnF_one {c:UInt8} {vs:List UInt8} {q:Fm} (h:¬ cntI c):anyN (anyF [q]) 1=!plainB (.one c vs q):=by
 show (!plainB q||false)=!(!(decide (c=50)||decide (c=51)||decide (c=52))&&plainB q)
 cases e:(decide (c=50)||decide (c=51)||decide (c=52)) with
 | true=>exact absurd (cnF_iff.2 e) h
 | false=>simp
theorem cnF_two {c:UInt8} {q r:Fm}:anyN (anyF [q,r]) 2=!plainB (.two c q r):=by
 show (!plainB q||(!plainB r||false))=!(plainB q&&plainB r)
 cases plainB q <;> cases plainB r <;> rfl
theorem cnF_leaf {c:UInt8} {vs:List UInt8}:anyN (anyF []) 0=!plainB (.leaf c vs):=rfl
section
variable {P:Program} {n:Nat} {C:World→Prop} {e:Env} {o:Oper}
theorem OpQ.neNilP {t t' q:TypeId} {x y:Operand} {p:Option Addr} (h:o.op=.binOp .neq t x y t') (hu:P.underlying t=some (.pointer q)) (hx:opd e x=some (.pointer p)) (hy:opd e y=some (.pointer none)):OpQ P n C e o (.bool p.isSome):=OpQ.val fun A hf w=>by
 have hu':P.underlying t=some (.pointer (P.pointee t)):=by simp [Program.pointee,hu]
 unfold execOp;rw [h];simp only [hf.opd hx,hf.opd hy]
 rw [show eqGuard .neq t x y (Value.pointer p) (Value.pointer none)=pure () from rfl]
 simp only [Sem.run_bind,run_neq_pointer_nil w t p hu',Sem.run_pure,Result.andThen]
 cases p <;> rfl
end
end Go.Wk
namespace Go.Wk
open Go.RowKit
noncomputable def sepB (f:List UInt8) (a:St) (xs:List Int) (b:St) (ys:List Int):Bool:=decide ((xs.length:Int)=ys.length)&&holdK a f xs&&holdK b f ys&&holdV a f xs&&!holdV b f ys
end Go.Wk
namespace Go.Wk
open Go.RowKit
theorem tel_at {a b:St} {xs ys:List Int} {r:Int} (h:(telOut a xs b ys r).2=true):gameB a xs b ys r=true∧(xs.length:Int)+r≤4∧winB r.toNat a xs b ys=false∧(telOut a xs b ys r).1=tellF r.toNat a xs b ys:=by
  unfold telOut at h ⊢
  by_cases hc:(gameB a xs b ys r&&decide ((xs.length:Int)+r≤4)&&!winB r.toNat a xs b ys)=true
  · rw [if_pos hc] at h ⊢
    simp only [Bool.and_eq_true,decide_eq_true_eq,Bool.not_eq_true'] at hc
    exact ⟨hc.1.1,hc.1.2,hc.2,rfl⟩
  · rw [if_neg hc] at h;cases h
theorem tel_len {a b:St} {xs ys:List Int} {r:Int} (h:(telOut a xs b ys r).2=true):(telOut a xs b ys r).1.length≤4000:=by
 obtain ⟨h1,h2,h3,h4⟩:=tel_at h
 obtain ⟨hL,hr0,hr3⟩:=gameB_true h1
 unfold listsB at hL
 simp only [Bool.and_eq_true] at hL
 rw [h4]
 exact tell_short (by omega) (validB_fine (listB_true hL.1.1).valid) (validB_fine (listB_true hL.1.2).valid)
end Go.Wk
namespace Go.Wk
open Go.RowKit
theorem holdK_at {a:St} {f:List UInt8} {xs:List Int} (h:holdK a f xs=true):∃ p,formO f=some p∧(validB a=true∧xs.length≤4∧(∀ x∈xs,a.El x)∧frB p / 2 ^ xs.length=0)∧holdV a f xs=ev a p (envL xs):=by
  cases e:formO f with
  | none =>
    have:holdO a f xs=none:=holdO_none fun p hp=>by rw [e] at hp;cases hp
    rw [(hold_no this).2] at h;cases h
  | some p =>
    by_cases c:validB a=true∧xs.length≤4∧(∀ x∈xs,a.El x)∧frB p / 2 ^ xs.length=0
    · exact ⟨p,rfl,c,(hold_yes (holdO_some e c)).1⟩
    · have:holdO a f xs=none:=holdO_none fun p' hp' c'=>by
        rw [e] at hp'
        injection hp' with hp'
        subst hp';exact c c'
      rw [(hold_no this).2] at h;cases h
theorem bit_under {x k i:Nat} (h:x / 2 ^ k=0) (hi:x.testBit i=true):i<k:=by
 have h1:x<2 ^ k:=(Nat.div_eq_zero_iff.1 h).resolve_left (Nat.ne_of_gt (Nat.two_pow_pos k))
 exact Classical.byContradiction fun hn=>by
  have h2:x<2 ^ i:=Nat.lt_of_lt_of_le h1 (Nat.pow_le_pow_right (by decide) (by omega))
  rw [Nat.testBit_lt_two_pow h2] at hi;cases hi
theorem envL_at {xs:List Int} {i:Nat} (h:i<xs.length):(envL xs).getD i 0=xs.getD i 0:=by
 unfold envL
 rw [getD_at (by rw [List.length_append];omega),getD_at h,List.getElem_append_left h]
theorem sep_parts {f:List UInt8} {a b:St} {xs ys:List Int} (h:sepB f a xs b ys=true):∃ p,formO f=some p∧xs.length=ys.length∧(validB a=true∧xs.length≤4∧(∀ x∈xs,a.El x)∧frB p / 2 ^ xs.length=0)∧(validB b=true∧ys.length≤4∧(∀ x∈ys,b.El x)∧frB p / 2 ^ ys.length=0)∧ev a p (envL xs)=true∧ev b p (envL ys)=false:=by
 unfold sepB at h
 simp only [Bool.and_eq_true,decide_eq_true_eq,Bool.not_eq_true'] at h
 obtain ⟨⟨⟨⟨h1,h2⟩,h3⟩,h4⟩,h5⟩:=h
 obtain ⟨p,e,c,v⟩:=holdK_at h2
 obtain ⟨p',e',c',v'⟩:=holdK_at h3
 rw [e] at e'
 injection e' with e'
 subst e'
 exact ⟨p,e,by omega,c,c',by rw [← v];exact h4,by rw [← v'];exact h5⟩
theorem rankI_nn {f:List UInt8} {p:Fm} (e:formO f=some p):0≤rankI f:=by unfold rankI;rw [e];dsimp only;omega
end Go.Wk
namespace Go.Wk
open Go.RowKit
theorem placed_both {xs ys:List Int} (hs:∀ i:Nat,i<xs.length→(xs.getD i 0<0↔ys.getD i 0<0)):∀ k:Nat,k≤xs.length→(placed xs k).length=(placed ys k).length∧∀ i:Nat,i<k→0≤xs.getD i 0→InBoth (placed xs k) (placed ys k) (xs.getD i 0) (ys.getD i 0)
  | 0,_=>⟨rfl,fun i hi=>by omega⟩
  | k+1,hk=>by
    obtain ⟨h1,h2⟩:=placed_both hs k (by omega)
    by_cases e:xs.getD k 0<0
    · rw [placed_neg e,placed_neg ((hs k (by omega)).1 e)]
      refine ⟨h1,fun i hi h0=>?_⟩
      have:i ≠ k:=fun q=>by subst q;omega
      exact h2 i (by omega) h0
    · rw [placed_pos e,placed_pos (fun q=>e ((hs k (by omega)).2 q))]
      refine ⟨by rw [List.length_append,List.length_append,h1];rfl,fun i hi h0=>?_⟩
      rcases Nat.lt_or_ge i k with h3 | h3
      · exact (h2 i h3 h0).more h1
      · obtain rfl:i=k:=by omega
        exact InBoth.last h1
theorem pW_zero:∀ {n:Nat} {a b:St} {xs ys:List Int},pW n a xs b ys→pW 0 a xs b ys
 | 0,_,_,_,_,h=>h
 | _+1,_,_,_,_,h=>pW_zero h.1
def OnPeb (xs ys:List Int) (fr:Nat) (e e':List Int):Prop:=∀ i:Nat,i<4→fr.testBit i=true→0≤xs.getD i 0∧e.getD i 0=xs.getD i 0∧e'.getD i 0=ys.getD i 0
theorem peb_ev:∀ {p:Fm},wfF p→plainB p=true→∀ {n:Nat} {a b:St} {xs ys e e':List Int},rankF p≤n→xs.length=ys.length→pW n a xs b ys→e.length=4→e'.length=4→(∀ i:Nat,i<4→(allB p).testBit i=true→i<xs.length)→OnPeb xs ys (frB p) e e'→ev a p e=ev b p e'
  | .leaf c vs,h,_,n,a,b,xs,ys,e,e',hr,hl,hw,he,he',hA,ho=>by
    obtain ⟨h1,h2⟩:=pW_zero hw
    obtain ⟨h3,h4⟩:=placed_both h1 xs.length (Nat.le_refl _)
    rw [← hl] at h2
    have key:∀ v∈vs,InBoth (placed xs xs.length) (placed ys xs.length) (atV e v) (atV e' v):=fun v hv=>by
      have hb:=(vBits_test vs (vI v)).2 ⟨v,hv,rfl⟩
      have h5:=(vI_lt (h.2.2.2 v hv)).1
      obtain ⟨g1,g2,g3⟩:=ho _ h5 hb
      have:=h4 (vI v) (hA _ h5 hb) g1
      unfold atV
      rw [g2,g3];exact this
    rcases leaf_op h with hc | ⟨rfl,v,rfl⟩ | ⟨hc,v,u,rfl⟩
    · rcases hc with rfl | rfl <;> rfl
    · exact (in_pair h3 h2 (key v (by simp)) (key v (by simp))).1
    · have:=in_pair h3 h2 (key v (by simp)) (key u (by simp))
      rcases hc with rfl | rfl
      · exact this.2.1
      · exact this.2.2
  | .one c [] p,h,hp,n,a,b,xs,ys,e,e',hr,hl,hw,he,he',hA,ho=>by
    have hc:=one_no_var h;subst hc
    have:=peb_ev h.2.2.2.2 (by simpa [plainB] using hp) (n:=n) (by simpa [rankF] using hr) hl hw he he' (fun i hi ht=>hA i hi (by show (0 ||| allB p).testBit i=true;rwa [Nat.zero_or])) ho
    show (!ev a p e)=(!ev b p e')
    rw [this]
  | .one c (v::vs) p,h,hp,n,a,b,xs,ys,e,e',hr,hl,hw,he,he',hA,ho=>by
    obtain ⟨hc,rfl,hv⟩:=one_var h
    have h33:¬ c=33:=fun e=>by subst e;revert hc;decide
    have hp':(!(decide (c=50)||decide (c=51)||decide (c=52))&&plainB p)=true:=hp
    rw [Bool.and_eq_true] at hp'
    have hAS:c=65∨c=83:=by
      rcases hc with e | e | e | e | e
      · exact .inl e
      · exact .inr e
      · subst e;exact absurd hp'.1 (by decide)
      · subst e;exact absurd hp'.1 (by decide)
      · subst e;exact absurd hp'.1 (by decide)
    rw [ev_quant_eq h33,ev_quant_eq h33,decide_eq_decide]
    have hr1:rankF (.one c [v] p)=rankF p+1:=by show (if c=33 then _ else if c=65∨c=83 then _ else _)=_;rw [if_neg h33,if_pos hAS]
    obtain ⟨m,rfl⟩:∃ m,n=m+1:=⟨n - 1,by omega⟩
    have hv4:=(vI_lt hv).1
    have hall:∀ i:Nat,(allB (.one c [v] p)).testBit i=(decide (vI v=i)||(allB p).testBit i):=fun i=>by
      show ((vBit v ||| 0) ||| allB p).testBit i=_
      rw [Nat.or_zero,Nat.testBit_or,vBit_test]
    have hvl:vI v<xs.length:=hA _ hv4 (by rw [hall,decide_eq_true rfl];rfl)
    obtain ⟨_,hmv⟩:=hw
    obtain ⟨m1,m2⟩:=hmv (vI v) hvl
    have st1:∀ x y:Nat,pW m a (xs.set (vI v) (x:Int)) b (ys.set (vI v) (y:Int))→evC a v p e x=evC b v p e' y:=fun x y h2=>by
      refine peb_ev h.2.2.2.2 hp'.2 (by omega) (by rw [List.length_set,List.length_set];exact hl) h2 (by rw [List.length_set];exact he) (by rw [List.length_set];exact he') (fun i hi ht=>by rw [List.length_set];exact hA i hi (by rw [hall,ht,Bool.or_true])) fun i hi ht=>?_
      by_cases ei:vI v=i
      · subst ei
        have g:∀ (l:List Int) (z:Int),vI v<l.length→(l.set (vI v) z).getD (vI v) 0=z:=fun l z hz=>by rw [List.getD_eq_getElem?_getD,List.getElem?_set_self hz];rfl
        rw [g _ _ hvl,g _ _ (by omega),g _ _ (by omega),g _ _ (by omega)]
        exact ⟨by omega,rfl,rfl⟩
      · have g:∀ (l:List Int) (z:Int),(l.set (vI v) z).getD i 0=l.getD i 0:=fun l z=>by rw [List.getD_eq_getElem?_getD,List.getElem?_set_ne ei,← List.getD_eq_getElem?_getD]
        rw [g,g,g,g]
        refine ho i hi ?_
        show (frB p &&& (15 ^^^ vBit v)).testBit i=true
        rw [frQ_test hi,ht,decide_eq_false ei];rfl
    rcases hAS with rfl | rfl
    · show a.n.toNat≤_↔b.n.toNat≤_
      rw [cnt_all,cnt_all]
      constructor
      · intro h1 y hy
        obtain ⟨x,hx,h2⟩:=m2 y hy
        rw [← st1 x y h2];exact h1 x hx
      · intro h1 x hx
        obtain ⟨y,hy,h2⟩:=m1 x hx
        rw [st1 x y h2];exact h1 y hy
    · show 1≤_↔1≤_
      rw [cnt_ex,cnt_ex]
      constructor
      · rintro ⟨x,hx,h1⟩
        obtain ⟨y,hy,h2⟩:=m1 x hx
        exact ⟨y,hy,by rw [← st1 x y h2];exact h1⟩
      · rintro ⟨y,hy,h1⟩
        obtain ⟨x,hx,h2⟩:=m2 y hy
        exact ⟨x,hx,by rw [st1 x y h2];exact h1⟩
  | .two c p q,h,hp,n,a,b,xs,ys,e,e',hr,hl,hw,he,he',hA,ho=>by
    have hr1:rankF (.two c p q)=max (rankF p) (rankF q):=rfl
    have hp':(plainB p&&plainB q)=true:=hp
    rw [Bool.and_eq_true] at hp'
    have orA:∀ {x y i:Nat},x.testBit i=true→(x ||| y).testBit i=true:=fun h=>by rw [Nat.testBit_or,h];rfl
    have orB:∀ {x y i:Nat},y.testBit i=true→(x ||| y).testBit i=true:=fun h=>by rw [Nat.testBit_or,h,Bool.or_true]
    have h1:=peb_ev h.2.2.2.1 hp'.1 (n:=n) (by omega) hl hw he he' (fun i hi ht=>hA i hi (orA ht)) fun i hi ht=>ho i hi (orA ht)
    have h2:=peb_ev h.2.2.2.2 hp'.2 (n:=n) (by omega) hl hw he he' (fun i hi ht=>hA i hi (orB ht)) fun i hi ht=>ho i hi (orB ht)
    show (if c=38 then ev a p e&&ev a q e else ev a p e||ev a q e)=(if c=38 then ev b p e'&&ev b q e' else ev b p e'||ev b q e')
    rw [h1,h2]
theorem all_letter:∀ {p:Fm},wfF p→∀ {i:Nat},(allB p).testBit i=true→∃ c∈fT p,c.toNat=97+i
  | .leaf c vs,h,i,ht=>by
    obtain ⟨v,hv,e⟩:=(vBits_test vs i).1 ht
    have:=vI_lt (h.2.2.2 v hv)
    exact ⟨v,List.mem_cons_of_mem _ hv,by omega⟩
  | .one c vs p,h,i,ht=>by
    have ht':(vBits vs ||| allB p).testBit i=true:=ht
    rw [Nat.testBit_or,Bool.or_eq_true] at ht'
    rcases ht' with h1 | h1
    · obtain ⟨v,hv,e⟩:=(vBits_test vs i).1 h1
      have:=vI_lt (h.2.2.2.1 v hv)
      exact ⟨v,List.mem_cons_of_mem _ (List.mem_append_left _ hv),by omega⟩
    · obtain ⟨d,h2,h3⟩:=all_letter h.2.2.2.2 h1
      exact ⟨d,List.mem_cons_of_mem _ (List.mem_append_right _ h2),h3⟩
  | .two c p q,h,i,ht=>by
    have ht':(allB p ||| allB q).testBit i=true:=ht
    rw [Nat.testBit_or,Bool.or_eq_true] at ht'
    rcases ht' with h1 | h1
    · obtain ⟨d,h2,h3⟩:=all_letter h.2.2.2.1 h1
      exact ⟨d,List.mem_cons_of_mem _ (List.mem_append_left _ h2),h3⟩
    · obtain ⟨d,h2,h3⟩:=all_letter h.2.2.2.2 h1
      exact ⟨d,List.mem_cons_of_mem _ (List.mem_append_right _ h2),h3⟩
end Go.Wk
