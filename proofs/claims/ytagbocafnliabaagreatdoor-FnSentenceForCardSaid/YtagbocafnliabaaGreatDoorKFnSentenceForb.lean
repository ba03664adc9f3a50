/-
  FnSentenceFor: all that its proof names (part 2)
-/
import Derived.Test.YtagbocafnliabaaGreatDoorKFnSentenceFora
import Derived.MapKept
import Derived.Laws.Cover3
import Derived.LoopN
import Derived.Lib.Bytealg
import Derived.LaidEqlPtr
import Derived.Shelf.Strings.SlTrimAscii
import Derived.Shelf.Strings.Trim
import Derived.Test.YtagbocafnliabaaGreatDoorProg
namespace Go.Wk
open Go.RowKit
inductive Fm where
 | leaf (c:UInt8) (vs:List UInt8)
 | one (c:UInt8) (vs:List UInt8) (p:Fm)
 | two (c:UInt8) (p q:Fm)
def isV (v:UInt8):Bool:=decide (97≤v.toNat)&&decide (v.toNat≤100)
def arV (c:UInt8):Nat:=if c=80 then 1 else if c=61∨c=69 then 2 else if c=65∨c=83∨c=50∨c=51∨c=52 then 1 else 0
def arP (c:UInt8):Nat:=if c=33 then 1 else if c=38∨c=124 then 2 else if c=65∨c=83∨c=50∨c=51∨c=52 then 1 else 0
def isOp (c:UInt8):Bool:=decide (c∈([116,102,80,61,69,33,38,124,65,83,50,51,52]:List UInt8))
def takeV:Nat→List UInt8→Option (List UInt8×List UInt8)
 | 0,s=>some ([],s)
 | _+1,[]=>none
 | k+1,v::s=>if isV v then (match takeV k s with | some (vs,r)=>some (v::vs,r) | none=>none) else none
def psF:Nat→List UInt8→Option (Fm×List UInt8)
  | 0,_=>none
  | _+1,[]=>none
  | n+1,c::s =>
    if isOp c then
      match takeV (arV c) s with
      | none=>none
      | some (vs,r) =>
        if arP c=0 then some (.leaf c vs,r)
        else if arP c=1 then (match psF n r with | some (p,r')=>some (.one c vs p,r') | none=>none)
        else (match psF n r with
          | some (p,r')=>(match psF n r' with | some (q,r2)=>some (.two c p q,r2) | none=>none)
          | none=>none)
    else none
theorem takeV_len:∀ {k:Nat} {s vs r:List UInt8},takeV k s=some (vs,r)→vs.length=k∧vs.length+r.length=s.length∧s=vs++r∧∀ v∈vs,isV v=true
  | 0,s,vs,r,h=>by
    injection h with h;injection h with h1 h2;subst h1;subst h2
    exact ⟨rfl,by simp,rfl,fun v hv=>by cases hv⟩
  | k+1,[],vs,r,h=>by cases h
  | k+1,v::s,vs,r,h=>by
    unfold takeV at h
    split at h
    · rename_i hv
      split at h
      · rename_i us r' e
        injection h with h;injection h with h1 h2;subst h1;subst h2
        obtain ⟨h3,h4,h5,h6⟩:=takeV_len e
        refine ⟨by simp [h3],by simp;omega,by rw [h5];rfl,fun u hu=>?_⟩
        rcases List.mem_cons.1 hu with rfl | hu
        · exact hv
        · exact h6 u hu
      · cases h
    · cases h
theorem psF_len:∀ {n:Nat} {s:List UInt8} {p:Fm} {r:List UInt8},psF n s=some (p,r)→r.length<s.length
  | 0,_,_,_,h=>by cases h
  | _+1,[],_,_,h=>by cases h
  | n+1,c::s,p,r,h=>by
    unfold psF at h
    split at h
    · split at h
      · cases h
      · rename_i vs t e
        obtain ⟨_,h2,_⟩:=takeV_len e
        split at h
        · injection h with h;injection h with _ h;subst h
          simp;omega
        · split at h
          · split at h
            · rename_i q r' e2
              injection h with h;injection h with _ h;subst h
              have:=psF_len e2
              simp;omega
            · cases h
          · split at h
            · rename_i q r' e2
              split at h
              · rename_i q2 r2 e3
                injection h with h;injection h with _ h;subst h
                have h3:=psF_len e2
                have h4:=psF_len e3
                simp;omega
              · cases h
            · cases h
    · cases h
theorem psF_fuel:∀ {n m:Nat} {s:List UInt8},s.length<n→s.length<m→psF n s=psF m s
  | 0,_,_,h,_=>by omega
  | _+1,0,_,_,h=>by omega
  | _+1,_+1,[],_,_=>rfl
  | n+1,m+1,c::s,h1,h2=>by
    unfold psF
    simp only [List.length_cons] at h1 h2
    split
    · cases e:takeV (arV c) s with
      | none=>rfl
      | some x =>
        obtain ⟨vs,r⟩:=x
        dsimp only
        obtain ⟨_,h3,_⟩:=takeV_len e
        have e1:psF n r=psF m r:=psF_fuel (by omega) (by omega)
        rw [e1]
        cases e2:psF m r with
        | none=>rfl
        | some y =>
          obtain ⟨p,r'⟩:=y
          dsimp only
          have h4:=psF_len e2
          rw [psF_fuel (n:=n) (m:=m) (s:=r') (by omega) (by omega)]
    · rfl
def parse (s:List UInt8):Option (Fm×List UInt8):=psF (s.length+1) s
theorem parse_len {s r:List UInt8} {p:Fm} (h:parse s=some (p,r)):r.length<s.length:=psF_len h
theorem parse_of {n:Nat} {s:List UInt8} (h:s.length<n):psF n s=parse s:=psF_fuel h (Nat.lt_succ_self _)
theorem parse_cons (c : UInt8) (s : List UInt8) : parse (c :: s) = if isOp c then
      match takeV (arV c) s with
      | none=>none
      | some (vs,r) =>
        if arP c=0 then some (.leaf c vs,r)
        else if arP c=1 then (match parse r with | some (p,r')=>some (.one c vs p,r') | none=>none)
        else (match parse r with
          | some (p,r')=>(match parse r' with | some (q,r2)=>some (.two c p q,r2) | none=>none)
          | none=>none)
    else none:=by
  unfold parse
  rw [psF]
  split
  · cases e:takeV (arV c) s with
    | none=>rfl
    | some x =>
      obtain ⟨vs,r⟩:=x
      dsimp only
      obtain ⟨_,h3,_⟩:=takeV_len e
      rw [parse_of (n:=(c::s).length) (s:=r) (by simp only [List.length_cons];omega)]
      unfold parse
      cases e2:psF (r.length+1) r with
      | none=>rfl
      | some y =>
        obtain ⟨p,r'⟩:=y
        dsimp only
        have h4:=psF_len e2
        rw [parse_of (n:=(c::s).length) (s:=r') (by simp only [List.length_cons];omega)]
        rfl
  · rfl
def fT:Fm→List UInt8
 | .leaf c vs=>c::vs
 | .one c vs p=>c::(vs++fT p)
 | .two c p q=>c::(fT p++fT q)
theorem ar_two {c:UInt8} (h0:¬ arP c=0) (h1:¬ arP c=1):arV c=0:=by
  by_cases e:c=38∨c=124
  · rcases e with rfl | rfl <;> rfl
  · exfalso
    unfold arP at h0 h1
    by_cases e2:c=33
    · rw [if_pos e2] at h1;exact h1 rfl
    · rw [if_neg e2,if_neg e] at h0 h1
      split at h1
      · exact h1 rfl
      · rename_i h3;rw [if_neg h3] at h0;exact h0 rfl
theorem parse_text:∀ (n:Nat) {s r:List UInt8} {p:Fm},s.length≤n→parse s=some (p,r)→s=fT p++r
  | 0,[],_,_,_,h=>by cases h
  | 0,_::_,_,_,hn,_=>by simp at hn
  | _+1,[],_,_,_,h=>by cases h
  | n+1,c::s,r,p,hn,h=>by
    rw [parse_cons] at h
    simp only [List.length_cons] at hn
    split at h
    · split at h
      · cases h
      · rename_i vs t e
        obtain ⟨_,h2,h3,_⟩:=takeV_len e
        by_cases h0:arP c=0
        · rw [if_pos h0] at h
          injection h with h;injection h with h4 h;subst h;subst h4
          rw [h3];rfl
        · rw [if_neg h0] at h
          by_cases h1:arP c=1
          · rw [if_pos h1] at h
            split at h
            · rename_i q r' e2
              injection h with h;injection h with h4 h;subst h;subst h4
              have:=parse_text n (s:=t) (by omega) e2
              rw [h3,this];simp [fT]
            · cases h
          · rw [if_neg h1] at h
            split at h
            · rename_i q r' e2
              split at h
              · rename_i q2 r2 e3
                injection h with h;injection h with h4 h;subst h;subst h4
                have h5:=parse_len e2
                have h6:=parse_text n (s:=t) (by omega) e2
                have h7:=parse_text n (s:=r') (by omega) e3
                have hvs:vs=[]:=by
                  have h8:=(takeV_len e).1
                  rw [ar_two h0 h1] at h8
                  exact List.length_eq_zero_iff.1 h8
                rw [h3,hvs,h6,h7];simp [fT]
              · cases h
            · cases h
    · cases h
def vI (v:UInt8):Nat:=v.toNat - 97
def vBit (v:UInt8):Nat:=2 ^ vI v
def vBits:List UInt8→Nat
 | []=>0
 | v::vs=>vBit v ||| vBits vs
def frB:Fm→Nat
 | .leaf _ vs=>vBits vs
 | .one _ [] p=>frB p
 | .one _ (v::_) p=>frB p &&& (15 ^^^ vBit v)
 | .two _ p q=>frB p ||| frB q
def allB:Fm→Nat
 | .leaf _ vs=>vBits vs
 | .one _ vs p=>vBits vs ||| allB p
 | .two _ p q=>allB p ||| allB q
def cntT (f:Nat→Bool):Nat→Nat
 | 0=>0
 | x+1=>cntT f x+(if f x then 1 else 0)
def need (c:UInt8) (n:Nat):Nat:=if c=65 then n else if c=83 then 1 else c.toNat - 48
def atV (env:List Int) (v:UInt8):Int:=env.getD (vI v) 0
def ev (a:St):Fm→List Int→Bool
 | .leaf c vs,env=>if c=116 then true else if c=102 then false else if c=80 then a.inSet (atV env (vs.getD 0 0)) else if c=61 then decide (atV env (vs.getD 0 0)=atV env (vs.getD 1 0)) else a.inRel (atV env (vs.getD 0 0)) (atV env (vs.getD 1 0))
 | .one c vs p,env=>if c=33 then !ev a p env else decide (need c a.n.toNat≤cntT (fun x=>ev a p (env.set (vI (vs.getD 0 0)) (x:Int))) a.n.toNat)
 | .two c p q,env=>if c=38 then ev a p env&&ev a q env else ev a p env||ev a q env
def rankF:Fm→Nat
 | .leaf _ _=>0
 | .one c _ p=>if c=33 then rankF p else if c=65∨c=83 then rankF p+1 else rankF p+(c.toNat - 48)
 | .two _ p q=>max (rankF p) (rankF q)
theorem cntT_le (f:Nat→Bool):∀ n:Nat,cntT f n≤n
 | 0=>Nat.le_refl _
 | n+1=>by
  have:=cntT_le f n
  unfold cntT;split <;> omega
end Go.Wk
namespace Go.Wk
open Go.RowKit
def wfF:Fm→Prop
 | .leaf c vs=>isOp c=true∧arP c=0∧vs.length=arV c∧∀ v∈vs,isV v=true
 | .one c vs p=>isOp c=true∧arP c=1∧vs.length=arV c∧(∀ v∈vs,isV v=true)∧wfF p
 | .two c p q=>isOp c=true∧¬ arP c=0∧¬ arP c=1∧wfF p∧wfF q
theorem parse_wf:∀ (n:Nat) {s r:List UInt8} {p:Fm},s.length≤n→parse s=some (p,r)→wfF p
  | 0,[],_,_,_,h=>by cases h
  | 0,_::_,_,_,hn,_=>by simp at hn
  | _+1,[],_,_,_,h=>by cases h
  | n+1,c::s,r,p,hn,h=>by
    rw [parse_cons] at h
    simp only [List.length_cons] at hn
    split at h
    · rename_i hop
      split at h
      · cases h
      · rename_i vs t e
        obtain ⟨h7,h2,_,h4⟩:=takeV_len e
        by_cases h0:arP c=0
        · rw [if_pos h0] at h
          injection h with h;injection h with h5 h;subst h5
          exact ⟨hop,h0,h7,h4⟩
        · rw [if_neg h0] at h
          by_cases h1:arP c=1
          · rw [if_pos h1] at h
            split at h
            · rename_i q r' e2
              injection h with h;injection h with h5 h;subst h5
              exact ⟨hop,h1,h7,h4,parse_wf n (by omega) e2⟩
            · cases h
          · rw [if_neg h1] at h
            split at h
            · rename_i q r' e2
              split at h
              · rename_i q2 r2 e3
                injection h with h;injection h with h5 h;subst h5
                have h6:=parse_len e2
                exact ⟨hop,h0,h1,parse_wf n (by omega) e2,parse_wf n (by omega) e3⟩
              · cases h
            · cases h
    · cases h
theorem vI_lt {v:UInt8} (h:isV v=true):vI v<4∧v.toNat=97+vI v:=by
 unfold isV at h
 simp only [Bool.and_eq_true,decide_eq_true_eq] at h
 unfold vI;omega
theorem vBit_test (v:UInt8) (i:Nat):(vBit v).testBit i=decide (vI v=i):=by
 unfold vBit;rw [Nat.testBit_two_pow]
theorem vBits_test:∀ (vs:List UInt8) (i:Nat),(vBits vs).testBit i=true↔∃ v∈vs,vI v=i
 | [],i=>by simp [vBits]
 | v::vs,i=>by
  unfold vBits
  rw [Nat.testBit_or,Bool.or_eq_true,vBit_test,decide_eq_true_eq,vBits_test vs i]
  simp
theorem vBits_lt:∀ {vs:List UInt8},(∀ v∈vs,isV v=true)→vBits vs<16
 | [],_=>by decide
 | v::vs,h=>by
  unfold vBits
  have h1:vBit v<2 ^ 4:=by
   unfold vBit
   exact Nat.pow_lt_pow_right (by decide) (vI_lt (h v (by simp))).1
  exact Nat.or_lt_two_pow (n:=4) h1 (vBits_lt fun u hu=>h u (by simp [hu]))
theorem frB_lt:∀ {p:Fm},wfF p→frB p<16
 | .leaf _ _,h=>vBits_lt h.2.2.2
 | .one _ [] p,h=>frB_lt (p:=p) h.2.2.2.2
 | .one _ (_::_) p,h=>Nat.lt_of_le_of_lt Nat.and_le_left (frB_lt (p:=p) h.2.2.2.2)
 | .two _ p q,h=>Nat.or_lt_two_pow (n:=4) (frB_lt (p:=p) h.2.2.2.1) (frB_lt (p:=q) h.2.2.2.2)
theorem allB_lt:∀ {p:Fm},wfF p→allB p<16
 | .leaf _ _,h=>vBits_lt h.2.2.2
 | .one _ _ p,h=>Nat.or_lt_two_pow (n:=4) (vBits_lt h.2.2.2.1) (allB_lt (p:=p) h.2.2.2.2)
 | .two _ p q,h=>Nat.or_lt_two_pow (n:=4) (allB_lt (p:=p) h.2.2.2.1) (allB_lt (p:=q) h.2.2.2.2)
theorem test15 {i:Nat} (h:i<4):(15:Nat).testBit i=true:=by
 rcases (by omega:i=0∨i=1∨i=2∨i=3) with e | e | e | e <;> subst e <;> decide
theorem frQ_test {v:UInt8} {p:Fm} {i:Nat} (hi:i<4):(frB p &&& (15 ^^^ vBit v)).testBit i=((frB p).testBit i&&!decide (vI v=i)):=by
 rw [Nat.testBit_and,Nat.testBit_xor,test15 hi,vBit_test];simp
theorem ev_free (a:St):∀ {p:Fm},wfF p→∀ {e e':List Int},e.length=4→e'.length=4→(∀ i:Nat,i<4→(frB p).testBit i=true→e.getD i 0=e'.getD i 0)→ev a p e=ev a p e'
  | .leaf c vs,h,e,e',hl,hl',hfr=>by
    obtain ⟨hop,h0,h1,h2⟩:=h
    have key:∀ v∈vs,atV e v=atV e' v:=fun v hv=>by
      unfold atV
      exact hfr _ (vI_lt (h2 v hv)).1 ((vBits_test vs _).2 ⟨v,hv,rfl⟩)
    unfold ev
    by_cases e1:c=116
    · rw [if_pos e1,if_pos e1]
    · rw [if_neg e1,if_neg e1]
      by_cases e2:c=102
      · rw [if_pos e2,if_pos e2]
      · rw [if_neg e2,if_neg e2]
        by_cases e3:c=80
        · subst e3
          have hl1:vs.length=1:=h1
          rw [if_pos rfl,if_pos rfl,key (vs.getD 0 0) (by rw [getD_at (by omega)];exact List.getElem_mem _)]
        · rw [if_neg e3,if_neg e3]
          have hl2:vs.length=2:=by
            rw [h1]
            unfold isOp at hop
            rw [decide_eq_true_eq] at hop
            simp only [List.mem_cons,List.not_mem_nil,or_false] at hop
            rcases hop with rfl | rfl | rfl | rfl | rfl | rfl | rfl | rfl | rfl | rfl | rfl | rfl | rfl <;> first | rfl | exact absurd rfl e1 | exact absurd rfl e2 | exact absurd rfl e3 | exact absurd h0 (by decide)
          rw [key (vs.getD 0 0) (by rw [getD_at (by omega)];exact List.getElem_mem _),key (vs.getD 1 0) (by rw [getD_at (by omega)];exact List.getElem_mem _)]
  | .one c [] p,h,e,e',hl,hl',hfr=>by
    obtain ⟨hop,h0,h1,h2,h3⟩:=h
    have hc:c=33:=by
      have h4:arV c=0:=h1.symm
      unfold isOp at hop
      rw [decide_eq_true_eq] at hop
      simp only [List.mem_cons,List.not_mem_nil,or_false] at hop
      rcases hop with rfl | rfl | rfl | rfl | rfl | rfl | rfl | rfl | rfl | rfl | rfl | rfl | rfl <;> first | rfl | exact absurd h0 (by decide) | exact absurd h4 (by decide)
    subst hc
    unfold ev
    rw [if_pos rfl,if_pos rfl,ev_free a h3 hl hl' hfr]
  | .one c (v::vs) p,h,e,e',hl,hl',hfr=>by
    obtain ⟨hop,h0,h1,h2,h3⟩:=h
    have hv:=(vI_lt (h2 v (by simp))).1
    have key:∀ x:Int,ev a p (e.set (vI v) x)=ev a p (e'.set (vI v) x):=fun x=>by
      refine ev_free a h3 (by rw [List.length_set];exact hl) (by rw [List.length_set];exact hl') fun i hi ht=>?_
      by_cases ei:vI v=i
      · subst ei
        rw [List.getD_eq_getElem?_getD,List.getD_eq_getElem?_getD,List.getElem?_set_self (by omega),List.getElem?_set_self (by omega)]
      · rw [List.getD_eq_getElem?_getD,List.getD_eq_getElem?_getD,List.getElem?_set_ne ei,List.getElem?_set_ne ei,← List.getD_eq_getElem?_getD,← List.getD_eq_getElem?_getD]
        refine hfr i hi ?_
        show (frB p &&& (15 ^^^ vBit v)).testBit i=true
        rw [frQ_test hi,ht,decide_eq_false ei];rfl
    have hc:¬ c=33:=fun e=>by subst e;exact absurd h1 (by simp [arV])
    unfold ev
    rw [if_neg hc,if_neg hc]
    simp only [List.getD_cons_zero,key]
  | .two c p q,h,e,e',hl,hl',hfr=>by
    obtain ⟨_,_,_,h3,h4⟩:=h
    unfold ev
    rw [ev_free a h3 hl hl' fun i hi ht=>hfr i hi (by show (frB p ||| frB q).testBit i=true;rw [Nat.testBit_or,ht];rfl),ev_free a h4 hl hl' fun i hi ht=>hfr i hi (by show (frB p ||| frB q).testBit i=true;rw [Nat.testBit_or,ht,Bool.or_true])]
end Go.Wk
namespace Go.Wk
open Go.RowKit
def EnvOk (e:List Int):Prop:=e.length=4∧∀ i:Nat,i<4→0≤e.getD i 0∧e.getD i 0<8
def kSum (b:Nat) (e:List Int):Nat→Nat
 | 0=>0
 | i+1=>kSum b e i+(if b.testBit i then (e.getD i 0).toNat*8 ^ i else 0)
theorem kSum_lt {b:Nat} {e:List Int} (h:EnvOk e):∀ {i:Nat},i≤4→kSum b e i<8 ^ i
 | 0,_=>Nat.one_pos
 | i+1,hi=>by
  have h1:=kSum_lt (b:=b) h (i:=i) (by omega)
  have h2:=h.2 i (by omega)
  have h3:(e.getD i 0).toNat*8 ^ i≤7*8 ^ i:=Nat.mul_le_mul_right _ (by omega)
  unfold kSum
  rw [Nat.pow_succ]
  split <;> omega
theorem kSum_inj {b:Nat} {e e':List Int} (h:EnvOk e) (h':EnvOk e'):∀ {n:Nat},n≤4→kSum b e n=kSum b e' n→∀ i:Nat,i<n→b.testBit i=true→e.getD i 0=e'.getD i 0
  | 0,_,_,i,hi,_=>by omega
  | n+1,hn,he,i,hi,ht=>by
    have h1:=kSum_lt (b:=b) h (i:=n) (by omega)
    have h1':=kSum_lt (b:=b) h' (i:=n) (by omega)
    unfold kSum at he
    by_cases hb:b.testBit n=true
    · rw [if_pos hb,if_pos hb] at he
      have hd:(e.getD n 0).toNat=(e'.getD n 0).toNat:=by
        have e1:=congrArg (fun z=>z / 8 ^ n) he
        rwa [Nat.add_mul_div_right _ _ (by omega),Nat.add_mul_div_right _ _ (by omega),Nat.div_eq_of_lt h1,Nat.div_eq_of_lt h1',Nat.zero_add,Nat.zero_add] at e1
      rw [hd] at he
      rcases Nat.lt_or_ge i n with h2 | h2
      · exact kSum_inj h h' (by omega) (by omega) i h2 ht
      · obtain rfl:i=n:=by omega
        have h3:=h.2 i (by omega)
        have h4:=h'.2 i (by omega)
        omega
    · rw [if_neg hb,if_neg hb] at he
      rcases Nat.lt_or_ge i n with h2 | h2
      · exact kSum_inj h h' (by omega) (by omega) i h2 ht
      · obtain rfl:i=n:=by omega
        exact absurd ht hb
theorem kSum_or {b:Nat} {e:List Int} (h:EnvOk e) {i:Nat} (hi:i<4) (hb:b.testBit i=true):kSum b e i ||| ((e.getD i 0).toNat*8 ^ i)=kSum b e (i+1):=by
 have h1:=kSum_lt (b:=b) h (i:=i) (by omega)
 have e8:(8:Nat) ^ i=2 ^ (3*i):=by rw [Nat.pow_mul]
 have h2:=Nat.two_pow_add_eq_or_of_lt (i:=3*i) (b:=kSum b e i) (by rw [← e8];exact h1) ((e.getD i 0).toNat)
 rw [show kSum b e (i+1)=kSum b e i+(if b.testBit i then (e.getD i 0).toNat*8 ^ i else 0) from rfl,if_pos hb,e8,Nat.or_comm,Nat.mul_comm,← h2]
 omega
def keyF (p:Fm) (e:List Int):Int:=(kSum (frB p) e 4:Int)
theorem key_ev {a:St} {p:Fm} (hp:wfF p) {e e':List Int} (h:EnvOk e) (h':EnvOk e') (hk:keyF p e=keyF p e'):ev a p e=ev a p e' :=
 ev_free a hp h.1 h'.1 (kSum_inj h h' (Nat.le_refl 4) (by unfold keyF at hk;omega))
end Go.Wk
namespace Go.Wk
open Go.RowKit
def varI (f:List UInt8) (i:Int):Int:=if 0≤i∧i<(f.length:Int)∧isV (f.getD i.toNat 0)=true then (vI (f.getD i.toNat 0):Int) else -1
theorem u8_of {c:UInt8} {n:Nat} (_hn:n<256) (h:(c.toNat:Int)=(n:Int)):c=UInt8.ofNat n:=by
 have:c.toNat=n:=by omega
 rw [← this];simp
theorem drop_at {f:List UInt8} {i:Nat} (h:i<f.length):f.drop i=f.getD i 0::f.drop (i+1):=by
 rw [getD_at h];exact List.drop_eq_getElem_cons h
theorem varI_neg {f:List UInt8} {i:Int}:varI f i<0↔¬ (0≤i∧i<(f.length:Int)∧isV (f.getD i.toNat 0)=true):=by
  unfold varI
  split
  · rename_i h;exact ⟨fun e=>by omega,fun e=>absurd h e⟩
  · rename_i h;exact ⟨fun _=>h,fun _=>by decide⟩
theorem takeV_one (f:List UInt8) (i:Nat):takeV 1 (f.drop i)=if varI f (i:Int)<0 then none else some ([f.getD i 0],f.drop (i+1)):=by
  rcases Nat.lt_or_ge i f.length with h | h
  · rw [drop_at h]
    unfold takeV takeV
    by_cases hv:isV (f.getD i 0)=true
    · rw [if_pos hv,if_neg (by rw [varI_neg];exact fun e=>e ⟨by omega,by omega,by simpa using hv⟩)]
    · rw [if_neg hv,if_pos (by rw [varI_neg];exact fun e=>hv (by simpa using e.2.2))]
  · rw [List.drop_of_length_le h,if_pos (by rw [varI_neg];omega)];rfl
theorem takeV_two (f:List UInt8) (i:Nat):takeV 2 (f.drop i)=if varI f (i:Int)<0∨varI f ((i:Int)+1)<0 then none else some ([f.getD i 0,f.getD (i+1) 0],f.drop (i+2)):=by
  rcases Nat.lt_or_ge i f.length with h | h
  · rw [drop_at h]
    unfold takeV
    by_cases hv:isV (f.getD i 0)=true
    · have h0:¬ varI f (i:Int)<0:=by rw [varI_neg];exact fun e=>e ⟨by omega,by omega,by simpa using hv⟩
      rw [if_pos hv,takeV_one]
      by_cases h1:varI f ((i+1:Nat):Int)<0
      · rw [if_pos h1,if_pos (.inr (by simpa using h1))]
      · rw [if_neg h1,if_neg (fun e=>e.elim h0 (fun e=>h1 (by simpa using e)))]
    · rw [if_neg hv,if_pos (.inl (by rw [varI_neg];exact fun e=>hv (by simpa using e.2.2)))]
  · rw [List.drop_of_length_le h,if_pos (.inl (by rw [varI_neg];omega))];rfl
theorem parse_rest {f r:List UInt8} {i:Nat} {p:Fm} (h:parse (f.drop i)=some (p,r)):r=f.drop (f.length - r.length)∧i<f.length - r.length∧r.length≤f.length:=by
 have h1:=parse_text _ (Nat.le_refl _) h
 have h2:=parse_len h
 rw [List.length_drop] at h2
 refine ⟨?_,by omega,by omega⟩
 have h3:f=f.take i++(fT p++r):=by rw [← h1];exact (List.take_append_drop i f).symm
 have h4:f.length=(f.take i).length+((fT p).length+r.length):=by
  have:=congrArg List.length h3
  rwa [List.length_append,List.length_append] at this
 have h5:f.drop (f.length - r.length)=(f.take i++(fT p++r)).drop ((f.take i++fT p).length):=by
  rw [← h3]
  congr 1
  rw [List.length_append];omega
 rw [h5,← List.append_assoc]
 exact (List.drop_left).symm
end Go.Wk
namespace Go.Wk
open Go.RowKit
def Pa (f:List UInt8) (n:Nat) (p:Fm) (e:Nat):Prop:=parse (f.drop n)=some (p,f.drop e)∧n<e∧e≤f.length
theorem Pa.of {f r:List UInt8} {n:Nat} {p:Fm} (h:parse (f.drop n)=some (p,r)):Pa f n p (f.length - r.length)∧r=f.drop (f.length - r.length):=by
 obtain ⟨h1,h2,_⟩:=parse_rest h
 exact ⟨⟨by rw [h,← h1],h2,by omega⟩,h1⟩
theorem Pa.lt {f:List UInt8} {n e:Nat} {p:Fm} (h:Pa f n p e):n<f.length:=by have:=h.2;omega
theorem Pa.wf {f:List UInt8} {n e:Nat} {p:Fm} (h:Pa f n p e):wfF p:=parse_wf _ (Nat.le_refl _) h.1
theorem Pa.same {f:List UInt8} {n e e':Nat} {p p':Fm} (h:Pa f n p e) (h':Pa f n p' e'):p=p'∧e=e':=by
 have h1:=h.1.symm.trans h'.1
 injection h1 with h1;injection h1 with h1 h2
 have h3:=congrArg List.length h2
 rw [List.length_drop,List.length_drop] at h3
 have:=h.2.2;have:=h'.2.2
 exact ⟨h1,by omega⟩
theorem drop_inj {f:List UInt8} {e k:Nat} (h:f.drop e=f.drop k) (h1:e≤f.length) (h2:k≤f.length):e=k:=by
 have h3:=congrArg List.length h
 rw [List.length_drop,List.length_drop] at h3;omega
theorem Pa.cons {f:List UInt8} {n e:Nat} {p:Fm} (h:Pa f n p e):isOp (f.getD n 0)=true∧∃ vs k,takeV (arV (f.getD n 0)) (f.drop (n+1))=some (vs,f.drop k)∧n<k∧k≤f.length∧vs.length=arV (f.getD n 0)∧k=n+1+arV (f.getD n 0) ∧
    ((arP (f.getD n 0)=0∧p=.leaf (f.getD n 0) vs∧e=k)∨(arP (f.getD n 0)=1∧∃ q,Pa f k q e∧p=.one (f.getD n 0) vs q) ∨
     (arP (f.getD n 0) ≠ 0∧arP (f.getD n 0) ≠ 1∧∃ q m q2,Pa f k q m∧Pa f m q2 e∧p=.two (f.getD n 0) q q2)):=by
  have hn:=h.lt
  obtain ⟨h1,h2,h3⟩:=h
  rw [drop_at hn,parse_cons] at h1
  split at h1
  · rename_i ho
    refine ⟨ho,?_⟩
    split at h1
    · cases h1
    · rename_i vs r et
      obtain ⟨h4,h5,h6,_⟩:=takeV_len et
      rw [List.length_drop] at h5
      have hr:r=f.drop (n+1+vs.length):=by
        rw [← List.drop_drop,h6,List.drop_left]
      have hk:n+1+vs.length≤f.length:=by omega
      refine ⟨vs,n+1+vs.length,by rw [et,hr],by omega,hk,h4,by omega,?_⟩
      by_cases c0:arP (f.getD n 0)=0
      · rw [if_pos c0] at h1
        injection h1 with h1;injection h1 with h7 h8
        exact .inl ⟨c0,h7.symm,drop_inj (h8.symm.trans hr) h3 hk⟩
      · rw [if_neg c0] at h1
        by_cases c1:arP (f.getD n 0)=1
        · rw [if_pos c1] at h1
          split at h1
          · rename_i q r' e2
            injection h1 with h1;injection h1 with h7 h8;subst h8
            have h9:=parse_len e2
            rw [hr] at e2
            refine .inr (.inl ⟨c1,q,⟨e2,?_,h3⟩,h7.symm⟩)
            rw [List.length_drop] at h9;omega
          · cases h1
        · rw [if_neg c1] at h1
          split at h1
          · rename_i q r' e2
            split at h1
            · rename_i q2 r2 e3
              injection h1 with h1;injection h1 with h7 h8;subst h8
              have h9:=parse_len e3
              rw [hr] at e2
              obtain ⟨h10,h11⟩:=Pa.of e2
              refine .inr (.inr ⟨c0,c1,q,_,q2,h10,⟨by rw [← h11];exact e3,?_,h3⟩,h7.symm⟩)
              rw [List.length_drop] at h9;omega
            · cases h1
          · cases h1
  · cases h1
end Go.Wk
namespace Go.Wk
open Go.RowKit
section
variable {P:Program} {n:Nat} {C:World→Prop} {e:Env} {o:Oper}
theorem bits_nat {op:BinOp} {f:BitVec 64→BitVec 64→BitVec 64} {g:Nat→Nat→Nat} {a b:Nat} (ha:a<4611686018427387904) (hb:b<4611686018427387904) (hf:∀ x y:BitVec 64,x.toNat=a→y.toNat=b→(f x y).toNat=g a b) (hg:g a b<4611686018427387904) (h:bits op .i64 (a:Int) (b:Int)=IntKind.i64.wrap ((f (BitVec.ofInt 64 (a:Int)) (BitVec.ofInt 64 (b:Int))).toNat:Int)):bits op .i64 (a:Int) (b:Int)=(g a b:Int):=by
 rw [h,hf _ _ (by rw [BitVec.toNat_ofInt];omega) (by rw [BitVec.toNat_ofInt];omega),IntWalk.i64_in _ (by omega)]
theorem or_lt62 {a b:Nat} (ha:a<4611686018427387904) (hb:b<4611686018427387904):a ||| b<4611686018427387904:=Nat.or_lt_two_pow (n:=62) ha hb
theorem OpQ.or {t t':TypeId} {x y:Operand} {a b:Nat} (h:o.op=.binOp .or t x y t') (hx:opd e x=some (.int .i64 (a:Int))) (hy:opd e y=some (.int .i64 (b:Int))) (ha:a<4611686018427387904) (hb:b<4611686018427387904):OpQ P n C e o (.int .i64 ((a ||| b:Nat):Int)):=OpQ.val fun A hf w=>by
  unfold execOp;rw [h];simp only [hf.opd hx,hf.opd hy]
  have:=bits_nat (op:=.or) (f:=(· ||| ·)) (g:=(· ||| ·)) ha hb (fun x y h1 h2=>by rw [BitVec.toNat_or,h1,h2]) (or_lt62 ha hb) rfl
  simp [go_sem,this]
theorem OpQ.and {t t':TypeId} {x y:Operand} {a b:Nat} (h:o.op=.binOp .and t x y t') (hx:opd e x=some (.int .i64 (a:Int))) (hy:opd e y=some (.int .i64 (b:Int))) (ha:a<4611686018427387904) (hb:b<4611686018427387904):OpQ P n C e o (.int .i64 ((a &&& b:Nat):Int)):=OpQ.val fun A hf w=>by
  unfold execOp;rw [h];simp only [hf.opd hx,hf.opd hy]
  have:=bits_nat (op:=.and) (f:=(· &&& ·)) (g:=(· &&& ·)) ha hb (fun x y h1 h2=>by rw [BitVec.toNat_and,h1,h2]) (Nat.lt_of_le_of_lt Nat.and_le_left ha) rfl
  simp [go_sem,this]
theorem strike16:∀ a b:Fin 16,bits .andNot .i64 (a.val:Int) (b.val:Int)=((a.val &&& (15 ^^^ b.val):Nat):Int):=by decide
theorem OpQ.strike {t t':TypeId} {x y:Operand} {a b:Nat} (h:o.op=.binOp .andNot t x y t') (hx:opd e x=some (.int .i64 (a:Int))) (hy:opd e y=some (.int .i64 (b:Int))) (ha:a<16) (hb:b<16):OpQ P n C e o (.int .i64 ((a &&& (15 ^^^ b):Nat):Int)):=OpQ.val fun A hf w=>by
 unfold execOp;rw [h];simp only [hf.opd hx,hf.opd hy]
 have:=strike16 ⟨a,ha⟩ ⟨b,hb⟩
 simp only at this
 simp [go_sem,this]
theorem OpQ.shl {t t':TypeId} {x y:Operand} {k:IntKind} {a b:Nat} (h:o.op=.binOp .shl t x y t') (hx:opd e x=some (.int .i64 (a:Int))) (hy:opd e y=some (.int k (b:Int))) (hb:b≤62) (hr:a*2 ^ b<4611686018427387904):OpQ P n C e o (.int .i64 ((a*2 ^ b:Nat):Int)):=OpQ.val fun A hf w=>by
 unfold execOp;rw [h];simp only [hf.opd hx,hf.opd hy]
 have e2:IntKind.i64.wrap ((a:Int)*2 ^ b)=((a*2 ^ b:Nat):Int):=by
  have:((a:Int)*2 ^ b)=((a*2 ^ b:Nat):Int):=by rw [Int.natCast_mul,Int.natCast_pow];rfl
  rw [this,IntWalk.i64_in _ (by omega)]
 simp [go_sem,e2]
theorem OpQ.shr {t t':TypeId} {x y:Operand} {k:IntKind} {a b:Nat} (h:o.op=.binOp .shr t x y t') (hx:opd e x=some (.int .i64 (a:Int))) (hy:opd e y=some (.int k (b:Int))) (hb:b≤62):OpQ P n C e o (.int .i64 ((a / 2 ^ b:Nat):Int)):=OpQ.val fun A hf w=>by
 unfold execOp;rw [h];simp only [hf.opd hx,hf.opd hy]
 simp [go_sem]
end
end Go.Wk
namespace Go.Wk
abbrev jB := @OpQ.or
abbrev uK := @OpQ.strike
abbrev uP := @OpQ.shl
end Go.Wk
namespace Go.Wk
open Go.RowKit
def quI (c:Int):Prop:=c=65∨c=83∨c=50∨c=51∨c=52
instance (c:Int):Decidable (quI c):=by unfold quI;exact inferInstance
theorem quI_of {c:UInt8} (h:quI (c.toNat:Int)):c=65∨c=83∨c=50∨c=51∨c=52:=by
  rcases h with c | c | c | c | c
  · exact .inl (u8_of (n:=65) (by decide) c)
  · exact .inr (.inl (u8_of (n:=83) (by decide) c))
  · exact .inr (.inr (.inl (u8_of (n:=50) (by decide) c)))
  · exact .inr (.inr (.inr (.inl (u8_of (n:=51) (by decide) c))))
  · exact .inr (.inr (.inr (.inr (u8_of (n:=52) (by decide) c))))
theorem bit_lt {v:UInt8} (h:vI v<4):1*2 ^ vI v<16:=by
 have:=Nat.pow_le_pow_right (n:=2) (by decide) (show vI v≤3 by omega)
 omega
def EnvA (a:St) (e:List Int):Prop:=e.length=4∧∀ i:Nat,i<4→a.El (e.getD i 0)
theorem EnvA.set {a:St} {e:List Int} (h:EnvA a e) {k:Nat} {x:Int} (hx:a.El x):EnvA a (e.set k x):=by
  refine ⟨by rw [List.length_set];exact h.1,fun i hi=>?_⟩
  rw [List.getD_eq_getElem?_getD,List.getElem?_set]
  by_cases e1:k=i
  · subst e1
    have h9:=h.1
    rw [if_pos rfl,if_pos (by omega)];exact hx
  · rw [if_neg e1,← List.getD_eq_getElem?_getD];exact h.2 i hi
theorem EnvA.at {a:St} {e:List Int} (h:EnvA a e) {v:UInt8} (hv:vI v<4):a.El (e.getD (vI v) 0):=h.2 _ hv
theorem need65 {c:UInt8} {n:Int} (hc:(c.toNat:Int)=65) (hn:0≤n):((need c n.toNat:Nat):Int)=n:=by
 have:c=65:=u8_of (n:=65) (by decide) hc
 subst this
 show ((n.toNat:Nat):Int)=n
 omega
theorem need234 {c:UInt8} {n:Nat} (hc:(c.toNat:Int)=50∨(c.toNat:Int)=51∨(c.toNat:Int)=52):((need c n:Nat):Int)=(c.toNat:Int) - 48:=by
 unfold need
 have h1:¬ c=65:=fun e=>by subst e;revert hc;decide
 have h2:¬ c=83:=fun e=>by subst e;revert hc;decide
 rw [if_neg h1,if_neg h2];omega
theorem need83 {c:UInt8} {n:Nat} (hc:(c.toNat:Int)=83):((need c n:Nat):Int)=1:=by
 have:c=83:=u8_of (n:=83) (by decide) hc
 subst this;rfl
def evC (a:St) (v:UInt8) (q:Fm) (en:List Int):Nat→Bool:=fun x=>ev a q (en.set (vI v) (x:Int))
theorem cnt_step (F:Nat→Bool) (x:Nat):cntT F (x+1)=cntT F x+(if F x then 1 else 0):=rfl
theorem ev_eq {a:St} {en:List Int} {c v u:UInt8} (hc:(c.toNat:Int)=61):decide (en.getD (vI v) 0=en.getD (vI u) 0)=ev a (.leaf c [v,u]) en:=by
 have:c=61:=u8_of (n:=61) (by decide) hc
 subst this;rfl
theorem ev_rel {a:St} {en:List Int} {c v u:UInt8} (hc:(c.toNat:Int)=69):a.inRel (en.getD (vI v) 0) (en.getD (vI u) 0)=ev a (.leaf c [v,u]) en:=by
 have:c=69:=u8_of (n:=69) (by decide) hc
 subst this;rfl
theorem evC_of {a:St} {v:UInt8} {q:Fm} {en E:List Int} (h:∀ z:Int,E.set (vI v) z=en.set (vI v) z) {x:Nat} {b:Bool} (hb:ev a q (E.set (vI v) (x:Int))=b):evC a v q en x=b:=by
 unfold evC;rw [← h];exact hb
theorem cnt_yes {F:Nat→Bool} {x:Nat} (h:F x=true):(cntT F x:Int)+1=((cntT F (x+1):Nat):Int):=by rw [cnt_step,h];rfl
theorem cnt_no {F:Nat→Bool} {x:Nat} (h:F x=false):cntT F (x+1)=cntT F x:=by rw [cnt_step,h];rfl
end Go.Wk
namespace Go.Wk
open Go.RowKit
def formO (f:List UInt8):Option Fm:=if f.length≤4000 then (match parse f with | some (p,[])=>some p | _=>none) else none
theorem formO_long {f:List UInt8} (h:¬ f.length≤4000):formO f=none:=by unfold formO;rw [if_neg h]
theorem formO_parse {f:List UInt8} {p:Fm} (h:formO f=some p):f.length≤4000∧parse f=some (p,[]):=by
  unfold formO at h
  by_cases hl:f.length≤4000
  · rw [if_pos hl] at h
    refine ⟨hl,?_⟩
    split at h
    · injection h with h;subst h;assumption
    · cases h
  · rw [if_neg hl] at h;cases h
theorem parse_formO {f:List UInt8} {p:Fm} (hl:f.length≤4000) (h:parse f=some (p,[])):formO f=some p:=by
 unfold formO;rw [if_pos hl,h]
theorem formO_pa {f:List UInt8} {p:Fm} (h:formO f=some p):Pa f 0 p f.length:=by
 obtain ⟨_,h⟩:=formO_parse h
 refine ⟨by rw [List.drop_zero,h,List.drop_length],?_,Nat.le_refl _⟩
 cases f with
 | nil=>cases h
 | cons c s=>simp
theorem formO_wf {f:List UInt8} {p:Fm} (h:formO f=some p):wfF p:=(formO_pa h).wf
def envL (xs:List Int):List Int:=xs++List.replicate (4 - xs.length) 0
theorem envL_len {xs:List Int} (h:xs.length≤4):(envL xs).length=4:=by unfold envL;rw [List.length_append,List.length_replicate];omega
theorem envL_ok {a:St} {xs:List Int} (h1:1≤a.n) (h:xs.length≤4) (hx:a.Els xs):EnvA a (envL xs):=by
  refine ⟨envL_len h,fun i hi=>?_⟩
  unfold envL
  rw [List.getD_eq_getElem?_getD,List.getElem?_append]
  split
  · rename_i hl
    rw [List.getElem?_eq_getElem hl]
    exact hx _ (List.getElem_mem _)
  · rename_i hl
    rw [List.getElem?_replicate,if_pos (by omega)]
    exact ⟨by decide,by show (0:Int)<a.n;omega⟩
open Classical in
noncomputable def holdO (a:St) (f:List UInt8) (xs:List Int):Option Bool :=
 match formO f with
 | none=>none
 | some p=>if validB a=true∧xs.length≤4∧(∀ x∈xs,a.El x)∧frB p / 2 ^ xs.length=0 then some (ev a p (envL xs)) else none
noncomputable def holdV (a:St) (f:List UInt8) (xs:List Int):Bool:=(holdO a f xs).getD false
noncomputable def holdK (a:St) (f:List UInt8) (xs:List Int):Bool:=(holdO a f xs).isSome
theorem holdO_none {a:St} {f:List UInt8} {xs:List Int} (h:∀ p,formO f=some p→¬ (validB a=true∧xs.length≤4∧(∀ x∈xs,a.El x)∧frB p / 2 ^ xs.length=0)):holdO a f xs=none:=by
 unfold holdO
 cases e:formO f with
 | none=>rfl
 | some p=>dsimp only;rw [if_neg (h p e)]
theorem holdO_some {a:St} {f:List UInt8} {xs:List Int} {p:Fm} (e:formO f=some p) (h:validB a=true∧xs.length≤4∧(∀ x∈xs,a.El x)∧frB p / 2 ^ xs.length=0):holdO a f xs=some (ev a p (envL xs)):=by
 unfold holdO;rw [e];dsimp only;rw [if_pos h]
theorem hold_yes {a:St} {f:List UInt8} {xs:List Int} {b:Bool} (h:holdO a f xs=some b):holdV a f xs=b∧holdK a f xs=true:=by
 unfold holdV holdK;rw [h];exact ⟨rfl,rfl⟩
theorem rank_one {c:UInt8} {vs:List UInt8} {q:Fm} (hc:(c.toNat:Int)=65∨(c.toNat:Int)=83):((rankF (.one c vs q):Nat):Int)=(rankF q:Int)+1:=by
 have h:c=65∨c=83:=hc.elim (fun e=>.inl (u8_of (n:=65) (by decide) e)) (fun e=>.inr (u8_of (n:=83) (by decide) e))
 show (((if c=33 then rankF q else if c=65∨c=83 then rankF q+1 else rankF q+(c.toNat - 48):Nat)):Int)=_
 rw [if_neg (by rcases h with e | e <;> rw [e] <;> decide),if_pos h];rfl
theorem rank_cnt {c:UInt8} {vs:List UInt8} {q:Fm} (hq:quI (c.toNat:Int)) (hc:¬ ((c.toNat:Int)=65∨(c.toNat:Int)=83)):((rankF (.one c vs q):Nat):Int)=(rankF q:Int)+(c.toNat:Int) - 48:=by
 have h1:¬ (c=65∨c=83):=fun e=>hc (e.elim (fun e=>.inl (by rw [e];rfl)) (fun e=>.inr (by rw [e];rfl)))
 have h2:¬ c=33:=fun e=>by subst e;revert hq;decide
 have h3:(48:Int)≤c.toNat:=by rcases hq with e | e | e | e | e <;> omega
 show (((if c=33 then rankF q else if c=65∨c=83 then rankF q+1 else rankF q+(c.toNat - 48):Nat)):Int)=_
 rw [if_neg h2,if_neg h1];omega
theorem rank_le:∀ {p:Fm},rankF p≤255*(fT p).length
  | .leaf _ _=>Nat.zero_le _
  | .one c vs q=>by
    have h1:=rank_le (p:=q)
    have h2:=c.toNat_lt
    have h3:(fT (.one c vs q)).length=(vs.length+(fT q).length)+1:=by simp [fT]
    unfold rankF
    split
    · omega
    · split <;> omega
  | .two c p q=>by
    have h1:=rank_le (p:=p)
    have h2:=rank_le (p:=q)
    have h3:(fT (.two c p q)).length=((fT p).length+(fT q).length)+1:=by simp [fT]
    unfold rankF
    omega
theorem rank_pa {f:List UInt8} {n e:Nat} {p:Fm} (h:Pa f n p e):rankF p≤255*f.length:=by
 have h1:=parse_text _ (Nat.le_refl _) h.1
 have h2:=congrArg List.length h1
 rw [List.length_append,List.length_drop] at h2
 have h3:=rank_le (p:=p)
 have h4:(fT p).length≤f.length:=by omega
 omega
def rankI (f:List UInt8):Int:=match formO f with | some p=>(rankF p:Int) | none => -1
theorem op_cases {c:UInt8} (h:isOp c=true):c=116∨c=102∨c=80∨c=61∨c=69∨c=33∨c=38∨c=124∨c=65∨c=83∨c=50∨c=51∨c=52:=by
 unfold isOp at h
 rw [decide_eq_true_eq] at h
 simpa only [List.mem_cons,List.not_mem_nil,or_false] using h
theorem one_no_var {c:UInt8} {p:Fm} (h:wfF (.one c [] p)):c=33:=by
 obtain ⟨h1,h2,h3,_⟩:=h
 have h4:arV c=0:=h3.symm
 rcases op_cases h1 with rfl | rfl | rfl | rfl | rfl | rfl | rfl | rfl | rfl | rfl | rfl | rfl | rfl <;> first | rfl | exact absurd h2 (by decide) | exact absurd h4 (by decide)
theorem one_var {c:UInt8} {v:UInt8} {vs:List UInt8} {p:Fm} (h:wfF (.one c (v::vs) p)):(c=65∨c=83∨c=50∨c=51∨c=52)∧vs=[]∧isV v=true:=by
 obtain ⟨h1,h2,h3,h4,_⟩:=h
 have hv:=h4 v (by simp)
 rw [List.length_cons] at h3
 rcases op_cases h1 with rfl | rfl | rfl | rfl | rfl | rfl | rfl | rfl | rfl | rfl | rfl | rfl | rfl <;> first | exact absurd h2 (by decide) | exact absurd h3 (fun e=>by have e':vs.length+1=0:=e;omega) | exact ⟨by simp,List.length_eq_zero_iff.1 (by have:vs.length+1=1:=h3;omega),hv⟩
theorem two_op {c:UInt8} {p q:Fm} (h:wfF (.two c p q)):c=38∨c=124:=by
 obtain ⟨h1,h2,h3,_⟩:=h
 rcases op_cases h1 with rfl | rfl | rfl | rfl | rfl | rfl | rfl | rfl | rfl | rfl | rfl | rfl | rfl <;> first | exact .inl rfl | exact .inr rfl | exact absurd rfl h2 | exact absurd rfl h3
theorem len_two {vs:List UInt8} (h:vs.length=2):∃ v u,vs=[v,u]:=by
 match vs,h with
 | [v,u],_=>exact ⟨v,u,rfl⟩
theorem leaf_op {c:UInt8} {vs:List UInt8} (h:wfF (.leaf c vs)):(c=116∨c=102)∨(c=80∧∃ v,vs=[v])∨((c=61∨c=69)∧∃ v u,vs=[v,u]):=by
  obtain ⟨h1,h2,h3,h4⟩:=h
  rcases op_cases h1 with rfl | rfl | rfl | rfl | rfl | rfl | rfl | rfl | rfl | rfl | rfl | rfl | rfl <;> first | exact absurd h2 (by decide) | skip
  · exact .inl (.inl rfl)
  · exact .inl (.inr rfl)
  · exact .inr (.inl ⟨rfl,List.length_eq_one_iff.1 h3⟩)
  · exact .inr (.inr ⟨.inl rfl,len_two h3⟩)
  · exact .inr (.inr ⟨.inr rfl,len_two h3⟩)
end Go.Wk
namespace Go.Wk
open Go.RowKit
def clsN (q:Nat→Nat→Bool):Nat→List Int×Nat
 | 0=>([],0)
 | x+1=>match (List.range x).find? (fun y=>q y x) with
  | some y=>((clsN q x).1++[(clsN q x).1.getD y 0],(clsN q x).2)
  | none=>((clsN q x).1++[((clsN q x).2:Int)],(clsN q x).2+1)
section
variable {q:Nat→Nat→Bool}
theorem cls_old {x y:Nat} (hy:y<x) (hall:∀ i,i<y→q i x=false) (h:q y x=true):clsN q (x+1)=((clsN q x).1++[(clsN q x).1.getD y 0],(clsN q x).2):=by
 rw [clsN,find_at (f:=fun y=>q y x) hy hall h]
theorem cls_new {x:Nat} (hall:∀ i,i<x→q i x=false):clsN q (x+1)=((clsN q x).1++[((clsN q x).2:Int)],(clsN q x).2+1):=by
 have:(List.range x).find? (fun y=>q y x)=none:=by rw [List.find?_eq_none];intro i hi;rw [hall i (List.mem_range.1 hi)];simp
 rw [clsN,this]
theorem cls_cases (q:Nat→Nat→Bool) (x:Nat):(∃ y,y<x∧(∀ i,i<y→q i x=false)∧q y x=true)∨∀ i,i<x→q i x=false:=by
 cases h:(List.range x).find? (fun y=>q y x) with
 | none=>exact .inr fun i hi=>by simpa using List.find?_eq_none.1 h i (List.mem_range.2 hi)
 | some y =>
  rw [List.find?_range_eq_some] at h
  exact .inl ⟨y,List.mem_range.1 h.2.1,fun i hi=>by simpa using h.2.2 i hi,h.1⟩
theorem cls_length (q:Nat→Nat→Bool):∀ x,(clsN q x).1.length=x
  | 0=>rfl
  | x+1=>by
    rcases cls_cases q x with ⟨y,h1,h2,h3⟩ | h
    · rw [cls_old h1 h2 h3];simp [cls_length q x]
    · rw [cls_new h];simp [cls_length q x]
theorem cls_small (q:Nat→Nat→Bool):∀ x,(clsN q x).2≤x∧∀ m∈(clsN q x).1,0≤m∧m<((clsN q x).2:Int)
  | 0=>⟨Nat.le_refl _,fun m hm=>by cases hm⟩
  | x+1=>by
    obtain ⟨i1,i2⟩:=cls_small q x
    rcases cls_cases q x with ⟨y,h1,h2,h3⟩ | h
    · rw [cls_old h1 h2 h3]
      refine ⟨by dsimp only;omega,fun m hm=>?_⟩
      rcases List.mem_append.1 hm with h4 | h4
      · exact i2 m h4
      · rw [List.mem_singleton.1 h4]
        have hl:=cls_length q x
        rw [getD_at (by omega)];exact i2 _ (List.getElem_mem _)
    · rw [cls_new h]
      refine ⟨by dsimp only;omega,fun m hm=>?_⟩
      rcases List.mem_append.1 hm with h4 | h4
      · have:=i2 m h4;dsimp only;omega
      · rw [List.mem_singleton.1 h4];dsimp only;omega
end
structure SeenL (T:List (List UInt8)) (n:Nat) (a:St) (x:Nat) (S O:List Int):Prop where
 cls:clsN (fun y x=>winB n a [(y:Int)] a [(x:Int)]) x=(O,S.length)
 nodup:S.Nodup
 out:∀ y:Nat,y<x→∃ m k:Nat,Means T n a [(y:Int)] m∧O.getD y 0=(k:Int)∧S[k]?=some (m:Int)
 seen:∀ s∈S,∃ m y:Nat,s=(m:Int)∧y<x∧Means T n a [(y:Int)] m
theorem SeenL.zero {T:List (List UInt8)} {n:Nat} {a:St}:SeenL T n a 0 [] []:=⟨rfl,List.nodup_nil,fun y hy=>absurd hy (by omega),fun s hs=>by cases hs⟩
theorem SeenL.len {T:List (List UInt8)} {n:Nat} {a:St} {x:Nat} {S O:List Int} (h:SeenL T n a x S O):O.length=x∧S.length≤x:=by
 have h1:=cls_length (fun y x=>winB n a [(y:Int)] a [(x:Int)]) x
 have h2:=(cls_small (fun y x=>winB n a [(y:Int)] a [(x:Int)]) x).1
 rw [h.cls] at h1 h2
 exact ⟨h1,h2⟩
end Go.Wk
namespace Go.Wk
open Go.RowKit
section
variable {P:Program} {n:Nat} {C:World→Prop} {B:Nat} {w0:World} {hs hs':List (Nat×Obj)} {N R:Act→World→Prop} {X:List (Nat×(Act→World→Prop))} {e:Env} {ops:Array Oper} {l:List Oper} {o:Oper}
theorem OpQ.indexArr {t el:TypeId} {m:Nat} {x y:Operand} {b:Nat} {k:IntKind} {i:Int} (h:o.op=.indexAddr t x y) (hu:∀ w,(underlying t).run P w=.ok (.array m el) w) (hz:∀ w,(sizeOf el).run P w=.ok 1 w)
  (hx:opd e x=some (.pointer (some ⟨b,0,none⟩))) (hy:opd e y=some (.int k i)) (h0:0≤i) (h1:i<m):OpQ P n C e o (.pointer (some ⟨b,i.toNat,none⟩)):=OpQ.val fun A hF w=>by
 unfold execOp;rw [h];simp only [hF.opd hx,hF.opd hy]
 simp only [Instr.indexAt,Instr.sureAddr,asIntOf,Sem.run_bind,Sem.run_pure,hu,Result.andThen,hz,if_pos (And.intro h0 h1),Addr.add_lit,Nat.mul_one,Nat.zero_add]
theorem OpQ.max2 {x y:Operand} {ts:Array TypeId} {i j:Int} (h:o.op=.call ⟨.builtin .max,#[x,y],ts⟩) (hx:opd e x=some (.int .i64 i)) (hy:opd e y=some (.int .i64 j)):OpQ P n C e o (.int .i64 (if j > i then j else i)):=OpQ.val fun A hF w=>by
  unfold execOp;rw [h]
  simp only [resolve,invoke,BigFrame.builtin_max,List.map_toArray,List.map_cons,List.map_nil,hF.opd hx,hF.opd hy,Sem.run_bind,Sem.run_pure,Result.andThen,Builtin.max_,List.foldlM_cons,List.foldlM_nil,Builtin.max2]
def entM (x:List UInt8×Nat):MapEntry:={ key:=str x.1,val:=.bool true,born:=x.2 }
def mapO (ks:List (List UInt8)):Obj:=.map ((ks.zipIdx.map entM).toArray) ks.length
def addK (ks:List (List UInt8)) (s:List UInt8):List (List UInt8):=if s∈ks then ks else ks++[s]
theorem Own.setObj {w:World} (h:Own B w0 hs w) {i p:Nat} {u:Obj} (hi:hs[i]?=some (p,u)) (u':Obj):Own B w0 (hs.set i (p,u')) { w with heap:=w.heap.setIfInBounds p u' }:=by
  obtain ⟨hB,hp⟩:=h.has i p u hi
  obtain ⟨hh,hne⟩:=MapKept.heap_set (o':=u') hp
  have hil:i<hs.length:=(List.getElem?_eq_some_iff.1 hi).1
  refine Own.of_mem ⟨h.below.os,h.below.tape,h.below.output,by have:=h.below.size;simpa using this,fun k hk=>?_⟩ (by have:=h.base;simpa using this) (fun x hx=>?_) ?_
  · have:=h.below.block k hk
    rw [← this];exact hne k (by omega)
  · obtain ⟨j,hj⟩:=List.mem_iff_getElem?.1 hx
    rw [List.getElem?_set] at hj
    split at hj
    · rename_i e1;subst e1
      injection hj with hj;subst hj
      exact ⟨hB,hh⟩
    · rename_i e1
      obtain ⟨h1,h2⟩:=h.has j x.1 x.2 hj
      exact ⟨h1,by rw [← h2];exact hne _ (fun e2=>h.apart j i x.1 x.2 p u hj hi (fun e3=>e1 e3.symm) e2)⟩
  · have:(hs.set i (p,u')).map Prod.fst=hs.map Prod.fst:=by
      rw [List.map_set]
      refine set_same ?_
      rw [List.getElem?_map,hi];rfl
    rw [this];exact h.nodup
theorem Ll.makeMap {d t:Nat} (hd:Nat.blt d n=true) (hdst:o.dst=some d) (hg:wantE ops e o.guard=some true) (h:o.op=.makeMap t none)
  (k:∀ p,B≤p→Ll P n (Own B w0 ((p,mapO [])::hs)) ops l ((d,.map (some p))::e) N R X):Ll P n (Own B w0 hs) ops (o::l) e N R X :=
 Ll.turn hd hdst hg fun a w hF hw=>⟨.map (some w.heap.size),w.alloc (mapO []),by
  unfold execOp;rw [h];rfl,fun a' ha=>by
  have:=k _ hw.base
  unfold Ll at this
  exact this a' _ ha (hw.alloc _)⟩
end
structure RR where
 g:Nat
 cap:Nat
 cur:Array Value
 xs:List Int
def rd:RR:=⟨0,0,#[],[]⟩
def rv (r:RR):Value:=.slice (some ⟨r.g,0,none⟩) r.xs.length r.cap
structure RR.Ok (r:RR):Prop where
 size:r.cur.size=r.cap*1
 len:r.xs.length≤r.cap
 vals:r.cur.toList.take r.xs.length=ints r.xs
def rvs (rr:List RR):List Value:=rr.map rv
@[simp] theorem rvs_length (rr:List RR):(rvs rr).length=rr.length:=by simp [rvs]
theorem rvs_at {rr:List RR} {i:Nat} (h:i<rr.length):(rvs rr)[i]?=some (rv (rr.getD i rd)):=by
 rw [rvs,List.getElem?_map,List.getElem?_eq_getElem h,getD_at h];rfl
section
variable {B:Nat} {w0:World} {hs:List (Nat×Obj)}
end
structure RowsOk (rr:List RR) (u:Array Value) (c:Nat):Prop where
 size:u.size=c*1
 len:rr.length≤c
 vals:u.toList.take rr.length=rvs rr
 ok:∀ r∈rr,r.Ok
theorem RowsOk.nil:RowsOk [] #[] 0:=⟨rfl,Nat.le_refl 0,rfl,fun r hr=>by cases hr⟩
theorem RowsOk.one (p:Nat):RowsOk [⟨p,0,#[],[]⟩] #[.slice (some ⟨p,0,none⟩) 0 0] 1:=⟨rfl,Nat.le_refl 1,rfl,fun r hr=>by rw [List.mem_singleton.1 hr];exact ⟨rfl,Nat.le_refl 0,rfl⟩⟩
theorem RowsOk.add {rr:List RR} {u u':Array Value} {c c':Nat} {r:RR} (h:RowsOk rr u c) (hr:r.Ok) (hs:u'.size=c'*1) (hl:rr.length+1≤c') (hv:u'.toList.take ((rr.length+1)*1)=u.toList.take (rr.length*1)++[rv r]):RowsOk (rr++[r]) u' c':=by
  refine ⟨hs,by simpa using hl,?_,fun x hx=>?_⟩
  · have h1:=h.vals
    rw [Nat.mul_one,Nat.mul_one,h1] at hv
    rw [List.length_append,List.length_singleton,hv];simp [rvs]
  · rcases List.mem_append.1 hx with h1 | h1
    · exact h.ok x h1
    · rw [List.mem_singleton.1 h1];exact hr
def pointL (size:Nat):Nat→Nat→List Int
 | 0,_=>[]
 | w+1,k=>pointL size w (k / size)++[((k % size:Nat):Int)]
@[simp] theorem pointL_length (size:Nat):∀ w k,(pointL size w k).length=w
 | 0,_=>rfl
 | w+1,k=>by simp [pointL,pointL_length size w]
def dedup (l:List (List UInt8)):List (List UInt8):=l.foldl addK []
theorem dedup_step {l:List (List UInt8)} {i:Nat} (h:i<l.length):dedup (l.take (i+1))=addK (dedup (l.take i)) (l.getD i []):=by
 rw [List.take_succ_eq_append_getElem h,dedup,List.foldl_append,getD_at h];rfl
theorem addK_len (ks:List (List UInt8)) (s:List UInt8):(addK ks s).length≤ks.length+1:=by unfold addK;split <;> simp
theorem dedup_len:∀ (l:List (List UInt8)) (ks:List (List UInt8)),(l.foldl addK ks).length≤ks.length+l.length
 | [],ks=>by simp
 | s::l,ks=>by
  have h1:=dedup_len l (addK ks s)
  have h2:=addK_len ks s
  rw [List.foldl_cons,List.length_cons];omega
end Go.Wk
namespace Go.Wk
open Go.RowKit
def seenI (l:List (List UInt8)) (s:List UInt8):Int:=if s∈l then ((l.findIdx fun t=>t==s:Nat):Int) else -1
theorem seenI_at {l:List (List UInt8)} {s:List UInt8} {k:Nat} (hk:k<l.length) (hall:∀ i:Nat,i<k→(l.getD i []==s)=false) (h:(l.getD k []==s)=true):seenI l s=k:=by
 have hm:s∈l:=by
  have:l.getD k []=s:=by simpa using h
  rw [← this,getD_at hk];exact List.getElem_mem _
 unfold seenI
 rw [if_pos hm]
 congr 1
 refine List.findIdx_eq hk |>.2 ⟨by rw [getD_at hk] at h;exact h,fun j hj=>?_⟩
 have:=hall j hj
 rw [getD_at (by omega)] at this;exact this
theorem seenI_no {l:List (List UInt8)} {s:List UInt8} (hall:∀ i:Nat,i<l.length→(l.getD i []==s)=false):seenI l s = -1:=by
 unfold seenI
 rw [if_neg fun hm=>?_]
 obtain ⟨i,hi,e⟩:=List.mem_iff_getElem.1 hm
 have:=hall i hi
 rw [getD_at hi,e] at this
 simp at this
theorem seenI_neg {l:List (List UInt8)} {s:List UInt8}:seenI l s<0↔s ∉ l:=by
  unfold seenI
  split
  · rename_i h;simp [h]
  · rename_i h;simp [h]
theorem addK_new {ks:List (List UInt8)} {s:List UInt8} (h:s ∉ ks):addK ks s=ks++[s]:=by unfold addK;rw [if_neg h]
theorem addK_old {ks:List (List UInt8)} {s:List UInt8} (h:¬ s ∉ ks):addK ks s=ks:=by unfold addK;rw [if_pos (by simpa using h)]
theorem dedup_take (l:List (List UInt8)) (k:Nat):(dedup (l.take k)).length≤k:=by
 have:=dedup_len (l.take k) []
 rw [List.length_take,List.length_nil] at this
 unfold dedup;omega
end Go.Wk
namespace Go.Wk
open Go.RowKit
theorem insS_mem {l:List Int} {n:Int} (h:l.Pairwise (·<·)) (hn:n∈l):insS l n=l :=
  sorted_ext (sorted_insS h) h fun x=>by rw [mem_insS];constructor;rintro (rfl | h1);exact hn;exact h1;exact .inr
theorem insS_new {n:Int}:∀ {l:List Int},n ∉ l→(insS l n).length=l.length+1
  | [],_=>rfl
  | x::l,h=>by
    have h1:x ≠ n:=fun e=>h (by simp [e])
    have h2:n ∉ l:=fun e=>h (by simp [e])
    unfold insS
    rw [if_neg h1]
    split
    · rfl
    · rw [List.length_cons,insS_new h2,List.length_cons]
theorem cls_same {q:Nat→Nat→Bool} {k y:Nat} (hy:y<k) (h:q y k=true):(clsN q (k+1)).2=(clsN q k).2:=by
  rcases cls_cases q k with ⟨z,h1,h2,h3⟩ | hno
  · rw [cls_old h1 h2 h3]
  · rw [hno y hy] at h;cases h
theorem cls_more {q:Nat→Nat→Bool} {k:Nat} (h:∀ y,y<k→q y k=false):(clsN q (k+1)).2=(clsN q k).2+1:=by rw [cls_new h]
def qP (a:St) (r w:Nat) (y x:Nat):Bool:=winB r a (pointL a.n.toNat w y) a (pointL a.n.toNat w x)
structure CountL (T:List (List UInt8)) (r:Nat) (a:St) (w k:Nat) (S:List Int):Prop where
  cls:(clsN (qP a r w) k).2=S.length
  sorted:S.Pairwise (·<·)
  all:∀ y:Nat,y<k→∃ i:Nat,(i:Int)∈S∧Means T r a (pointL a.n.toNat w y) i
  only:∀ m∈S,∃ i y:Nat,m=i∧y<k∧Means T r a (pointL a.n.toNat w y) i
theorem CountL.zero {T:List (List UInt8)} {r:Nat} {a:St} {w:Nat}:CountL T r a w 0 []:=⟨rfl,List.Pairwise.nil,fun y hy=>absurd hy (by omega),fun m hm=>by cases hm⟩
theorem CountL.len {T:List (List UInt8)} {r:Nat} {a:St} {w k:Nat} {S:List Int} (h:CountL T r a w k S):S.length≤k:=by rw [← h.cls];exact (cls_small _ k).1
theorem CountL.step {T T':List (List UInt8)} {r:Nat} {a:St} {w k i:Nat} {S:List Int} (h:CountL T r a w k S) (hp:T <+: T') (hT:T'.Nodup) (hm:Means T' r a (pointL a.n.toNat w k) i):CountL T' r a w (k+1) (insS S (i:Int)):=by
  have heq:∀ (y j:Nat),Means T' r a (pointL a.n.toNat w y) j→(j=i↔qP a r w y k=true):=fun y j hj=>by
    unfold qP
    rw [means_win hT r a (pointL a.n.toNat w y) a (pointL a.n.toNat w k) j i (by simp) hj hm,win_iff r a (pointL a.n.toNat w y) a (pointL a.n.toNat w k) (by simp)]
  refine ⟨?_,sorted_insS h.sorted,fun y hy=>?_,fun m hmem=>?_⟩
  · by_cases hi:(i:Int)∈S
    · rw [insS_mem h.sorted hi,← h.cls]
      obtain ⟨j,y,e,hy,hM⟩:=h.only _ hi
      obtain rfl:i=j:=by omega
      exact cls_same hy ((heq y i (hM.mono hp _ _ _ _)).1 rfl)
    · rw [insS_new hi,← h.cls]
      refine cls_more fun y hy=>?_
      cases hq:qP a r w y k with
      | false=>rfl
      | true =>
        obtain ⟨j,hj,hM⟩:=h.all y hy
        have:=(heq y j (hM.mono hp _ _ _ _)).2 hq
        subst this
        exact absurd hj hi
  · rcases Nat.lt_or_ge y k with h1 | h1
    · obtain ⟨j,hj,hM⟩:=h.all y h1
      exact ⟨j,mem_insS.2 (.inr hj),hM.mono hp _ _ _ _⟩
    · obtain rfl:y=k:=by omega
      exact ⟨i,mem_insS.2 (.inl rfl),hm⟩
  · rcases mem_insS.1 hmem with h1 | h1
    · exact ⟨i,k,h1,by omega,hm⟩
    · obtain ⟨j,y,e,hy,hM⟩:=h.only m h1
      exact ⟨j,y,e,by omega,hM.mono hp _ _ _ _⟩
end Go.Wk
namespace Go.Wk
open Go.RowKit
theorem St.Tame.small {a:St} (h:a.Tame):a.Small:=⟨by have:=h.set;omega,by have:=h.rel;omega⟩
end Go.Wk
namespace Go.Wk
open Go.RowKit
theorem listB_of {a:St} {xs:List Int} (hv:validB a=true) (he:a.Els xs) (hl:xs.length≤4):listB a xs=true:=by
 unfold listB
 simp only [Bool.and_eq_true,decide_eq_true_eq]
 exact ⟨⟨hv,by omega⟩,List.all_eq_true.2 fun x hx=>elB_true.2 (he x hx)⟩
theorem listsB_of {a b:St} {xs ys:List Int} (ha:listB a xs=true) (hb:listB b ys=true) (hl:xs.length=ys.length):listsB a xs b ys=true:=by
 unfold listsB
 simp only [Bool.and_eq_true,decide_eq_true_eq]
 exact ⟨⟨ha,hb⟩,by omega⟩
theorem secB_true {a b:St} {xs ys:List Int} {r:Int} (h:listsB a xs b ys=true) (h0:0≤r) (h3:r≤3):secB a xs b ys r=winB r.toNat a xs b ys:=by
 unfold secB gameB inB
 simp [h,h0,h3]
end Go.Wk
namespace Go.Wk
open Go.RowKit
section
variable {τ:Type}
def shLoop (f:Nat→τ→τ×Bool):Nat→τ→τ×Bool
 | 0,t=>(t,true)
 | k+1,t=>if (shLoop f k t).2 then f k (shLoop f k t).1 else shLoop f k t
def shF (a b:St) (go:List Int→τ→τ×Bool) (os:List Int) (x:Nat) (t:τ):τ×Bool :=
 if stillB a os b (upto os.length) (x:Int) os.length then go (os++[(x:Int)]) t else (t,true)
def shS (a b:St) (step:List Int→τ→τ×Bool):Nat→List Int→τ→τ×Bool
 | 0,os,t=>step os t
 | m+1,os,t=>shLoop (shF a b (shS a b step m) os) a.n.toNat t
theorem shLoop_stop {f:Nat→τ→τ×Bool} {k:Nat} {t:τ} (h:(shLoop f k t).2=false):∀ n,k≤n→shLoop f n t=shLoop f k t:=fun n=>by
  induction n with
  | zero=>intro hn;rw [show k=0 from by omega]
  | succ n ih =>
    intro hn
    rcases Nat.lt_or_ge n k with h1 | h1
    · rw [show k=n+1 from by omega]
    · have:=ih h1
      rw [shLoop,this,h];rfl
theorem shLoop_step {f:Nat→τ→τ×Bool} {k:Nat} {t u:τ} (h:shLoop f k t=(u,true)):shLoop f (k+1) t=f k u:=by
 rw [shLoop,h];rfl
end
def placedB (a b:St) (os:List Int) (x:Int):Bool :=
 ((a.inSet x==b.inSet os.length)&&(a.inRel x x==b.inRel os.length os.length))&&(List.range os.length).all fun k=>(a.inRel x (os.getD k 0)==b.inRel os.length k)&&(a.inRel (os.getD k 0) x==b.inRel k os.length)
theorem upto_at {n k:Nat} (h:k<n):(upto n).getD k 0=k:=by
 unfold upto
 rw [List.getD_eq_getElem?_getD,List.getElem?_map,List.getElem?_range h];rfl
theorem still_placed (a b:St) (os:List Int) (x:Int):stillB a os b (upto os.length) x os.length=(!decide (x∈os)&&placedB a b os x):=by
  rw [Bool.eq_iff_iff,stillB_true (by simp),Bool.and_eq_true,Bool.not_eq_true',decide_eq_false_iff_not]
  unfold placedB
  rw [Bool.and_eq_true,Bool.and_eq_true,beq_iff_eq,beq_iff_eq,List.all_eq_true]
  constructor
  · rintro ⟨h1,h2,h3⟩
    refine ⟨fun hx=>?_,⟨h1,h2⟩,fun k hk=>?_⟩
    · obtain ⟨k,hk,e⟩:=List.mem_iff_getElem.1 hx
      have h4:=(pairOk_true.1 (h3 k hk)).1
      rw [upto_at hk,decide_eq_decide,getD_at hk] at h4
      have:=h4.1 e
      omega
    · have hk':=List.mem_range.1 hk
      have h4:=pairOk_true.1 (h3 k hk')
      rw [upto_at hk'] at h4
      rw [Bool.and_eq_true,beq_iff_eq,beq_iff_eq]
      exact ⟨h4.2.2,h4.2.1⟩
  · rintro ⟨h0,⟨h1,h2⟩,h3⟩
    refine ⟨h1,h2,fun k hk=>pairOk_true.2 ?_⟩
    have h4:=h3 k (List.mem_range.2 hk)
    rw [Bool.and_eq_true,beq_iff_eq,beq_iff_eq] at h4
    rw [upto_at hk]
    refine ⟨decide_eq_decide.2 ⟨fun e=>?_,fun e=>by omega⟩,h4.2,h4.1⟩
    exact absurd (by rw [← e,getD_at hk];exact List.getElem_mem _) h0
theorem placed_no {a b:St} {os:List Int} {x:Int} {k:Nat} (hk:k<os.length) (h:(a.inRel x (os.getD k 0) != b.inRel os.length k)=true∨(a.inRel (os.getD k 0) x != b.inRel k os.length)=true):placedB a b os x=false:=by
  cases hp:placedB a b os x with
  | false=>rfl
  | true =>
    unfold placedB at hp
    rw [Bool.and_eq_true,List.all_eq_true] at hp
    have h4:=hp.2 k (List.mem_range.2 hk)
    rw [Bool.and_eq_true,beq_iff_eq,beq_iff_eq] at h4
    rcases h with h | h
    · rw [h4.1] at h;simp at h
    · rw [h4.2] at h;simp at h
theorem placed_head {a b:St} {os:List Int} {x:Int} (h:(a.inSet x != b.inSet os.length)=true∨(a.inRel x x != b.inRel os.length os.length)=true):placedB a b os x=false:=by
  unfold placedB
  rcases h with h | h
  · rw [show (a.inSet x==b.inSet os.length)=false from by simpa using h];rfl
  · rw [show (a.inRel x x==b.inRel os.length os.length)=false from by simpa using h];simp
theorem placed_yes {a b:St} {os:List Int} {x:Int} (h1:(a.inSet x != b.inSet os.length)=false) (h2:(a.inRel x x != b.inRel os.length os.length)=false)
  (h3:∀ k:Nat,k<os.length→(a.inRel x (os.getD k 0) != b.inRel os.length k)=false∧(a.inRel (os.getD k 0) x != b.inRel k os.length)=false):placedB a b os x=true:=by
 unfold placedB
 rw [Bool.and_eq_true,Bool.and_eq_true,List.all_eq_true]
 refine ⟨⟨by simpa using h1,by simpa using h2⟩,fun k hk=>?_⟩
 have:=h3 k (List.mem_range.1 hk)
 rw [Bool.and_eq_true]
 exact ⟨by simpa using this.1,by simpa using this.2⟩
theorem same_grown {a b:St} {os:List Int} {x:Int} (h:sameB a os b (upto os.length)=true) (h2:stillB a os b (upto os.length) x os.length=true):sameB a (os++[x]) b (upto (os++[x]).length)=true:=by
 rw [List.length_append,List.length_singleton,upto_succ,same_more (by simp),h,h2];rfl
theorem has_idx (xs:List Int) (y:Int):decide (0≤idxI xs fun z=>decide (y=z))=decide (y∈xs):=by
  rw [idxI_any,Bool.eq_iff_iff,decide_eq_true_iff,List.any_eq_true]
  constructor
  · rintro ⟨z,hz,e⟩;rw [of_decide_eq_true e];exact hz
  · exact fun h=>⟨y,h,decide_eq_true rfl⟩
section
variable {P:Program} {n:Nat} {B:Nat} {w0:World} {hs:List (Nat×Obj)} {N R:Act→World→Prop} {X:List (Nat×(Act→World→Prop))} {e:Env} {ops:Array Oper} {l:List Oper} {o:Oper}
theorem Ll.callFnGet {σ:Type} {ok:σ→Prop} {v:σ→Value} {hs':σ→List (Nat×Obj)} {d:Nat} {f:FuncId} {c:Operand} {captured:Array Value} {xs:List Operand} {ts:Array TypeId} {vs:List Value} (hd:Nat.blt d n=true) (hdst:o.dst=some d) (hg:wantE ops e o.guard=some true) (h:o.op=.call ⟨.value c,xs.toArray,ts⟩)
  (hcl:opd e c=some (.func (.func f) #[] captured)) (hcf:∀ args w,(callFunc f args).run P w=.ok (.enter f args) w) (hx:opds e xs=some vs)
  (hc:∀ w,Own B w0 hs w→Calls P f (vs.toArray++captured) w fun en w'=>∃ s,en=.returned (v s)∧ok s∧Own B w0 (hs' s) w')
  (k:∀ s,ok s→Ll P n (Own B w0 (hs' s)) ops l ((d,v s)::e) N R X):Ll P n (Own B w0 hs) ops (o::l) e N R X :=
 Ll.callFn hd hdst hg h hcl hcf hx fun w hw=>(hc w hw).mono fun en w' ⟨s,h1,h2,h3⟩=>⟨v s,h1,fun a' ha=>by
  have:=k s h2
  unfold Ll at this
  exact this a' w' ha h3⟩
end
def Tells (P:Program) (tf:FuncId) (tcap:Array Value) (a b:St) (B:Nat) (w0:World) {τ α:Type} (D:τ→α→List (Nat×Obj)) (okD:τ→α→Prop) (step:List Int→τ→τ×Bool):Prop :=
 ∀ (fr:List (Nat×Obj)) (v:Value) (os:List Int) (t:τ) (al:α) (w:World),okD t al→(∀ w,Own B w0 fr w→Ints w v os)→(os.length:Int)=a.n→sameB a os b (upto os.length)=true→a.Els os→Own B w0 (fr++D t al) w →
  Calls P tf (#[v]++tcap) w fun en w'=>∃ al':α,en=.returned (.bool (step os t).2)∧okD (step os t).1 al'∧Own B w0 (fr++D (step os t).1 al') w'
section
variable {P:Program} {n:Nat} {C:World→Prop} {e:Env} {o:Oper}
theorem OpQ.neNilS {t t' el:TypeId} {x y:Operand} {a:Option Addr} {l c:Nat} (h:o.op=.binOp .neq t x y t') (hu:P.underlying t=some (.slice el)) (hx:opd e x=some (.slice a l c)) (hy:opd e y=some (.slice none 0 0)):OpQ P n C e o (.bool (!a.isNone)):=OpQ.val fun A hf w=>by
 unfold execOp;rw [h];simp only [hf.opd hx,hf.opd hy]
 rw [show eqGuard .neq t x y (Value.slice a l c) (Value.slice none 0 0)=pure () from rfl]
 simp only [Sem.run_bind,run_neq_slice_nil w t el a l c hu,Sem.run_pure,Result.andThen]
end
def fndV (o:Option (List Int)) (al:Nat×Nat):Value:=.slice (o.map fun _=>(⟨al.1,0,none⟩:Addr)) ((o.map List.length).getD 0) ((o.map fun _=>al.2).getD 0)
def keepStep (os:List Int) (_:Option (List Int)):Option (List Int)×Bool:=(some os,false)
def Shaped (a b:St):Prop:=a.n=b.n∧a.Fine∧b.Fine∧∃ os:List Int,(os.length:Int)=a.n∧a.Els os∧sameB a os b (upto os.length)=true
theorem keep_some {a b:St} (ha:a.Fine):∀ (m:Nat) (os:List Int),os.length+m=a.n.toNat→a.Els os→sameB a os b (upto os.length)=true →
    shS a b keepStep m os none=(none,true)∨∃ zs:List Int,shS a b keepStep m os none=(some zs,false)∧(zs.length:Int)=a.n∧a.Els zs∧sameB a zs b (upto zs.length)=true
  | 0,os,h,hA,hs=>.inr ⟨os,rfl,by have:=ha.lo;omega,hA,hs⟩
  | m+1,os,h,hA,hs=>by
    have key:∀ k:Nat,k≤a.n.toNat→shLoop (shF a b (shS a b keepStep m) os) k none=(none,true)∨∃ zs:List Int,shLoop (shF a b (shS a b keepStep m) os) k none=(some zs,false)∧(zs.length:Int)=a.n∧a.Els zs∧sameB a zs b (upto zs.length)=true:=fun k=>by
      induction k with
      | zero=>exact fun _=>.inl rfl
      | succ k ih =>
        intro hk
        rcases ih (by omega) with h1 | ⟨zs,h1,h2⟩
        · rw [shLoop_step h1]
          unfold shF
          split
          · rename_i hst
            exact keep_some ha m (os++[(k:Int)]) (by simp;omega) (els_more hA ⟨by omega,by omega⟩) (same_grown hs hst)
          · exact .inl rfl
        · refine .inr ⟨zs,?_,h2⟩
          rw [shLoop_stop (k:=k) (by rw [h1]) (k+1) (by omega),h1]
    exact key a.n.toNat (Nat.le_refl _)
theorem keep_shaped {a b:St} (ha:a.Fine) (hb:b.Fine) {al:Nat×Nat} (h:(!((shS a b keepStep a.n.toNat [] none).1.map fun _=>(⟨al.1,0,none⟩:Addr)).isNone)=true) (hn:a.n=b.n):Shaped a b:=by
  rcases keep_some (b:=b) ha a.n.toNat [] (by simp) (fun x hx=>by cases hx) rfl with h1 | ⟨zs,_,h2,h3,h4⟩
  · rw [h1] at h;simp at h
  · exact ⟨hn,ha,hb,zs,h2,h3,h4⟩
theorem nodup_le:∀ (m:Nat) (l:List Int),l.Nodup→(∀ x∈l,0≤x∧x<(m:Int))→l.length≤m
  | 0,l,_,h=>by
    cases l with
    | nil=>exact Nat.le_refl _
    | cons x l=>have:=h x (by simp);omega
  | m+1,l,hd,h=>by
    by_cases hm:(m:Int)∈l
    · have h1:=nodup_le m (l.erase (m:Int)) (hd.erase _) fun x hx=>by
        obtain ⟨h2,h3⟩:=(hd.mem_erase_iff).1 hx
        have:=h x h3
        omega
      rw [List.length_erase_of_mem hm] at h1
      omega
    · have:=nodup_le m l hd fun x hx=>by
        have h1:=h x hx
        have h2:x ≠ (m:Int):=fun e=>hm (e ▸ hx)
        omega
      omega
theorem shaped_at {a b:St} {os:List Int} (h:sameB a os b (upto os.length)=true) {i j:Nat} (hi:i<os.length) (hj:j<os.length) :
    a.inSet (os.getD i 0)=b.inSet i∧(os.getD i 0=os.getD j 0↔i=j)∧a.inRel (os.getD i 0) (os.getD j 0)=b.inRel i j:=by
  have key:∀ {i:Nat},i<os.length→a.inSet (os.getD i 0)=b.inSet i∧a.inRel (os.getD i 0) (os.getD i 0)=b.inRel i i∧∀ k:Nat,k<i→pairOk a b (os.getD i 0) i (os.getD k 0) k=true:=fun {i} hi=>by
    unfold sameB at h
    have h1:=List.all_eq_true.1 h i (List.mem_range.2 hi)
    unfold stillAt at h1
    obtain ⟨h2,h3,h4⟩:=(stillB_true (by simp)).1 h1
    rw [upto_at hi] at h2 h3
    refine ⟨h2,h3,fun k hk=>?_⟩
    have h5:=h4 k (by rw [List.length_take];omega)
    rw [upto_at hi] at h5
    rw [show ((os.take i).getD k 0)=os.getD k 0 from take_getD hk,show ((upto os.length).take i).getD k 0=(upto os.length).getD k 0 from take_getD hk,upto_at (by omega)] at h5
    exact h5
  refine ⟨(key hi).1,?_,?_⟩
  · rcases Nat.lt_trichotomy i j with h1 | h1 | h1
    · have:=(pairOk_true.1 ((key hj).2.2 i h1)).1
      rw [decide_eq_decide] at this
      rw [this];omega
    · subst h1;simp
    · have:=(pairOk_true.1 ((key hi).2.2 j h1)).1
      rw [decide_eq_decide] at this
      rw [eq_comm,this];omega
  · rcases Nat.lt_trichotomy i j with h1 | h1 | h1
    · exact (pairOk_true.1 ((key hj).2.2 i h1)).2.1
    · subst h1;exact (key hi).2.1
    · exact (pairOk_true.1 ((key hi).2.2 j h1)).2.2
theorem shaped_onto {a b:St} {os:List Int} (hl:(os.length:Int)=a.n) (hA:a.Els os) (h:sameB a os b (upto os.length)=true) {x:Int} (hx:a.El x):∃ i:Nat,i<os.length∧os.getD i 0=x:=by
  by_cases hm:x∈os
  · obtain ⟨i,hi,e⟩:=List.mem_iff_getElem.1 hm
    exact ⟨i,hi,by rw [getD_at hi];exact e⟩
  · exfalso
    have hd:os.Nodup:=by
      rw [List.nodup_iff_pairwise_ne,List.pairwise_iff_getElem]
      intro i j hi hj hij e
      have:=(shaped_at h hi hj).2.1.1 (by rw [getD_at hi,getD_at hj];exact e)
      omega
    have:=nodup_le os.length (x::os) (List.nodup_cons.2 ⟨hm,hd⟩) fun y hy=>by
      rcases List.mem_cons.1 hy with rfl | hy
      · exact ⟨hx.1,by have:=hx.2;omega⟩
      · exact ⟨(hA y hy).1,by have:=(hA y hy).2;omega⟩
    rw [List.length_cons] at this;omega
end Go.Wk
namespace Go.Wk
open Go.RowKit
theorem sec_of {a b:St} {xs ys:List Int} {r:Int} (h:listsB a xs b ys=true) (h0:0≤r) (h3:r≤3):secB a xs b ys r=true↔winP r.toNat a xs b ys:=by
 rw [secB_true h h0 h3,win_iff _ _ _ _ _ (listsB_true h).2.2]
section
variable {a b:St} {xs ys:List Int} {r:Int}
end
end Go.Wk
namespace Go.Wk
open Go.RowKit
theorem mem_addK {ks:List (List UInt8)} {s t:List UInt8}:t∈addK ks s↔t∈ks∨t=s:=by
  unfold addK
  split
  · rename_i h;exact ⟨.inl,fun h2=>h2.elim id (fun e=>e ▸ h)⟩
  · simp
theorem addK_nodup {ks:List (List UInt8)} {s:List UInt8} (h:ks.Nodup):(addK ks s).Nodup:=by
  unfold addK
  split
  · exact h
  · rename_i h1
    rw [List.nodup_append]
    exact ⟨h,by simp,fun z hz y hy e=>h1 (by rw [List.mem_singleton.1 hy] at e;exact e ▸ hz)⟩
theorem dedup_fold:∀ (l ks:List (List UInt8)),(∀ t,t∈l.foldl addK ks↔t∈ks∨t∈l)∧(ks.Nodup→(l.foldl addK ks).Nodup)
 | [],ks=>⟨fun t=>by simp,id⟩
 | s::l,ks=>by
  obtain ⟨h1,h2⟩:=dedup_fold l (addK ks s)
  refine ⟨fun t=>?_,fun h=>h2 (addK_nodup h)⟩
  rw [List.foldl_cons,h1,mem_addK,List.mem_cons,or_assoc]
theorem mem_dedup {l:List (List UInt8)} {t:List UInt8}:t∈dedup l↔t∈l:=by
 unfold dedup;rw [(dedup_fold l []).1];simp
theorem map_app_iff {l m l' m':List (List UInt8×Bool)} (h:l.length=m.length):(l++l').map Prod.snd=(m++m').map Prod.snd↔l.map Prod.snd=m.map Prod.snd∧l'.map Prod.snd=m'.map Prod.snd:=by
 rw [List.map_append,List.map_append]
 exact ⟨fun h2=>List.append_inj h2 (by simpa using h),fun ⟨h2,h3⟩=>by rw [h2,h3]⟩
theorem more_iff {a b:St} {xs ys:List Int} {i:Nat}:∀ k:Nat,(moreL a xs i k).map Prod.snd=(moreL b ys i k).map Prod.snd↔∀ j:Nat,j<k→pairOk a b (xs.getD i 0) (ys.getD i 0) (xs.getD j 0) (ys.getD j 0)=true
  | 0=>by simp [moreL]
  | k+1=>by
    unfold moreL
    rw [map_app_iff (by simp),more_iff k]
    constructor
    · rintro ⟨h1,h2⟩ j hj
      rcases Nat.lt_or_ge j k with h3 | h3
      · exact h1 j h3
      · obtain rfl:j=k:=by omega
        refine pairOk_true.2 ?_
        simpa using h2
    · intro h
      refine ⟨fun j hj=>h j (by omega),?_⟩
      have:=pairOk_true.1 (h k (by omega))
      simpa using this
theorem facts_iff {a b:St} {xs ys:List Int} (hl:xs.length=ys.length):∀ n:Nat,n≤xs.length→((factsL a xs n).map Prod.snd=(factsL b ys n).map Prod.snd↔∀ i:Nat,i<n→stillAt a xs b ys i=true)
  | 0,_=>by simp [factsL]
  | n+1,hn=>by
    have hfl:∀ (a b:St) (xs ys:List Int) (n:Nat),(factsL a xs n).length=(factsL b ys n).length:=fun a b xs ys n=>by
      induction n with
      | zero=>rfl
      | succ n ih=>simp [factsL,ih]
    have ih:=facts_iff hl n (by omega) (a:=a) (b:=b)
    have key:(factL a xs n).map Prod.snd=(factL b ys n).map Prod.snd↔stillAt a xs b ys n=true:=by
      unfold factL stillAt
      rw [map_app_iff (by simp),more_iff,stillB_true (by simp [hl])]
      have e:((headL a xs n).map Prod.snd=(headL b ys n).map Prod.snd)↔a.inSet (xs.getD n 0)=b.inSet (ys.getD n 0)∧a.inRel (xs.getD n 0) (xs.getD n 0)=b.inRel (ys.getD n 0) (ys.getD n 0):=by simp [headL]
      rw [e,and_assoc]
      refine and_congr_right fun _=>and_congr_right fun _=>?_
      rw [List.length_take,Nat.min_eq_left (by omega)]
      exact ⟨fun h k hk=>by rw [take_getD hk,take_getD hk];exact h k hk,fun h k hk=>by have:=h k hk;rwa [take_getD hk,take_getD hk] at this⟩
    unfold factsL
    rw [map_app_iff (hfl a b xs ys n),ih,key]
    exact ⟨fun ⟨h1,h2⟩ i hi=>by
      rcases Nat.lt_or_ge i n with h3 | h3
      · exact h1 i h3
      · rw [show i=n from by omega];exact h2,fun h=>⟨fun i hi=>h i (by omega),h n (by omega)⟩⟩
end Go.Wk
namespace Go.Wk
open Go.RowKit
def pW:Nat→St→List Int→St→List Int→Prop
 | 0,a,xs,b,ys=>(∀ i:Nat,i<xs.length→(xs.getD i 0<0↔ys.getD i 0<0))∧sameB a (placed xs xs.length) b (placed ys ys.length)=true
 | n+1,a,xs,b,ys=>pW n a xs b ys∧∀ i:Nat,i<xs.length→(∀ x:Nat,x<a.n.toNat→∃ y:Nat,y<b.n.toNat∧pW n a (xs.set i (x:Int)) b (ys.set i (y:Int))) ∧
   (∀ y:Nat,y<b.n.toNat→∃ x:Nat,x<a.n.toNat∧pW n a (xs.set i (x:Int)) b (ys.set i (y:Int)))
def idxP (size:Nat) (xs:List Int):Nat:=xs.foldl (fun n x=>n*(size+1)+(x+1).toNat) 0
def atP (size:Nat):Nat→Nat→List Int
 | 0,_=>[]
 | k+1,n=>atP size k (n / (size+1))++[((n % (size+1):Nat):Int) - 1]
def Peb (size k:Nat) (xs:List Int):Prop:=xs.length=k∧∀ x∈xs,-1≤x∧x<(size:Int)
@[simp] theorem atP_len (size:Nat):∀ k n,(atP size k n).length=k
 | 0,_=>rfl
 | k+1,n=>by simp [atP,atP_len size k]
theorem peb_set {size k i:Nat} {xs:List Int} (h:Peb size k xs) {x:Nat} (hx:x<size):Peb size k (xs.set i (x:Int)):=by
  refine ⟨by rw [List.length_set];exact h.1,fun y hy=>?_⟩
  rcases List.mem_or_eq_of_mem_set hy with h1 | h1
  · exact h.2 y h1
  · rw [h1];omega
def numP (size:Nat) (R:List Int) (xs:List Int):Int:=R.getD (idxP size xs) 0
structure GoodP (n k:Nat) (a b:St) (Ra Rb:List Int):Prop where
 aa:∀ xs ys,Peb a.n.toNat k xs→Peb a.n.toNat k ys→(numP a.n.toNat Ra xs=numP a.n.toNat Ra ys↔pW n a xs a ys)
 ab:∀ xs ys,Peb a.n.toNat k xs→Peb b.n.toNat k ys→(numP a.n.toNat Ra xs=numP b.n.toNat Rb ys↔pW n a xs b ys)
 bb:∀ xs ys,Peb b.n.toNat k xs→Peb b.n.toNat k ys→(numP b.n.toNat Rb xs=numP b.n.toNat Rb ys↔pW n b xs b ys)
def NumOf (T:List (List UInt8)) (text:Nat→List UInt8) (R:List Int) (N:Nat):Prop:=R.length=N∧∀ i:Nat,i<N→∃ m:Nat,R.getD i 0=(m:Int)∧T[m]?=some (text i)
theorem NumOf.mono {T T':List (List UInt8)} {text:Nat→List UInt8} {R:List Int} {N:Nat} (h:NumOf T text R N) (hp:T <+: T'):NumOf T' text R N :=
 ⟨h.1,fun i hi=>(h.2 i hi).elim fun m hm=>⟨m,hm.1,prefix_get hp hm.2⟩⟩
end Go.Wk
namespace Go.Wk
open Go.RowKit
end Go.Wk
namespace Go.Wk
open Go.RowKit
def NumTo (T:List (List UInt8)) (text:Nat→List UInt8) (R:List Int) (N k:Nat):Prop:=R.length=N∧∀ i:Nat,i<k→∃ m:Nat,R.getD i 0=(m:Int)∧T[m]?=some (text i)
theorem NumTo.zero (T:List (List UInt8)) (text:Nat→List UInt8) (N:Nat):NumTo T text (List.replicate N 0) N 0:=⟨by simp,fun i hi=>absurd hi (by omega)⟩
theorem NumTo.step {T T':List (List UInt8)} {text:Nat→List UInt8} {R:List Int} {N k m:Nat} (h:NumTo T text R N k) (hp:T <+: T') (hm:T'[m]?=some (text k)) (hk:k<N):NumTo T' text (R.set k (m:Int)) N (k+1):=by
  refine ⟨by rw [List.length_set];exact h.1,fun i hi=>?_⟩
  by_cases e:i=k
  · subst e
    exact ⟨m,by rw [List.getD_eq_getElem?_getD,List.getElem?_set_self (by rw [h.1];exact hk)];rfl,hm⟩
  · obtain ⟨p,h1,h2⟩:=h.2 i (by omega)
    exact ⟨p,by rw [List.getD_eq_getElem?_getD,List.getElem?_set_ne (fun e'=>e e'.symm),← List.getD_eq_getElem?_getD];exact h1,prefix_get hp h2⟩
theorem NumTo.all {T:List (List UInt8)} {text:Nat→List UInt8} {R:List Int} {N:Nat} (h:NumTo T text R N N):NumOf T text R N:=h
theorem NumOf.small {T:List (List UInt8)} {text:Nat→List UInt8} {R:List Int} {N:Nat} (h:NumOf T text R N) (hT:T.length≤1000000):∀ i:Nat,0≤R.getD i 0∧R.getD i 0<1000000:=fun i=>by
  rcases Nat.lt_or_ge i N with h1 | h1
  · obtain ⟨m,e,h2⟩:=h.2 i h1
    have:=(List.getElem?_eq_some_iff.1 h2).1
    rw [e];omega
  · rw [List.getD_eq_getElem?_getD,List.getElem?_eq_none (by rw [h.1];exact h1)];exact ⟨Int.le_refl 0,by decide⟩
end Go.Wk
namespace Go.Wk
open Go.RowKit
def Onto (T0 T:List (List UInt8)) (R:List Int) (k:Nat):Prop:=∀ m:Nat,T0.length≤m→m<T.length→∃ i:Nat,i<k∧R.getD i 0=(m:Int)
theorem Onto.zero (T:List (List UInt8)) (R:List Int):Onto T T R 0:=fun m h1 h2=>absurd h1 (by omega)
theorem Onto.step {T0 T T':List (List UInt8)} {R:List Int} {k m:Nat} {s:List UInt8} (h:Onto T0 T R k) (hd:T'=T∨T'=T++[s]∧m=T.length) (hk:k<R.length):Onto T0 T' (R.set k (m:Int)) (k+1):=fun p h1 h2=>by
  have old:∀ i:Nat,i<k→(R.set k (m:Int)).getD i 0=R.getD i 0:=fun i hi=>by
    rw [List.getD_eq_getElem?_getD,List.getElem?_set_ne (by omega),← List.getD_eq_getElem?_getD]
  have new:(R.set k (m:Int)).getD k 0=(m:Int):=by rw [List.getD_eq_getElem?_getD,List.getElem?_set_self hk];rfl
  rcases hd with e | ⟨e,e2⟩
  · subst e
    obtain ⟨i,hi,h3⟩:=h p h1 h2
    exact ⟨i,by omega,(old i hi).trans h3⟩
  · rw [e,List.length_append,List.length_singleton] at h2
    rcases Nat.lt_or_ge p T.length with h4 | h4
    · obtain ⟨i,hi,h3⟩:=h p h1 h4
      exact ⟨i,by omega,(old i hi).trans h3⟩
    · exact ⟨k,by omega,by rw [new,e2,show p=T.length from by omega]⟩
structure LevP (n k:Nat) (a b:St) (Ra Rb:List Int) (K:Nat):Prop where
 good:GoodP n k a b Ra Rb
 la:Ra.length=(a.n.toNat+1) ^ k
 lb:Rb.length=(b.n.toNat+1) ^ k
 sa:∀ i:Nat,i<Ra.length→0≤Ra.getD i 0∧Ra.getD i 0<(K:Int)
 sb:∀ i:Nat,i<Rb.length→0≤Rb.getD i 0∧Rb.getD i 0<(K:Int)
 onto:∀ m:Nat,m<K→(∃ i:Nat,i<Ra.length∧Ra.getD i 0=(m:Int))∨∃ i:Nat,i<Rb.length∧Rb.getD i 0=(m:Int)
def sS (a b:St) (s:Bool×List Int):St:=if s.1 then b else a
def sP (a b:St) (k:Nat) (s:Bool×List Int):Prop:=Peb (sS a b s).n.toNat k s.2
def Still (n k:Nat) (a b:St):Prop:=∀ s t,sP a b k s→sP a b k t→pW n (sS a b s) s.2 (sS a b t) t.2→pW (n+1) (sS a b s) s.2 (sS a b t) t.2
theorem Still.next {n k:Nat} {a b:St} (h:Still n k a b):Still (n+1) k a b:=fun s t hs ht e=>by
  refine ⟨e,fun i hi=>?_⟩
  obtain ⟨h1,h2⟩:=e.2 i hi
  have put:∀ {u:Bool×List Int} {x:Nat},sP a b k u→x<(sS a b u).n.toNat→sP a b k (u.1,u.2.set i (x:Int)):=fun hu hx=>peb_set hu hx
  refine ⟨fun x hx=>?_,fun y hy=>?_⟩
  · obtain ⟨y,hy,e2⟩:=h1 x hx
    exact ⟨y,hy,h (s.1,s.2.set i (x:Int)) (t.1,t.2.set i (y:Int)) (put hs hx) (put ht hy) e2⟩
  · obtain ⟨x,hx,e2⟩:=h2 y hy
    exact ⟨x,hx,h (s.1,s.2.set i (x:Int)) (t.1,t.2.set i (y:Int)) (put hs hx) (put ht hy) e2⟩
theorem Still.all {n k:Nat} {a b:St} (h:Still n k a b):∀ m:Nat,Still (n+m) k a b
 | 0=>h
 | m+1=>(h.all m).next
end Go.Wk
namespace Go.Wk
open Go.RowKit
structure Levs (k M:Nat) (a b:St) (A B:List (List Int)) (m g:Nat):Prop where
 la:A.length=m+1
 lb:B.length=m+1
 lev:∃ Ks:Nat→Nat,(∀ i:Nat,i≤m→Ks i≤1458∧LevP i k a b (A.getD i []) (B.getD i []) (Ks i))∧(4<M→∀ i:Nat,i<g→Ks i<Ks (i+1))
theorem Levs.at {k M m g:Nat} {a b:St} {A B:List (List Int)} (h:Levs k M a b A B m g) {i:Nat} (hi:i≤m):∃ K,K≤1458∧LevP i k a b (A.getD i []) (B.getD i []) K:=by
 obtain ⟨_,_,Ks,h1,_⟩:=h
 exact ⟨Ks i,h1 i hi⟩
end Go.Wk
namespace Go.Wk
open Go.RowKit
theorem RowsOk.cell {rr:List RR} {u:Array Value} {c i:Nat} (h:RowsOk rr u c) (hi:i<rr.length):u.toList[i]?=some (rv (rr.getD i rd)):=by
 have:=rvs_at hi
 rw [← h.vals,List.getElem?_take,if_pos hi] at this
 exact this
end Go.Wk
namespace Go.Wk
open Go.RowKit
end Go.Wk
namespace Go.Wk
open Go.RowKit
end Go.Wk
namespace Go.Wk
open Go.RowKit
end Go.Wk
namespace Go.Wk
open Go.RowKit
def dig (pr s i:Nat):Nat:=s / pr ^ i % pr
def zer (pr s i:Nat):Nat:=s - pr ^ i*dig pr s i
def xOf (nb d:Nat):Int:=if d=0 then -1 else (((d - 1) / nb:Nat):Int)
def yOf (nb d:Nat):Int:=if d=0 then -1 else (((d - 1) % nb:Nat):Int)
def pX (nb pr k s:Nat):List Int:=(List.range k).map fun i=>xOf nb (dig pr s i)
def pY (nb pr k s:Nat):List Int:=(List.range k).map fun i=>yOf nb (dig pr s i)
@[simp] theorem pX_len (nb pr k s:Nat):(pX nb pr k s).length=k:=by simp [pX]
@[simp] theorem pY_len (nb pr k s:Nat):(pY nb pr k s).length=k:=by simp [pY]
def code (nb:Nat) (x y:Int):Nat:=if 0≤x then 1+x.toNat*nb+y.toNat else 0
end Go.Wk
namespace Go.Wk
open Go.RowKit
def prN (a b:St):Nat:=a.n.toNat*b.n.toNat+1
def stX (a b:St) (k s:Nat):List Int:=pX b.n.toNat (prN a b) k s
def stY (a b:St) (k s:Nat):List Int:=pY b.n.toNat (prN a b) k s
@[simp] theorem stX_len (a b:St) (k s:Nat):(stX a b k s).length=k:=by unfold stX;simp
@[simp] theorem stY_len (a b:St) (k s:Nat):(stY a b k s).length=k:=by unfold stY;simp
open Classical in
noncomputable def winAt (n:Nat) (a b:St) (k s:Nat):Bool:=decide (pW n a (stX a b k s) b (stY a b k s))
noncomputable def WL (n:Nat) (a b:St) (k:Nat):List Bool:=(List.range (prN a b ^ k)).map (winAt n a b k)
@[simp] theorem WL_len (n:Nat) (a b:St) (k:Nat):(WL n a b k).length=prN a b ^ k:=by simp [WL]
def Ans (W:Nat→Bool) (na nb rest step:Nat):Prop:=(∀ x:Nat,x<na→∃ y:Nat,y<nb∧W (rest+step*(1+x*nb+y))=true)∧∀ y:Nat,y<nb→∃ x:Nat,x<na∧W (rest+step*(1+x*nb+y))=true
end Go.Wk
namespace Go.Wk
open Go.RowKit
structure Marks (f:Nat→Nat→Bool) (na nb x y:Nat) (R C:List Bool):Prop where
 rl:R.length=na
 cl:C.length=nb
 rows:∀ i:Nat,i<na→(R.getD i false=true↔∃ j:Nat,j<nb∧(i<x∨i=x∧j<y)∧f i j=true)
 cols:∀ j:Nat,j<nb→(C.getD j false=true↔∃ i:Nat,i<na∧(i<x∨i=x∧j<y)∧f i j=true)
end Go.Wk
namespace Go.Wk
open Go.RowKit
end Go.Wk
namespace Go.Wk
end Go.Wk
namespace Go.Wk
open Go.RowKit
structure TurnAt (fit W:Nat→Bool) (a b:St) (k i S:Nat) (X:List Bool):Prop where
 len:X.length=prN a b ^ k
 at_:∀ s:Nat,s<prN a b ^ k→(X.getD s false=true↔fit s=true∧(∀ j:Nat,j<i→Ans W a.n.toNat b.n.toNat (zer (prN a b) s j) (prN a b ^ j))∧(zer (prN a b) s i<S→Ans W a.n.toNat b.n.toNat (zer (prN a b) s i) (prN a b ^ i)))
structure Cleared (X0 X:List Bool) (S step Q:Nat):Prop where
 len:X.length=X0.length
 at_:∀ s:Nat,s<X0.length→(X.getD s false=true↔X0.getD s false=true∧¬ ∃ q,q<Q∧s=S+step*q)
end Go.Wk
namespace Go.Wk
open Go.RowKit
end Go.Wk
namespace Go.Wk
open Go.RowKit
end Go.Wk
namespace Go.Wk
open Go.RowKit
section
variable {P:Program} {n:Nat} {B:Nat} {w0:World} {N R:Act→World→Prop} {X:List (Nat×(Act→World→Prop))} {e:Env} {ops:Array Oper} {l:List Oper} {o:Oper}
end
section
variable {P:Program} {n:Nat} {C:World→Prop} {e:Env} {o:Oper}
theorem OpQ.eqNilP {t t' q:TypeId} {x y:Operand} {p:Option Addr} (h:o.op=.binOp .eql t x y t') (hu:P.underlying t=some (.pointer q)) (hx:opd e x=some (.pointer p)) (hy:opd e y=some (.pointer none)):OpQ P n C e o (.bool p.isNone):=OpQ.val fun A hf w=>by
 have hu':P.underlying t=some (.pointer (P.pointee t)):=by simp [Program.pointee,hu]
 unfold execOp;rw [h];simp only [hf.opd hx,hf.opd hy]
 rw [show eqGuard .eql t x y (Value.pointer p) (Value.pointer none)=pure () from rfl]
 simp only [Sem.run_bind,run_eql_pointer_nil w t p hu',Sem.run_pure,Result.andThen]
end
end Go.Wk
namespace Go.Wk
abbrev vQ := @OpQ.eqNilP
end Go.Wk
namespace Go.Wk
open Go.RowKit
section
variable {P:Program} {n:Nat} {C:World→Prop} {N R:Act→World→Prop} {X:List (Nat×(Act→World→Prop))} {e:Env}
def Rn (P:Program) (c:Code) (N R:Act→World→Prop) (X:List (Nat×(Act→World→Prop))) (k:Nat):Act→World→Prop:=fun a w=>Code.rounds P c (post N R X) k a w
theorem then_post {Nn N R:Act→World→Prop} {X:List (Nat×(Act→World→Prop))}:∀ (x:Exit) (a:Act) (w:World),post Nn R X x a w→Exit.then Nn (post N R X) x a w:=fun x a w hh=>by
  cases x <;> first | exact hh | exact hh.elim
theorem Wk.unroll {c:Code} (k:Nat) (h:Wk P n C c (Rn P c N R X k) R X e):Wk P n C (.loop c) N R X e:=by
 unfold Wk at h ⊢;intro a w hf hc
 exact wp_loop_rounds (k+1) (by rw [rounds_succ];exact Code.wp_mono then_post (h a w hf hc))
theorem Kt.round {c:Code} {k:Nat} {e':Env} (hs:Sub e' e) (h:Wk P n C c (Rn P c N R X k) R X e'):Kt n C e (Rn P c N R X (k+1)):=by
 unfold Wk at h;unfold Kt;intro a w hf hc;unfold Rn;rw [rounds_succ];exact Code.wp_mono then_post (h a w (hf.sub hs) hc)
theorem Own.trans {B:Nat} {w0 w1 w:World} {hs:List (Nat×Obj)} (h:Own B w0 hs w1) (k:Below w1.heap.size w1 w):Own B w0 hs w:=h.calls k
end
section
variable {P:Program} {n:Nat} {B:Nat} {w0:World} {hs:List (Nat×Obj)} {N R:Act→World→Prop} {X:List (Nat×(Act→World→Prop))} {e:Env} {ops:Array Oper} {l:List Oper} {o:Oper}
theorem new_one {i p:Nat} {V:Value} {T:TypeId} (hi:hs[i]?=some (p,.cells #[V] T (0,0))):∀ w,Own B w0 hs w→∀ ad,some (⟨p,0,none⟩:Addr)=some ad→∀ j u,([V])[j]?=some u→w.cell? (ad.add j)=some u:=fun w1 hw1 ad had j u hj=>by
 injection had with had;subst had
 rw [Addr.add_lit,Nat.zero_add,hw1.cell (i:=i) hi]
 simpa using hj
theorem Ll.appendN1 {t el d p:Nat} {T:TypeId} {x y:Operand} {V:Value} (E:Elem P t el 1) (i:Nat) (hd:Nat.blt d n=true) (hdst:o.dst=some d) (hg:wantE ops e o.guard=some true)
  (h:o.op=.call ⟨.builtin .append,#[x,y],#[t,t]⟩) (hx:opd e x=some (.slice none 0 0)) (hy:opd e y=some (.slice (some ⟨p,0,none⟩) 1 1)) (hi:hs[i]?=some (p,.cells #[V] T (0,0)))
  (k:∀ g' c' u',B≤g'→u'.size=c'*1→1≤c'→u'.toList.take 1=[V]→Ll P n (Own B w0 ((g',.cells u' el (0,0))::hs)) ops l ((d,.slice (some ⟨g',0,none⟩) 1 c')::e) N R X):Ll P n (Own B w0 hs) ops (o::l) e N R X :=
 Ll.appendNil E [V] hd hdst hg h hx hy (by decide) (by simp) rfl (new_one hi) (by decide) fun g' c' u' h1 h2 h3 h4=>k g' c' u' h1 h2 h3 h4
theorem Ll.append1 {t el d p g m cap:Nat} {cur:Array Value} {vs:List Value} {T:TypeId} {x y:Operand} {V:Value} (E:Elem P t el 1) (j i:Nat) (hd:Nat.blt d n=true) (hdst:o.dst=some d) (hg:wantE ops e o.guard=some true)
  (h:o.op=.call ⟨.builtin .append,#[x,y],#[t,t]⟩) (hx:opd e x=some (.slice (some ⟨g,0,none⟩) m cap)) (hy:opd e y=some (.slice (some ⟨p,0,none⟩) 1 1)) (hj:hs[j]?=some (g,.cells cur el (0,0))) (hc:cur.size=cap*1) (hl:m≤cap) (ht:cur.toList.take m=vs) (hi:hs[i]?=some (p,.cells #[V] T (0,0))) (hV:V.oneCell'=true) (hb:m≤1000000)
  (k:∀ g' c' u',B≤g'→u'.size=c'*1→m+1≤c'→u'.toList.take (m+1)=vs++[V]→Ll P n (Own B w0 (hs.set j (g',.cells u' el (0,0)))) ops l ((d,.slice (some ⟨g',0,none⟩) (m+1) c')::e) N R X):Ll P n (Own B w0 hs) ops (o::l) e N R X :=
 Ll.append E j [V] hd hdst hg h hx hy hj hc hl rfl (fun h=>by cases h) (new_one hi) (by simpa using hV) (by omega) fun g' c' u' h1 h2 h3 h4=>k g' c' u' h1 h2 h3 (by rw [← ht];simpa using h4)
end
theorem u8_beq (b c:UInt8):(b==c)=decide (b.toNat=c.toNat):=by
 rw [Bool.eq_iff_iff,beq_iff_eq,decide_eq_true_eq]
 exact ⟨fun e=>by rw [e],fun e=>UInt8.toNat.inj e⟩
theorem idx_abcd (c:UInt8):decide ((0:Int)≤Lib.indexByte [97,98,99,100] c)=isV c:=by
  unfold isV
  have e:∀ k:UInt8,(k==c)=decide (k.toNat=c.toNat):=fun k=>u8_beq k c
  simp only [Lib.indexByte,e]
  have h1:(97:UInt8).toNat=97:=rfl
  have h2:(98:UInt8).toNat=98:=rfl
  have h3:(99:UInt8).toNat=99:=rfl
  have h4:(100:UInt8).toNat=100:=rfl
  rw [h1,h2,h3,h4,Bool.eq_iff_iff]
  simp only [decide_eq_true_eq,Bool.and_eq_true]
  by_cases c1:97=c.toNat
  · simp [← c1]
  · by_cases c2:98=c.toNat
    · simp [← c2]
    · by_cases c3:99=c.toNat
      · simp [← c3]
      · by_cases c4:100=c.toNat
        · simp [← c4]
        · simp [c1,c2,c3,c4];omega
theorem idx_quant (c:UInt8):decide ((0:Int)≤Lib.indexByte [65,83,50,51,52] c)=decide (quI (c.toNat:Int)):=by
  rw [decide_eq_decide]
  unfold quI
  have e:∀ k:UInt8,(k==c)=decide (k.toNat=c.toNat):=fun k=>u8_beq k c
  simp only [Lib.indexByte,e]
  have h1:(65:UInt8).toNat=65:=rfl
  have h2:(83:UInt8).toNat=83:=rfl
  have h3:(50:UInt8).toNat=50:=rfl
  have h4:(51:UInt8).toNat=51:=rfl
  have h5:(52:UInt8).toNat=52:=rfl
  rw [h1,h2,h3,h4,h5]
  simp only [decide_eq_true_eq]
  by_cases c1:65=c.toNat
  · simp [← c1]
  · by_cases c2:83=c.toNat
    · simp [← c2]
    · by_cases c3:50=c.toNat
      · simp [← c3]
      · by_cases c4:51=c.toNat
        · simp [← c4]
        · by_cases c5:52=c.toNat
          · simp [← c5]
          · exact ⟨fun h=>absurd h (by simp [c1,c2,c3,c4,c5]),fun h=>by exfalso;rcases h with h | h | h | h | h <;> omega⟩
theorem idx_cnt (c:UInt8):decide ((0:Int)≤Lib.indexByte [50,51,52] c)=decide ((c.toNat:Int)=50∨(c.toNat:Int)=51∨(c.toNat:Int)=52):=by
  have e:∀ k:UInt8,(k==c)=decide (k.toNat=c.toNat):=fun k=>u8_beq k c
  simp only [Lib.indexByte,e]
  have h3:(50:UInt8).toNat=50:=rfl
  have h4:(51:UInt8).toNat=51:=rfl
  have h5:(52:UInt8).toNat=52:=rfl
  rw [h3,h4,h5,Bool.eq_iff_iff]
  simp only [decide_eq_true_eq]
  by_cases c3:50=c.toNat
  · simp [← c3]
  · by_cases c4:51=c.toNat
    · simp [← c4]
    · by_cases c5:52=c.toNat
      · simp [← c5]
      · simp [c3,c4,c5];omega
theorem first_of {s:List UInt8} (h:s ≠ []):0<s.length∧s=s.getD 0 0::s.drop 1:=by
 cases s with
 | nil=>exact absurd rfl h
 | cons c s=>exact ⟨by simp,rfl⟩
theorem pp_by {s : List UInt8} (h : s ≠ []) : parse s = if isOp (s.getD 0 0) then
      match takeV (arV (s.getD 0 0)) (s.drop 1) with
      | none=>none
      | some (vs,r) =>
        if arP (s.getD 0 0)=0 then some (.leaf (s.getD 0 0) vs,r)
        else if arP (s.getD 0 0)=1 then (match parse r with | some (p,r')=>some (.one (s.getD 0 0) vs p,r') | none=>none)
        else (match parse r with
          | some (p,r')=>(match parse r' with | some (q,r2)=>some (.two (s.getD 0 0) p q,r2) | none=>none)
          | none=>none)
    else none:=by
  have:=parse_cons (s.getD 0 0) (s.drop 1)
  rw [← (first_of h).2] at this
  exact this
def okV (s:List UInt8) (k:Nat):Prop:=¬ s.drop k=[]∧isV (s.getD k 0)=true
theorem okV_iff {s:List UInt8} {k:Nat}:¬ varI s (k:Int)<0↔okV s k:=by
 rw [varI_neg,Classical.not_not,Int.toNat_natCast]
 unfold okV
 have h:¬ s.drop k=[]↔k<s.length:=by rw [List.drop_eq_nil_iff];omega
 rw [h]
 exact ⟨fun e=>⟨by omega,e.2.2⟩,fun e=>⟨by omega,by omega,e.2⟩⟩
theorem pp0 {s:List UInt8} (h:s ≠ []) (hc:s.getD 0 0=116∨s.getD 0 0=102):parse s=some (.leaf (s.getD 0 0) [],s.drop 1):=by
 rw [pp_by h];rcases hc with e | e <;> rw [e] <;> rfl
theorem pp1 {s:List UInt8} (h:s ≠ []) (hc:s.getD 0 0=80):(okV s 1→parse s=some (.leaf 80 [s.getD 1 0],s.drop 2))∧(¬ okV s 1→parse s=none):=by
  rw [pp_by h,hc,show arV 80=1 from rfl,takeV_one]
  refine ⟨fun hv=>?_,fun hv=>?_⟩
  · rw [if_neg (show ¬ varI s ((1:Nat):Int)<0 from okV_iff.2 hv)];rfl
  · rw [if_pos (show varI s ((1:Nat):Int)<0 from Classical.byContradiction fun e=>hv (okV_iff.1 e))];rfl
theorem pp2 {s:List UInt8} (h:s ≠ []) (hc:s.getD 0 0=61∨s.getD 0 0=69):(okV s 1→okV s 2→parse s=some (.leaf (s.getD 0 0) [s.getD 1 0,s.getD 2 0],s.drop 3))∧(¬ okV s 1∨¬ okV s 2→parse s=none):=by
  have ha:arV (s.getD 0 0)=2∧arP (s.getD 0 0)=0∧isOp (s.getD 0 0)=true:=by rcases hc with e | e <;> rw [e] <;> exact ⟨rfl,rfl,rfl⟩
  rw [pp_by h,if_pos ha.2.2,ha.1,takeV_two]
  refine ⟨fun h1 h2=>?_,fun hv=>?_⟩
  · rw [if_neg (fun e=>e.elim (fun e=>okV_iff.2 h1 e) (fun e=>okV_iff.2 h2 e))]
    dsimp only
    rw [if_pos ha.2.1]
  · rw [if_pos]
    rcases hv with e | e
    · exact .inl (Classical.byContradiction fun z=>e (okV_iff.1 z))
    · exact .inr (Classical.byContradiction fun z=>e (okV_iff.1 z))
theorem pp3 {s:List UInt8} (h:s ≠ []) (hc:s.getD 0 0=33):(∀ q r,parse (s.drop 1)=some (q,r)→parse s=some (.one 33 [] q,r))∧(parse (s.drop 1)=none→parse s=none):=by
 rw [pp_by h,hc]
 exact ⟨fun q r e=>by rw [show takeV (arV 33) (s.drop 1)=some ([],s.drop 1) from rfl];dsimp only;rw [e];rfl,fun e=>by rw [show takeV (arV 33) (s.drop 1)=some ([],s.drop 1) from rfl];dsimp only;rw [e];rfl⟩
theorem pp4 {s:List UInt8} (h:s ≠ []) (hc:s.getD 0 0=38∨s.getD 0 0=124):(∀ q r q2 r2,parse (s.drop 1)=some (q,r)→parse r=some (q2,r2)→parse s=some (.two (s.getD 0 0) q q2,r2))∧(parse (s.drop 1)=none→parse s=none)∧(∀ q r,parse (s.drop 1)=some (q,r)→parse r=none→parse s=none):=by
 have ha:arV (s.getD 0 0)=0∧arP (s.getD 0 0)=2∧isOp (s.getD 0 0)=true:=by rcases hc with e | e <;> rw [e] <;> exact ⟨rfl,rfl,rfl⟩
 have ht:takeV (arV (s.getD 0 0)) (s.drop 1)=some ([],s.drop 1):=by rw [ha.1];rfl
 rw [pp_by h,if_pos ha.2.2,ht]
 dsimp only
 rw [if_neg (by omega),if_neg (by omega)]
 exact ⟨fun q r q2 r2 e1 e2=>by rw [e1];dsimp only;rw [e2],fun e=>by rw [e],fun q r e1 e2=>by rw [e1];dsimp only;rw [e2]⟩
theorem pp5 {s:List UInt8} (h:s ≠ []) (hc:quI ((s.getD 0 0).toNat:Int)):(∀ q r,okV s 1→parse (s.drop 2)=some (q,r)→parse s=some (.one (s.getD 0 0) [s.getD 1 0] q,r))∧(¬ okV s 1→parse s=none)∧(parse (s.drop 2)=none→parse s=none):=by
  have ha:arV (s.getD 0 0)=1∧arP (s.getD 0 0)=1∧isOp (s.getD 0 0)=true:=by rcases quI_of hc with e | e | e | e | e <;> rw [e] <;> exact ⟨rfl,rfl,rfl⟩
  rw [pp_by h,if_pos ha.2.2,ha.1,takeV_one]
  refine ⟨fun q r hv e=>?_,fun hv=>?_,fun e=>?_⟩
  · rw [if_neg (show ¬ varI s ((1:Nat):Int)<0 from okV_iff.2 hv)]
    dsimp only
    rw [if_neg (by omega),if_pos ha.2.1,e]
  · rw [if_pos (show varI s ((1:Nat):Int)<0 from Classical.byContradiction fun e=>hv (okV_iff.1 e))]
  · split
    · rfl
    · rename_i vs r hh
      split at hh
      · cases hh
      · injection hh with hh;injection hh with _ hh;subst hh
        rw [if_neg (by omega),if_pos ha.2.1,e]
theorem ppX {s:List UInt8} (h:s ≠ []) (hc:isOp (s.getD 0 0)=false):parse s=none:=by
 rw [pp_by h,hc];rfl
theorem isOp_no {c:UInt8} (h1:¬ (c.toNat:Int)=116) (h2:¬ (c.toNat:Int)=102) (h3:¬ (c.toNat:Int)=80) (h4:¬ (c.toNat:Int)=61) (h5:¬ (c.toNat:Int)=69) (h6:¬ (c.toNat:Int)=33) (h7:¬ (c.toNat:Int)=38) (h8:¬ (c.toNat:Int)=124) (h9:¬ quI (c.toNat:Int)):isOp c=false:=by
 cases e:isOp c with
 | false=>rfl
 | true =>
  unfold quI at h9
  unfold isOp at e
  rw [decide_eq_true_eq] at e
  simp only [List.mem_cons,List.not_mem_nil,or_false] at e
  rcases e with e | e | e | e | e | e | e | e | e | e | e | e | e <;> rw [e] at h1 h2 h3 h4 h5 h6 h7 h8 h9 <;> simp at h1 h2 h3 h4 h5 h6 h7 h8 h9
theorem getD_drop {s:List UInt8} {k:Nat}:(s.drop k).getD 0 0=s.getD k 0:=by
 rw [List.getD_eq_getElem?_getD,List.getElem?_drop,Nat.add_zero,← List.getD_eq_getElem?_getD]
theorem take_drop1 {s:List UInt8} {k:Nat} (h:¬ s.drop k=[]):(s.drop k).take 1=[s.getD k 0]:=by
 have h2:=(first_of h).2
 rw [getD_drop] at h2
 rw [h2];rfl
theorem two_of {c:UInt8} {m n:Nat} (hm:m<256) (hn:n<256) (h:(c.toNat:Int)=(m:Int)∨(c.toNat:Int)=(n:Int)):c=UInt8.ofNat m∨c=UInt8.ofNat n :=
 h.elim (fun e=>.inl (u8_of hm e)) (fun e=>.inr (u8_of hn e))
end Go.Wk
namespace Go.Wk
abbrev vH := @Ll.appendN1
abbrev vJ := @Wk.unroll
end Go.Wk
namespace Go.Wk
open Go.RowKit
theorem or_lt16 {a b:Nat} (ha:a<16) (hb:b<16):a ||| b<16:=Nat.or_lt_two_pow (n:=4) ha hb
def ptrV (p:Nat):Value:=.pointer (some ⟨p,0,none⟩)
def u8V (v:UInt8):Value:=.int .u8 (v.toNat:Int)
def NodeC (T:TypeId) (w:World) (p:Nat) (c:UInt8) (vs:List UInt8) (ps:List Nat) (fr al:Nat):Prop :=
 ∃ vv pv,w.heap[p]?=some (.cells #[u8V c,vv,pv,.int .i64 (fr:Int),.int .i64 (al:Int)] T (0,0))∧Row w vv (vs.map u8V)∧Row w pv (ps.map ptrV)
def Tree (T:TypeId) (w:World):Fm→Nat→Prop
 | .leaf c vs,p=>NodeC T w p c vs [] (frB (.leaf c vs)) (allB (.leaf c vs))
 | .one c vs q,p=>∃ q',NodeC T w p c vs [q'] (frB (.one c vs q)) (allB (.one c vs q))∧Tree T w q q'
 | .two c q r,p=>∃ q' r',NodeC T w p c [] [q',r'] (frB (.two c q r)) (allB (.two c q r))∧Tree T w q q'∧Tree T w r r'
theorem NodeC.own {T:TypeId} {w w':World} {p:Nat} {c:UInt8} {vs:List UInt8} {ps:List Nat} {fr al:Nat} {hs:List (Nat×Obj)} (h:NodeC T w p c vs ps fr al) (hw:Own w.heap.size w hs w'):NodeC T w' p c vs ps fr al:=by
  obtain ⟨vv,pv,h1,h2,h3⟩:=h
  refine ⟨vv,pv,?_,h2.own hw,h3.own hw⟩
  rw [hw.below.block p ?_]
  · exact h1
  · rcases Nat.lt_or_ge p w.heap.size with h | h
    · exact h
    · rw [Array.getElem?_eq_none h] at h1;cases h1
theorem Tree.own {T:TypeId} {w w':World} {hs:List (Nat×Obj)} (hw:Own w.heap.size w hs w'):∀ {fm:Fm} {p:Nat},Tree T w fm p→Tree T w' fm p
 | .leaf _ _,_,h=>NodeC.own h hw
 | .one _ _ _,_,h=>by obtain ⟨q',h1,h2⟩:=h;exact ⟨q',h1.own hw,Tree.own hw h2⟩
 | .two _ _ _,_,h=>by obtain ⟨q',r',h1,h2,h3⟩:=h;exact ⟨q',r',h1.own hw,Tree.own hw h2,Tree.own hw h3⟩
theorem Tree.node {T:TypeId} {w:World}:∀ {fm:Fm} {p:Nat},Tree T w fm p→∃ c vs ps,NodeC T w p c vs ps (frB fm) (allB fm)
 | .leaf c vs,_,h=>⟨c,vs,[],h⟩
 | .one c vs _,_,h=>by obtain ⟨q',h1,_⟩:=h;exact ⟨c,vs,[q'],h1⟩
 | .two c _ _,_,h=>by obtain ⟨q',r',h1,_⟩:=h;exact ⟨c,[],[q',r'],h1⟩
theorem Row.same {w:World} {v:Value} {vs us:List Value} (h:Row w v vs) (k:Row w v us):vs=us:=by
  obtain ⟨src,cap,h1,_,h3,h4⟩:=h
  obtain ⟨src',cap',k1,_,k3,k4⟩:=k
  rw [h1] at k1
  injection k1 with e1 e2 e3
  subst e1
  cases src with
  | none=>rw [h3 rfl,k3 rfl]
  | some ad =>
    apply List.ext_getElem? ;intro j
    rcases Nat.lt_or_ge j vs.length with hj | hj
    · have a1:=(h4 ad rfl).2 j vs[j] (List.getElem?_eq_getElem hj)
      have a2:=(k4 ad rfl).2 j us[j] (List.getElem?_eq_getElem (by omega))
      rw [List.getElem?_eq_getElem hj,List.getElem?_eq_getElem (show j<us.length by omega)]
      exact a1.symm.trans a2
    · rw [List.getElem?_eq_none hj,List.getElem?_eq_none (by omega)]
theorem u8V_inj {a b:UInt8} (h:u8V a=u8V b):a=b:=by
 unfold u8V at h;injection h with _ h
 exact UInt8.toNat.inj (by omega)
theorem ptrV_inj {a b:Nat} (h:ptrV a=ptrV b):a=b:=by
 unfold ptrV at h;injection h with h;injection h with h;injection h
theorem map_inj' {α β:Type} {f:α→β} (hf:∀ a b,f a=f b→a=b):∀ {xs ys:List α},xs.map f=ys.map f→xs=ys
 | [],[],_=>rfl
 | [],_::_,h=>by cases h
 | _::_,[],h=>by cases h
 | x::xs,y::ys,h=>by
  simp only [List.map_cons,List.cons.injEq] at h
  rw [hf x y h.1,map_inj' hf h.2]
theorem NodeC.same {T:TypeId} {w:World} {p:Nat} {c c':UInt8} {vs vs':List UInt8} {ps ps':List Nat} {fr al fr' al':Nat} (h:NodeC T w p c vs ps fr al) (k:NodeC T w p c' vs' ps' fr' al'):c=c'∧vs=vs'∧ps=ps':=by
 obtain ⟨vv,pv,h1,h2,h3⟩:=h
 obtain ⟨vv',pv',k1,k2,k3⟩:=k
 rw [h1] at k1
 have k4:=Option.some.inj k1
 injection k4 with k5
 have e1:u8V c=u8V c':=by have:=congrArg (fun a:Array Value=>a[0]?) k5;exact Option.some.inj this
 have e2:vv=vv':=by have:=congrArg (fun a:Array Value=>a[1]?) k5;exact Option.some.inj this
 have e3:pv=pv':=by have:=congrArg (fun a:Array Value=>a[2]?) k5;exact Option.some.inj this
 subst e2;subst e3
 exact ⟨u8V_inj e1,map_inj' (fun _ _=>u8V_inj) (h2.same k2),map_inj' (fun _ _=>ptrV_inj) (h3.same k3)⟩
theorem Tree.same {T:TypeId} {w:World}:∀ {fm fm':Fm} {p:Nat},Tree T w fm p→Tree T w fm' p→fm=fm'
 | .leaf c vs,.leaf c' vs',p,h,k=>by obtain ⟨e1,e2,_⟩:=NodeC.same h k;rw [e1,e2]
 | .leaf c vs,.one c' vs' q,p,h,k=>by obtain ⟨q',k1,_⟩:=k;have:=(NodeC.same h k1).2.2;cases this
 | .leaf c vs,.two c' q r,p,h,k=>by obtain ⟨q',r',k1,_⟩:=k;have:=(NodeC.same h k1).2.2;cases this
 | .one c vs q,.leaf c' vs',p,h,k=>by obtain ⟨q',h1,_⟩:=h;have:=(NodeC.same h1 k).2.2;cases this
 | .one c vs q,.one c' vs' r,p,h,k=>by
  obtain ⟨q',h1,h2⟩:=h
  obtain ⟨r',k1,k2⟩:=k
  obtain ⟨e1,e2,e3⟩:=NodeC.same h1 k1
  injection e3 with e3;subst e3
  rw [e1,e2,Tree.same h2 k2]
 | .one c vs q,.two c' r s,p,h,k=>by obtain ⟨q',h1,_⟩:=h;obtain ⟨r',s',k1,_⟩:=k;have:=(NodeC.same h1 k1).2.2;cases this
 | .two c q r,.leaf c' vs',p,h,k=>by obtain ⟨q',r',h1,_⟩:=h;have:=(NodeC.same h1 k).2.2;cases this
 | .two c q r,.one c' vs' s,p,h,k=>by obtain ⟨q',r',h1,_⟩:=h;obtain ⟨s',k1,_⟩:=k;have:=(NodeC.same h1 k1).2.2;cases this
 | .two c q r,.two c' q2 r2,p,h,k=>by
  obtain ⟨q',r',h1,h2,h3⟩:=h
  obtain ⟨q2',r2',k1,k2,k3⟩:=k
  obtain ⟨e1,_,e3⟩:=NodeC.same h1 k1
  injection e3 with e3 e4;injection e4 with e4;subst e3;subst e4
  rw [e1,Tree.same h2 k2,Tree.same h3 k3]
theorem Tree.lt {T:TypeId} {w:World} {fm:Fm} {p:Nat} (h:Tree T w fm p):p<w.heap.size:=by
  obtain ⟨c,vs,ps,vv,pv,h1,_⟩:=h.node
  rcases Nat.lt_or_ge p w.heap.size with h | h
  · exact h
  · rw [Array.getElem?_eq_none h] at h1;cases h1
theorem cell_of {w:World} {p:Nat} {cs:Array Value} {T:TypeId} {v:Value} {off:Nat} (h:w.heap[p]?=some (.cells cs T (0,0))) (hv:cs[off]?=some v):w.cell? ⟨p,off,none⟩=some v:=at_box h (Own.start w) off hv
theorem tree_free {T:TypeId} {w:World} {fm:Fm} {p:Nat} (h:Tree T w fm p):w.cell? ⟨p,3,none⟩=some (.int .i64 (frB fm:Int)):=by
 obtain ⟨c,vs,ps,vv,pv,h1,_⟩:=h.node
 exact cell_of h1 rfl
theorem tree_all {T:TypeId} {w:World} {fm:Fm} {p:Nat} (h:Tree T w fm p):w.cell? ⟨p,4,none⟩=some (.int .i64 (allB fm:Int)):=by
 obtain ⟨c,vs,ps,vv,pv,h1,_⟩:=h.node
 exact cell_of h1 rfl
theorem vI_wrap {v:UInt8} (h:isV v=true):IntKind.u8.wrap ((v.toNat:Int) - 97)=(vI v:Int):=by
 obtain ⟨h1,h2⟩:=vI_lt h
 rw [IntWalk.u8_in _ (by omega)];omega
theorem heap_own {w0 w:World} {hs:List (Nat×Obj)} {g T:Nat} {cs:Array Value} (hg:w0.heap[g]?=some (.cells cs T (0,0))) (hw:Own w0.heap.size w0 hs w):w.heap[g]?=some (.cells cs T (0,0)):=by
  rw [hw.below.block g ?_]
  · exact hg
  · rcases Nat.lt_or_ge g w0.heap.size with h | h
    · exact h
    · rw [Array.getElem?_eq_none h] at hg;cases hg
end Go.Wk
namespace Go.Wk
open Go.RowKit
def entP (x:(Nat×Nat)×Nat):MapEntry:={ key:=ptrV x.1.1,val:=.map (some x.1.2),born:=x.2 }
def mapP (K:List (Nat×Nat)):Obj:=.map ((K.zipIdx.map entP).toArray) K.length
def entI (x:(Int×Bool)×Nat):MapEntry:={ key:=.int .i64 x.1.1,val:=.bool x.1.2,born:=x.2 }
def mapI (L:List (Int×Bool)):Obj:=.map ((L.zipIdx.map entI).toArray) L.length
section
variable {P:Program} {w:World} {kt:TypeId} {k:Value}
theorem asking_no:∀ (l:List MapEntry) (i:Nat),(∀ e∈l,(Op.equal kt k e.key).run P w=.ok false w)→(Instr.findAsking kt k l i).run P w=.ok none w
 | [],_,_=>rfl
 | e::l,i,h=>by
  unfold Instr.findAsking
  simp only [Sem.run_bind,h e (by simp),Result.andThen]
  exact asking_no l (i+1) fun x hx=>h x (List.mem_cons_of_mem _ hx)
theorem asking_at:∀ (l:List MapEntry) (i j:Nat) {e:MapEntry},l[j]?=some e→(Op.equal kt k e.key).run P w=.ok true w→(∀ (q:Nat) (x:MapEntry),q<j→l[q]?=some x→(Op.equal kt k x.key).run P w=.ok false w)→(Instr.findAsking kt k l i).run P w=.ok (some (i+j,e.val)) w
 | [],_,_,_,h,_,_=>by simp at h
 | x::l,i,0,e,h,h1,_=>by
  have hx:x=e:=by simpa using h
  subst hx
  unfold Instr.findAsking
  simp only [Sem.run_bind,h1,Result.andThen]
  rfl
 | x::l,i,j+1,e,h,h1,h2=>by
  unfold Instr.findAsking
  simp only [Sem.run_bind,h2 0 x (by omega) rfl,Result.andThen]
  have:=asking_at l (i+1) j (e:=e) (by simpa using h) h1 fun q y hq hy=>h2 (q+1) y (by omega) (by simpa using hy)
  rw [show i+(j+1)=i+1+j from by omega]
  exact this
theorem findKeyP {te:TypeId} (hkt:P.underlying kt=some (.pointer te)) {l:List MapEntry} {r:Option (Nat×Value)} (h:(Instr.findAsking kt k l 0).run P w=.ok r w):(Instr.findKey kt k l).run P w=.ok r w:=by
 cases l with
 | nil =>
  have e:r=none:=by
   have:Result.ok (none:Option (Nat×Value)) w=.ok r w:=h
   injection this with this;exact this.symm
  subst e
  simp [Instr.findKey,run_underlying hkt,Result.andThen,Instr.findNow]
 | cons x l =>
  simp only [Instr.findKey,Sem.run_bind,run_underlying hkt,Result.andThen]
  simp only [Instr.findNow,Instr.sameNow]
  exact h
theorem ptr_same {te sz p:Nat} (hkt:P.underlying kt=some (.pointer te)) (hsz:∀ w,(sizeOf te).run P w=.ok sz w) (h0:sz ≠ 0):(Op.equal kt (ptrV p) (ptrV p)).run P w=.ok true w:=by
 have h:∀ d:Nat,(Op.equalIn (d+1) kt (ptrV p) (ptrV p)).run P w=.ok true w:=fun d=>by
  simp [Op.equalIn,ptrV,run_underlying hkt,hsz,h0,run_sameAddr_same,Result.andThen]
 exact h 9999
theorem ptr_other {te sz p q:Nat} {cp cq:Array Value} {tp tq:TypeId} (hkt:P.underlying kt=some (.pointer te)) (hsz:∀ w,(sizeOf te).run P w=.ok sz w) (h0:sz ≠ 0) (hne:p ≠ q)
  (hp:w.heap[p]?=some (.cells cp tp (0,0))) (hq:w.heap[q]?=some (.cells cq tq (0,0))):(Op.equal kt (ptrV p) (ptrV q)).run P w=.ok false w:=by
 have h:∀ d:Nat,(Op.equalIn (d+1) kt (ptrV p) (ptrV q)).run P w=.ok false w:=fun d=>by
  simp [Op.equalIn,ptrV,run_underlying hkt,hsz,h0,run_sameAddr_other w (a:=⟨p,0,none⟩) (b:=⟨q,0,none⟩) (fun e=>hne (by injection e)) hp hq,Result.andThen]
 exact h 9999
theorem checkKeyP {te:TypeId} (hkt:P.underlying kt=some (.pointer te)) (p:Nat) (b:Bool):(Instr.checkKey b 10000 kt (ptrV p)).run P w=.ok () w:=by
 show (Instr.checkKey b (9999+1) kt (ptrV p)).run P w=.ok () w
 unfold Instr.checkKey
 simp only [Sem.run_bind,run_underlying hkt,Result.andThen,ptrV]
 rfl
end
theorem zip_get {α:Type} {K:List α} {j:Nat} {x:α} {g:α×Nat→MapEntry} (h:K[j]?=some x):(K.zipIdx.map g)[j]?=some (g (x,j)):=by
 rw [List.getElem?_map,List.getElem?_zipIdx,h];simp
theorem zip_mem {α:Type} {K:List α} {e:MapEntry} {g:α×Nat→MapEntry} (h:e∈K.zipIdx.map g):∃ x j,K[j]?=some x∧e=g (x,j):=by
 obtain ⟨⟨x,j⟩,h1,h2⟩:=List.mem_map.1 h
 exact ⟨x,j,List.mem_zipIdx_iff_getElem?.1 h1,h2.symm⟩
theorem key_case (K:List (Nat×Nat)) (p:Nat):(∀ x∈K,x.1 ≠ p)∨∃ j m,K[j]?=some (p,m)∧∀ (q:Nat) (x:Nat×Nat),q<j→K[q]?=some x→x.1 ≠ p:=by
  induction K with
  | nil=>exact .inl fun x hx=>by cases hx
  | cons y K ih =>
    by_cases e:y.1=p
    · exact .inr ⟨0,y.2,by rw [← e];rfl,fun q x hq=>by omega⟩
    · rcases ih with h | ⟨j,m,h1,h2⟩
      · exact .inl fun x hx=>by
          rcases List.mem_cons.1 hx with rfl | hx
          · exact e
          · exact h x hx
      · refine .inr ⟨j+1,m,h1,fun q x hq hx=>?_⟩
        cases q with
        | zero=>rw [show x=y from by simpa using hx.symm];exact e
        | succ q=>exact h2 q x (by omega) (by simpa using hx)
section
variable {P:Program} {n:Nat} {B:Nat} {w0:World} {hs:List (Nat×Obj)} {N R:Act→World→Prop} {X:List (Nat×(Act→World→Prop))} {e:Env} {ops:Array Oper} {l:List Oper} {o:Oper}
def KeysIn (B:Nat) (w0:World) (hs:List (Nat×Obj)) (p:Nat):Prop:=∀ w,Own B w0 hs w→∃ cs T,w.heap[p]?=some (.cells cs T (0,0))
theorem findP_no {kt te sz p:Nat} {K:List (Nat×Nat)} {w:World} (hkt:P.underlying kt=some (.pointer te)) (hsz:∀ w,(sizeOf te).run P w=.ok sz w) (h0:sz ≠ 0) (hno:∀ x∈K,x.1 ≠ p)
  (hK:∀ x∈K,KeysIn B w0 hs x.1) (hp:KeysIn B w0 hs p) (hw:Own B w0 hs w):(Instr.findKey kt (ptrV p) ((K.zipIdx.map entP).toArray).toList).run P w=.ok none w:=by
 refine findKeyP hkt (asking_no _ 0 fun e he=>?_)
 obtain ⟨x,j,h1,rfl⟩:=zip_mem (show e∈K.zipIdx.map entP from he)
 have hm:=List.mem_of_getElem? h1
 obtain ⟨c1,t1,g1⟩:=hp w hw
 obtain ⟨c2,t2,g2⟩:=hK x hm w hw
 exact ptr_other hkt hsz h0 (fun q=>hno x hm q.symm) g1 g2
theorem findP_at {kt te sz p j m:Nat} {K:List (Nat×Nat)} {w:World} (hkt:P.underlying kt=some (.pointer te)) (hsz:∀ w,(sizeOf te).run P w=.ok sz w) (h0:sz ≠ 0) (hj:K[j]?=some (p,m)) (hf:∀ (q:Nat) (x:Nat×Nat),q<j→K[q]?=some x→x.1 ≠ p)
    (hK:∀ x∈K,KeysIn B w0 hs x.1) (hw:Own B w0 hs w):(Instr.findKey kt (ptrV p) ((K.zipIdx.map entP).toArray).toList).run P w=.ok (some (j,.map (some m))) w:=by
  have:=findKeyP hkt (asking_at (P:=P) (w:=w) (kt:=kt) (k:=ptrV p) (K.zipIdx.map entP) 0 j (zip_get (g:=entP) hj) (ptr_same hkt hsz h0) fun q x hq hx=>?_)
  · rw [Nat.zero_add] at this;exact this
  · obtain ⟨y,i,h1,rfl⟩:=zip_mem (List.mem_of_getElem? hx)
    have hq2:(K.zipIdx.map entP)[q]?=some (entP (y,i)):=hx
    rw [List.getElem?_map,List.getElem?_zipIdx] at hq2
    cases hy:K[q]? with
    | none=>rw [hy] at hq2;simp at hq2
    | some z =>
      rw [hy] at hq2
      have hz:z.1=y.1:=by
        have:=congrArg (Option.map fun u:MapEntry=>u.key) hq2
        simp [entP] at this
        exact ptrV_inj this
      obtain ⟨c1,t1,g1⟩:=hK _ (List.mem_of_getElem? hj) w hw
      obtain ⟨c2,t2,g2⟩:=hK _ (List.mem_of_getElem? h1) w hw
      exact ptr_other hkt hsz h0 (fun u=>hf q z hq hy (by rw [hz];exact u.symm)) g1 g2
theorem OpQ.lookP_no {t kt et te sz r p:Nat} {x y:Operand} {K:List (Nat×Nat)} (i:Nat) (h:o.op=.lookup t x y false) (hm:P.underlying t=some (.map kt et)) (hkt:P.underlying kt=some (.pointer te)) (hsz:∀ w,(sizeOf te).run P w=.ok sz w) (h0:sz ≠ 0) (hz:∀ w,(zeroValue et).run P w=.ok (.map none) w)
  (hx:opd e x=some (.map (some r))) (hy:opd e y=some (ptrV p)) (hi:hs[i]?=some (r,mapP K)) (hno:∀ x∈K,x.1 ≠ p) (hK:∀ x∈K,KeysIn B w0 hs x.1) (hp:KeysIn B w0 hs p):OpQ P n (Own B w0 hs) e o (.map none):=by
 unfold OpQ
 intro a hF w hw
 have hb:w.heap[r]?=some (.map ((K.zipIdx.map entP).toArray) K.length):=(hw.has i r _ hi).2
 unfold Oper.quietAt execOp;rw [h]
 simp only [hF.opd hx,hF.opd hy,Instr.lookup,Sem.run_bind,run_underlying hm,MapKept.run_getObj_map hb,checkKeyP hkt,findP_no hkt hsz h0 hno hK hp hw,hz,Sem.run_pure,Result.andThen]
 exact ⟨rfl,rfl⟩
theorem OpQ.lookP_at {t kt et te sz r p j m:Nat} {x y:Operand} {K:List (Nat×Nat)} (i:Nat) (h:o.op=.lookup t x y false) (hm:P.underlying t=some (.map kt et)) (hkt:P.underlying kt=some (.pointer te)) (hsz:∀ w,(sizeOf te).run P w=.ok sz w) (h0:sz ≠ 0)
  (hx:opd e x=some (.map (some r))) (hy:opd e y=some (ptrV p)) (hi:hs[i]?=some (r,mapP K)) (hj:K[j]?=some (p,m)) (hf:∀ (q:Nat) (x:Nat×Nat),q<j→K[q]?=some x→x.1 ≠ p) (hK:∀ x∈K,KeysIn B w0 hs x.1):OpQ P n (Own B w0 hs) e o (.map (some m)):=by
 unfold OpQ
 intro a hF w hw
 have hb:w.heap[r]?=some (.map ((K.zipIdx.map entP).toArray) K.length):=(hw.has i r _ hi).2
 unfold Oper.quietAt execOp;rw [h]
 simp only [hF.opd hx,hF.opd hy,Instr.lookup,Sem.run_bind,run_underlying hm,MapKept.run_getObj_map hb,checkKeyP hkt,findP_at hkt hsz h0 hj hf hK hw,Sem.run_pure,Result.andThen]
 exact ⟨rfl,rfl⟩
theorem mapP_add (K:List (Nat×Nat)) (p m:Nat):mapP (K++[(p,m)])=.map (((K.zipIdx.map entP).toArray).push { key:=ptrV p,val:=.map (some m),born:=K.length }) (K.length+1):=by
 unfold mapP
 rw [List.zipIdx_append,List.map_append,List.push_toArray]
 simp [entP]
theorem Ll.mapSetP {t kt et te sz r p m:Nat} {x y z:Operand} {K:List (Nat×Nat)} (i:Nat) (hdst:o.dst=none) (hg:wantE ops e o.guard=some true) (h:o.op=.mapUpdate t x y z) (hm:P.underlying t=some (.map kt et)) (hkt:P.underlying kt=some (.pointer te)) (hsz:∀ w,(sizeOf te).run P w=.ok sz w) (h0:sz ≠ 0)
    (hx:opd e x=some (.map (some r))) (hy:opd e y=some (ptrV p)) (hz:opd e z=some (.map (some m))) (hi:hs[i]?=some (r,mapP K)) (hno:∀ x∈K,x.1 ≠ p) (hK:∀ x∈K,KeysIn B w0 hs x.1) (hp:KeysIn B w0 hs p)
    (k:Ll P n (Own B w0 (hs.set i (r,mapP (K++[(p,m)])))) ops l e N R X):Ll P n (Own B w0 hs) ops (o::l) e N R X :=
  Ll.turnN hdst hg fun a w hF hw=>by
    have hb:w.heap[r]?=some (.map ((K.zipIdx.map entP).toArray) K.length):=(hw.has i r _ hi).2
    refine ⟨{ w with heap:=w.heap.setIfInBounds r (mapP (K++[(p,m)])) },?_,fun a' ha=>?_⟩
    · unfold execOp;rw [h];simp only [hF.opd hx,hF.opd hy,hF.opd hz]
      have run:(Instr.mapUpdate t (.map (some r)) (ptrV p) (.map (some m))).run P w=.ok () { w with heap:=w.heap.setIfInBounds r (mapP (K++[(p,m)])) }:=by
        rw [mapP_add]
        simp [Instr.mapUpdate,run_underlying hm,MapKept.run_getObj_map hb,checkKeyP hkt,findP_no hkt hsz h0 hno hK hp hw,MapKept.run_setObj_map _ hb,Result.andThen]
      simp only [Sem.run_bind,run,Result.andThen]
      rfl
    · unfold Ll at k
      exact k a' _ ha (hw.setObj hi _)
theorem Ll.makeMapP {d t:Nat} (hd:Nat.blt d n=true) (hdst:o.dst=some d) (hg:wantE ops e o.guard=some true) (h:o.op=.makeMap t none)
  (k:∀ p,B≤p→Ll P n (Own B w0 ((p,mapP [])::hs)) ops l ((d,.map (some p))::e) N R X):Ll P n (Own B w0 hs) ops (o::l) e N R X:=Ll.makeMap hd hdst hg h k
theorem Ll.makeMapI {d t:Nat} (hd:Nat.blt d n=true) (hdst:o.dst=some d) (hg:wantE ops e o.guard=some true) (h:o.op=.makeMap t none)
  (k:∀ p,B≤p→Ll P n (Own B w0 ((p,mapI [])::hs)) ops l ((d,.map (some p))::e) N R X):Ll P n (Own B w0 hs) ops (o::l) e N R X:=Ll.makeMap hd hdst hg h k
theorem keyI (k:Int):MapKept.IsKey (.int .i64) (.int .i64 k):=rfl
theorem keysI (L:List (Int×Bool)):∀ x∈((L.zipIdx.map entI).toArray).toList,MapKept.IsKey (.int .i64) x.key:=fun x hx=>by
 obtain ⟨y,j,_,rfl⟩:=zip_mem (show x∈L.zipIdx.map entI from hx)
 rfl
theorem findI (k:Int) (L:List (Int×Bool)):(Instr.findNow (.int .i64) (.int .i64 k) ((L.zipIdx.map entI).toArray).toList 0=some none∧∀ x∈L,x.1 ≠ k)∨∃ j b,Instr.findNow (.int .i64) (.int .i64 k) ((L.zipIdx.map entI).toArray).toList 0=some (some (j,.bool b))∧L[j]?=some (k,b):=by
  rcases MapKept.findNow_spec (keyI k) ((L.zipIdx.map entI).toArray).toList 0 (keysI L) with ⟨h1,h2⟩ | ⟨j,e,h1,h2,h3⟩
  · refine .inl ⟨h1,fun x hx q=>?_⟩
    obtain ⟨j,hj⟩:=List.mem_iff_getElem?.1 hx
    exact h2 (entI (x,j)) (List.mem_of_getElem? (zip_get (g:=entI) hj)) (by rw [← q];rfl)
  · have h2':(L.zipIdx.map entI)[j]?=some e:=by simpa using h2
    rw [List.getElem?_map,List.getElem?_zipIdx] at h2'
    cases hy:L[j]? with
    | none=>rw [hy] at h2';simp at h2'
    | some z =>
      rw [hy] at h2'
      simp at h2'
      subst h2'
      have hz:z.1=k:=by
        have:Value.int .i64 z.1=.int .i64 k:=h3
        injection this
      refine .inr ⟨j,z.2,by rw [h1,Nat.zero_add];rfl,by rw [← hz];exact hy⟩
theorem OpQ.lookI_nil {t kt et:Nat} {x y:Operand} {k:Int} (h:o.op=.lookup t x y true) (hm:P.underlying t=some (.map kt et)) (hkt:P.underlying kt=some (.int .i64)) (hz:∀ w,(zeroValue et).run P w=.ok (.bool false) w)
  (hx:opd e x=some (.map none)) (hy:opd e y=some (.int .i64 k)):OpQ P n (Own B w0 hs) e o (.tuple #[.bool false,.bool false]):=by
 unfold OpQ
 intro a hF w hw
 unfold Oper.quietAt execOp;rw [h]
 simp only [hF.opd hx,hF.opd hy,Instr.lookup,Sem.run_bind,run_underlying hm,MapKept.run_checkKey hkt (keyI k),MapKept.run_findKey hkt (show Instr.findNow (.int .i64) (.int .i64 k) (#[]:Array MapEntry).toList 0=some none from rfl),hz,Sem.run_pure,Result.andThen]
 exact ⟨rfl,rfl⟩
theorem OpQ.lookI_no {t kt et r:Nat} {x y:Operand} {k:Int} {L:List (Int×Bool)} (i:Nat) (h:o.op=.lookup t x y true) (hm:P.underlying t=some (.map kt et)) (hkt:P.underlying kt=some (.int .i64)) (hz:∀ w,(zeroValue et).run P w=.ok (.bool false) w)
    (hx:opd e x=some (.map (some r))) (hy:opd e y=some (.int .i64 k)) (hi:hs[i]?=some (r,mapI L)) (hno:∀ x∈L,x.1 ≠ k):OpQ P n (Own B w0 hs) e o (.tuple #[.bool false,.bool false]):=by
  unfold OpQ
  intro a hF w hw
  have hb:w.heap[r]?=some (.map ((L.zipIdx.map entI).toArray) L.length):=(hw.has i r _ hi).2
  unfold Oper.quietAt execOp;rw [h]
  rcases findI k L with ⟨h1,_⟩ | ⟨j,b,h1,h2⟩
  · simp only [hF.opd hx,hF.opd hy,Instr.lookup,Sem.run_bind,run_underlying hm,MapKept.run_getObj_map hb,MapKept.run_checkKey hkt (keyI k),MapKept.run_findKey hkt h1,hz,Sem.run_pure,Result.andThen]
    exact ⟨rfl,rfl⟩
  · exact absurd rfl (hno _ (List.mem_of_getElem? h2))
theorem OpQ.lookI_at {t kt et r:Nat} {x y:Operand} {k:Int} {b:Bool} {L:List (Int×Bool)} (i:Nat) (h:o.op=.lookup t x y true) (hm:P.underlying t=some (.map kt et)) (hkt:P.underlying kt=some (.int .i64))
    (hx:opd e x=some (.map (some r))) (hy:opd e y=some (.int .i64 k)) (hi:hs[i]?=some (r,mapI L)) (hin:∃ x∈L,x.1=k) (hu:∀ c,(k,c)∈L→c=b):OpQ P n (Own B w0 hs) e o (.tuple #[.bool b,.bool true]):=by
  unfold OpQ
  intro a hF w hw
  have hb:w.heap[r]?=some (.map ((L.zipIdx.map entI).toArray) L.length):=(hw.has i r _ hi).2
  unfold Oper.quietAt execOp;rw [h]
  rcases findI k L with ⟨h1,h2⟩ | ⟨j,c,h1,h2⟩
  · obtain ⟨x,hx,q⟩:=hin
    exact absurd q (h2 x hx)
  · have:=hu c (List.mem_of_getElem? h2)
    subst this
    simp only [hF.opd hx,hF.opd hy,Instr.lookup,Sem.run_bind,run_underlying hm,MapKept.run_getObj_map hb,MapKept.run_checkKey hkt (keyI k),MapKept.run_findKey hkt h1,Sem.run_pure,Result.andThen]
    exact ⟨rfl,rfl⟩
theorem mapI_add (L:List (Int×Bool)) (k:Int) (b:Bool):mapI (L++[(k,b)])=.map (((L.zipIdx.map entI).toArray).push { key:=.int .i64 k,val:=.bool b,born:=L.length }) (L.length+1):=by
 unfold mapI
 rw [List.zipIdx_append,List.map_append,List.push_toArray]
 simp [entI]
theorem mapI_set {L:List (Int×Bool)} {k:Int} {b:Bool} {j:Nat}:mapI (L.set j (k,b))=.map (((L.zipIdx.map entI).toArray).modify j fun e=>{ e with key:=.int .i64 k,val:=.bool b }) L.length:=by
  unfold mapI
  rw [List.length_set]
  congr 1
  apply Array.ext
  · simp
  · intro q h1 h2
    rw [Array.getElem_modify]
    simp only [List.getElem_toArray,List.getElem_map,List.getElem_zipIdx,List.getElem_set,entI]
    split
    · rename_i h;subst h;rfl
    · rfl
theorem Ll.mapSetI {t kt et r:Nat} {x y z:Operand} {k:Int} {b:Bool} {L:List (Int×Bool)} (i:Nat) (hdst:o.dst=none) (hg:wantE ops e o.guard=some true) (h:o.op=.mapUpdate t x y z) (hm:P.underlying t=some (.map kt et)) (hkt:P.underlying kt=some (.int .i64))
    (hx:opd e x=some (.map (some r))) (hy:opd e y=some (.int .i64 k)) (hz:opd e z=some (.bool b)) (hi:hs[i]?=some (r,mapI L))
    (kk:∀ L':List (Int×Bool),(∀ x∈L',x∈L∨x=(k,b))→Ll P n (Own B w0 (hs.set i (r,mapI L'))) ops l e N R X):Ll P n (Own B w0 hs) ops (o::l) e N R X :=
  Ll.turnN hdst hg fun a w hF hw=>by
    have hb:w.heap[r]?=some (.map ((L.zipIdx.map entI).toArray) L.length):=(hw.has i r _ hi).2
    rcases findI k L with ⟨h1,h2⟩ | ⟨j,c,h1,h2⟩
    · refine ⟨{ w with heap:=w.heap.setIfInBounds r (mapI (L++[(k,b)])) },?_,fun a' ha=>?_⟩
      · unfold execOp;rw [h];simp only [hF.opd hx,hF.opd hy,hF.opd hz]
        have run:(Instr.mapUpdate t (.map (some r)) (.int .i64 k) (.bool b)).run P w=.ok () { w with heap:=w.heap.setIfInBounds r (mapI (L++[(k,b)])) }:=by
          rw [mapI_add]
          simp [Instr.mapUpdate,run_underlying hm,MapKept.run_getObj_map hb,MapKept.run_checkKey hkt (keyI k),MapKept.run_findKey hkt h1,MapKept.run_setObj_map _ hb,Result.andThen]
        simp only [Sem.run_bind,run,Result.andThen]
        rfl
      · have:=kk (L++[(k,b)]) fun x hx=>by
          rcases List.mem_append.1 hx with hx | hx
          · exact .inl hx
          · exact .inr (List.mem_singleton.1 hx)
        unfold Ll at this
        exact this a' _ ha (hw.setObj hi _)
    · refine ⟨{ w with heap:=w.heap.setIfInBounds r (mapI (L.set j (k,b))) },?_,fun a' ha=>?_⟩
      · unfold execOp;rw [h];simp only [hF.opd hx,hF.opd hy,hF.opd hz]
        have hj:((L.zipIdx.map entI).toArray)[j]?=some (entI ((k,c),j)):=by
          have:=zip_get (g:=entI) h2
          simpa using this
        have run:(Instr.mapUpdate t (.map (some r)) (.int .i64 k) (.bool b)).run P w=.ok () { w with heap:=w.heap.setIfInBounds r (mapI (L.set j (k,b))) }:=by
          rw [mapI_set]
          simp only [Instr.mapUpdate,Sem.run_bind,run_underlying hm,MapKept.run_getObj_map hb,MapKept.run_checkKey hkt (keyI k),MapKept.run_findKey hkt h1,Result.andThen]
          rw [hj]
          simp only [Option.map_some,Option.getD_some]
          rw [show (entI ((k,c),j)).key=.int .i64 k from rfl]
          simp only [MapKept.run_keyThatStays (keyI k),MapKept.run_setObj_map _ hb]
        simp only [Sem.run_bind,run,Result.andThen]
        rfl
      · have:=kk (L.set j (k,b)) fun x hx=>by
          rcases List.mem_or_eq_of_mem_set hx with hx | hx
          · exact .inl hx
          · exact .inr hx
        unfold Ll at this
        exact this a' _ ha (hw.setObj hi _)
theorem OpQ.eqNilM {C:World→Prop} {t t' kt et:TypeId} {x y:Operand} {p:Option Nat} (h:o.op=.binOp .eql t x y t') (hu:P.underlying t=some (.map kt et)) (hx:opd e x=some (.map p)) (hy:opd e y=some (.map none)):OpQ P n C e o (.bool p.isNone):=OpQ.val fun A hf w=>by
 unfold execOp;rw [h];simp only [hf.opd hx,hf.opd hy]
 rw [show eqGuard .eql t x y (Value.map p) (Value.map none)=pure () from rfl]
 have h1:∀ d:Nat,(Op.equalIn (d+1) t (.map p) (.map none)).run P w=.ok p.isNone w:=fun d=>by
  cases p <;> simp [Op.equalIn,run_underlying hu,Result.andThen]
 simp only [Sem.run_bind,Sem.run_pure,Result.andThen,binOp]
 simp [Op.equal,Op.maxDepth,h1 9999]
end
end Go.Wk
namespace Go.Wk
abbrev uL := @OpQ.lookP_at
end Go.Wk
namespace Go.Wk
open Go.RowKit
def RowB (hs:List (Nat×Obj)) (v:Value) (vs:List Value):Prop :=
 (v=.slice none 0 0∧vs=[])∨∃ g cap cur el,v=.slice (some ⟨g,0,none⟩) vs.length cap∧(g,Obj.cells cur el (0,0))∈hs∧cur.toList.take vs.length=vs∧vs.length≤cap
theorem RowB.row {B:Nat} {w0 w:World} {hs:List (Nat×Obj)} {v:Value} {vs:List Value} (h:RowB hs v vs) (hw:Own B w0 hs w):Row w v vs:=by
  rcases h with ⟨rfl,rfl⟩ | ⟨g,cap,cur,el,rfl,h1,h2,h3⟩
  · exact Ints.nil
  · obtain ⟨i,hi⟩:=List.mem_iff_getElem?.1 h1
    exact Own.row hw hi h2 rfl h3
theorem RowB.more {hs hs':List (Nat×Obj)} {v:Value} {vs:List Value} (k:∀ x∈hs,x∈hs') (h:RowB hs v vs):RowB hs' v vs:=by
  rcases h with h | ⟨g,cap,cur,el,h0,h1,h2,h3⟩
  · exact .inl h
  · exact .inr ⟨g,cap,cur,el,h0,k _ h1,h2,h3⟩
theorem RowB.nil {hs:List (Nat×Obj)}:RowB hs (.slice none 0 0) []:=.inl ⟨rfl,rfl⟩
theorem RowB.at {hs:List (Nat×Obj)} {g n cap el:Nat} {cur:Array Value} {vs:List Value} (hm:(g,Obj.cells cur el (0,0))∈hs) (ht:cur.toList.take n=vs) (hn:vs.length=n) (hc:n≤cap):RowB hs (.slice (some ⟨g,0,none⟩) n cap) vs:=by
 subst hn
 exact .inr ⟨g,cap,cur,el,rfl,hm,ht,hc⟩
def NodeB (T:TypeId) (hs:List (Nat×Obj)) (p:Nat) (c:UInt8) (vs:List UInt8) (ps:List Nat) (fr al:Nat):Prop :=
 ∃ vv pv,(p,Obj.cells #[u8V c,vv,pv,.int .i64 (fr:Int),.int .i64 (al:Int)] T (0,0))∈hs∧RowB hs vv (vs.map u8V)∧RowB hs pv (ps.map ptrV)
def TreeB (T:TypeId) (hs:List (Nat×Obj)):Fm→Nat→Prop
 | .leaf c vs,p=>NodeB T hs p c vs [] (frB (.leaf c vs)) (allB (.leaf c vs))
 | .one c vs q,p=>∃ q',NodeB T hs p c vs [q'] (frB (.one c vs q)) (allB (.one c vs q))∧TreeB T hs q q'
 | .two c q r,p=>∃ q' r',NodeB T hs p c [] [q',r'] (frB (.two c q r)) (allB (.two c q r))∧TreeB T hs q q'∧TreeB T hs r r'
theorem NodeB.more {T:TypeId} {hs hs':List (Nat×Obj)} {p:Nat} {c:UInt8} {vs:List UInt8} {ps:List Nat} {fr al:Nat} (k:∀ x∈hs,x∈hs') (h:NodeB T hs p c vs ps fr al):NodeB T hs' p c vs ps fr al:=by
 obtain ⟨vv,pv,h1,h2,h3⟩:=h
 exact ⟨vv,pv,k _ h1,h2.more k,h3.more k⟩
theorem TreeB.more {T:TypeId} {hs hs':List (Nat×Obj)} (k:∀ x∈hs,x∈hs'):∀ {fm:Fm} {p:Nat},TreeB T hs fm p→TreeB T hs' fm p
 | .leaf _ _,_,h=>NodeB.more k h
 | .one _ _ _,_,h=>by obtain ⟨q',h1,h2⟩:=h;exact ⟨q',h1.more k,TreeB.more k h2⟩
 | .two _ _ _,_,h=>by obtain ⟨q',r',h1,h2,h3⟩:=h;exact ⟨q',r',h1.more k,TreeB.more k h2,TreeB.more k h3⟩
theorem TreeB.left {T:TypeId} {hs hs':List (Nat×Obj)} {fm:Fm} {p:Nat} (h:TreeB T hs fm p):TreeB T (hs++hs') fm p:=h.more fun _ hx=>List.mem_append_left _ hx
theorem TreeB.right {T:TypeId} {hs hs':List (Nat×Obj)} {fm:Fm} {p:Nat} (h:TreeB T hs fm p):TreeB T (hs'++hs) fm p:=h.more fun _ hx=>List.mem_append_right _ hx
theorem NodeB.node {T:TypeId} {B:Nat} {w0 w:World} {hs:List (Nat×Obj)} {p:Nat} {c:UInt8} {vs:List UInt8} {ps:List Nat} {fr al:Nat} (h:NodeB T hs p c vs ps fr al) (hw:Own B w0 hs w):NodeC T w p c vs ps fr al:=by
 obtain ⟨vv,pv,h1,h2,h3⟩:=h
 exact ⟨vv,pv,(hw.mem h1).2,h2.row hw,h3.row hw⟩
theorem TreeB.tree {T:TypeId} {B:Nat} {w0 w:World} {hs:List (Nat×Obj)} (hw:Own B w0 hs w):∀ {fm:Fm} {p:Nat},TreeB T hs fm p→Tree T w fm p
 | .leaf _ _,_,h=>NodeB.node h hw
 | .one _ _ _,_,h=>by obtain ⟨q',h1,h2⟩:=h;exact ⟨q',h1.node hw,TreeB.tree hw h2⟩
 | .two _ _ _,_,h=>by obtain ⟨q',r',h1,h2,h3⟩:=h;exact ⟨q',r',h1.node hw,TreeB.tree hw h2,TreeB.tree hw h3⟩
theorem TreeB.node {T:TypeId} {hs:List (Nat×Obj)}:∀ {fm:Fm} {p:Nat},TreeB T hs fm p→∃ c vs ps,NodeB T hs p c vs ps (frB fm) (allB fm)
 | .leaf c vs,_,h=>⟨c,vs,[],h⟩
 | .one c vs _,_,h=>by obtain ⟨q',h1,_⟩:=h;exact ⟨c,vs,[q'],h1⟩
 | .two c _ _,_,h=>by obtain ⟨q',r',h1,_⟩:=h;exact ⟨c,[],[q',r'],h1⟩
theorem TreeB.same {T:TypeId} {B:Nat} {w0 w:World} {hs:List (Nat×Obj)} (hw:Own B w0 hs w) {fm fm':Fm} {p:Nat} (h:TreeB T hs fm p) (k:TreeB T hs fm' p):fm=fm':=(TreeB.tree hw h).same (TreeB.tree hw k)
theorem mem_at {α:Type} {l:List α} {i:Nat} {x:α} (h:l[i]?=some x):x∈l:=List.mem_of_getElem? h
theorem mem_atL {α:Type} {l r:List α} {i:Nat} {x:α} (h:l[i]?=some x):x∈l++r:=List.mem_append_left _ (List.mem_of_getElem? h)
abbrev Memo:=List (Nat×Nat×List (Int×Bool))
def memoK (K:Memo):List (Nat×Nat):=K.map fun x=>(x.1,x.2.1)
def memoB (K:Memo):List (Nat×Obj):=K.map fun x=>(x.2.1,mapI x.2.2)
def MemoOk (T:TypeId) (a:St) (hs:List (Nat×Obj)) (K:Memo):Prop:=∀ x∈K,∃ fm,wfF fm∧TreeB T hs fm x.1∧∀ y∈x.2.2,∃ e,EnvA a e∧keyF fm e=y.1∧ev a fm e=y.2
theorem MemoOk.nil {T:TypeId} {a:St} {hs:List (Nat×Obj)}:MemoOk T a hs []:=fun x hx=>by cases hx
theorem EnvA.ok {a:St} {e:List Int} (h:EnvA a e) (ha:a.Fine):EnvOk e:=⟨h.1,fun i hi=>by
 have h1:=h.2 i hi
 have h2:=ha.hi
 unfold St.El at h1
 omega⟩
theorem memo_ev {T:TypeId} {a:St} {B:Nat} {w0 w:World} {hs ts:List (Nat×Obj)} {K:Memo} {fm:Fm} {p j m:Nat} {L:List (Int×Bool)} {en:List Int} (ha:a.Fine) (hK:MemoOk T a ts K) (hts:∀ x∈ts,x∈hs) (hw:Own B w0 hs w) (hT:TreeB T ts fm p) (hwf:wfF fm) (hE:EnvA a en) (hj:K[j]?=some (p,m,L)) :
  ∀ c,(keyF fm en,c)∈L→c=ev a fm en:=fun c hc=>by
 obtain ⟨fm',h1,h2,h3⟩:=hK _ (List.mem_of_getElem? hj)
 have e:=TreeB.same hw (h2.more hts) (hT.more hts)
 subst e
 obtain ⟨e,g1,g2,g3⟩:=h3 _ hc
 exact g3.symm.trans (key_ev hwf (g1.ok ha) (hE.ok ha) g2)
theorem memoK_get {K:Memo} {j p m:Nat} {L:List (Int×Bool)} (h:K[j]?=some (p,m,L)):(memoK K)[j]?=some (p,m):=by unfold memoK;rw [List.getElem?_map,h];rfl
theorem memoB_get {K:Memo} {j p m:Nat} {L:List (Int×Bool)} (h:K[j]?=some (p,m,L)):(memoB K)[j]?=some (m,mapI L):=by unfold memoB;rw [List.getElem?_map,h];rfl
theorem memoB_at {K:Memo} {j p m:Nat} {L:List (Int×Bool)} {r:List (Nat×Obj)} (h:K[j]?=some (p,m,L)):(memoB K++r)[j]?=some (m,mapI L):=by
 have:=memoB_get h
 rw [List.getElem?_append_left (List.getElem?_eq_some_iff.1 this).1];exact this
theorem memoB_set {K:Memo} {j p m:Nat} {L L':List (Int×Bool)} {r:List (Nat×Obj)} (h:K[j]?=some (p,m,L)):(memoB K++r).set j (m,mapI L')=memoB (K.set j (p,m,L'))++r:=by
 have h1:=(List.getElem?_eq_some_iff.1 (memoB_get h)).1
 rw [List.set_append_left _ _ h1]
 unfold memoB
 rw [List.map_set]
theorem memoK_set {K:Memo} {j p m:Nat} {L L':List (Int×Bool)} (h:K[j]?=some (p,m,L)):memoK (K.set j (p,m,L'))=memoK K:=by
 unfold memoK
 rw [List.map_set]
 exact set_same (by rw [List.getElem?_map,h];rfl)
theorem memoB_add (K:Memo) (p m:Nat):memoB (K++[(p,m,[])])=memoB K++[(m,mapI [])]:=by unfold memoB;rw [List.map_append];rfl
theorem memoK_add (K:Memo) (p m:Nat):memoK (K++[(p,m,[])])=memoK K++[(p,m)]:=by unfold memoK;rw [List.map_append];rfl
theorem memo_case (K:Memo) (p:Nat):(∀ x∈memoK K,x.1 ≠ p)∨∃ j m L,K[j]?=some (p,m,L)∧∀ (q:Nat) (x:Nat×Nat),q<j→(memoK K)[q]?=some x→x.1 ≠ p:=by
  rcases key_case (memoK K) p with h | ⟨j,m,h1,h2⟩
  · exact .inl h
  · unfold memoK at h1
    rw [List.getElem?_map] at h1
    cases e:K[j]? with
    | none=>rw [e] at h1;cases h1
    | some y =>
      rw [e] at h1
      have h3:(y.1,y.2.1)=(p,m):=by simpa using h1
      injection h3 with h3 h4
      exact .inr ⟨j,m,y.2.2,by rw [e,← h3,← h4],h2⟩
theorem has_case (L:List (Int×Bool)) (k:Int):(∀ x∈L,x.1 ≠ k)∨∃ x∈L,x.1=k:=by
  rcases Classical.em (∃ x∈L,x.1=k) with h | h
  · exact .inr h
  · exact .inl fun x hx e=>h ⟨x,hx,e⟩
theorem TreeB.key {T:TypeId} {B:Nat} {w0:World} {hs hs':List (Nat×Obj)} {fm:Fm} {p:Nat} (h:TreeB T hs fm p) (hsub:∀ x∈hs,x∈hs'):KeysIn B w0 hs' p:=fun w hw=>by
 obtain ⟨c,vs,ps,vv,pv,h1,_⟩:=h.node
 exact ⟨_,_,(hw.mem (hsub _ h1)).2⟩
theorem MemoOk.keys {T:TypeId} {a:St} {B:Nat} {w0:World} {hs hs':List (Nat×Obj)} {K:Memo} (h:MemoOk T a hs K) (hsub:∀ x∈hs,x∈hs'):∀ x∈memoK K,KeysIn B w0 hs' x.1:=fun x hx=>by
 obtain ⟨y,hy,rfl⟩:=List.mem_map.1 hx
 obtain ⟨fm,_,h2,_⟩:=h y hy
 exact h2.key hsub
theorem MemoOk.add {T:TypeId} {a:St} {hs:List (Nat×Obj)} {K:Memo} {fm:Fm} {p m:Nat} (h:MemoOk T a hs K) (hT:TreeB T hs fm p) (hwf:wfF fm):MemoOk T a hs (K++[(p,m,[])]):=fun x hx=>by
  rcases List.mem_append.1 hx with hx | hx
  · exact h x hx
  · rw [List.mem_singleton.1 hx]
    exact ⟨fm,hwf,hT,fun y hy=>by cases hy⟩
theorem MemoOk.set {T:TypeId} {a:St} {B:Nat} {w0 w:World} {hs ts:List (Nat×Obj)} {K:Memo} {fm:Fm} {p j m:Nat} {L L':List (Int×Bool)} {en:List Int} (h:MemoOk T a ts K) (hts:∀ x∈ts,x∈hs) (hw:Own B w0 hs w) (hT:TreeB T ts fm p) (hwf:wfF fm) (hE:EnvA a en) (hj:K[j]?=some (p,m,L)) (hL:∀ x∈L',x∈L∨x=(keyF fm en,ev a fm en)):MemoOk T a ts (K.set j (p,m,L')):=fun x hx=>by
  rcases List.mem_or_eq_of_mem_set hx with hx | rfl
  · exact h x hx
  · obtain ⟨fm',h1,h2,h3⟩:=h _ (List.mem_of_getElem? hj)
    have e:=TreeB.same hw (h2.more hts) (hT.more hts)
    subst e
    refine ⟨fm',hwf,hT,fun y hy=>?_⟩
    rcases hL y hy with hy | rfl
    · exact h3 y hy
    · exact ⟨en,hE,rfl,rfl⟩
end Go.Wk
namespace Go.Wk
open Go.RowKit
theorem formO_none {f:List UInt8} (h:parse f=none):formO f=none:=by unfold formO;rw [h];simp
theorem formO_rest {f r:List UInt8} {p:Fm} (h:parse f=some (p,r)) (hr:¬ r=[]):formO f=none:=by
 unfold formO;rw [h]
 cases r with
 | nil=>exact absurd rfl hr
 | cons c r=>simp
def szF:Fm→Nat
 | .leaf _ _=>0
 | .one _ _ p=>szF p+1
 | .two _ p q=>szF p+szF q+1
theorem rank_sub1 {c:UInt8} {vs:List UInt8} {q:Fm}:rankF q≤rankF (.one c vs q):=by
  show _≤(if c=33 then rankF q else if c=65∨c=83 then rankF q+1 else rankF q+(c.toNat - 48))
  split
  · exact Nat.le_refl _
  · split <;> omega
theorem rank_sub2 {c:UInt8} {q r:Fm}:rankF q≤rankF (.two c q r)∧rankF r≤rankF (.two c q r):=by
 show _≤max _ _∧_≤max _ _
 omega
def cntI (c:UInt8):Prop:=(c.toNat:Int)=50∨(c.toNat:Int)=51∨(c.toNat:Int)=52
theorem leaf_letter {c:UInt8} {vs:List UInt8} (h:wfF (.leaf c vs)):¬ quI (c.toNat:Int)∧¬ cntI c:=by
  unfold quI cntI
  rcases leaf_op h with hc | ⟨rfl,_⟩ | ⟨hc,_⟩
  · rcases hc with rfl | rfl <;> decide
  · decide
  · rcases hc with rfl | rfl <;> decide
theorem two_letter {c:UInt8} {p q:Fm} (h:wfF (.two c p q)):¬ quI (c.toNat:Int)∧¬ cntI c:=by
 unfold quI cntI
 rcases two_op h with rfl | rfl <;> decide
theorem one_letter {c:UInt8} {vs:List UInt8} {q:Fm} (h:wfF (.one c vs q)):(quI (c.toNat:Int)∧∃ v,vs=[v]∧isV v=true)∨(c=33∧vs=[]):=by
 cases vs with
 | nil=>exact .inr ⟨one_no_var h,rfl⟩
 | cons v vs =>
  obtain ⟨h1,rfl,h3⟩:=one_var h
  refine .inl ⟨?_,v,rfl,h3⟩
  unfold quI
  rcases h1 with rfl | rfl | rfl | rfl | rfl <;> decide
theorem rank_end1 {c:UInt8} {vs:List UInt8} {q:Fm} (hc:cntI c):(rankF q:Int)+((c.toNat:Int) - 48)=((rankF (.one c vs q):Nat):Int):=by
 have hq:quI (c.toNat:Int):=by unfold cntI at hc;unfold quI;omega
 rw [rank_cnt hq (by unfold cntI at hc;omega)];omega
theorem rank_end2 {c:UInt8} {vs:List UInt8} {q:Fm} (hc:¬ cntI c) (hq:quI (c.toNat:Int)):(rankF q:Int)+1=((rankF (.one c vs q):Nat):Int):=by
 rw [rank_one (by unfold cntI at hc;unfold quI at hq;omega)]
theorem rank_end3 {c:UInt8} {vs:List UInt8} {q:Fm} (h:wfF (.one c vs q)) (hq:¬ quI (c.toNat:Int)):(rankF q:Int)=((rankF (.one c vs q):Nat):Int):=by
  rcases one_letter h with ⟨h1,_⟩ | ⟨rfl,rfl⟩
  · exact absurd h1 hq
  · rfl
end Go.Wk
namespace Go.Wk
open Go.RowKit
section
variable {P:Program} {n:Nat} {C:World→Prop} {B:Nat} {w0:World} {hs hs':List (Nat×Obj)} {N R:Act→World→Prop} {X:List (Nat×(Act→World→Prop))} {e:Env} {ops:Array Oper} {l:List Oper} {o:Oper}
theorem OpQ.indexAgg {t el:TypeId} {m:Nat} {x y:Operand} {xs:List Int} {k:IntKind} {i:Int} (h:o.op=.index t x y) (hu:∀ w,(underlying t).run P w=.ok (.array m el) w) (hag:∀ w,(isAgg el).run P w=.ok false w) (hz:∀ w,(sizeOf el).run P w=.ok 1 w)
  (hx:opd e x=some (.agg (ints xs).toArray)) (hy:opd e y=some (.int k i)) (h0:0≤i) (h1:i<m) (hl:xs.length=m):OpQ P n C e o (.int .i64 (xs.getD i.toNat 0)):=OpQ.val fun A hF w=>by
 unfold execOp;rw [h];simp only [hF.opd hx,hF.opd hy]
 have hc:((ints xs).toArray)[i.toNat]?=some (.int .i64 (xs.getD i.toNat 0)):=by
  have hi:i.toNat<xs.length:=by omega
  rw [List.getElem?_toArray]
  unfold ints
  rw [List.getElem?_map,List.getElem?_eq_getElem hi,getD_at hi];rfl
 simp only [Instr.index,asIntOf,Sem.run_bind,Sem.run_pure,hu,Result.andThen,if_pos (And.intro h0 h1),hz,part,hag,Nat.mul_one]
 simp [hc]
theorem OpQ.loadHold {t:TypeId} {x:Operand} {p:Nat} {a:St} {k:Value} {T:TypeId} {fr:Nat×Nat} (i:Nat) (h:o.op=.load t x) (hag:∀ w,(isAgg t).run P w=.ok true w) (hsz:∀ w,(sizeOf t).run P w=.ok 3 w) (hx:opd e x=some (.pointer (some ⟨p,0,none⟩)))
  (hi:hs[i]?=some (p,.cells #[.int .i64 a.n,str a.set,str a.rel,k] T fr)):OpQ P n (Own B w0 hs) e o (vS a) :=
 OpQ.loadN (cs:=#[.int .i64 a.n,str a.set,str a.rel]) h hag hsz hx fun w hw j v hj=>by
  rw [Addr.add_lit,hw.cell hi,Nat.zero_add]
  match j,hj with
  | 0,hj=>exact hj
  | 1,hj=>exact hj
  | 2,hj=>exact hj
  | j+3,hj=>simp at hj
theorem Row.u8 {w:World} {v:Value} {vs:List UInt8} (h:Row w v (vs.map u8V)) {i:Int} (h0:0≤i) (h1:i<vs.length):w.cell? (sAt v i)=some (.int .u8 ((vs.getD i.toNat 0).toNat:Int)):=by
 have hi:i.toNat<vs.length:=by omega
 rw [Row.cell h h0 (by rw [List.length_map];exact h1),getD_at hi]
 congr 1
 rw [List.getD_eq_getElem?_getD,List.getElem?_map,List.getElem?_eq_getElem hi];rfl
abbrev memoF (TH h M:Nat) (a:St) (K:Memo) (r:List (Nat×Obj)):List (Nat×Obj):=(h,.cells #[.int .i64 a.n,str a.set,str a.rel,.map (some M)] TH (0,0))::(M,mapP (memoK K))::(memoB K++r)
theorem Own.offMemo {w:World} {M:Nat} {K:Memo} {f:List (Nat×Obj)} (h:Own B w0 (f++((M,mapP (memoK K))::(memoB K++hs))) w):Own B w0 (f++hs) w :=
 h.sub (List.Sublist.append_left (List.Sublist.cons _ (List.sublist_append_right _ _)) f)
theorem memo_perm {TH h M:Nat} {a:St} {K:Memo} (f r:List (Nat×Obj)):(f++memoF TH h M a K r).Perm (memoF TH h M a K (f++r)):=by
 have e:∀ r,memoF TH h M a K r=((h,Obj.cells #[.int .i64 a.n,str a.set,str a.rel,.map (some M)] TH (0,0))::(M,mapP (memoK K))::memoB K)++r:=fun _=>rfl
 rw [e,e]
 exact perm_back f _ r
theorem Ll.callMemo {TH h M d f:Nat} {a:St} {K:Memo} {ok:Memo→Prop} {b:Bool} {xs:List Operand} {ts:Array TypeId} {vs:List Value} (front:List (Nat×Obj)) (hd:Nat.blt d n=true) (hdst:o.dst=some d) (hg:wantE ops e o.guard=some true) (ho:o.op=.call ⟨.value (.func f),xs.toArray,ts⟩)
  (hcf:∀ args w,(callFunc f args).run P w=.ok (.enter f args) w) (hx:opds e xs=some vs)
  (hc:∀ w,Own B w0 (memoF TH h M a K (front++hs)) w→Calls P f vs.toArray w fun en w'=>∃ K',en=.returned (.bool b)∧ok K'∧Own B w0 (memoF TH h M a K' (front++hs)) w')
  (k:∀ K',ok K'→Ll P n (Own B w0 (front++memoF TH h M a K' hs)) ops l ((d,.bool b)::e) N R X):Ll P n (Own B w0 (front++memoF TH h M a K hs)) ops (o::l) e N R X :=
 Ll.call hd hdst hg ho hcf hx fun w hw=>(hc w (hw.perm (memo_perm _ _))).mono fun en w' ⟨K',h1,h2,h3⟩=>⟨_,h1,fun a' ha=>by
  have:=k K' h2
  unfold Ll at this
  exact this a' w' ha (h3.perm (memo_perm _ _).symm)⟩
end
theorem memo_new {M m p:Nat} {K:Memo} (f r:List (Nat×Obj)):((m,mapI [])::(f++((M,mapP (memoK K++[(p,m)]))::(memoB K++r)))).Perm (f++((M,mapP (memoK (K++[(p,m,[])])))::(memoB (K++[(p,m,[])])++r))):=by
 rw [memoK_add,memoB_add,List.append_assoc]
 refine (List.perm_middle (a:=(m,mapI [])) (l₁:=f) (l₂:=((M,mapP (memoK K++[(p,m)]))::(memoB K++r)))).symm.trans (List.Perm.append_left f ?_)
 refine (List.Perm.swap _ _ _).trans (List.Perm.cons _ ?_)
 exact (List.perm_middle (a:=(m,mapI [])) (l₁:=memoB K) (l₂:=r)).symm
theorem memo_set2 {M m p j:Nat} {K:Memo} {x y:Nat×Obj} {r:List (Nat×Obj)} {L L':List (Int×Bool)} (hj:K[j]?=some (p,m,L)):(x::y::(M,mapP (memoK K))::(memoB K++r)).set (j+3) (m,mapI L')=x::y::(M,mapP (memoK (K.set j (p,m,L'))))::(memoB (K.set j (p,m,L'))++r):=by
 rw [memoK_set hj,← memoB_set hj];rfl
theorem memo_last {K:Memo} {p m:Nat} (h:∀ x∈memoK K,x.1 ≠ p):(K++[(p,m,[])])[K.length]?=some (p,m,[])∧∀ (q:Nat) (x:Nat×Nat),q<K.length→(memoK (K++[(p,m,[])]))[q]?=some x→x.1 ≠ p:=by
 refine ⟨by simp,fun q x hq hx=>?_⟩
 rw [memoK_add,List.getElem?_append_left (by unfold memoK;rw [List.length_map];exact hq)] at hx
 exact h x (List.mem_of_getElem? hx)
theorem memo_case3 (K:Memo) (p:Nat) (k:Int):(∀ x∈memoK K,x.1 ≠ p)∨(∃ j m L,K[j]?=some (p,m,L)∧(∀ (q:Nat) (x:Nat×Nat),q<j→(memoK K)[q]?=some x→x.1 ≠ p)∧∀ x∈L,x.1 ≠ k)∨∃ j m L,K[j]?=some (p,m,L)∧(∀ (q:Nat) (x:Nat×Nat),q<j→(memoK K)[q]?=some x→x.1 ≠ p)∧∃ x∈L,x.1=k:=by
  rcases memo_case K p with h | ⟨j,m,L,h1,h2⟩
  · exact .inl h
  · rcases has_case L k with h3 | h3
    · exact .inr (.inl ⟨j,m,L,h1,h2,h3⟩)
    · exact .inr (.inr ⟨j,m,L,h1,h2,h3⟩)
theorem leaf_by {c:UInt8} {vs:List UInt8} (h:wfF (.leaf c vs)):(((c.toNat:Int)=116∨(c.toNat:Int)=102)∧vs=[])∨((c.toNat:Int)=80∧∃ v,vs=[v]∧isV v=true)∨(((c.toNat:Int)=61∨(c.toNat:Int)=69)∧∃ v u,vs=[v,u]∧isV v=true∧isV u=true):=by
  have hv:=h.2.2.2
  have hl:=h.2.2.1
  rcases leaf_op h with hc | ⟨rfl,v,rfl⟩ | ⟨hc,v,u,rfl⟩
  · refine .inl ⟨?_,?_⟩
    · rcases hc with rfl | rfl <;> decide
    · have e:arV c=0:=by rcases hc with rfl | rfl <;> rfl
      exact List.length_eq_zero_iff.1 (by omega)
  · exact .inr (.inl ⟨by decide,v,rfl,hv v (by simp)⟩)
  · refine .inr (.inr ⟨?_,v,u,rfl,hv v (by simp),hv u (by simp)⟩)
    rcases hc with rfl | rfl <;> decide
theorem one_by {c:UInt8} {vs:List UInt8} {q:Fm} (h:wfF (.one c vs q)):((c.toNat:Int)=33∧vs=[])∨(quI (c.toNat:Int)∧∃ v,vs=[v]∧isV v=true):=by
  rcases one_letter h with ⟨h1,v,h2,h3⟩ | ⟨rfl,h2⟩
  · exact .inr ⟨h1,v,h2,h3⟩
  · exact .inl ⟨by decide,h2⟩
theorem two_by {c:UInt8} {p q:Fm} (h:wfF (.two c p q)):(c.toNat:Int)=38∨(c.toNat:Int)=124:=by
 rcases two_op h with rfl | rfl <;> decide
theorem fm_by {fm:Fm} (h:wfF fm):(∃ c,fm=.leaf c []∧((c.toNat:Int)=116∨(c.toNat:Int)=102))∨(∃ c v,fm=.leaf c [v]∧(c.toNat:Int)=80∧isV v=true)∨(∃ c v u,fm=.leaf c [v,u]∧((c.toNat:Int)=61∨(c.toNat:Int)=69)∧isV v=true∧isV u=true) ∨
    (∃ c q,fm=.one c [] q∧(c.toNat:Int)=33)∨(∃ c v q,fm=.one c [v] q∧quI (c.toNat:Int)∧isV v=true)∨∃ c q r,fm=.two c q r∧((c.toNat:Int)=38∨(c.toNat:Int)=124):=by
  cases fm with
  | leaf c vs =>
    rcases leaf_by h with ⟨h1,rfl⟩ | ⟨h1,v,rfl,h2⟩ | ⟨h1,v,u,rfl,h2,h3⟩
    · exact .inl ⟨c,rfl,h1⟩
    · exact .inr (.inl ⟨c,v,rfl,h1,h2⟩)
    · exact .inr (.inr (.inl ⟨c,v,u,rfl,h1,h2,h3⟩))
  | one c vs q =>
    rcases one_by h with ⟨h1,rfl⟩ | ⟨h1,v,rfl,h2⟩
    · exact .inr (.inr (.inr (.inl ⟨c,q,rfl,h1⟩)))
    · exact .inr (.inr (.inr (.inr (.inl ⟨c,v,q,rfl,h1,h2⟩))))
  | two c q r=>exact .inr (.inr (.inr (.inr (.inr ⟨c,q,r,rfl,two_by h⟩))))
section
variable {a:St} {en:List Int} {c v u:UInt8} {q r:Fm}
theorem ev116 (h:(c.toNat:Int)=116):true=ev a (.leaf c []) en:=by
 obtain rfl:c=116:=u8_of (n:=116) (by decide) h
 rfl
theorem ev102 (h:(c.toNat:Int)=102):false=ev a (.leaf c []) en:=by
 obtain rfl:c=102:=u8_of (n:=102) (by decide) h
 rfl
theorem ev80 (h:(c.toNat:Int)=80):a.inSet (en.getD (vI v) 0)=ev a (.leaf c [v]) en:=by
 obtain rfl:c=80:=u8_of (n:=80) (by decide) h
 rfl
theorem ev33 (h:(c.toNat:Int)=33):(!ev a q en)=ev a (.one c [] q) en:=by
 obtain rfl:c=33:=u8_of (n:=33) (by decide) h
 rfl
theorem ev38 (h:(c.toNat:Int)=38):(ev a q en&&ev a r en)=ev a (.two c q r) en:=by
 obtain rfl:c=38:=u8_of (n:=38) (by decide) h
 rfl
theorem ev124 (h:(c.toNat:Int)=124):(ev a q en||ev a r en)=ev a (.two c q r) en:=by
 obtain rfl:c=124:=u8_of (n:=124) (by decide) h
 rfl
theorem and_t {x y z:Bool} (h:(x&&y)=z) (hx:x=true):y=z:=by rw [hx] at h;exact h
theorem and_f {x y z:Bool} (h:(x&&y)=z) (hx:x=false):false=z:=by rw [hx] at h;exact h
theorem or_t {x y z:Bool} (h:(x||y)=z) (hx:x=true):true=z:=by rw [hx] at h;exact h
theorem or_f {x y z:Bool} (h:(x||y)=z) (hx:x=false):y=z:=by rw [hx] at h;exact h
theorem ev_qu (h:quI (c.toNat:Int)):ev a (.one c [v] q) en=decide (need c a.n.toNat≤cntT (evC a v q en) a.n.toNat):=by
 unfold ev
 rw [if_neg (fun e=>by subst e;revert h;decide)];rfl
theorem ev65 (h:(c.toNat:Int)=65) {x:Nat} (hx:(x:Int)=a.n):decide ((cntT (evC a v q en) x:Int)=a.n)=ev a (.one c [v] q) en:=by
 rw [ev_qu (by unfold quI;omega),decide_eq_decide]
 have hn:=need65 h (show 0≤a.n by omega)
 have hl:=cntT_le (evC a v q en) x
 obtain rfl:x=a.n.toNat:=by omega
 omega
theorem ev83 (h:(c.toNat:Int)=83) {x:Nat} (hx:(x:Int)=a.n):decide ((0:Int)<(cntT (evC a v q en) x:Int))=ev a (.one c [v] q) en:=by
 rw [ev_qu (by unfold quI;omega),decide_eq_decide]
 have hn:=need83 (n:=a.n.toNat) h
 obtain rfl:x=a.n.toNat:=by omega
 omega
theorem ev234 (hq:quI (c.toNat:Int)) (h65:¬ (c.toNat:Int)=65) (h83:¬ (c.toNat:Int)=83) {x:Nat} (hx:(x:Int)=a.n):decide ((c.toNat:Int) - 48≤(cntT (evC a v q en) x:Int))=ev a (.one c [v] q) en:=by
 rw [ev_qu hq,decide_eq_decide]
 have hn:=need234 (c:=c) (n:=a.n.toNat) (by unfold quI at hq;omega)
 obtain rfl:x=a.n.toNat:=by omega
 omega
end
theorem bit_and {b i:Nat}:decide (((b / 2 ^ i &&& 1:Nat):Int)=1)=b.testBit i:=by
 rw [Nat.testBit_eq_decide_div_mod_eq,decide_eq_decide,Nat.and_one_is_mod]
 omega
theorem key_bound {a:St} {en:List Int} (hE:EnvA a en) (ha:a.Fine) {b i:Nat} (hi:i≤4):kSum b en i<4096:=by
 have h1:=kSum_lt (b:=b) (hE.ok ha) hi
 have h2:(8:Nat) ^ i≤8 ^ 4:=Nat.pow_le_pow_right (by decide) hi
 omega
theorem key_yes {a:St} {en:List Int} (hE:EnvA a en) (ha:a.Fine) {b i:Nat} (hi:i<4) (hb:b.testBit i=true):kSum b en i ||| (en.getD i 0).toNat*2 ^ (3*i)=kSum b en (i+1):=by
 rw [Nat.pow_mul,show (2:Nat) ^ 3=8 from rfl]
 exact kSum_or (hE.ok ha) hi hb
theorem key_no {en:List Int} {b i:Nat} (hb:b.testBit i=false):kSum b en i=kSum b en (i+1):=by
 rw [show kSum b en (i+1)=kSum b en i+(if b.testBit i then (en.getD i 0).toNat*8 ^ i else 0) from rfl,hb];rfl
theorem key_val {a:St} {en:List Int} (hE:EnvA a en) (ha:a.Fine) {i:Nat} (hi:i<4):en.getD i 0=((en.getD i 0).toNat:Int)∧(en.getD i 0).toNat<8:=by
 have:=(hE.ok ha).2 i hi
 omega
theorem shl_bound {x i:Nat} (hx:x<8) (hi:i<4):x*2 ^ (3*i)<4611686018427387904:=by
 have h2:(2:Nat) ^ (3*i)≤2 ^ 9:=Nat.pow_le_pow_right (by decide) (by omega)
 have:=Nat.mul_le_mul (show x≤7 by omega) h2
 omega
end Go.Wk
namespace Go.Wk
abbrev qN := @Own.offMemo
abbrev vX := @Ll.callMemo
end Go.Wk
namespace Go.Wk
open Go.RowKit
section
variable {P:Program} {n:Nat} {C:World→Prop} {B:Nat} {w0:World} {hs hs':List (Nat×Obj)} {N R:Act→World→Prop} {X:List (Nat×(Act→World→Prop))} {e:Env} {ops:Array Oper} {l:List Oper} {o:Oper}
theorem OpQ.sliceAll {t el:TypeId} {m:Nat} {x:Operand} {b:Nat} (h:o.op=.slice t x none none none) (hu:∀ w,(underlying t).run P w=.ok (.array m el) w) (hz:∀ w,(sizeOf el).run P w=.ok 1 w)
  (hx:opd e x=some (.pointer (some ⟨b,0,none⟩))):OpQ P n C e o (.slice (some ⟨b,0,none⟩) m m):=OpQ.val fun A hF w=>by
 unfold execOp;rw [h];simp only [hF.opd hx,Option.map_none]
 simp only [Instr.sliceAt,Instr.sureAddr,Instr.sliceBounds,Sem.run_bind,Sem.run_pure,hu,hz,Result.andThen]
 simp [Addr.add]
theorem Ll.copyEnv {dT sT elem T:TypeId} {d g:Nat} {x y:Operand} {v:Value} {xs:List Int} (i:Nat) (hd:Nat.blt d n=true) (hdst:o.dst=some d) (hg:wantE ops e o.guard=some true) (h:o.op=.call ⟨.builtin .copy,#[x,y],#[dT,sT]⟩)
    (hu:P.underlying dT=some (.slice elem)) (hsz:(P.info? elem).map (·.size)=some 1) (hx:opd e x=some (.slice (some ⟨g,0,none⟩) 4 4)) (hy:opd e y=some v) (hi:hs[i]?=some (g,.cells (ints [0,0,0,0]).toArray T (0,0))) (hr:∀ w,Own B w0 hs w→Ints w v xs) (hl:xs.length≤4)
    (k:Ll P n (Own B w0 (hs.set i (g,.cells (ints (envL xs)).toArray T (0,0)))) ops l ((d,.int .i64 (xs.length:Int))::e) N R X):Ll P n (Own B w0 hs) ops (o::l) e N R X :=
  Ll.turn hd hdst hg fun a w hF hw=>by
    obtain ⟨src,cap,rfl,_,h3,h4⟩:=hr w hw
    have hlen:(ints xs).length=xs.length:=ints_length _
    have hgc:=(hw.has i g _ hi).2
    by_cases h0:xs=[]
    · subst h0
      refine ⟨.int .i64 (([]:List Int).length:Int),w,?_,fun a' ha=>?_⟩
      · unfold execOp;rw [h]
        simp only [resolve,invoke,BigFrame.builtin_copy,List.map_toArray,List.map_cons,List.map_nil,hF.opd hx,hF.opd hy,Sem.run_bind,Sem.run_pure,Result.andThen]
        rw [run_copy_none w dT sT _ elem (some ⟨g,0,none⟩) src 4 4 (ints ([]:List Int)).length cap hu hsz (by rw [ints_length];rfl)]
        rfl
      · unfold Ll at k
        refine k a' w ha ?_
        rw [show envL []=[0,0,0,0] from rfl,set_same hi];exact hw
    · have hone:∀ v∈ints xs,v.oneCell'=true:=fun v hv=>by
        obtain ⟨z,_,rfl⟩:=List.mem_map.1 hv;rfl
      obtain ⟨ad,rfl⟩:∃ ad,src=some ad:=by
        cases src with
        | none =>
          have:=h3 rfl
          exact absurd (List.map_eq_nil_iff.1 this) h0
        | some ad=>exact ⟨ad,rfl⟩
      obtain ⟨bk,off,sp⟩:=ad
      obtain rfl:sp=none:=(h4 _ rfl).1
      have hcells:∀ (j:Nat) (u:Value),(ints xs)[j]?=some u→w.cell? ((⟨bk,off,none⟩:Addr).add j)=some u:=fun j u hu=>by rw [Addr.add_lit];exact (h4 _ rfl).2 j u hu
      have e1:((ints [0,0,0,0]).toArray.toList.take 0++ints xs++(ints [0,0,0,0]).toArray.toList.drop (0+(ints xs).length)).toArray=(ints (envL xs)).toArray:=by
        have e2:(ints [0,0,0,0]).drop xs.length=ints (List.replicate (4 - xs.length) 0):=by
          rw [show ([0,0,0,0]:List Int)=List.replicate 4 0 from rfl]
          unfold ints
          rw [List.map_replicate,List.map_replicate,List.drop_replicate]
        rw [Nat.zero_add,hlen,List.take_zero,List.nil_append]
        show (ints xs++(ints [0,0,0,0]).drop xs.length).toArray=_
        rw [e2]
        unfold envL ints
        rw [List.map_append]
      refine ⟨.int .i64 (xs.length:Int),w.setRow g (ints (envL xs)).toArray,?_,fun a' ha=>?_⟩
      · unfold execOp;rw [h]
        simp only [resolve,invoke,BigFrame.builtin_copy,List.map_toArray,List.map_cons,List.map_nil,hF.opd hx,hF.opd hy,Sem.run_bind,Sem.run_pure,Result.andThen]
        rw [run_copy_row (P:=P) w dT sT _ elem g 0 4 4 ⟨bk,off,none⟩ (ints xs).length cap (ints [0,0,0,0]).toArray T (ints xs) hu hsz hgc (by rw [hlen];exact (Nat.min_eq_left hl).symm) hcells (by rw [hlen,List.size_toArray,ints_length];simpa using hl) hone,e1]
        show Result.ok _ _=_
        rw [hlen];rfl
      · unfold Ll at k
        exact k a' _ ha (hw.setRow hi _)
end
theorem hold_none {a:St} {f:List UInt8} {xs:List Int} (h:formO f=none):holdO a f xs=none:=holdO_none fun p e _=>by rw [h] at e;cases e
theorem hold_bad {a:St} {f:List UInt8} {xs:List Int} {fm:Fm} (h:formO f=some fm) (k:validB a=false∨4<(xs.length:Int)∨xs.all (elB a)=false∨¬ ((frB fm / 2 ^ xs.length:Nat):Int)=0):holdO a f xs=none:=holdO_none fun p e ⟨h1,h2,h3,h4⟩=>by
  rw [h] at e
  injection e with e
  subst e
  rcases k with k | k | k | k
  · rw [k] at h1;cases h1
  · omega
  · have:xs.all (elB a)=true:=List.all_eq_true.2 fun x hx=>elB_true.2 (h3 x hx)
    rw [k] at this;cases this
  · omega
theorem hold_good {a:St} {f:List UInt8} {xs:List Int} {fm:Fm} (h:formO f=some fm) (h1:validB a=true) (h2:xs.length≤4) (h3:xs.all (elB a)=true) (h4:((frB fm / 2 ^ xs.length:Nat):Int)=0):holdO a f xs=some (ev a fm (envL xs)) :=
 holdO_some h ⟨h1,h2,fun x hx=>elB_true.1 (List.all_eq_true.1 h3 x hx),by omega⟩
theorem hold_ret {a:St} {f:List UInt8} {xs:List Int} {o:Option Bool} (h:holdO a f xs=o):(Value.tuple #[.bool (o.getD false),.bool o.isSome])=.tuple #[.bool (holdV a f xs),.bool (holdK a f xs)]:=by
 unfold holdV holdK;rw [h]
end Go.Wk
namespace Go.Wk
open Go.RowKit
section
variable {P:Program} {n:Nat} {C:World→Prop} {e:Env} {o:Oper}
end
def bitC (b:Bool):List UInt8:=if b then [49] else [48]
@[simp] theorem bitC_len (b:Bool):(bitC b).length=1:=by cases b <;> rfl
def flipTo (s:List UInt8):Nat→List UInt8
 | 0=>[]
 | k+1=>flipTo s k++bitC (decide (s.getD k 0=48))
@[simp] theorem flip_len (s:List UInt8):∀ k,(flipTo s k).length=k
 | 0=>rfl
 | k+1=>by simp [flipTo,flip_len s k]
def mkSet (p:Nat→Bool):Nat→List UInt8
 | 0=>[]
 | k+1=>mkSet p k++bitC (p k)
@[simp] theorem mkSet_len (p:Nat→Bool):∀ k,(mkSet p k).length=k
 | 0=>rfl
 | k+1=>by simp [mkSet,mkSet_len p k]
def mkRel (q:Nat→Nat→Bool) (n:Nat):Nat→List UInt8
 | 0=>[]
 | k+1=>mkRel q n k++mkSet (q k) n
@[simp] theorem mkRel_len (q:Nat→Nat→Bool) (n:Nat):∀ k,(mkRel q n k).length=k*n
 | 0=>by simp [mkRel]
 | k+1=>by simp [mkRel,mkRel_len q n k,Nat.add_mul]
end Go.Wk
namespace Go.Wk
open Go.RowKit
def joinN (op:List UInt8) (l:List (List UInt8)):List UInt8:=preJ op l (l.length - 1)++l.getD (l.length - 1) []
theorem getM_len {l:List (List UInt8)} {M:Nat} (hl:∀ s∈l,s.length≤M) (k:Nat):(l.getD k []).length≤M:=by
  rw [List.getD_eq_getElem?_getD]
  rcases Nat.lt_or_ge k l.length with h | h
  · rw [List.getElem?_eq_getElem h];exact hl _ (List.getElem_mem _)
  · rw [List.getElem?_eq_none h];simp
theorem preJ_lenM {op:List UInt8} {l:List (List UInt8)} {M:Nat} (ho:op.length≤1) (hl:∀ s∈l,s.length≤M):∀ k,(preJ op l k).length≤(M+1)*k
 | 0=>by simp [preJ]
 | k+1=>by
  have h1:=preJ_lenM ho hl k
  have h2:=getM_len hl k
  simp only [preJ,List.length_append]
  rw [Nat.mul_succ];omega
theorem specJ_end' {op:List UInt8} {l:List (List UInt8)} {k:Nat} (h:l.length≤k):specJ op l k=joinN op l:=by
 unfold specJ joinN;rw [if_neg (by omega)]
theorem specJ_lenM {op:List UInt8} {l:List (List UInt8)} {M:Nat} (ho:op.length≤1) (hl:∀ s∈l,s.length≤M) (k:Nat):(specJ op l k).length≤(M+1)*k+(M+1)*l.length+M:=by
  have h1:=preJ_lenM ho hl k
  have h2:=preJ_lenM ho hl (l.length - 1)
  have h3:=getM_len hl (l.length - 1)
  have h4:(M+1)*(l.length - 1)≤(M+1)*l.length:=Nat.mul_le_mul_left _ (by omega)
  unfold specJ
  split
  · omega
  · rw [List.length_append];omega
theorem joinN_len {op:List UInt8} {l:List (List UInt8)} {M:Nat} (ho:op.length≤1) (hl:∀ s∈l,s.length≤M) (h0:l.length ≠ 0):(joinN op l).length≤(M+1)*l.length:=by
 have h2:=preJ_lenM ho hl (l.length - 1)
 have h3:=getM_len hl (l.length - 1)
 have e:(M+1)*l.length=(M+1)*(l.length - 1)+(M+1):=by
  rw [show l.length=(l.length - 1)+1 from by omega,Nat.mul_succ];simp
 unfold joinN
 rw [List.length_append];omega
theorem mulM {M k n:Nat} (hM:M≤100000) (hk:k≤n) (hn:n≤1000):(M+1)*k≤100001000:=Nat.le_trans (Nat.mul_le_mul (show M+1≤100001 by omega) (show k≤1000 by omega)) (by decide)
def shortS (s:List UInt8):List UInt8:=if s.length≤4000 then s else []
def shortB (s:List UInt8):Bool:=decide (s.length≤4000)
theorem dedup_memL {l:List (List UInt8)} {M:Nat} (h:∀ s∈l,s.length≤M):∀ s∈dedup l,s.length≤M:=fun s hs=>by
  have key:∀ (l ks:List (List UInt8)),(∀ t,t∈l.foldl addK ks→t∈ks∨t∈l):=fun l=>by
    induction l with
    | nil=>exact fun ks t ht=>.inl ht
    | cons s l ih =>
      intro ks t ht
      rcases ih (addK ks s) t ht with h1 | h1
      · unfold addK at h1
        split at h1
        · exact .inl h1
        · rcases List.mem_append.1 h1 with h2 | h2
          · exact .inl h2
          · exact .inr (by rw [List.mem_singleton.1 h2];simp)
      · exact .inr (by simp [h1])
  rcases key l [] s hs with h1 | h1
  · cases h1
  · exact h s h1
theorem dedup_le (l:List (List UInt8)):(dedup l).length≤l.length:=by
 have:=dedup_len l []
 simpa [dedup] using this
theorem dedup_pos {l:List (List UInt8)} (h:l.length ≠ 0):(dedup l).length ≠ 0:=by
 have key:∀ (l ks:List (List UInt8)),ks.length≤(l.foldl addK ks).length:=fun l=>by
  induction l with
  | nil=>exact fun ks=>Nat.le_refl _
  | cons s l ih =>
   intro ks
   refine Nat.le_trans ?_ (ih _)
   unfold addK;split <;> simp
 cases l with
 | nil=>simp at h
 | cons s l =>
  have:=key l (addK [] s)
  unfold dedup
  rw [List.foldl_cons]
  have e:(addK [] s).length=1:=by simp [addK]
  omega
def diffO:List (List UInt8×Bool)→List (List UInt8×Bool)→List UInt8
 | f::l,g::m=>if f.2=g.2 then diffO l m else signed f
 | _,_=>[]
theorem diffO_len:∀ (l m:List (List UInt8×Bool)),(∀ f∈l,f.1.length≤3)→(diffO l m).length≤4
  | [],_,_=>by simp [diffO]
  | _::_,[],_=>by simp [diffO]
  | f::l,g::m,h=>by
    unfold diffO
    split
    · exact diffO_len l m fun x hx=>h x (by simp [hx])
    · have:=h f (by simp)
      unfold signed signS
      split
      · omega
      · simp;omega
theorem diffO_at:∀ {l m:List (List UInt8×Bool)} {k:Nat},k<l.length→k<m.length→(∀ i:Nat,i<k→(l.getD i ([],false)).2=(m.getD i ([],false)).2)→(l.getD k ([],false)).2 ≠ (m.getD k ([],false)).2→diffO l m=signed (l.getD k ([],false))
 | [],_,_,h,_,_,_=>by simp at h
 | _::_,[],_,_,h,_,_=>by simp at h
 | f::l,g::m,0,_,_,_,h=>by
  simp at h
  unfold diffO;rw [if_neg h];rfl
 | f::l,g::m,k+1,h1,h2,h3,h4=>by
  have h0:=h3 0 (by omega)
  simp at h0
  unfold diffO
  rw [if_pos h0]
  exact diffO_at (by simpa using h1) (by simpa using h2) (fun i hi=>by simpa using h3 (i+1) (by omega)) (by simpa using h4)
def apart (v:List UInt8) (turned:Bool) (l:List (List UInt8)):List UInt8:=((if turned then [33,83] else [83])++v)++joinN [38] (dedup l)
def tellF:Nat→St→List Int→St→List Int→List UInt8
 | 0,a,xs,b,ys=>diffO (factsL a xs xs.length) (factsL b ys ys.length)
 | r+1,a,xs,b,ys=>if sameB a xs b ys then
   (match moveO r a xs b ys with
   | some (true,x)=>apart (nameS xs.length) false ((List.range b.n.toNat).map fun y:Nat=>tellF r a (xs++[(x:Int)]) b (ys++[(y:Int)]))
   | some (false,y)=>apart (nameS xs.length) true ((List.range a.n.toNat).map fun x:Nat=>tellF r b (ys++[(y:Int)]) a (xs++[(x:Int)]))
   | none=>[])
  else diffO (factsL a xs xs.length) (factsL b ys ys.length)
end Go.Wk
namespace Go.Wk
open Go.RowKit
theorem beqS_comm (x y:List UInt8):(x==y)=(y==x):=by
 rw [Bool.eq_iff_iff,beq_iff_eq,beq_iff_eq];exact eq_comm
theorem seenI_mem {l:List (List UInt8)} {s:List UInt8}:decide (0≤seenI l s)=decide (s∈l):=by
  unfold seenI
  by_cases h:s∈l
  · rw [if_pos h];exact decide_eq_decide.2 ⟨fun _=>h,fun _=>by omega⟩
  · rw [if_neg h];exact decide_eq_decide.2 ⟨fun e=>absurd e (by decide),fun e=>absurd e h⟩
theorem dedup_old {l:List (List UInt8)} {k:Nat} (hk:k<l.length) (h:l.getD k []∈dedup (l.take k)):dedup (l.take (k+1))=dedup (l.take k):=by
 rw [dedup_step hk];exact addK_old (fun e=>e h)
theorem dedup_new {l:List (List UInt8)} {k:Nat} (hk:k<l.length) (h:¬ l.getD k []∈dedup (l.take k)):dedup (l.take (k+1))=dedup (l.take k)++[l.getD k []]:=by
 rw [dedup_step hk];exact addK_new h
theorem shortS_of {s:List UInt8} (h:s.length≤4000):shortS s=s:=if_pos h
end Go.Wk
namespace Go.Wk
open Go.RowKit
theorem more_names (a b:St) (xs ys:List Int) (i:Nat):∀ k:Nat,(moreL a xs i k).map Prod.fst=(moreL b ys i k).map Prod.fst
 | 0=>rfl
 | k+1=>by
  unfold moreL
  rw [List.map_append,List.map_append,more_names a b xs ys i k];rfl
theorem fact_names (a b:St) (xs ys:List Int) (i:Nat):(factL a xs i).map Prod.fst=(factL b ys i).map Prod.fst:=by
 unfold factL
 rw [List.map_append,List.map_append,more_names a b xs ys];rfl
theorem facts_names (a b:St) (xs ys:List Int):∀ i:Nat,(factsL a xs i).map Prod.fst=(factsL b ys i).map Prod.fst
 | 0=>rfl
 | i+1=>by unfold factsL;rw [List.map_append,List.map_append,facts_names a b xs ys i,fact_names a b xs ys]
theorem facts_len (a b:St) (xs ys:List Int) (i:Nat):(factsL a xs i).length=(factsL b ys i).length:=by
 have:=congrArg List.length (facts_names a b xs ys i)
 simpa using this
theorem diffO_none:∀ {l m:List (List UInt8×Bool)},(∀ i:Nat,i<l.length→(l.getD i ([],false)).2=(m.getD i ([],false)).2)→diffO l m=[]
 | [],_,_=>by cases ‹List (List UInt8×Bool)› <;> rfl
 | _::_,[],_=>rfl
 | f::l,g::m,h=>by
  have h0:=h 0 (by simp)
  simp at h0
  unfold diffO
  rw [if_pos h0]
  exact diffO_none fun i hi=>by simpa using h (i+1) (by simpa using hi)
def diffS:List (List UInt8)→List (List UInt8)→List UInt8
 | f::l,g::m=>if f=g then diffS l m else f
 | _,_=>[]
theorem diffS_same:∀ l:List (List UInt8),diffS l l=[]
 | []=>rfl
 | f::l=>by unfold diffS;rw [if_pos rfl,diffS_same l]
theorem diffS_app:∀ {l m l' m':List (List UInt8)},l.length=m.length→diffS (l++l') (m++m')=if l=m then diffS l' m' else diffS l m
  | [],[],_,_,_=>by simp
  | [],_::_,_,_,h=>by simp at h
  | _::_,[],_,_,h=>by simp at h
  | f::l,g::m,l',m',h=>by
    have ih:=diffS_app (l:=l) (m:=m) (l':=l') (m':=m') (by simpa using h)
    by_cases e:f=g
    · subst e
      by_cases e2:l=m
      · subst e2
        rw [if_pos rfl] at ih ⊢
        show (if f=f then diffS (l++l') (l++m') else f)=diffS l' m'
        rw [if_pos rfl,ih]
      · rw [if_neg e2] at ih
        rw [if_neg (fun h=>e2 (by injection h))]
        show (if f=f then diffS (l++l') (m++m') else f)=(if f=f then diffS l m else f)
        rw [if_pos rfl,if_pos rfl,ih]
    · rw [if_neg (fun h=>e (by injection h))]
      show (if f=g then diffS (l++l') (m++m') else f)=(if f=g then diffS l m else f)
      rw [if_neg e,if_neg e]
theorem diffS_at:∀ {l m:List (List UInt8)} {k:Nat},k<l.length→k<m.length→(∀ i:Nat,i<k→l.getD i []=m.getD i [])→l.getD k [] ≠ m.getD k []→diffS l m=l.getD k []
 | [],_,_,h,_,_,_=>by simp at h
 | _::_,[],_,_,h,_,_=>by simp at h
 | f::l,g::m,0,_,_,_,h=>by
  simp at h
  unfold diffS;rw [if_neg h];rfl
 | f::l,g::m,k+1,h1,h2,h3,h4=>by
  have h0:=h3 0 (by omega)
  simp at h0
  unfold diffS
  rw [if_pos h0]
  exact diffS_at (by simpa using h1) (by simpa using h2) (fun i hi=>by simpa using h3 (i+1) (by omega)) (by simpa using h4)
theorem signS_inj {b c:Bool} {s:List UInt8} (h:signS b s=signS c s):b=c:=by
 have h1:=congrArg List.length h
 cases b <;> cases c <;> simp [signS] at h1 ⊢
theorem diffO_S:∀ {l m:List (List UInt8×Bool)},l.map Prod.fst=m.map Prod.fst→diffO l m=diffS (l.map signed) (m.map signed)
  | [],[],_=>rfl
  | [],_::_,h=>by simp at h
  | _::_,[],h=>by simp at h
  | f::l,g::m,h=>by
    obtain ⟨f1,f2⟩:=f
    obtain ⟨g1,g2⟩:=g
    rw [List.map_cons,List.map_cons] at h
    injection h with h1 h2
    obtain rfl:f1=g1:=h1
    have ih:=diffO_S h2
    unfold diffO
    rw [List.map_cons,List.map_cons]
    unfold diffS
    by_cases e:f2=g2
    · rw [if_pos e,if_pos (show signed (f1,f2)=signed (f1,g2) by rw [e]),ih]
    · have hne:¬ signed (f1,f2)=signed (f1,g2):=fun h=>e (signS_inj h)
      rw [if_neg e,if_neg hne]
theorem differ_at {a b:St} {xs ys:List Int} {n i k:Nat} (hi:i<n) (hk:k<(factL a xs i).length) (hall:(factsL a xs i).map signed=(factsL b ys i).map signed) (hal:∀ j:Nat,j<k→((factL a xs i).map signed).getD j []=((factL b ys i).map signed).getD j []) (hne:((factL a xs i).map signed).getD k [] ≠ ((factL b ys i).map signed).getD k []) :
  diffO (factsL a xs n) (factsL b ys n)=((factL a xs i).map signed).getD k []:=by
 rw [diffO_S (facts_names a b xs ys n)]
 have step:diffS ((factsL a xs (i+1)).map signed) ((factsL b ys (i+1)).map signed)=((factL a xs i).map signed).getD k []∧¬ (factsL a xs (i+1)).map signed=(factsL b ys (i+1)).map signed:=by
  have hlen:((factsL a xs i).map signed).length=((factsL b ys i).map signed).length:=by rw [hall]
  have hlf:(factL a xs i).length=(factL b ys i).length:=by simp
  rw [facts_step,facts_step,diffS_app hlen,if_pos hall]
  refine ⟨diffS_at (by simpa using hk) (by rw [List.length_map,← hlf];exact hk) hal hne,fun e=>?_⟩
  rw [hall] at e
  have:=List.append_cancel_left e
  exact hne (by rw [this])
 have go:∀ m:Nat,diffS ((factsL a xs (i+1+m)).map signed) ((factsL b ys (i+1+m)).map signed)=((factL a xs i).map signed).getD k []∧¬ (factsL a xs (i+1+m)).map signed=(factsL b ys (i+1+m)).map signed:=fun m=>by
  induction m with
  | zero=>exact step
  | succ m ih =>
   have hlen:((factsL a xs (i+1+m)).map signed).length=((factsL b ys (i+1+m)).map signed).length:=by
    rw [List.length_map,List.length_map];exact facts_len a b xs ys _
   rw [← Nat.add_assoc,facts_step,facts_step,diffS_app hlen,if_neg ih.2]
   refine ⟨ih.1,fun e=>ih.2 (List.append_inj_left e hlen)⟩
 have:=(go (n - (i+1))).1
 rwa [show i+1+(n - (i+1))=n from by omega] at this
theorem differ_none {a b:St} {xs ys:List Int} {n:Nat} (hall:(factsL a xs n).map signed=(factsL b ys n).map signed):diffO (factsL a xs n) (factsL b ys n)=[]:=by
 rw [diffO_S (facts_names a b xs ys n),hall,diffS_same]
theorem list_extS {l m:List (List UInt8)} (hl:l.length=m.length) (h:∀ i:Nat,i<l.length→l.getD i []=m.getD i []):l=m:=by
 refine List.ext_getElem hl fun i h1 h2=>?_
 have:=h i h1
 rwa [getD_at h1,getD_at h2] at this
theorem rep_not {n:Nat} {a b:St} {xs ys:List Int} {x:Int} (hl:xs.length=ys.length) (h:(rep (goB n) a xs b ys x).isSome=false) {y:Nat} (hy:y<b.n.toNat):winB n a (xs++[x]) b (ys++[(y:Int)])=false:=by
 cases e:winB n a (xs++[x]) b (ys++[(y:Int)]) with
 | false=>rfl
 | true=>rw [(rep_some (g:=goB n) (x:=x) hl).2 ⟨y,hy,e⟩] at h;cases h
theorem move_at1 {n x:Nat} {a b:St} {xs ys:List Int} (hl:xs.length=ys.length) (h:moveO n a xs b ys=some (true,x)):x<a.n.toNat∧∀ y:Nat,y<b.n.toNat→winB n a (xs++[(x:Int)]) b (ys++[(y:Int)])=false:=by
  unfold moveO at h
  split at h
  · rename_i z hz
    injection h with h
    injection h with _ h
    subst h
    exact ⟨List.mem_range.1 (List.mem_of_find?_eq_some hz),fun y hy=>rep_not hl (by have:=List.find?_some hz;simpa using this) hy⟩
  · split at h
    · injection h with h;injection h with h;cases h
    · cases h
theorem move_at2 {n y:Nat} {a b:St} {xs ys:List Int} (hl:xs.length=ys.length) (h:moveO n a xs b ys=some (false,y)):y<b.n.toNat∧∀ x:Nat,x<a.n.toNat→winB n b (ys++[(y:Int)]) a (xs++[(x:Int)])=false:=by
  unfold moveO at h
  split at h
  · injection h with h;injection h with h;cases h
  · split at h
    · rename_i z hz
      injection h with h
      injection h with _ h
      subst h
      exact ⟨List.mem_range.1 (List.mem_of_find?_eq_some hz),fun x hx=>rep_not hl.symm (by have:=List.find?_some hz;simpa using this) hx⟩
    · cases h
theorem isSome_of {o:Option Nat} (h:¬ (!o.isSome)=true):o.isSome=true:=by
 cases e:o.isSome with
 | true=>rfl
 | false=>rw [e] at h;exact absurd rfl h
theorem move_ex {n:Nat} {a b:St} {xs ys:List Int} (hs:sameB a xs b ys=true) (hw:winB (n+1) a xs b ys=false):∃ (sd:Bool) (x:Nat),moveO n a xs b ys=some (sd,x):=by
  cases e:moveO n a xs b ys with
  | some p=>exact ⟨p.1,p.2,rfl⟩
  | none =>
    exfalso
    unfold moveO at e
    split at e
    · cases e
    · rename_i h1
      split at e
      · cases e
      · rename_i h2
        rw [List.find?_eq_none] at h1 h2
        unfold winB at hw
        rw [hs,go_yes (fun i hi=>isSome_of (h1 i (List.mem_range.2 hi))) (fun i hi=>isSome_of (h2 i (List.mem_range.2 hi)))] at hw
        cases hw
def tlL (F:Nat→List UInt8) (k:Nat):List (List UInt8):=(List.range k).map F
@[simp] theorem tlL_len (F:Nat→List UInt8) (k:Nat):(tlL F k).length=k:=by simp [tlL]
theorem tlL_step (F:Nat→List UInt8) (k:Nat):tlL F (k+1)=tlL F k++[F k]:=by simp [tlL,List.range_succ]
def LT:Nat→Nat
 | 0=>4
 | n+1=>8*LT n+11
theorem LT_mono (n:Nat):4≤LT n:=by
 cases n with
 | zero=>exact Nat.le_refl _
 | succ n=>unfold LT;omega
theorem LT3 {n:Nat} (h:n≤3):LT n≤2851:=by
 rcases (by omega:n=0∨n=1∨n=2∨n=3) with e | e | e | e <;> subst e <;> decide
theorem more_small (a:St) (xs:List Int) (i:Nat):∀ k:Nat,∀ f∈moreL a xs i k,f.1.length≤3
  | 0,f,hf=>by cases hf
  | k+1,f,hf=>by
    have h1:=name_le i
    have h2:=name_le k
    unfold moreL at hf
    rcases List.mem_append.1 hf with h | h
    · exact more_small a xs i k f h
    · simp only [List.mem_cons,List.not_mem_nil,or_false] at h
      rcases h with rfl | rfl | rfl <;> simp only [List.length_append,List.length_cons,List.length_nil] <;> omega
theorem facts_small (a:St) (xs:List Int):∀ i:Nat,∀ f∈factsL a xs i,f.1.length≤3
  | 0,f,hf=>by cases hf
  | i+1,f,hf=>by
    have h1:=name_le i
    unfold factsL at hf
    rcases List.mem_append.1 hf with h | h
    · exact facts_small a xs i f h
    · unfold factL headL at h
      rcases List.mem_append.1 h with h | h
      · simp only [List.mem_cons,List.not_mem_nil,or_false] at h
        rcases h with rfl | rfl <;> simp only [List.length_append,List.length_cons,List.length_nil] <;> omega
      · exact more_small a xs i i f h
theorem apart_len {v:List UInt8} {turned:Bool} {F:Nat→List UInt8} {m M:Nat} (hv:v.length≤1) (h1:1≤m) (h8:m≤8) (hF:∀ i:Nat,i<m→(F i).length≤M):(apart v turned (tlL F m)).length≤8*M+11:=by
 have hl:∀ s∈tlL F m,s.length≤M:=fun s hs=>by
  obtain ⟨i,hi,rfl⟩:=List.mem_map.1 hs
  exact hF i (List.mem_range.1 hi)
 have hd:=dedup_le (tlL F m)
 rw [tlL_len] at hd
 have hj:=joinN_len (op:=[38]) (by decide) (dedup_memL hl) (dedup_pos (l:=tlL F m) (by rw [tlL_len];omega))
 have hm:(M+1)*(dedup (tlL F m)).length≤(M+1)*8:=Nat.mul_le_mul_left _ (by omega)
 unfold apart
 cases turned <;> simp only [List.length_append,List.length_cons,List.length_nil,if_true,Bool.false_eq_true,if_false] <;> omega
theorem tell_some1 {r x:Nat} {a b:St} {xs ys:List Int} (hs:sameB a xs b ys=true) (h:moveO r a xs b ys=some (true,x)):tellF (r+1) a xs b ys=apart (nameS xs.length) false (tlL (fun y:Nat=>tellF r a (xs++[(x:Int)]) b (ys++[(y:Int)])) b.n.toNat):=by
 rw [tellF,if_pos hs,h];rfl
theorem tell_some2 {r y:Nat} {a b:St} {xs ys:List Int} (hs:sameB a xs b ys=true) (h:moveO r a xs b ys=some (false,y)):tellF (r+1) a xs b ys=apart (nameS xs.length) true (tlL (fun x:Nat=>tellF r b (ys++[(y:Int)]) a (xs++[(x:Int)])) a.n.toNat):=by
 rw [tellF,if_pos hs,h];rfl
theorem tell_diff {r:Nat} {a b:St} {xs ys:List Int} (hs:sameB a xs b ys=false):tellF r a xs b ys=diffO (factsL a xs xs.length) (factsL b ys ys.length):=by
 cases r with
 | zero=>rfl
 | succ r=>rw [tellF,if_neg (by rw [hs];decide)]
theorem tell_len:∀ (n:Nat) {a b:St} {xs ys:List Int},a.n.toNat≤8→b.n.toNat≤8→1≤a.n.toNat→1≤b.n.toNat→(tellF n a xs b ys).length≤LT n
 | 0,a,b,xs,ys,_,_,_,_=>diffO_len _ _ (facts_small a xs _)
 | n+1,a,b,xs,ys,ha,hb,ha1,hb1=>by
  have hLT:=LT_mono (n+1)
  cases hs:sameB a xs b ys with
  | false=>rw [tell_diff hs];exact Nat.le_trans (diffO_len _ _ (facts_small a xs _)) hLT
  | true =>
   cases hm:moveO n a xs b ys with
   | none=>rw [tellF,if_pos hs,hm];exact Nat.zero_le _
   | some p =>
    obtain ⟨sd,x⟩:=p
    cases sd with
    | true=>rw [tell_some1 hs hm];exact apart_len (name_le _) hb1 hb fun i _=>tell_len n ha hb ha1 hb1
    | false=>rw [tell_some2 hs hm];exact apart_len (name_le _) ha1 ha fun i _=>tell_len n hb ha hb1 ha1
def telOut (a:St) (xs:List Int) (b:St) (ys:List Int) (r:Int):List UInt8×Bool:=if gameB a xs b ys r&&decide ((xs.length:Int)+r≤4)&&!winB r.toNat a xs b ys then (tellF r.toNat a xs b ys,true) else ([],false)
theorem telOut_yes {a b:St} {xs ys:List Int} {r:Int} (hg:gameB a xs b ys r=true) (h4:(xs.length:Int)+r≤4) (hw:winB r.toNat a xs b ys=false):telOut a xs b ys r=(tellF r.toNat a xs b ys,true):=by
 unfold telOut;rw [if_pos (by rw [hg,hw,decide_eq_true h4];rfl)]
theorem telOut_no {a b:St} {xs ys:List Int} {r:Int} (h:gameB a xs b ys r=false∨4<(xs.length:Int)+r∨winB r.toNat a xs b ys=true):telOut a xs b ys r=([],false):=by
  unfold telOut
  rw [if_neg]
  intro e
  simp only [Bool.and_eq_true,decide_eq_true_eq,Bool.not_eq_true'] at e
  rcases h with h | h | h
  · rw [h] at e;exact absurd e.1.1 (by decide)
  · omega
  · rw [h] at e;exact absurd e.2 (by decide)
theorem tell_short {a b:St} {xs ys:List Int} {n:Nat} (h3:n≤3) (ha:a.Fine) (hb:b.Fine):(tellF n a xs b ys).length≤4000:=by
 have h1:=ha.lo
 have h2:=ha.hi
 have h4:=hb.lo
 have h5:=hb.hi
 exact Nat.le_trans (tell_len n (by omega) (by omega) (by omega) (by omega)) (Nat.le_trans (LT3 h3) (by decide))
def sentO (a b:St):List UInt8×Int×Bool :=
  if validB a&&validB b then (match (List.range 3).find? (fun i:Nat=>!winB (i+1) a [] b []) with
    | some i=>(tellF (i+1) a [] b [],((i:Int)+1),true)
    | none=>([],0,false)) else ([],0,false)
theorem sent_at {a b:St} {k:Nat} (hVa:validB a=true) (hVb:validB b=true) (hk:k<3) (hall:∀ i:Nat,i<k→winB (i+1) a [] b []=true) (h:winB (k+1) a [] b []=false):sentO a b=(tellF (k+1) a [] b [],((k:Int)+1),true):=by
 unfold sentO
 rw [if_pos (by rw [hVa,hVb];rfl),find_at (f:=fun i:Nat=>!winB (i+1) a [] b []) hk (fun i hi=>by rw [hall i hi];rfl) (by rw [h];rfl)]
theorem sent_none {a b:St} (hall:∀ i:Nat,i<3→winB (i+1) a [] b []=true):sentO a b=([],0,false):=by
  unfold sentO
  split
  · rw [show (List.range 3).find? (fun i:Nat=>!winB (i+1) a [] b [])=none from by rw [List.find?_eq_none];intro i hi;rw [hall i (List.mem_range.1 hi)];decide]
  · rfl
theorem sent_bad {a b:St} (h:¬ (validB a&&validB b)=true):sentO a b=([],0,false):=by unfold sentO;rw [if_neg h]
theorem sec_nil2 {a b:St} {i:Nat} (hVa:validB a=true) (hVb:validB b=true) (hi:i<3):secB a [] b [] ((i:Int)+1)=winB (i+1) a [] b []:=by
 unfold secB gameB listsB listB inB
 rw [hVa,hVb,decide_eq_true (show (0:Int)≤(i:Int)+1 by omega),decide_eq_true (show (i:Int)+1≤3 by omega),show ((i:Int)+1).toNat=i+1 from by omega]
 simp
theorem sec_no {a b:St} {i:Nat} (hVa:validB a=true) (hVb:validB b=true) (hi:i<3) (h:secB a [] b [] ((i:Int)+1)=false):winB (i+1) a [] b []=false:=by rw [← sec_nil2 hVa hVb hi];exact h
theorem telOut_nil {a b:St} {i:Nat} (hVa:validB a=true) (hVb:validB b=true) (hi:i<3) (h:winB (i+1) a [] b []=false):telOut a [] b [] ((i:Int)+1)=(tellF (i+1) a [] b [],true):=by
 have e:((i:Int)+1).toNat=i+1:=by omega
 rw [telOut_yes (by
  unfold gameB listsB listB inB
  rw [hVa,hVb,decide_eq_true (show (0:Int)≤(i:Int)+1 by omega),decide_eq_true (show (i:Int)+1≤3 by omega)]
  simp) (by simp;omega) (by rw [e];exact h),e]
end Go.Wk
namespace Go.Wk
open Go.RowKit
def bes (k:Nat):List Int:=List.replicate k (-1)
@[simp] theorem bes_len (k:Nat):(bes k).length=k:=List.length_replicate
end Go.Wk
namespace Go.Wk
open Go.RowKit
def InBoth (as_ bs:List Int) (x y:Int):Prop:=∃ j:Nat,j<as_.length∧x=as_.getD j 0∧y=bs.getD j 0
theorem getD_snoc {l:List Int} {x:Int} {i:Nat}:(l++[x]).getD i 0=if i<l.length then l.getD i 0 else if i=l.length then x else 0:=by
  rw [List.getD_eq_getElem?_getD]
  by_cases h:i<l.length
  · rw [if_pos h,List.getElem?_append_left h,← List.getD_eq_getElem?_getD]
  · rw [if_neg h,List.getElem?_append_right (by omega)]
    by_cases e:i=l.length
    · rw [if_pos e,e,Nat.sub_self];rfl
    · rw [if_neg e,List.getElem?_eq_none (by simp;omega)];rfl
theorem InBoth.more {as_ bs:List Int} {x y u v:Int} (hl:as_.length=bs.length) (h:InBoth as_ bs x y):InBoth (as_++[u]) (bs++[v]) x y:=by
 obtain ⟨j,hj,e1,e2⟩:=h
 exact ⟨j,by rw [List.length_append];omega,by rw [getD_snoc,if_pos hj];exact e1,by rw [getD_snoc,if_pos (by omega)];exact e2⟩
end Go.Wk
namespace Go.Wk
open Go.RowKit
def OnVars (xs ys:List Int) (fr:Nat) (e e':List Int):Prop:=∀ i:Nat,i<4→fr.testBit i=true→InBoth xs ys (e.getD i 0) (e'.getD i 0)
theorem cnt_all {f:Nat→Bool}:∀ {n:Nat},n≤cntT f n↔∀ x:Nat,x<n→f x=true
  | 0=>⟨fun _ x hx=>by omega,fun _=>Nat.le_refl _⟩
  | n+1=>by
    have h1:=cntT_le f n
    rw [cnt_step]
    constructor
    · intro h x hx
      have hf:f n=true:=by
        cases e:f n with
        | true=>rfl
        | false=>rw [e] at h;exfalso;simp at h;omega
      rw [if_pos hf] at h
      rcases Nat.lt_or_ge x n with h2 | h2
      · exact cnt_all.1 (by omega) x h2
      · rw [show x=n from by omega];exact hf
    · intro h
      rw [if_pos (h n (by omega))]
      have:=cnt_all (f:=f) (n:=n) |>.2 (fun x hx=>h x (show x<n+1 by omega))
      omega
theorem cnt_ex {f:Nat→Bool}:∀ {n:Nat},1≤cntT f n↔∃ x:Nat,x<n∧f x=true
  | 0=>⟨fun h=>by exact absurd h (by unfold cntT;omega),fun ⟨x,hx,_⟩=>by omega⟩
  | n+1=>by
    rw [cnt_step]
    constructor
    · intro h
      by_cases hf:f n=true
      · exact ⟨n,by omega,hf⟩
      · rw [if_neg hf] at h
        obtain ⟨x,hx,h2⟩:=cnt_ex.1 (show 1≤cntT f n by omega)
        exact ⟨x,by omega,h2⟩
    · rintro ⟨x,hx,h2⟩
      rcases Nat.lt_or_ge x n with h3 | h3
      · have:=cnt_ex.2 ⟨x,h3,h2⟩
        omega
      · obtain rfl:x=n:=by omega
        rw [if_pos h2];omega
theorem InBoth.left {as_ bs X Y:List Int} (hl:as_.length=bs.length) {x y:Int} (h:InBoth as_ bs x y):InBoth (as_++X) (bs++Y) x y:=by
  obtain ⟨j,hj,e1,e2⟩:=h
  refine ⟨j,by rw [List.length_append];omega,?_,?_⟩
  · rw [e1,List.getD_eq_getElem?_getD,List.getD_eq_getElem?_getD,List.getElem?_append_left hj]
  · rw [e2,List.getD_eq_getElem?_getD,List.getD_eq_getElem?_getD,List.getElem?_append_left (by omega)]
theorem OnVars.more {xs ys X Y:List Int} {fr:Nat} {e e':List Int} (hl:xs.length=ys.length) (h:OnVars xs ys fr e e'):OnVars (xs++X) (ys++Y) fr e e':=fun i hi ht=>(h i hi ht).left hl
theorem ev_quant_eq {a:St} {c v:UInt8} {p:Fm} {e:List Int} (hc:¬ c=33):ev a (.one c [v] p) e=decide (need c a.n.toNat≤cntT (evC a v p e) a.n.toNat):=by
 unfold ev;rw [if_neg hc];rfl
end Go.Wk
namespace Go.Wk
open Go.RowKit
theorem takeV_more {t:List UInt8}:∀ {k:Nat} {s vs r:List UInt8},takeV k s=some (vs,r)→takeV k (s++t)=some (vs,r++t)
  | 0,s,vs,r,h=>by injection h with h;injection h with h1 h2;subst h1;subst h2;rfl
  | k+1,[],vs,r,h=>by cases h
  | k+1,v::s,vs,r,h=>by
    unfold takeV at h
    split at h
    · rename_i hv
      split at h
      · rename_i us r' e
        injection h with h;injection h with h1 h2;subst h1;subst h2
        show (if isV v then (match takeV k (s++t) with | some (vs,r)=>some (v::vs,r) | none=>none) else none)=_
        rw [if_pos hv,takeV_more e]
      · cases h
    · cases h
theorem parse_more {t:List UInt8}:∀ (n:Nat) {s r:List UInt8} {p:Fm},s.length≤n→parse s=some (p,r)→parse (s++t)=some (p,r++t)
  | 0,[],_,_,_,h=>by cases h
  | 0,_::_,_,_,hn,_=>by simp at hn
  | _+1,[],_,_,_,h=>by cases h
  | n+1,c::s,r,p,hn,h=>by
    rw [List.cons_append]
    rw [parse_cons] at h ⊢
    simp only [List.length_cons] at hn
    split at h
    · rename_i hop
      rw [if_pos hop]
      split at h
      · cases h
      · rename_i vs r0 e
        obtain ⟨_,h2,_⟩:=takeV_len e
        rw [takeV_more e]
        dsimp only
        by_cases h0:arP c=0
        · rw [if_pos h0] at h ⊢
          injection h with h;injection h with h4 h;subst h;subst h4;rfl
        · rw [if_neg h0] at h ⊢
          by_cases h1:arP c=1
          · rw [if_pos h1] at h ⊢
            split at h
            · rename_i q r' e2
              injection h with h;injection h with h4 h;subst h;subst h4
              rw [parse_more n (by omega) e2]
            · cases h
          · rw [if_neg h1] at h ⊢
            split at h
            · rename_i q r' e2
              split at h
              · rename_i q2 r2 e3
                injection h with h;injection h with h4 h;subst h;subst h4
                have:=parse_len e2
                rw [parse_more n (by omega) e2]
                dsimp only
                rw [parse_more n (by omega) e3]
              · cases h
            · cases h
    · cases h
def Is (s:List UInt8) (p:Fm):Prop:=parse s=some (p,[])
theorem Is.more {s:List UInt8} {p:Fm} (h:Is s p) (t:List UInt8):parse (s++t)=some (p,t):=by
 have:=parse_more (t:=t) _ (Nat.le_refl _) h
 rwa [List.nil_append] at this
theorem Is.wf {s:List UInt8} {p:Fm} (h:Is s p):wfF p:=parse_wf _ (Nat.le_refl _) h
theorem Is.formO {s:List UInt8} {p:Fm} (h:Is s p) (hl:s.length≤4000):formO s=some p:=parse_formO hl h
theorem Is.same {s:List UInt8} {p q:Fm} (h:Is s p) (k:Is s q):p=q:=by
 have:=h.symm.trans k
 injection this with this;injection this
theorem is_leaf {c:UInt8} {vs:List UInt8} (ho:isOp c=true) (h0:arP c=0) (ht:takeV (arV c) vs=some (vs,[])):Is (c::vs) (.leaf c vs):=by
 unfold Is;rw [parse_cons,if_pos ho,ht];dsimp only;rw [if_pos h0]
theorem is_not {s:List UInt8} {p:Fm} (h:Is s p):Is (33::s) (.one 33 [] p):=by
 unfold Is;rw [parse_cons,show isOp 33=true from rfl,if_pos rfl,show takeV (arV 33) s=some ([],s) from rfl]
 dsimp only
 rw [if_neg (by decide),if_pos (by rfl),h]
theorem is_quant {c v:UInt8} {s:List UInt8} {p:Fm} (hc:c=65∨c=83∨c=50∨c=51∨c=52) (hv:isV v=true) (h:Is s p):Is (c::v::s) (.one c [v] p):=by
 have ha:arV c=1∧arP c=1∧isOp c=true:=by rcases hc with e | e | e | e | e <;> rw [e] <;> exact ⟨rfl,rfl,rfl⟩
 unfold Is
 rw [parse_cons,if_pos ha.2.2,ha.1,show takeV 1 (v::s)=some ([v],s) from by unfold takeV takeV;rw [if_pos hv]]
 dsimp only
 rw [if_neg (by omega),if_pos ha.2.1,h]
theorem is_two {c:UInt8} {s t:List UInt8} {p q:Fm} (hc:c=38∨c=124) (h:Is s p) (k:Is t q):Is (c::(s++t)) (.two c p q):=by
 have ha:arV c=0∧arP c=2∧isOp c=true:=by rcases hc with e | e <;> rw [e] <;> exact ⟨rfl,rfl,rfl⟩
 unfold Is
 rw [parse_cons,if_pos ha.2.2,ha.1,show takeV 0 (s++t)=some ([],s++t) from rfl]
 dsimp only
 rw [if_neg (by omega),if_neg (by omega),h.more]
 dsimp only
 rw [k]
def plainB:Fm→Bool
 | .leaf _ _=>true
 | .one c _ p=>!(decide (c=50)||decide (c=51)||decide (c=52))&&plainB p
 | .two _ p q=>plainB p&&plainB q
structure Tx (s:List UInt8) (lo hi k w:Nat) (φ:St→List Int→Prop):Prop where
 ex:∃ p,Is s p∧lo≤rankF p∧rankF p≤hi∧(∀ i:Nat,i<4→(frB p).testBit i=true→i<k)∧(∀ i:Nat,i<4→(allB p).testBit i=true→i<w)∧plainB p=true∧∀ a e,e.length=4→(ev a p e=true↔φ a e)
theorem Tx.imp {s:List UInt8} {lo hi k w lo' hi' k' w':Nat} {φ ψ:St→List Int→Prop} (h:Tx s lo hi k w φ) (h1:lo'≤lo) (h2:hi≤hi') (h3:k≤k') (h4:w≤w') (h5:∀ a e,e.length=4→(φ a e↔ψ a e)):Tx s lo' hi' k' w' ψ:=by
 obtain ⟨p,g0,g1,g2,g3,g4,g5,g6⟩:=h.ex
 exact ⟨p,g0,by omega,by omega,fun i hi ht=>by have:=g3 i hi ht;omega,fun i hi ht=>by have:=g4 i hi ht;omega,g5,fun a e he=>(g6 a e he).trans (h5 a e he)⟩
theorem tx_not {s:List UInt8} {lo hi k w:Nat} {φ:St→List Int→Prop} (h:Tx s lo hi k w φ):Tx (33::s) lo hi k w fun a e=>¬ φ a e:=by
  obtain ⟨p,g0,g1,g2,g3,g4,g5,g6⟩:=h.ex
  refine ⟨_,is_not g0,g1,g2,g3,fun i hi ht=>g4 i hi ?_,by show (!_&&plainB p)=true;rw [g5];rfl,fun a e he=>?_⟩
  · have:(0 ||| allB p).testBit i=true:=ht
    rwa [Nat.zero_or] at this
  · rw [← g6 a e he]
    show (!ev a p e)=true↔_
    cases ev a p e <;> simp
theorem tx_two {c:UInt8} {s t:List UInt8} {lo lo' hi k w:Nat} {φ ψ:St→List Int→Prop} (hc:c=38∨c=124) (h:Tx s lo hi k w φ) (h':Tx t lo' hi k w ψ):Tx (c::(s++t)) (max lo lo') hi k w fun a e=>if c=38 then φ a e∧ψ a e else φ a e∨ψ a e:=by
  obtain ⟨p,g0,g1,g2,g3,g4,g5,g6⟩:=h.ex
  obtain ⟨q,f0,f1,f2,f3,f4,f5,f6⟩:=h'.ex
  have hr:rankF (.two c p q)=max (rankF p) (rankF q):=rfl
  refine ⟨_,is_two hc g0 f0,by omega,by omega,fun i hi ht=>?_,fun i hi ht=>?_,by show (plainB p&&plainB q)=true;rw [g5,f5];rfl,fun a e he=>?_⟩
  · have ht':(frB p ||| frB q).testBit i=true:=ht
    rw [Nat.testBit_or,Bool.or_eq_true] at ht'
    exact ht'.elim (g3 i hi) (f3 i hi)
  · have ht':(allB p ||| allB q).testBit i=true:=ht
    rw [Nat.testBit_or,Bool.or_eq_true] at ht'
    exact ht'.elim (g4 i hi) (f4 i hi)
  · show (if c=38 then ev a p e&&ev a q e else ev a p e||ev a q e)=true↔_
    rw [← g6 a e he,← f6 a e he]
    split
    · rw [Bool.and_eq_true]
    · rw [Bool.or_eq_true]
theorem tx_quant {c:UInt8} {s:List UInt8} {lo hi k w:Nat} {φ:St→List Int→Prop} (hc:c=65∨c=83) (hk:k<4) (h:Tx s lo hi (k+1) w φ):Tx (c::UInt8.ofNat (97+k)::s) (lo+1) (hi+1) k (max w (k+1)) fun a e=>if c=65 then ∀ x:Nat,x<a.n.toNat→φ a (e.set k (x:Int)) else ∃ x:Nat,x<a.n.toNat∧φ a (e.set k (x:Int)):=by
  obtain ⟨p,g0,g1,g2,g3,g4,g5,g6⟩:=h.ex
  have hv:isV (UInt8.ofNat (97+k))=true∧vI (UInt8.ofNat (97+k))=k:=by
    rcases (by omega:k=0∨k=1∨k=2∨k=3) with e | e | e | e <;> subst e <;> exact ⟨rfl,rfl⟩
  have h33:¬ c=33:=fun e=>by subst e;revert hc;decide
  have hr:rankF (.one c [UInt8.ofNat (97+k)] p)=rankF p+1:=by show (if c=33 then _ else if c=65∨c=83 then _ else _)=_;rw [if_neg h33,if_pos hc]
  refine ⟨_,is_quant (by rcases hc with e | e <;> simp [e]) hv.1 g0,by omega,by omega,fun i hi ht=>?_,fun i hi ht=>?_,?_,fun a e he=>?_⟩
  · have ht':(frB p &&& (15 ^^^ vBit (UInt8.ofNat (97+k)))).testBit i=true:=ht
    rw [frQ_test hi,Bool.and_eq_true,hv.2] at ht'
    have h1:=g3 i hi ht'.1
    have h2:¬ k=i:=by simpa using ht'.2
    omega
  · have ht':((vBit (UInt8.ofNat (97+k)) ||| 0) ||| allB p).testBit i=true:=ht
    rw [Nat.or_zero,Nat.testBit_or,Bool.or_eq_true,vBit_test,hv.2,decide_eq_true_eq] at ht'
    rcases ht' with h1 | h1
    · omega
    · have:=g4 i hi h1;omega
  · show (!(decide (c=50)||decide (c=51)||decide (c=52))&&plainB p)=true
    rw [g5]
    rcases hc with e | e <;> rw [e] <;> rfl
  · rw [ev_quant_eq h33,decide_eq_true_eq]
    have hE:∀ x:Nat,evC a (UInt8.ofNat (97+k)) p e x=true↔φ a (e.set k (x:Int)):=fun x=>by unfold evC;rw [hv.2];exact g6 _ _ (by rw [List.length_set];exact he)
    rcases hc with rfl | rfl
    · rw [if_pos rfl]
      show a.n.toNat≤_↔_
      rw [cnt_all]
      exact ⟨fun h x hx=>(hE x).1 (h x hx),fun h x hx=>(hE x).2 (h x hx)⟩
    · rw [if_neg (by decide)]
      show 1≤_↔_
      rw [cnt_ex]
      exact ⟨fun ⟨x,hx,h⟩=>⟨x,hx,(hE x).1 h⟩,fun ⟨x,hx,h⟩=>⟨x,hx,(hE x).2 h⟩⟩
theorem preJ_cons (op x:List UInt8) (l:List (List UInt8)):∀ k:Nat,preJ op (x::l) (k+1)=op++x++preJ op l k
 | 0=>by simp [preJ]
 | k+1=>by
  rw [show preJ op (x::l) (k+1+1)=preJ op (x::l) (k+1)++(op++(x::l).getD (k+1) []) from rfl,preJ_cons op x l k]
  simp [preJ]
theorem joinN_one (op x:List UInt8):joinN op [x]=x:=by simp [joinN,preJ]
theorem joinN_cons (op x y:List UInt8) (l:List (List UInt8)):joinN op (x::y::l)=op++x++joinN op (y::l):=by
 unfold joinN
 have e:(x::y::l).length - 1=((y::l).length - 1)+1:=by simp
 rw [e,preJ_cons,List.getD_cons_succ,List.append_assoc]
theorem tx_join {α:Type} {g:α→List UInt8} {c:UInt8} (hc:c=38∨c=124) {hi k w:Nat} {φ:α→St→List Int→Prop}:∀ {l:List α} {lo:Nat},l ≠ []→(∀ s∈l,Tx (g s) 0 hi k w (φ s))→(lo=0∨∃ s∈l,Tx (g s) lo hi k w (φ s)) →
    Tx (joinN [c] (l.map g)) lo hi k w fun a e=>if c=38 then ∀ s∈l,φ s a e else ∃ s∈l,φ s a e
  | [],_,h,_,_=>absurd rfl h
  | [x],lo,_,h,hlo=>by
    rw [List.map_singleton,joinN_one]
    have hx:Tx (g x) lo hi k w (φ x):=by
      rcases hlo with rfl | ⟨s,hs,h1⟩
      · exact h x (by simp)
      · rw [List.mem_singleton.1 hs] at h1;exact h1
    refine hx.imp (Nat.le_refl _) (Nat.le_refl _) (Nat.le_refl _) (Nat.le_refl _) fun a e _=>?_
    split <;> simp
  | x::y::l,lo,_,h,hlo=>by
    rw [List.map_cons,List.map_cons,joinN_cons,← List.map_cons]
    have hre:∀ s∈y::l,Tx (g s) 0 hi k w (φ s):=fun s hs=>h s (List.mem_cons_of_mem _ hs)
    have fin:∀ {l1 l2:Nat},lo≤max l1 l2→Tx (g x) l1 hi k w (φ x)→Tx (joinN [c] ((y::l).map g)) l2 hi k w (fun a e=>if c=38 then ∀ s∈y::l,φ s a e else ∃ s∈y::l,φ s a e)→Tx (([c]++g x)++joinN [c] ((y::l).map g)) lo hi k w fun a e=>if c=38 then ∀ s∈x::y::l,φ s a e else ∃ s∈x::y::l,φ s a e:=fun hm h1 h2=>by
      refine (tx_two hc h1 h2).imp hm (Nat.le_refl _) (Nat.le_refl _) (Nat.le_refl _) fun a e _=>?_
      by_cases e38:c=38
      · rw [if_pos e38,if_pos e38,if_pos e38];exact ⟨fun h s hs=>(List.mem_cons.1 hs).elim (fun q=>q ▸ h.1) (h.2 s),fun h=>⟨h x (by simp),fun s hs=>h s (List.mem_cons_of_mem _ hs)⟩⟩
      · rw [if_neg e38,if_neg e38,if_neg e38]
        constructor
        · rintro (h | ⟨s,hs,h⟩)
          · exact ⟨x,by simp,h⟩
          · exact ⟨s,List.mem_cons_of_mem _ hs,h⟩
        · rintro ⟨s,hs,hh⟩
          rcases List.mem_cons.1 hs with rfl | hs
          · exact .inl hh
          · exact .inr ⟨s,hs,hh⟩
    rcases hlo with rfl | ⟨s,hs,h1⟩
    · exact fin (Nat.zero_le _) (h x (by simp)) (tx_join hc (by simp) hre (.inl rfl))
    · rcases List.mem_cons.1 hs with rfl | hs
      · exact fin (Nat.le_max_left _ _) h1 (tx_join hc (by simp) hre (.inl rfl))
      · exact fin (Nat.le_max_right _ _) (h x (by simp)) (tx_join hc (by simp) hre (.inr ⟨s,hs,h1⟩))
end Go.Wk
namespace Go.Wk
open Go.RowKit
inductive At where
 | P (i:Nat)
 | E (i j:Nat)
 | Q (i j:Nat)
def At.txt:At→List UInt8
 | .P i=>[80]++nameS i
 | .E i j=>[69]++nameS i++nameS j
 | .Q i j=>[61]++nameS i++nameS j
def At.val (a:St) (xs:List Int):At→Bool
 | .P i=>a.inSet (xs.getD i 0)
 | .E i j=>a.inRel (xs.getD i 0) (xs.getD j 0)
 | .Q i j=>decide (xs.getD i 0=xs.getD j 0)
def At.lt (n:Nat):At→Prop
 | .P i=>i<n
 | .E i j=>i<n∧j<n
 | .Q i j=>i<n∧j<n
def moreA (i:Nat):Nat→List At
 | 0=>[]
 | k+1=>moreA i k++[.Q k i,.E k i,.E i k]
def factA (i:Nat):List At:=[.P i,.E i i]++moreA i i
def factsA:Nat→List At
 | 0=>[]
 | i+1=>factsA i++factA i
def atF (a:St) (xs:List Int) (t:At):List UInt8×Bool:=(t.txt,t.val a xs)
theorem moreA_is (a:St) (xs:List Int) (i:Nat):∀ k:Nat,moreL a xs i k=(moreA i k).map (atF a xs)
 | 0=>rfl
 | k+1=>by rw [moreL,moreA,List.map_append,moreA_is a xs i k];rfl
theorem factA_is (a:St) (xs:List Int) (i:Nat):factL a xs i=(factA i).map (atF a xs):=by
 unfold factL factA;rw [List.map_append,moreA_is];rfl
theorem factsA_is (a:St) (xs:List Int):∀ i:Nat,factsL a xs i=(factsA i).map (atF a xs)
 | 0=>rfl
 | i+1=>by rw [factsL,factsA,List.map_append,factsA_is a xs i,factA_is]
theorem At.lt_mono {n m:Nat} (h:n≤m):∀ {t:At},t.lt n→t.lt m
 | .P _,k=>Nat.lt_of_lt_of_le k h
 | .E _ _,k=>⟨Nat.lt_of_lt_of_le k.1 h,Nat.lt_of_lt_of_le k.2 h⟩
 | .Q _ _,k=>⟨Nat.lt_of_lt_of_le k.1 h,Nat.lt_of_lt_of_le k.2 h⟩
theorem moreA_lt (i:Nat):∀ k:Nat,k≤i→∀ t∈moreA i k,t.lt (i+1)
  | 0,_,t,h=>by cases h
  | k+1,hk,t,h=>by
    rcases List.mem_append.1 h with h | h
    · exact moreA_lt i k (by omega) t h
    · simp only [List.mem_cons,List.not_mem_nil,or_false] at h
      rcases h with rfl | rfl | rfl
      · show k<i+1∧i<i+1;omega
      · show k<i+1∧i<i+1;omega
      · show i<i+1∧k<i+1;omega
theorem factsA_lt:∀ n:Nat,∀ t∈factsA n,t.lt n
  | 0,t,h=>by cases h
  | n+1,t,h=>by
    rcases List.mem_append.1 h with h | h
    · exact At.lt_mono (Nat.le_succ n) (factsA_lt n t h)
    · rcases List.mem_append.1 h with h | h
      · simp only [List.mem_cons,List.not_mem_nil,or_false] at h
        rcases h with rfl | rfl
        · show n<n+1;omega
        · show n<n+1∧n<n+1;omega
      · exact moreA_lt n n (Nat.le_refl _) t h
theorem nameS_at {i:Nat} (h:i<4):nameS i=[UInt8.ofNat (97+i)]∧isV (UInt8.ofNat (97+i))=true∧vI (UInt8.ofNat (97+i))=i:=by
 rcases (by omega:i=0∨i=1∨i=2∨i=3) with e | e | e | e <;> subst e <;> exact ⟨rfl,rfl,rfl⟩
theorem takeV_12 {v u:UInt8} (hv:isV v=true) (hu:isV u=true):takeV 1 [v]=some ([v],[])∧takeV 2 [v,u]=some ([v,u],[]):=by
 have h1:∀ {z:UInt8},isV z=true→takeV 1 [z]=some ([z],[]):=fun hz=>by unfold takeV;rw [if_pos hz];rfl
 refine ⟨h1 hv,?_⟩
 show (if isV v then (match takeV 1 [u] with | some (vs,r)=>some (v::vs,r) | none=>none) else none)=_
 rw [if_pos hv,h1 hu]
theorem leaf_tx {c:UInt8} {vs:List UInt8} {n:Nat} {φ:St→List Int→Prop} (ho:isOp c=true) (h0:arP c=0) (ht:takeV (arV c) vs=some (vs,[])) (hn:∀ v∈vs,vI v<n) (hφ:∀ a e,ev a (.leaf c vs) e=true↔φ a e):Tx (c::vs) 0 0 n n φ:=by
 have key:∀ i:Nat,(vBits vs).testBit i=true→i<n:=fun i h=>by
  obtain ⟨v,hv,e⟩:=(vBits_test vs i).1 h
  rw [← e];exact hn v hv
 exact ⟨_,is_leaf ho h0 ht,Nat.le_refl _,Nat.le_refl _,fun i _ h=>key i h,fun i _ h=>key i h,rfl,fun a e _=>hφ a e⟩
theorem at_tx:∀ {t:At} {n:Nat},t.lt n→n≤4→Tx t.txt 0 0 n n fun a e=>t.val a e=true
  | .P i,n,h,h4=>by
    have hi:i<n:=h
    obtain ⟨e1,e2,e3⟩:=nameS_at (show i<4 by omega)
    rw [show At.txt (.P i)=[80]++nameS i from rfl,e1]
    refine leaf_tx rfl rfl (takeV_12 e2 e2).1 (fun v hv=>by rw [List.mem_singleton.1 hv,e3];exact hi) fun a e=>?_
    show a.inSet (atV e (UInt8.ofNat (97+i)))=true↔_
    unfold atV;rw [e3];exact Iff.rfl
  | .E i j,n,h,h4=>by
    have hi:i<n:=h.1
    have hj:j<n:=h.2
    obtain ⟨e1,e2,e3⟩:=nameS_at (show i<4 by omega)
    obtain ⟨f1,f2,f3⟩:=nameS_at (show j<4 by omega)
    rw [show At.txt (.E i j)=[69]++nameS i++nameS j from rfl,e1,f1]
    refine leaf_tx rfl rfl (takeV_12 e2 f2).2 (fun v hv => by rcases List.mem_cons.1 hv with rfl | hv; · rw [e3]; exact hi
                                                              · rw [List.mem_singleton.1 hv,f3];exact hj) fun a e=>?_
    show a.inRel (atV e (UInt8.ofNat (97+i))) (atV e (UInt8.ofNat (97+j)))=true↔_
    unfold atV;rw [e3,f3];exact Iff.rfl
  | .Q i j,n,h,h4=>by
    have hi:i<n:=h.1
    have hj:j<n:=h.2
    obtain ⟨e1,e2,e3⟩:=nameS_at (show i<4 by omega)
    obtain ⟨f1,f2,f3⟩:=nameS_at (show j<4 by omega)
    rw [show At.txt (.Q i j)=[61]++nameS i++nameS j from rfl,e1,f1]
    refine leaf_tx rfl rfl (takeV_12 e2 f2).2 (fun v hv => by rcases List.mem_cons.1 hv with rfl | hv; · rw [e3]; exact hi
                                                              · rw [List.mem_singleton.1 hv,f3];exact hj) fun a e=>?_
    show decide (atV e (UInt8.ofNat (97+i))=atV e (UInt8.ofNat (97+j)))=true↔_
    unfold atV;rw [e3,f3];exact Iff.rfl
theorem sign_tx {t:At} {n:Nat} (h:t.lt n) (h4:n≤4) (b:Bool):Tx (signS b t.txt) 0 0 n n fun a e=>t.val a e=b:=by
 cases b with
 | true=>exact at_tx h h4
 | false=>exact (tx_not (at_tx h h4)).imp (Nat.le_refl _) (Nat.le_refl _) (Nat.le_refl _) (Nat.le_refl _) fun a e _=>by simp
theorem At.same {a:St} {e xs:List Int} {n:Nat} (h:∀ j:Nat,j<n→e.getD j 0=xs.getD j 0):∀ {t:At},t.lt n→t.val a e=t.val a xs
 | .P i,k=>by have hk:i<n:=k;show a.inSet _=a.inSet _;rw [h i hk]
 | .E i j,k=>by show a.inRel _ _=a.inRel _ _;rw [h i k.1,h j k.2]
 | .Q i j,k=>by show decide (_=_)=decide (_=_);rw [h i k.1,h j k.2]
theorem facts_same {a b:St} {xs ys:List Int} (hl:xs.length=ys.length):(∀ t∈factsA xs.length,t.val b ys=t.val a xs)↔sameB a xs b ys=true:=by
 have h:=facts_iff (a:=a) (b:=b) hl xs.length (Nat.le_refl _)
 rw [factsA_is,factsA_is,List.map_map,List.map_map] at h
 have e:sameB a xs b ys=true↔∀ i:Nat,i<xs.length→stillAt a xs b ys i=true:=by
  unfold sameB;rw [List.all_eq_true]
  exact ⟨fun h i hi=>h i (List.mem_range.2 hi),fun h i hi=>h i (List.mem_range.1 hi)⟩
 rw [e,← h,List.map_inj_left]
 exact ⟨fun k t ht=>(k t ht).symm,fun k t ht=>(k t ht).symm⟩
theorem take_at {e:List Int} {n j:Nat} (h:j<n):(e.take n).getD j 0=e.getD j 0:=by
 rw [List.getD_eq_getElem?_getD,List.getElem?_take_of_lt h,← List.getD_eq_getElem?_getD]
def TrueIn (s:List UInt8) (a:St) (e:List Int):Prop:=∃ p,Is s p∧ev a p e=true
theorem Tx.self {s:List UInt8} {lo hi k w:Nat} {φ:St→List Int→Prop} (h:Tx s lo hi k w φ):Tx s lo hi k w (TrueIn s):=by
 obtain ⟨p,g0,g1,g2,g3,g4,g5,g6⟩:=h.ex
 exact ⟨p,g0,g1,g2,g3,g4,g5,fun a e _=>⟨fun h=>⟨p,g0,h⟩,fun ⟨q,h1,h2⟩=>by rw [g0.same h1];exact h2⟩⟩
theorem Tx.at {s:List UInt8} {lo hi k w:Nat} {φ:St→List Int→Prop} (h:Tx s lo hi k w φ) {a:St} {e:List Int} (he:e.length=4):TrueIn s a e↔φ a e:=by
 obtain ⟨p,g0,g1,g2,g3,g4,g5,g6⟩:=h.ex
 exact ⟨fun ⟨q,h1,h2⟩=>(g6 a e he).1 (by rw [g0.same h1];exact h2),fun h=>⟨p,g0,(g6 a e he).2 h⟩⟩
theorem env_take {e:List Int} (he:e.length=4) {n:Nat} (hn:n<4) (y:Nat):(e.set n (y:Int)).take (n+1)=e.take n++[(y:Int)]:=by
 have hl:n<(e.set n (y:Int)).length:=by rw [List.length_set];omega
 rw [List.take_succ_eq_append_getElem hl,List.getElem_set_self,List.take_set_of_le (Nat.le_refl _)]
def Tells2 (s:List UInt8) (r n:Nat) (a:St) (xs:List Int) (b:St) (ys:List Int):Prop :=
 Tx s 0 r n (n+r) (TrueIn s)∧(∀ e:List Int,e.length=4→e.take n=xs→TrueIn s a e)∧∀ e:List Int,e.length=4→e.take n=ys→¬ TrueIn s b e
theorem diff_ex {a b:St} {xs ys:List Int}:∀ {l:List At},(∃ t∈l,t.val a xs ≠ t.val b ys)→∃ t∈l,t.val a xs ≠ t.val b ys∧diffO (l.map (atF a xs)) (l.map (atF b ys))=signS (t.val a xs) t.txt
  | [],h=>by obtain ⟨t,ht,_⟩:=h;cases ht
  | t::l,h=>by
    rw [List.map_cons,List.map_cons]
    unfold diffO
    by_cases e:(atF a xs t).2=(atF b ys t).2
    · rw [if_pos e]
      obtain ⟨u,hu,hne⟩:=h
      rcases List.mem_cons.1 hu with rfl | hu
      · exact absurd e hne
      · obtain ⟨v,h1,h2,h3⟩:=diff_ex ⟨u,hu,hne⟩
        exact ⟨v,List.mem_cons_of_mem _ h1,h2,h3⟩
    · rw [if_neg e]
      exact ⟨t,by simp,e,rfl⟩
theorem diff_tells {a b:St} {xs ys:List Int} (hl:xs.length=ys.length) (h4:xs.length≤4) (hs:sameB a xs b ys=false) (r:Nat):Tells2 (diffO (factsL a xs xs.length) (factsL b ys ys.length)) r xs.length a xs b ys:=by
  have hex:∃ t∈factsA xs.length,t.val a xs ≠ t.val b ys:=Classical.byContradiction fun e=>by
    rw [(facts_same hl).1 fun t ht=>Classical.byContradiction fun q=>e ⟨t,ht,fun z=>q z.symm⟩] at hs;cases hs
  rw [factsA_is,factsA_is,← hl]
  obtain ⟨t,ht,hne,e⟩:=diff_ex hex
  rw [e]
  have hlt:=factsA_lt _ t ht
  have hT:=sign_tx hlt h4 (t.val a xs)
  refine ⟨hT.self.imp (Nat.le_refl _) (Nat.zero_le _) (Nat.le_refl _) (by omega) fun _ _ _=>Iff.rfl,fun e he hx=>(hT.at he).2 ?_,fun e he hy h=>hne ?_⟩
  · exact At.same (fun j hj=>by rw [← hx,take_at hj]) hlt
  · rw [← (hT.at he).1 h]
    exact At.same (fun j hj=>by rw [← hy,hl,take_at (by omega)]) hlt
theorem tells_apart {a b:St} {xs ys:List Int} {n r x m:Nat} {F:Nat→List UInt8} (_hl:xs.length=n) (_hl2:ys.length=n) (hn:n<4) (hx:x<a.n.toNat) (hm:m=b.n.toNat) (h1:1≤m) (hF:∀ y:Nat,y<m→Tells2 (F y) r (n+1) a (xs++[(x:Int)]) b (ys++[(y:Int)])) :
    Tells2 (apart (nameS n) false ((List.range m).map F)) (r+1) n a xs b ys:=by
  obtain ⟨nm,_,_⟩:=nameS_at hn
  have hmem:∀ s,s∈dedup ((List.range m).map F)↔∃ y:Nat,y<m∧F y=s:=fun s=>by rw [mem_dedup,List.mem_map];simp
  have hm0:F 0∈dedup ((List.range m).map F):=(hmem _).2 ⟨0,by omega,rfl⟩
  have hj:=tx_join (c:=38) (.inl rfl) (g:=id) (φ:=fun s=>TrueIn s) (lo:=0) (hi:=r) (k:=n+1) (w:=n+1+r) (l:=dedup ((List.range m).map F)) (fun e=>by rw [e] at hm0;cases hm0) (fun s hs=>by
    obtain ⟨y,hy,rfl⟩:=(hmem s).1 hs
    exact (hF y hy).1) (.inl rfl)
  rw [List.map_id] at hj
  have hq:=tx_quant (c:=83) (.inr rfl) hn hj
  have e:apart (nameS n) false ((List.range m).map F)=83::UInt8.ofNat (97+n)::joinN [38] (dedup ((List.range m).map F)):=by unfold apart;rw [nm];rfl
  rw [e]
  refine ⟨hq.self.imp (Nat.zero_le _) (Nat.le_refl _) (Nat.le_refl _) (by omega) fun _ _ _=>Iff.rfl,fun e he hxs=>(hq.at he).2 ?_,fun e he hys h=>?_⟩
  · rw [if_neg (by decide)]
    refine ⟨x,hx,?_⟩
    rw [if_pos rfl]
    intro s hs
    obtain ⟨y,hy,rfl⟩:=(hmem s).1 hs
    exact (hF y hy).2.1 _ (by rw [List.length_set];exact he) (by rw [env_take he hn,hxs])
  · have h2:=(hq.at he).1 h
    rw [if_neg (by decide)] at h2
    obtain ⟨y,hy,h3⟩:=h2
    rw [if_pos rfl] at h3
    exact (hF y (by omega)).2.2 _ (by rw [List.length_set];exact he) (by rw [env_take he hn,hys]) (h3 _ ((hmem _).2 ⟨y,by omega,rfl⟩))
theorem Tells2.not {s:List UInt8} {r n:Nat} {a b:St} {xs ys:List Int} (h:Tells2 s r n a xs b ys):Tells2 (33::s) r n b ys a xs:=by
 have hq:=tx_not h.1
 exact ⟨hq.self,fun e he hy=>(hq.at he).2 (h.2.2 e he hy),fun e he hx h1=>(hq.at he).1 h1 (h.2.1 e he hx)⟩
theorem tell_tells:∀ (r:Nat) {a b:St} {xs ys:List Int},1≤a.n.toNat→1≤b.n.toNat→xs.length=ys.length→xs.length+r≤4→winB r a xs b ys=false→Tells2 (tellF r a xs b ys) r xs.length a xs b ys
  | 0,a,b,xs,ys,ha,hb,hl,h4,hw=>by
    have hs:sameB a xs b ys=false:=by simpa [winB,goB] using hw
    exact diff_tells hl (by omega) hs 0
  | r+1,a,b,xs,ys,ha,hb,hl,h4,hw=>by
    cases hs:sameB a xs b ys with
    | false=>rw [tell_diff hs];exact diff_tells hl (by omega) hs _
    | true =>
      obtain ⟨sd,x,hm⟩:=move_ex hs hw
      cases sd with
      | true =>
        rw [tell_some1 hs hm]
        obtain ⟨hx,hno⟩:=move_at1 hl hm
        exact tells_apart rfl hl.symm (by omega) hx rfl hb fun y hy=>by
          have:=tell_tells r (xs:=xs++[(x:Int)]) (ys:=ys++[(y:Int)]) ha hb (by simp [hl]) (by simp;omega) (hno y hy)
          simpa using this
      | false =>
        rw [tell_some2 hs hm]
        obtain ⟨hx,hno⟩:=move_at2 hl hm
        have:=tells_apart (a:=b) (b:=a) (xs:=ys) (ys:=xs) (n:=xs.length) (r:=r) (F:=fun z:Nat=>tellF r b (ys++[(x:Int)]) a (xs++[(z:Int)])) hl.symm rfl (by omega) hx rfl ha fun y hy=>by
          have:=tell_tells r (xs:=ys++[(x:Int)]) (ys:=xs++[(y:Int)]) hb ha (by simp [hl]) (by simp;omega) (hno y hy)
          simpa [← hl] using this
        exact this.not
end Go.Wk
namespace Go.Wk
open Go.RowKit
theorem bool_no {b:Bool} (h:b=true) (k:b=false):false=true:=by rw [← k,h]
theorem low_bits {x k:Nat} (h:x<16) (hb:∀ i:Nat,i<4→x.testBit i=true→i<k):x / 2 ^ k=0:=by
  have h1:x<2 ^ k:=Nat.lt_pow_two_of_testBit x fun i hi=>by
    cases e:x.testBit i with
    | false=>rfl
    | true =>
      rcases Nat.lt_or_ge i 4 with h4 | h4
      · have:=hb i h4 e;omega
      · have h5:(16:Nat)≤2 ^ i:=by
          have:=Nat.pow_le_pow_right (n:=2) (by decide) h4
          simpa using this
        rw [Nat.testBit_lt_two_pow (by omega)] at e;cases e
  exact Nat.div_eq_of_lt h1
theorem envL_take (ys:List Int):(envL ys).take ys.length=ys:=by unfold envL;rw [List.take_left' rfl]
theorem tx_hold {s:List UInt8} {lo hi k w:Nat} {φ:St→List Int→Prop} (h:Tx s lo hi k w φ) (hs:s.length≤4000) {b:St} {ys:List Int} (hb:validB b=true) (hl:ys.length=k) (h4:k≤4) (hy:b.Els ys):holdK b s ys=true∧(holdV b s ys=true↔φ b (envL ys)):=by
 obtain ⟨p,g0,g1,g2,g3,g4,g5,g6⟩:=h.ex
 have hO:holdO b s ys=some (ev b p (envL ys)):=holdO_some (g0.formO hs) ⟨hb,by omega,hy,by rw [hl];exact low_bits (frB_lt g0.wf) g3⟩
 obtain ⟨e1,e2⟩:=hold_yes hO
 refine ⟨e2,?_⟩
 rw [e1]
 exact g6 b _ (envL_len (by omega))
theorem tx_rank {s:List UInt8} {lo hi k w:Nat} {φ:St→List Int→Prop} (h:Tx s lo hi k w φ) (hs:s.length≤4000):(lo:Int)≤rankI s∧rankI s≤(hi:Int):=by
 obtain ⟨p,g0,g1,g2,_⟩:=h.ex
 unfold rankI
 rw [g0.formO hs]
 exact ⟨by dsimp only;omega,by dsimp only;omega⟩
end Go.Wk
namespace Go.Wk
open Go.RowKit
noncomputable def sepB (f:List UInt8) (a:St) (xs:List Int) (b:St) (ys:List Int):Bool:=decide ((xs.length:Int)=ys.length)&&holdK a f xs&&holdK b f ys&&holdV a f xs&&!holdV b f ys
end Go.Wk
namespace Go.Wk
open Go.RowKit
theorem tells_sep {s:List UInt8} {r n:Nat} {a b:St} {xs ys:List Int} (h:Tells2 s r n a xs b ys) (hs:s.length≤4000) (ha:validB a=true) (hb:validB b=true) (hx:xs.length=n) (hy:ys.length=n) (h4:n≤4) (hxe:a.Els xs) (hye:b.Els ys):sepB s a xs b ys=true:=by
 obtain ⟨h1,h2,h3⟩:=h
 obtain ⟨e1,e2⟩:=tx_hold h1 hs ha hx h4 hxe
 obtain ⟨e3,e4⟩:=tx_hold h1 hs hb hy h4 hye
 have v1:holdV a s xs=true:=e2.2 (h2 _ (envL_len (by omega)) (by rw [← hx];exact envL_take xs))
 have v2:holdV b s ys=false:=by
  cases e:holdV b s ys with
  | false=>rfl
  | true=>exact absurd (e4.1 e) (h3 _ (envL_len (by omega)) (by rw [← hy];exact envL_take ys))
 unfold sepB
 rw [e1,e3,v1,v2,decide_eq_true (by omega)];rfl
end Go.Wk
namespace Go.Wk
open Go.RowKit
def atO (os:List Int) (ys:List Int):List Int:=ys.map fun y=>os.getD y.toNat 0
theorem atO_len (os ys:List Int):(atO os ys).length=ys.length:=by simp [atO]
theorem atO_at (os:List Int) {ys:List Int} {i:Nat} (h:i<ys.length):(atO os ys).getD i 0=os.getD (ys.getD i 0).toNat 0:=by
 unfold atO
 rw [getD_at (by simpa using h),getD_at h];simp
theorem shape_same {a b:St} {os:List Int} (hs:sameB a os b (upto os.length)=true) {ys:List Int} (hB:∀ y∈ys,0≤y∧y<(os.length:Int)):sameB a (atO os ys) b ys=true:=by
 have key:∀ i:Nat,i<ys.length→(ys.getD i 0).toNat<os.length∧(((ys.getD i 0).toNat:Nat):Int)=ys.getD i 0:=fun i hi=>by
  have:=hB (ys.getD i 0) (by rw [getD_at hi];exact List.getElem_mem _)
  omega
 unfold sameB
 rw [List.all_eq_true]
 intro i hi
 rw [List.mem_range,atO_len] at hi
 unfold stillAt
 have ki:=key i hi
 refine (stillB_true (by rw [List.length_take,List.length_take,atO_len])).2 ?_
 rw [atO_at os hi]
 have h1:=shaped_at hs ki.1 ki.1
 rw [ki.2] at h1
 refine ⟨h1.1,h1.2.2,fun k hk=>pairOk_true.2 ?_⟩
 rw [List.length_take,atO_len] at hk
 have kk:=key k (by omega)
 rw [take_getD (by omega),take_getD (by omega),atO_at os (by omega)]
 have h2:=shaped_at hs kk.1 ki.1
 have h3:=shaped_at hs ki.1 kk.1
 rw [kk.2,ki.2] at h2
 rw [kk.2,ki.2] at h3
 refine ⟨decide_eq_decide.2 ?_,h2.2.2,h3.2.2⟩
 rw [h2.2.1];omega
theorem shape_wins {a b:St} {os:List Int} (hn:a.n=b.n) (hl:(os.length:Int)=a.n) (hA:a.Els os) (hs:sameB a os b (upto os.length)=true):∀ (n:Nat) (ys:List Int),(∀ y∈ys,0≤y∧y<(os.length:Int))→winP n a (atO os ys) b ys
  | 0,ys,hB=>shape_same hs hB
  | n+1,ys,hB=>by
    have more:∀ y:Nat,y<os.length→winP n a (atO os ys++[os.getD y 0]) b (ys++[(y:Int)]):=fun y hy=>by
      have:=shape_wins hn hl hA hs n (ys++[(y:Int)]) fun z hz=>by
        rcases List.mem_append.1 hz with h | h
        · exact hB z h
        · rw [List.mem_singleton.1 h];omega
      rwa [show atO os (ys++[(y:Int)])=atO os ys++[os.getD y 0] from by simp [atO]] at this
    refine ⟨shape_same hs hB,fun x hx=>?_,fun y hy=>?_⟩
    · obtain ⟨y,hy,e⟩:=shaped_onto hl hA hs (x:=(x:Int)) ⟨by omega,by omega⟩
      exact ⟨y,by omega,by rw [← e];exact more y hy⟩
    · have hy':y<os.length:=by omega
      have hel:=hA (os.getD y 0) (by rw [getD_at hy'];exact List.getElem_mem _)
      refine ⟨(os.getD y 0).toNat,by have:=hel.1;have:=hel.2;omega,?_⟩
      rw [show (((os.getD y 0).toNat:Nat):Int)=os.getD y 0 from by have:=hel.1;omega]
      exact more y hy'
theorem Shaped.wins {a b:St} (h:Shaped a b) (n:Nat):winP n a [] b []:=by
 obtain ⟨hn,_,_,os,hl,hA,hs⟩:=h
 exact shape_wins hn hl hA hs n [] fun y hy=>by cases hy
end Go.Wk
namespace Go.Wk
open Go.RowKit
theorem sent_cases (a b:St):sentO a b=([],0,false)∨∃ k:Nat,k<3∧validB a=true∧validB b=true∧(∀ i:Nat,i<k→winB (i+1) a [] b []=true)∧winB (k+1) a [] b []=false∧sentO a b=(tellF (k+1) a [] b [],(k:Int)+1,true):=by
  by_cases hv:(validB a&&validB b)=true
  · rw [Bool.and_eq_true] at hv
    cases h0:winB (0+1) a [] b [] with
    | false=>exact .inr ⟨0,by decide,hv.1,hv.2,(fun i hi=>absurd hi (by omega)),h0,sent_at hv.1 hv.2 (by decide) (fun i hi=>absurd hi (by omega)) h0⟩
    | true =>
      cases h1:winB (1+1) a [] b [] with
      | false =>
        have hall:∀ i:Nat,i<1→winB (i+1) a [] b []=true:=fun i hi=>by
          obtain rfl:i=0:=Nat.lt_one_iff.1 hi
          exact h0
        exact .inr ⟨1,by decide,hv.1,hv.2,hall,h1,sent_at hv.1 hv.2 (by decide) hall h1⟩
      | true =>
        have hall:∀ i:Nat,i<2→winB (i+1) a [] b []=true:=fun i hi=>by
          rcases (show i=0∨i=1 by omega) with rfl | rfl
          · exact h0
          · exact h1
        cases h2:winB (2+1) a [] b [] with
        | false=>exact .inr ⟨2,by decide,hv.1,hv.2,hall,h2,sent_at hv.1 hv.2 (by decide) hall h2⟩
        | true=>exact .inl (sent_none fun i hi=>by
            rcases (show i<2∨i=2 by omega) with h | rfl
            · exact hall i h
            · exact h2)
  · exact .inl (sent_bad hv)
theorem win_nil_comm {n:Nat} {a b:St}:winB n b [] a []=winB n a [] b []:=by
 rw [Bool.eq_iff_iff,win_iff n b [] a [] rfl,win_iff n a [] b [] rfl]
 exact ⟨winP_comm n b [] a [] rfl,winP_comm n a [] b [] rfl⟩
theorem els_nil (a:St):a.Els []:=fun x hx=>by cases hx
theorem sent_all {a b:St} (h:(sentO a b).2.2=true):validB a=true∧validB b=true∧(1≤(sentO a b).2.1∧(sentO a b).2.1≤3)∧sepB (sentO a b).1 a [] b []=true∧(sentO a b).1.length≤4000∧rankI (sentO a b).1≤(sentO a b).2.1 ∧
    secB a [] b [] ((sentO a b).2.1 - 1)=true∧secB a [] b [] (sentO a b).2.1=false:=by
  rcases sent_cases a b with e | ⟨k,hk,va,vb,hall,hno,e⟩
  · rw [e] at h;cases h
  · have fa:=validB_fine va
    have fb:=validB_fine vb
    have la:=fa.lo
    have lb:=fb.lo
    have hT:=tell_tells (k+1) (a:=a) (b:=b) (xs:=[]) (ys:=[]) (by omega) (by omega) rfl (by simp;omega) hno
    have hs:(tellF (k+1) a [] b []).length≤4000:=tell_short (by omega) fa fb
    have hR:=tx_rank hT.1 hs
    have hS:=tells_sep hT hs va vb rfl rfl (by decide) (els_nil a) (els_nil b)
    rw [e]
    refine ⟨va,vb,⟨by dsimp only;omega,by dsimp only;omega⟩,hS,hs,by dsimp only;omega,?_,?_⟩
    · show secB a [] b [] (((k:Int)+1) - 1)=true
      cases k with
      | zero =>
        have h0:winB 0 a [] b []=true:=by rw [win_iff 0 a [] b [] rfl];show sameB a [] b []=true;rfl
        rw [sec_of (r:=((0:Nat):Int)+1 - 1) (by unfold listsB;rw [listB_of va (els_nil a) (by decide),listB_of vb (els_nil b) (by decide)];rfl) (by omega) (by omega)]
        exact (win_iff 0 a [] b [] rfl).1 h0
      | succ m =>
        have:=hall m (by omega)
        rw [show (((m+1:Nat):Int)+1 - 1)=(m:Int)+1 by omega,sec_nil2 va vb (by omega)];exact this
    · show secB a [] b [] ((k:Int)+1)=false
      rw [sec_nil2 va vb hk];exact hno
theorem sent_less {a b:St} (h:(sentO a b).2.2=false) (va:validB a=true) (vb:validB b=true):secB a [] b [] 2=true:=by
  rcases sent_cases a b with e | ⟨k,hk,-,-,hall,hno,e⟩
  · have h1:winB (1+1) a [] b []=true:=Classical.byContradiction fun hn=>by
      rw [Bool.not_eq_true] at hn
      have h0:∃ k:Nat,k<3∧(∀ i:Nat,i<k→winB (i+1) a [] b []=true)∧winB (k+1) a [] b []=false:=by
        cases h9:winB (0+1) a [] b [] with
        | false=>exact ⟨0,by decide,fun i hi=>absurd hi (by omega),h9⟩
        | true =>
          refine ⟨1,by decide,fun i hi=>?_,hn⟩
          obtain rfl:i=0:=Nat.lt_one_iff.1 hi
          exact h9
      obtain ⟨k,hk,hall,hno⟩:=h0
      rw [sent_at va vb hk hall hno] at e
      exact Bool.noConfusion (show true=false from congrArg (fun z=>z.2.2) e)
    exact (sec_nil2 (i:=1) va vb (by decide)).trans h1
  · rw [e] at h;cases h
theorem sent_turn {a b:St} (h:(sentO a b).2.2=true) (h':(sentO b a).2.2=true):(sentO b a).2.1=(sentO a b).2.1:=by
  rcases sent_cases a b with e | ⟨k,hk,-,-,hall,hno,e⟩
  · rw [e] at h;cases h
  rcases sent_cases b a with e' | ⟨m,hm,-,-,hall',hno',e'⟩
  · rw [e'] at h';cases h'
  rw [e,e']
  show (m:Int)+1=(k:Int)+1
  rcases Nat.lt_trichotomy m k with q | q | q
  · have:=hall m q
    rw [win_nil_comm] at hno'
    rw [this] at hno';cases hno'
  · omega
  · have:=hall' k q
    rw [win_nil_comm] at this
    rw [this] at hno;cases hno
theorem sent_shape {a b:St} (h:(sentO a b).2.2=true):¬ Shaped a b:=fun hs=>by
  rcases sent_cases a b with e | ⟨k,hk,-,-,hall,hno,e⟩
  · rw [e] at h;cases h
  · rw [(win_iff (k+1) a [] b [] rfl).2 (hs.wins (k+1))] at hno;cases hno
end Go.Wk
namespace Go.Proofs
open Go.Shelf
def Tryz.lays160_ren:Go.Shelf.Ren:=⟨fun | 160=>63 | 232=>91 | 231=>90 | 227=>92 | 234=>94 | 233=>93 | 236=>96 | 235=>95 | 228=>114 | 271=>117 | 151=>116 | 197=>115 | 120=>124 | 152=>123 | 260=>122 | 137=>86 | 119=>128 | 224=>126 | 225=>125 | 217=>113 | 266=>121 | n=>n,fun | 9=>9 | 4=>4 | 3=>3 | 5=>5 | 117=>119 | 116=>118 | 0=>0 | 124=>122 | 21=>21 | 105=>133 | 46=>141 | 119=>142 | 139=>145 | 138=>144 | n=>n,fun | 3=>1 | 4=>2 | n=>n⟩
theorem Tryz.lays160:Go.Proofs.Lays.n160 Tryz.prog Tryz.lays160_ren:={
 mixed:=by kernel_rfl
 f119:=Tryz.func128.trans (congrArg some (by kernel_rfl))
 f120:=Tryz.func124.trans (congrArg some (by kernel_rfl))
 f137:=Tryz.func86.trans (congrArg some (by kernel_rfl))
 f151:=Tryz.func116.trans (congrArg some (by kernel_rfl))
 f152:=Tryz.func123.trans (congrArg some (by kernel_rfl))
 f160:=Tryz.func63.trans (congrArg some (by kernel_rfl))
 f197:=Tryz.func115.trans (congrArg some (by kernel_rfl))
 f217:=Tryz.func113.trans (congrArg some (by kernel_rfl))
 f224:=Tryz.func126.trans (congrArg some (by kernel_rfl))
 f225:=Tryz.func125.trans (congrArg some (by kernel_rfl))
 f227:=Tryz.func92.trans (congrArg some (by kernel_rfl))
 f228:=Tryz.func114.trans (congrArg some (by kernel_rfl))
 f231:=Tryz.func90.trans (congrArg some (by kernel_rfl))
 f232:=Tryz.func91.trans (congrArg some (by kernel_rfl))
 f233:=Tryz.func93.trans (congrArg some (by kernel_rfl))
 f234:=Tryz.func94.trans (congrArg some (by kernel_rfl))
 f235:=Tryz.func95.trans (congrArg some (by kernel_rfl))
 f236:=Tryz.func96.trans (congrArg some (by kernel_rfl))
 f260:=Tryz.func122.trans (congrArg some (by kernel_rfl))
 f266:=Tryz.func121.trans (congrArg some (by kernel_rfl))
 f271:=Tryz.func117.trans (congrArg some (by kernel_rfl))
 t0:=Tryz.underlying0
 a0:=Tryz.isAgg0
 z0:=Tryz.sizeOf0
 v0:=Tryz.zeroValue0
 t3:=Tryz.underlying3
 a3:=Tryz.isAgg3
 z3:=Tryz.sizeOf3
 v3:=Tryz.zeroValue3
 t4:=Tryz.underlying4
 a4:=Tryz.isAgg4
 z4:=Tryz.sizeOf4
 v4:=Tryz.zeroValue4
 t5:=Tryz.underlying5
 a5:=Tryz.isAgg5
 z5:=Tryz.sizeOf5
 v5:=Tryz.zeroValue5
 t9:=Tryz.underlying9
 a9:=Tryz.isAgg9
 z9:=Tryz.sizeOf9
 v9:=Tryz.zeroValue9
 t21:=Tryz.underlying21
 a21:=Tryz.isAgg21
 z21:=Tryz.sizeOf21
 v21:=Tryz.zeroValue21
 t46:=Tryz.underlying141
 a46:=Tryz.isAgg141
 z46:=Tryz.sizeOf141
 v46:=Tryz.zeroValue141
 t105:=Tryz.underlying133
 a105:=Tryz.isAgg133
 z105:=Tryz.sizeOf133
 v105:=Tryz.zeroValue133
 t116:=Tryz.underlying118
 a116:=Tryz.isAgg118
 z116:=Tryz.sizeOf118
 t117:=Tryz.underlying119
 a117:=Tryz.isAgg119
 z117:=Tryz.sizeOf119
 v117:=Tryz.zeroValue119
 t119:=Tryz.underlying142
 a119:=Tryz.isAgg142
 z119:=Tryz.sizeOf142
 t124:=Tryz.underlying122
 a124:=Tryz.isAgg122
 z124:=Tryz.sizeOf122
 v124:=Tryz.zeroValue122
 t138:=Tryz.underlying144
 a138:=Tryz.isAgg144
 z138:=Tryz.sizeOf144
 v138:=Tryz.zeroValue144
 t139:=Tryz.underlying145
 a139:=Tryz.isAgg145
 z139:=Tryz.sizeOf145
 v139:=Tryz.zeroValue145
 g3:=by kernel_rfl
 g4:=by kernel_rfl }
end Go.Proofs
namespace Go.Proofs.YtagbocafnliabaaGreatDoor
open Go.RowKit Go.Wk
theorem Base.mixed:Tryz.prog.follows .mixedOrders=true:=by kernel_rfl
theorem Base.elem22:Elem Tryz.prog 22 5 1:=⟨Tryz.underlying22,Tryz.t5,_,by kernel_rfl,rfl,rfl,by decide,rfl,by decide⟩
theorem Base.elem31:Elem Tryz.prog 31 3 1:=⟨Tryz.underlying31,Tryz.t3,_,by kernel_rfl,rfl,rfl,by decide,rfl,by decide⟩
theorem Base.elem59:Elem Tryz.prog 59 9 1:=⟨Tryz.underlying59,Tryz.t9,_,by kernel_rfl,rfl,rfl,by decide,rfl,by decide⟩
theorem Base.elem71:Elem Tryz.prog 71 46 1:=⟨Tryz.underlying71,Tryz.t46,_,by kernel_rfl,rfl,rfl,by decide,rfl,by decide⟩
theorem Base.elem92:Elem Tryz.prog 92 4 1:=⟨Tryz.underlying92,Tryz.t4,_,by kernel_rfl,rfl,rfl,by decide,rfl,by decide⟩
theorem Base.elem97:Elem Tryz.prog 97 136 1:=⟨Tryz.underlying97,Tryz.t136,_,by kernel_rfl,rfl,rfl,by decide,rfl,by decide⟩
theorem Base.elem136:Elem Tryz.prog 136 138 2:=⟨Tryz.underlying136,Tryz.t138,_,by kernel_rfl,rfl,rfl,by decide,rfl,by decide⟩
theorem trim_ok (s:List UInt8) (w:World) (hs:s.length≤1048576) :
  Calls Tryz.prog 63 [str s,str [48,49]].toArray w fun en w'=>en=.returned (str (Lib.trimS s [48,49]))∧Below w.heap.size w w' :=
 Any.strings_Trim_laid Tryz.lays160 (by kernel_rfl) ⟨⟨s⟩⟩ ⟨⟨[48,49]⟩⟩ w (by show s.length≤9223372036854775807;omega) (by decide) (ascii_of_all (by decide))
end Go.Proofs.YtagbocafnliabaaGreatDoor
namespace Go.Proofs.YtagbocafnliabaaGreatDoor
abbrev yH := @Base.mixed
abbrev yK := @Base.elem31
abbrev xQ := @Base.elem59
abbrev xU := @Base.elem22
abbrev uJ := @Base.elem136
abbrev uQ := @Base.elem71
end Go.Proofs.YtagbocafnliabaaGreatDoor
namespace Go.Proofs.YtagbocafnliabaaGreatDoor
open Go.RowKit Go.Wk
set_option linter.unusedSimpArgs false
set_option maxHeartbeats 400000 in
theorem l1In_ok (n lo hi:Int) (w:World) :
    Calls Tryz.prog 40 [i6_ n,i6_ lo,i6_ hi].toArray w fun en w'=>en=.returned (.bool (inB n lo hi))∧Below w.heap.size w w':=by
 refine fnStart (n:=15) (e:=[(0,i6_ n),(1,i6_ lo),(2,i6_ hi)]) Tryz.func40 Z Z Z Z Ends.both (zE (zB (zC 1 Z (zK (zD [0,1,2] [_,_,_] Z (zE (zB (zC 4 Z (xD fun b10 hg10=>?_)))))))))
 cases b10
 ·
  replace hg10:=zU hg10;refine zN Z (zN Z (zN Z (zC 2 Z (zK (zD [6] [_] Z (qK (qR Z Z fun w' hw=>?_)))))))
  exact ⟨ret_b (by first | rfl | (simp_all [inB];done) | (simp_all [inB];omega)),hw.below⟩
 replace hg10:=qA hg10;refine zC 5 Z (zK (zD [6] [_] Z (qK (qR Z Z fun w' hw=>?_))))
 exact ⟨ret_b (by first | rfl | (simp_all [inB];done) | (simp_all [inB];omega)),hw.below⟩
set_option maxHeartbeats 400000 in
theorem l1Bits_ok (s:List UInt8) (n:Int) (w:World) (hs:s.length≤1048576) :
    Calls Tryz.prog 41 [str s,i6_ n].toArray w fun en w'=>en=.returned (.bool (bitsB s n))∧Below w.heap.size w w':=by
 refine fnStart (n:=26) (e:=[(0,str s),(1,i6_ n)]) Tryz.func41 Z Z Z Z Ends.both (zE (zB (zC 1 Z (zK (zD [0,1] [_,_] Z (zE (zE (zB (zC 1 Z (zK (zD [0,1,5] [_,_,_] Z (qS (xJ (σ:=Nat) (fun k=>k≤s.length∧(s.take k).all isBit=true) (fun k=>[(0,str s),(1,i6_ n),(5,i6_ (k:Int))]) (fun k=>Own w.heap.size w []) (fun k=>s.length - k) (0) ⟨by omega,rfl⟩ (Sub.sel [0,1,5] Z) (fun _ h=>h) ?_)))))))))))))
 rintro k ⟨hk,hall⟩;refine zE (zE (zB (zC 2 Z (zF (v:=i6_ (s.length:Int)) Z (jT Z yG Z) (zC 1 Z (zK (zD [0,1,5,9] [_,_,_,_] Z (xN Z (fun h9=>?_) (fun h9=>?_)))))))))
 ·
  refine qT (zD [0,1,5] [_,_,_] Z (zE (qS (zE (zB (zC 2 Z (zF (v:=.int .u8 (((s.getD ((k:Int).toNat) 0).toNat:Int))) Z (jJ Z yG Z Z (by omega) (by omega)) (zC 2 Z (xD fun b16 hg16=>?_)))))))))
  cases b16
  ·
   replace hg16:=not_false hg16
   replace hg16:=qA hg16;refine zN Z (zN Z (zN Z (zN Z (zC 1 Z (zK (zD [0,1,5,21] [_,_,_,_] Z (jE Z (qT (zD [0,1,5] [_,_,_] Z (zB (zC 1 Z (zF Z (yI Z Z Z (by omega) (by omega)) (zC 1 Z (zK (yQ (k+1) ⟨by omega,all_take (by omega) hall (by unfold isBit;simp_all)⟩ (by omega) (Sub.sel [0,1,5] Z) (fun _ h=>h))))))))))))))))
  replace hg16:=not_true hg16
  replace hg16:=zU hg16;refine zC 2 Z (zF (v:=.int .u8 (((s.getD ((k:Int).toNat) 0).toNat:Int))) Z (jJ Z yG Z Z (by omega) (by omega)) (zC 2 Z (zK (zD [0,1,5,21] [_,_,_,_] Z (yA (b:=!(decide ((((s.getD ((k:Int).toNat) 0).toNat:Int))=(49:Int)))) Z (fun h21=>?_) (fun h21=>?_))))))
  ·
   replace h21:=not_true h21
   replace h21:=zU h21;refine zE (zB (zC 1 Z (zK (zD [4] [_] Z (qK (qR Z Z fun w' hw=>?_))))))
   exact ⟨ret_b (by unfold bitsB;rw [all_false (k:=k) (by omega) (by unfold isBit;simp_all)];rfl),hw.below⟩
  replace h21:=not_false h21
  replace h21:=qA h21;refine qT (zD [0,1,5] [_,_,_] Z (zB (zC 1 Z (zF Z (yI Z Z Z (by omega) (by omega)) (zC 1 Z (zK (yQ (k+1) ⟨by omega,all_take (by omega) hall (by unfold isBit;simp_all)⟩ (by omega) (Sub.sel [0,1,5] Z) (fun _ h=>h))))))))
 refine yW Z (zD [0,1] [_,_] Z (zE (zB (zC 1 Z (zF (v:=i6_ (s.length:Int)) Z (jT Z yG Z) (zC 3 Z (zK (zD [4] [_] Z (qK (qR Z Z fun w' hw=>?_))))))))))
 exact ⟨ret_b (by unfold bitsB;rw [show s.all isBit=true from by rw [← List.take_of_length_le (show s.length≤k by omega)];exact hall];rfl),hw.below⟩
set_option maxHeartbeats 400000 in
theorem sValid_ok (a:St) (w:World) (ha:a.Small) :
    Calls Tryz.prog 16 [vS a].toArray w fun en w'=>en=.returned (.bool (validB a))∧Below w.heap.size w w':=by
 refine fnStart (n:=23) (e:=[(0,vS a)]) Tryz.func16 Z Z Z Z Ends.both ?_
 have h1:=ha.set
 have h2:=ha.rel;refine zE (qF (yU (v:=vS a) Z Z Z Z Z fun p1 hp1=>?_))
 show Ll _ _ (Own _ _ [_]) _ _ ((1,pt_ p1)::_) _ _ _;refine qJ 1 Z (zH (zD [1] [_] Z (zE (zB (zF Z (zG Z zX Z zL Z Z) (zF Z (zP 0 Z zV Z Z Z) (zF (v:=bo_ (inB a.n 1 8)) Z (qH Z Tryz.call40 Z qC (fun w1 hw1=>l1In_ok a.n 1 8 w1 )) (zC 1 Z (xD fun b6 hg6=>?_)))))))))
 cases b6
 ·
  refine zN Z (zN Z (zN Z (zN Z (zN Z (zC 2 Z (zN Z (zN Z (zN Z (zN Z (zN Z (zN Z (zN Z (zN Z (zC 2 Z (zK (zD [2] [_] Z (qK (qR Z Z fun w' hw=>?_))))))))))))))))))
  exact ⟨ret_b (by first | (simp [validB, *];done) | (simp [validB, *];omega)),hw.below⟩
 have hn:1≤a.n∧a.n≤8:=by unfold inB at hg6;simpa using hg6
 have hq:=sq_le hn.1 hn.2;refine zF Z (zG Z zX Z qG Z Z) (zF Z (zP 0 Z qY Z Z Z) (zF Z (zG Z zX Z zL Z Z) (zF Z (zP 0 Z zV Z Z Z) (zF (v:=bo_ (bitsB a.set a.n)) Z (qH Z Tryz.call41 Z qC (fun w1 hw1=>l1Bits_ok a.set a.n w1 (by omega))) (zC 2 Z (xD fun b13 hg13=>?_))))))
 cases b13
 ·
  refine zN Z (zN Z (zN Z (zN Z (zN Z (zN Z (zN Z (zN Z (zC 2 Z (zK (zD [2] [_] Z (qK (qR Z Z fun w' hw=>?_))))))))))))
  exact ⟨ret_b (by first | (simp [validB, *];done) | (simp [validB, *];omega)),hw.below⟩
 refine zF Z (zG Z zX Z qG Z Z) (zF Z (zP 0 Z qY Z Z Z) (zF Z (zG Z zX Z zL Z Z) (zF Z (zP 0 Z zV Z Z Z) (zF Z (zG Z zX Z zL Z Z) (zF Z (zP 0 Z zV Z Z Z) (zF Z (OpQ.mul Z Z Z (by omega) (by omega)) (zF (v:=bo_ (bitsB a.rel (a.n*a.n))) Z (qH Z Tryz.call41 Z qC (fun w1 hw1=>l1Bits_ok a.rel (a.n*a.n) w1 (by omega))) (zC 2 Z (zK (zD [2] [_] Z (qK (qR Z Z fun w' hw=>?_))))))))))))
 exact ⟨ret_b (by first | (simp [validB, *];done) | (simp [validB, *];omega)),hw.below⟩
set_option maxHeartbeats 400000 in
theorem l1Set_ok (a:St) (x:Int) (w:World) (ha:a.Fine) (hx:a.El x) :
    Calls Tryz.prog 88 [vS a,i6_ x].toArray w fun en w'=>en=.returned (.bool (a.inSet x))∧Below w.heap.size w w':=by
 refine fnStart (n:=10) (e:=[(0,vS a),(1,i6_ x)]) Tryz.func88 Z Z Z Z Ends.both ?_
 have hs:=ha.set
 obtain ⟨h0,h1⟩:=hx;refine zE (qF (yU (v:=vS a) Z Z Z Z Z fun p2 hp2=>?_))
 show Ll _ _ (Own _ _ [_]) _ _ ((2,pt_ p2)::_) _ _ _;refine qJ 1 Z (zH (zD [1,2] [_,_] Z (zE (zB (zF Z (zG Z zX Z qG Z Z) (zF Z (zP 0 Z qY Z Z Z) (zC 1 Z (zF (v:=.int .u8 (((a.set.getD ((x).toNat) 0).toNat:Int))) Z (jJ Z yG Z Z (by omega) (by omega)) (zC 2 Z (zK (zD [4] [_] Z (qK (qR Z Z fun w' hw=>?_)))))))))))))
 exact ⟨ret_b (by first | rfl | (simp_all;done) | (simp_all;omega)),hw.below⟩
set_option maxHeartbeats 400000 in
theorem l1Rel_ok (a:St) (x y:Int) (w:World) (ha:a.Fine) (hx:a.El x) (hy:a.El y) :
    Calls Tryz.prog 89 [vS a,i6_ x,i6_ y].toArray w fun en w'=>en=.returned (.bool (a.inRel x y))∧Below w.heap.size w w':=by
 refine fnStart (n:=17) (e:=[(0,vS a),(1,i6_ x),(2,i6_ y)]) Tryz.func89 Z Z Z Z Ends.both ?_
 obtain ⟨k0,k1,k2,k3,k4⟩:=ha.relLt hx hy;refine zE (qF (yU (v:=vS a) Z Z Z Z Z fun p3 hp3=>?_))
 show Ll _ _ (Own _ _ [_]) _ _ ((3,pt_ p3)::_) _ _ _;refine qJ 1 Z (zH (zD [1,2,3] [_,_,_] Z (zE (zB (zF Z (zG Z zX Z qG Z Z) (zF Z (zP 0 Z qY Z Z Z) (zC 1 Z (zF Z (zG Z zX Z zL Z Z) (zF Z (zP 0 Z zV Z Z Z) (zF Z (OpQ.mul Z Z Z (by omega) (by omega)) (zC 1 Z (zF Z (yI Z Z Z (by omega) (by omega)) (zF (v:=.int .u8 (((a.rel.getD (((x*a.n)+y).toNat) 0).toNat:Int))) Z (jJ Z yG Z Z (by omega) (by omega)) (zC 2 Z (zK (zD [6] [_] Z (qK (qR Z Z fun w' hw=>?_))))))))))))))))))
 exact ⟨ret_b (by first | rfl | (simp_all;done) | (simp_all;omega)),hw.below⟩
set_option maxHeartbeats 400000 in
theorem areBits_ok (s:List UInt8) (n:Int) (w:World) (hs:s.length≤1048576) :
    Calls Tryz.prog 30 [str s,i6_ n].toArray w fun en w'=>en=.returned (.bool (bitsB s n))∧Below w.heap.size w w':=by
 refine fnStart (n:=14) (e:=[(0,str s),(1,i6_ n)]) Tryz.func30 Z Z Z Z Ends.both (zE (zB (zC 1 Z (zK (zD [0,1] [_,_] Z (zE (zB (zC 1 Z (zF (v:=i6_ (s.length:Int)) Z (jT Z yG Z) (zC 3 Z (xD fun b9 hg9=>?_)))))))))))
 cases b9
 ·
  replace hg9:=zU hg9;refine zN Z (zN Z (zN Z (zC 2 Z (zK (zD [4] [_] Z (qK (qR Z Z fun w' hw=>?_)))))))
  exact ⟨ret_b (by unfold bitsB;simp [*]),hw.below⟩
 replace hg9:=qA hg9;refine zC 1 Z (zF (v:=str (Lib.trimS s [48,49])) Z (qH Z Tryz.call63 Z qC (fun w1 hw1=>trim_ok s w1 (by omega))) (zF Z (uM Z Z Z) (zC 2 Z (zK (zD [4] [_] Z (qK (qR Z Z fun w' hw=>?_)))))))
 exact ⟨ret_b (by unfold bitsB;rw [trim_nil];simp [*]),hw.below⟩
set_option maxHeartbeats 400000 in
theorem isStructure_ok (a:St) (w:World) (ha:a.Small) :
    Calls Tryz.prog 13 [vS a].toArray w fun en w'=>en=.returned (.bool (validB a))∧Below w.heap.size w w':=by
 refine fnStart (n:=28) (e:=[(0,vS a)]) Tryz.func13 Z Z Z Z Ends.both ?_
 have h1:=ha.set
 have h2:=ha.rel;refine zE (qF (yU (v:=vS a) Z Z Z Z Z fun p1 hp1=>?_))
 show Ll _ _ (Own _ _ [_]) _ _ ((1,pt_ p1)::_) _ _ _;refine qJ 1 Z (zH (zD [1] [_] Z (zE (zB (zF Z (zG Z zX Z zL Z Z) (zF Z (zP 0 Z zV Z Z Z) (zC 2 Z (xD fun b6 hg6=>?_))))))))
 cases b6
 ·
  replace hg6:=zU hg6;refine zN Z (zN Z (zN Z (zC 2 Z (zN Z (zN Z (zN Z (zN Z (zN Z (zC 2 Z (zN Z (zN Z (zN Z (zN Z (zN Z (zN Z (zN Z (zN Z (zC 2 Z (zK (zD [2] [_] Z (qK (qR Z Z fun w' hw=>?_))))))))))))))))))))))
  exact ⟨ret_b (by first | (simp [validB,inB, *];done) | (simp [validB,inB, *];omega)),hw.below⟩
 replace hg6:=qA hg6;refine zF Z (zG Z zX Z zL Z Z) (zF Z (zP 0 Z zV Z Z Z) (zC 3 Z (xD fun b11 hg11=>?_)))
 cases b11
 ·
  replace hg11:=zU hg11;refine zN Z (zN Z (zN Z (zN Z (zN Z (zC 2 Z (zN Z (zN Z (zN Z (zN Z (zN Z (zN Z (zN Z (zN Z (zC 2 Z (zK (zD [2] [_] Z (qK (qR Z Z fun w' hw=>?_))))))))))))))))))
  exact ⟨ret_b (by first | (simp [validB,inB, *];done) | (simp [validB,inB, *];omega)),hw.below⟩
 replace hg11:=qA hg11
 have hq:=sq_le hg6 hg11;refine zF Z (zG Z zX Z qG Z Z) (zF Z (zP 0 Z qY Z Z Z) (zF Z (zG Z zX Z zL Z Z) (zF Z (zP 0 Z zV Z Z Z) (zF (v:=bo_ (bitsB a.set a.n)) Z (qH Z Tryz.call30 Z qC (fun w1 hw1=>areBits_ok a.set a.n w1 (by omega))) (zC 2 Z (xD fun b18 hg18=>?_))))))
 cases b18
 ·
  refine zN Z (zN Z (zN Z (zN Z (zN Z (zN Z (zN Z (zN Z (zC 2 Z (zK (zD [2] [_] Z (qK (qR Z Z fun w' hw=>?_))))))))))))
  exact ⟨ret_b (by first | (simp [validB,inB, *];done) | (simp [validB,inB, *];omega)),hw.below⟩
 refine zF Z (zG Z zX Z qG Z Z) (zF Z (zP 0 Z qY Z Z Z) (zF Z (zG Z zX Z zL Z Z) (zF Z (zP 0 Z zV Z Z Z) (zF Z (zG Z zX Z zL Z Z) (zF Z (zP 0 Z zV Z Z Z) (zF Z (OpQ.mul Z Z Z (by omega) (by omega)) (zF (v:=bo_ (bitsB a.rel (a.n*a.n))) Z (qH Z Tryz.call30 Z qC (fun w1 hw1=>areBits_ok a.rel (a.n*a.n) w1 (by omega))) (zC 2 Z (zK (zD [2] [_] Z (qK (qR Z Z fun w' hw=>?_))))))))))))
 exact ⟨ret_b (by first | (simp [validB,inB, *];done) | (simp [validB,inB, *];omega)),hw.below⟩
set_option maxHeartbeats 400000 in
theorem inSet_ok (a:St) (x:Int) (w:World) (ha:a.Fine) (hx:a.El x) :
    Calls Tryz.prog 80 [vS a,i6_ x].toArray w fun en w'=>en=.returned (.bool (a.inSet x))∧Below w.heap.size w w':=by
 refine fnStart (n:=10) (e:=[(0,vS a),(1,i6_ x)]) Tryz.func80 Z Z Z Z Ends.both ?_
 have hs:=ha.set
 obtain ⟨h0,h1⟩:=hx;refine zE (qF (yU (v:=vS a) Z Z Z Z Z fun p2 hp2=>?_))
 show Ll _ _ (Own _ _ [_]) _ _ ((2,pt_ p2)::_) _ _ _;refine qJ 1 Z (zH (zD [1,2] [_,_] Z (zE (zB (zF Z (zG Z zX Z qG Z Z) (zF Z (zP 0 Z qY Z Z Z) (zC 1 Z (zF (v:=.int .u8 (((a.set.getD ((x).toNat) 0).toNat:Int))) Z (jJ Z yG Z Z (by omega) (by omega)) (zC 2 Z (zK (zD [4] [_] Z (qK (qR Z Z fun w' hw=>?_)))))))))))))
 exact ⟨ret_b (by first | rfl | (simp_all;done) | (simp_all;omega)),hw.below⟩
set_option maxHeartbeats 400000 in
theorem inRel_ok (a:St) (x y:Int) (w:World) (ha:a.Fine) (hx:a.El x) (hy:a.El y) :
    Calls Tryz.prog 81 [vS a,i6_ x,i6_ y].toArray w fun en w'=>en=.returned (.bool (a.inRel x y))∧Below w.heap.size w w':=by
 refine fnStart (n:=17) (e:=[(0,vS a),(1,i6_ x),(2,i6_ y)]) Tryz.func81 Z Z Z Z Ends.both ?_
 obtain ⟨k0,k1,k2,k3,k4⟩:=ha.relLt hx hy;refine zE (qF (yU (v:=vS a) Z Z Z Z Z fun p3 hp3=>?_))
 show Ll _ _ (Own _ _ [_]) _ _ ((3,pt_ p3)::_) _ _ _;refine qJ 1 Z (zH (zD [1,2,3] [_,_,_] Z (zE (zB (zF Z (zG Z zX Z qG Z Z) (zF Z (zP 0 Z qY Z Z Z) (zC 1 Z (zF Z (zG Z zX Z zL Z Z) (zF Z (zP 0 Z zV Z Z Z) (zF Z (OpQ.mul Z Z Z (by omega) (by omega)) (zC 1 Z (zF Z (yI Z Z Z (by omega) (by omega)) (zF (v:=.int .u8 (((a.rel.getD (((x*a.n)+y).toNat) 0).toNat:Int))) Z (jJ Z yG Z Z (by omega) (by omega)) (zC 2 Z (zK (zD [6] [_] Z (qK (qR Z Z fun w' hw=>?_))))))))))))))))))
 exact ⟨ret_b (by first | rfl | (simp_all;done) | (simp_all;omega)),hw.below⟩
set_option maxHeartbeats 400000 in
theorem noEl_ok (a:St) (g T:Nat) (x:Int) (w:World) (hg:w.heap[g]?=some (.cells #[.int .i64 a.n,str a.set,str a.rel] T (0,0))) :
    Calls Tryz.prog 83 [i6_ x,.pointer (some ⟨g,0,none⟩)].toArray w fun en w'=>en=.returned (.bool (!elB a x))∧Below w.heap.size w w':=by
 refine fnStart (n:=12) (e:=[(0,i6_ x),(1,.pointer (some ⟨g,0,none⟩))]) Tryz.func83 Z Z Z Z Ends.both (zE (zB (zC 1 Z (zK (zD [0,1] [_,_] Z (zE (zB (zC 3 Z (xD fun b6 hg6=>?_)))))))))
 cases b6
 ·
  replace hg6:=zU hg6;refine zC 1 Z (zF Z (zG Z zX Z zL Z Z) (zF (v:=i6_ a.n) Z (qO Z zV Z (fun w1 hw1=>at_box hg hw1 0 Z)) (zC 3 Z (zK (zD [3] [_] Z (qK (qR Z Z fun w' hw=>?_)))))))
  exact ⟨ret_b (by first | exact el_neg (by assumption) | exact el_geq (by assumption)),hw.below⟩
 replace hg6:=qA hg6;refine zN Z (zN Z (zN Z (zN Z (zC 2 Z (zK (zD [3] [_] Z (qK (qR Z Z fun w' hw=>?_))))))))
 exact ⟨ret_b (by first | exact el_neg (by assumption) | exact el_geq (by assumption)),hw.below⟩
set_option maxHeartbeats 400000 in
theorem indexFunc_ok (va:Value) (xs:List Int) (w:World) (hva:Ints w va xs) (hs:xs.length≤140737488355328) (F:FuncId) (caps:Array Value) (q:Int→Bool) (hF:∀ args w,(callFunc F args).run Tryz.prog w=.ok (.enter F args) w) (hq:∀ w1,Below w.heap.size w w1→∀ x,Calls Tryz.prog F (#[.int .i64 x]++caps) w1 fun en w'=>en=.returned (.bool (q x))∧Below w1.heap.size w1 w') :
    Calls Tryz.prog 110 [va,.func (.func F) #[] caps].toArray w fun en w'=>en=.returned (.int .i64 (idxI xs q))∧Below w.heap.size w w':=by
 refine fnStart (n:=19) (e:=[(0,va),(1,.func (.func F) #[] caps)]) Tryz.func110 Z Z Z Z Ends.both (zE (zB (zC 1 Z (zK (zD [0,1] [_,_] Z (zE (zE (zB (zC 1 Z (zF (v:=i6_ (xs.length:Int)) Z (yR Z zW Z (ints_length _) (fun w1 hw1=>Row.own hva hw1)) (zC 1 Z (zK (zD [0,1,7,8] [_,_,_,_] Z (qS (xJ (σ:=Nat) (fun k=>k≤xs.length∧∀ i:Nat,i<k→q (xs.getD i 0)=false) (fun k=>[(0,va),(1,.func (.func F) #[] caps),(7,i6_ (xs.length:Int)),(8,i6_ (k:Int))]) (fun k=>Own w.heap.size w []) (fun k=>xs.length - k) (0) ⟨by omega,fun i hi=>absurd hi (by omega)⟩ (Sub.sel [0,1,7,8] Z) (fun _ h=>h) ?_)))))))))))))))
 rintro k ⟨hk,hall⟩;refine zE (zB (zC 1 Z (zK (zD [0,1,7,8,9] [_,_,_,_,_] Z (zE (xN Z (fun h9=>?_) (fun h9=>?_)))))))
 ·
  refine qT (zD [0,1,7,8] [_,_,_,_] Z (zE (qS (zE (zB (zC 2 Z (zK (zD [0,1,5,7,8] [_,_,_,_,_] Z (zE (zB (zC 3 Z (zF (v:=.pointer (some (sAt va (k:Int)))) Z (yM Z zW zL Z Z (by omega) (by rw [ints_length];omega) (fun w1 hw1=>Row.own hva hw1)) (zF (v:=i6_ (xs.getD ((k:Int).toNat) 0)) Z (qO Z zV Z (fun w1 hw1=>Ints.cell (Row.own hva hw1) (by omega) (by omega))) (zF (v:=bo_ (q (xs.getD ((k:Int).toNat) 0))) Z (OpQ.callFn Z Z hF Z qC (fun w1 hw1=>hq w1 hw1.below (xs.getD ((k:Int).toNat) 0))) (zK (zD [0,1,5,7,8,16] [_,_,_,_,_,_] Z (yA (b:=q (xs.getD ((k:Int).toNat) 0)) Z (fun h16=>?_) (fun h16=>?_))))))))))))))))))
  ·
   refine zE (zB (zC 2 Z (zK (zD [4] [_] Z (qK (qR Z Z fun w' hw=>?_))))))
   exact ⟨ret_i (idxI_at (by omega) hall (by simpa using h16)).symm,hw.below⟩
  refine qT (zD [0,1,7,8] [_,_,_,_] Z (zB (zF Z (yI Z Z Z (by omega) (by omega)) (zC 1 Z (zK (yQ (k+1) ⟨by omega,fun i hi=>(Nat.lt_succ_iff_lt_or_eq.1 hi).elim (hall i) (fun e=>by subst e;simpa using h16)⟩ (by omega) (Sub.sel [0,1,7,8] Z) (fun _ h=>h)))))))
 refine yW Z (zD [] [] Z (zE (zB (zC 1 Z (zK (zD [4] [_] Z (qK (qR Z Z fun w' hw=>?_))))))))
 exact ⟨ret_i (idxI_none (fun i hi=>hall i (by omega))).symm,hw.below⟩
set_option maxHeartbeats 400000 in
theorem containsFunc_ok (va:Value) (xs:List Int) (w:World) (hva:Ints w va xs) (hs:xs.length≤140737488355328) (F:FuncId) (caps:Array Value) (q:Int→Bool) (hF:∀ args w,(callFunc F args).run Tryz.prog w=.ok (.enter F args) w) (hq:∀ w1,Below w.heap.size w w1→∀ x,Calls Tryz.prog F (#[.int .i64 x]++caps) w1 fun en w'=>en=.returned (.bool (q x))∧Below w1.heap.size w1 w') :
    Calls Tryz.prog 82 [va,.func (.func F) #[] caps].toArray w fun en w'=>en=.returned (.bool (xs.any q))∧Below w.heap.size w w':=by
 refine fnStart (n:=9) (e:=[(0,va),(1,.func (.func F) #[] caps)]) Tryz.func82 Z Z Z Z Ends.both (zE (zB (zC 1 Z (zK (zD [0,1] [_,_] Z (zE (zB (zC 2 Z (zF (v:=i6_ (idxI xs q)) Z (qH Z Tryz.call110 Z qC (fun w1 hw1=>indexFunc_ok va xs w1 (Row.own hva hw1) hs F caps q hF (fun w2 hb x=>hq w2 (hw1.below.trans (hb.mono hw1.base)) x))) (zC 2 Z (zK (zD [4] [_] Z (qK (qR Z Z fun w' hw=>?_))))))))))))))
 exact ⟨ret_b (idxI_any xs q),hw.below⟩
set_option maxHeartbeats 400000 in
theorem stillSame_ok (a b:St) (xs ys:List Int) (va vb:Value) (x y:Int) (w:World) (ha:a.Fine) (hb:b.Fine) (hva:Ints w va xs) (hvb:Ints w vb ys) (hA:a.Els xs) (hB:b.Els ys) (hlen:xs.length=ys.length) (hsmall:xs.length≤1000000) (hx:a.El x) (hy:b.El y) :
    Calls Tryz.prog 64 [vS a,va,vS b,vb,i6_ x,i6_ y].toArray w fun en w'=>en=.returned (.bool (stillB a xs b ys x y))∧Below w.heap.size w w':=by
 refine fnStart (n:=75) (e:=[(0,vS a),(1,va),(2,vS b),(3,vb),(4,i6_ x),(5,i6_ y)]) Tryz.func64 Z Z Z Z Ends.both ?_
 have hT:=stillB_true (a:=a) (b:=b) (x:=x) (y:=y) hlen;refine zE (qF (yU (v:=vS a) Z Z Z Z Z fun p6 hp6=>?_))
 show Ll _ _ (Own _ _ [_]) _ _ ((6,pt_ p6)::_) _ _ _;refine yU (v:=vS b) Z Z Z Z Z fun p8 hp8=>?_
 show Ll _ _ (Own _ _ [_,_]) _ _ ((8,pt_ p8)::_) _ _ _;refine qJ 1 Z (zH (zD [1,3,4,5,6,8] [_,_,_,_,_,_] Z (zE (zE (jU yH (fun _ h=>h.drawn) (by kernel_rfl) (zF Z (zT (cs:=#[i6_ a.n,str a.set,str a.rel]) 1 Z zQ Z Z zO) (zC 1 Z (zF (v:=bo_ (a.inSet x)) Z (qH Z Tryz.call80 Z qC (fun w1 hw1=>inSet_ok a x w1 ha (by first | assumption | exact St.Els.at (by assumption) (by omega) (by omega)))) (zF Z (zT (cs:=#[i6_ b.n,str b.set,str b.rel]) 0 Z zQ Z Z zO) (zC 1 Z (zF (v:=bo_ (b.inSet y)) Z (qH Z Tryz.call80 Z qC (fun w1 hw1=>inSet_ok b y w1 hb (by first | assumption | exact St.Els.at (by assumption) (by omega) (by omega)))) (zF Z (uO Z xI Z Z) (zC 1 Z (xD fun b23 hg23=>?_))))))))))))))
 cases b23
 ·
  refine zF Z (zT (cs:=#[i6_ a.n,str a.set,str a.rel]) 1 Z zQ Z Z zO) (zC 2 Z (zF (v:=bo_ (a.inRel x x)) Z (qH Z jV Z qC (fun w1 hw1=>inRel_ok a x x w1 ha (by first | assumption | exact St.Els.at (by assumption) (by omega) (by omega)) (by first | assumption | exact St.Els.at (by assumption) (by omega) (by omega)))) (zF Z (zT (cs:=#[i6_ b.n,str b.set,str b.rel]) 0 Z zQ Z Z zO) (zC 2 Z (zF (v:=bo_ (b.inRel y y)) Z (qH Z jV Z qC (fun w1 hw1=>inRel_ok b y y w1 hb (by first | assumption | exact St.Els.at (by assumption) (by omega) (by omega)) (by first | assumption | exact St.Els.at (by assumption) (by omega) (by omega)))) (zF Z (uO Z xI Z Z) (zC 1 Z (zK (zD [1,3,4,5,6,8,33] [_,_,_,_,_,_,_] Z (yA (b:=(a.inRel x x) != (b.inRel y y)) Z (fun h33=>?_) (fun h33=>?_)))))))))))
  ·
   refine zE (zB (zC 1 Z (zK (zD [12] [_] Z (qK (qR Z Z fun w' hw=>?_))))))
   have hf:stillB a xs b ys x y=false:=by
    cases hs:stillB a xs b ys x y with
    | false=>rfl
    | true=>obtain ⟨e1,e2,e3⟩:=hT.1 hs;simp_all
   exact ⟨by rw [hf],hw.below⟩
  refine qT (zD [1,3,4,5,6,8] [_,_,_,_,_,_] Z (zE (zE (zB (zC 1 Z (zF (v:=i6_ (xs.length:Int)) Z (yR Z zW Z (ints_length _) (fun w1 hw1=>Row.own hva hw1)) (zC 1 Z (zK (zD [3,4,5,6,8,34,35,36] [_,_,_,_,_,_,_,_] Z (qS (xJ (σ:=Nat) (fun k=>k≤xs.length∧∀ i:Nat,i<k→pairOk a b x y (xs.getD i 0) (ys.getD i 0)=true) (fun k=>[(3,vb),(4,i6_ x),(5,i6_ y),(6,pt_ p6),(8,pt_ p8),(34,va),(35,i6_ (xs.length:Int)),(36,i6_ (k:Int))]) (fun k=>Own w.heap.size w [bk_ p8 #[i6_ b.n,str b.set,str b.rel] 24,bk_ p6 #[i6_ a.n,str a.set,str a.rel] 24]) (fun k=>xs.length - k) (0) ⟨by omega,fun i hi=>absurd hi (by omega)⟩ (Sub.sel [3,4,5,6,8,34,35,36] Z) (fun _ h=>h) ?_)))))))))))
  rintro k ⟨hk,hall⟩;refine zE (zB (zC 1 Z (zK (zD [3,4,5,6,8,34,35,36,37] [_,_,_,_,_,_,_,_,_] Z (zE (xN Z (fun h37=>?_) (fun h37=>?_)))))))
  ·
   refine qT (zD [3,4,5,6,8,34,35,36] [_,_,_,_,_,_,_,_] Z (zE (qS (zE (zB (zC 1 Z (zF (v:=.pointer (some (sAt va (k:Int)))) Z (yM Z zW zL Z Z (by omega) (by rw [ints_length];omega) (fun w1 hw1=>Row.own hva hw1)) (zF (v:=i6_ (xs.getD ((k:Int).toNat) 0)) Z (qO Z zV Z (fun w1 hw1=>Ints.cell (Row.own hva hw1) (by omega) (by omega))) (zC 2 Z (zK (zD [3,4,5,6,8,13,14,34,35,36] [_,_,_,_,_,_,_,_,_,_] Z (zE (zB (zC 2 Z (zF (v:=.pointer (some (sAt vb (k:Int)))) Z (yM Z zW zL Z Z (by omega) (by rw [ints_length];omega) (fun w1 hw1=>Row.own hvb hw1)) (zF (v:=i6_ (ys.getD ((k:Int).toNat) 0)) Z (qO Z zV Z (fun w1 hw1=>Ints.cell (Row.own hvb hw1) (by omega) (by omega))) (zC 1 Z (zK (zD [3,4,5,6,8,14,15,34,35,36] [_,_,_,_,_,_,_,_,_,_] Z (zE (jU yH (fun _ h=>h.drawn) (by kernel_rfl) (zC 6 Z (zF Z (uO Z xI Z Z) (zC 1 Z (xD fun b52 hg52=>?_)))))))))))))))))))))))))
   cases b52
   ·
    refine zF Z (zT (cs:=#[i6_ a.n,str a.set,str a.rel]) 1 Z zQ Z Z zO) (zC 2 Z (zF (v:=bo_ (a.inRel (xs.getD ((k:Int).toNat) 0) x)) Z (qH Z jV Z qC (fun w1 hw1=>inRel_ok a (xs.getD ((k:Int).toNat) 0) x w1 ha (by first | assumption | exact St.Els.at (by assumption) (by omega) (by omega)) (by first | assumption | exact St.Els.at (by assumption) (by omega) (by omega)))) (zF Z (zT (cs:=#[i6_ b.n,str b.set,str b.rel]) 0 Z zQ Z Z zO) (zC 2 Z (zF (v:=bo_ (b.inRel (ys.getD ((k:Int).toNat) 0) y)) Z (qH Z jV Z qC (fun w1 hw1=>inRel_ok b (ys.getD ((k:Int).toNat) 0) y w1 hb (by first | assumption | exact St.Els.at (by assumption) (by omega) (by omega)) (by first | assumption | exact St.Els.at (by assumption) (by omega) (by omega)))) (zF Z (uO Z xI Z Z) (zC 2 Z (xD fun b63 hg63=>?_))))))))
    cases b63
    ·
     refine zF Z (zT (cs:=#[i6_ a.n,str a.set,str a.rel]) 1 Z zQ Z Z zO) (zC 2 Z (zF (v:=bo_ (a.inRel x (xs.getD ((k:Int).toNat) 0))) Z (qH Z jV Z qC (fun w1 hw1=>inRel_ok a x (xs.getD ((k:Int).toNat) 0) w1 ha (by first | assumption | exact St.Els.at (by assumption) (by omega) (by omega)) (by first | assumption | exact St.Els.at (by assumption) (by omega) (by omega)))) (zF Z (zT (cs:=#[i6_ b.n,str b.set,str b.rel]) 0 Z zQ Z Z zO) (zC 2 Z (zF (v:=bo_ (b.inRel y (ys.getD ((k:Int).toNat) 0))) Z (qH Z jV Z qC (fun w1 hw1=>inRel_ok b y (ys.getD ((k:Int).toNat) 0) w1 hb (by first | assumption | exact St.Els.at (by assumption) (by omega) (by omega)) (by first | assumption | exact St.Els.at (by assumption) (by omega) (by omega)))) (zF Z (uO Z xI Z Z) (zC 1 Z (zK (zD [3,4,5,6,8,34,35,36,73] [_,_,_,_,_,_,_,_,_] Z (yA (b:=(a.inRel x (xs.getD ((k:Int).toNat) 0)) != (b.inRel y (ys.getD ((k:Int).toNat) 0))) Z (fun h73=>?_) (fun h73=>?_)))))))))))
     ·
      refine zE (zB (zC 1 Z (zK (zD [12] [_] Z (qK (qR Z Z fun w' hw=>?_))))))
      have hf:stillB a xs b ys x y=false:=by
       cases hs:stillB a xs b ys x y with
       | false=>rfl
       | true =>
        obtain ⟨e1,e2,e3⟩:=hT.1 hs
        obtain ⟨e4,e5,e6⟩:=pairOk_true.1 (e3 k (by omega))
        simp only [Int.toNat_natCast] at *
        simp_all
      exact ⟨by rw [hf],hw.below⟩
     refine qT (zD [3,4,5,6,8,34,35,36] [_,_,_,_,_,_,_,_] Z (zB (zF Z (yI Z Z Z (by omega) (by omega)) (zC 1 Z (zK (yQ (k+1) ⟨by omega,fun i hi=>(Nat.lt_succ_iff_lt_or_eq.1 hi).elim (hall i) (fun e=>by subst e;exact pairOk_true.2 ⟨by simpa using hg52,by simpa using hg63,by simpa using h73⟩)⟩ (by omega) (Sub.sel [3,4,5,6,8,34,35,36] Z) (fun _ h=>h)))))))
    refine zN Z (zN Z (zN Z (zN Z (zN Z (zN Z (zN Z (zN Z (zN Z (zC 1 Z (zK (zD [3,4,5,6,8,34,35,36,73] [_,_,_,_,_,_,_,_,_] Z (xH Z (zE (zB (zC 1 Z (zK (zD [12] [_] Z (qK (qR Z Z fun w' hw=>?_)))))))))))))))))))
    have hf:stillB a xs b ys x y=false:=by
     cases hs:stillB a xs b ys x y with
     | false=>rfl
     | true =>
      obtain ⟨e1,e2,e3⟩:=hT.1 hs
      obtain ⟨e4,e5,e6⟩:=pairOk_true.1 (e3 k (by omega))
      simp only [Int.toNat_natCast] at *
      simp_all
    exact ⟨by rw [hf],hw.below⟩
   refine zN Z (zN Z (zN Z (zN Z (zN Z (zN Z (zN Z (zN Z (zN Z (zC 2 Z (zN Z (zN Z (zN Z (zN Z (zN Z (zN Z (zN Z (zN Z (zN Z (zC 1 Z (zK (zD [3,4,5,6,8,34,35,36,73] [_,_,_,_,_,_,_,_,_] Z (xH Z (zE (zB (zC 1 Z (zK (zD [12] [_] Z (qK (qR Z Z fun w' hw=>?_)))))))))))))))))))))))))))))
   have hf:stillB a xs b ys x y=false:=by
    cases hs:stillB a xs b ys x y with
    | false=>rfl
    | true =>
     obtain ⟨e1,e2,e3⟩:=hT.1 hs
     obtain ⟨e4,e5,e6⟩:=pairOk_true.1 (e3 k (by omega))
     simp only [Int.toNat_natCast] at *
     simp_all
   exact ⟨by rw [hf],hw.below⟩
  refine yW Z (zD [] [] Z (zE (zB (zC 1 Z (zK (zD [12] [_] Z (qK (qR Z Z fun w' hw=>?_))))))))
  exact ⟨by rw [hT.2 ⟨bne_false ‹_›,bne_false ‹_›,fun i hi=>hall i (by omega)⟩],hw.below⟩
 refine zN Z (zN Z (zN Z (zN Z (zN Z (zN Z (zN Z (zN Z (zN Z (zC 1 Z (zK (zD [1,3,4,5,6,8,33] [_,_,_,_,_,_,_] Z (xH Z (zE (zB (zC 1 Z (zK (zD [12] [_] Z (qK (qR Z Z fun w' hw=>?_)))))))))))))))))))
 have hf:stillB a xs b ys x y=false:=by
  cases hs:stillB a xs b ys x y with
  | false=>rfl
  | true=>obtain ⟨e1,e2,e3⟩:=hT.1 hs;simp_all
 exact ⟨by rw [hf],hw.below⟩
set_option maxHeartbeats 400000 in
theorem sameWay_ok (a b:St) (xs ys:List Int) (va vb:Value) (w:World) (ha:a.Fine) (hb:b.Fine) (hva:Ints w va xs) (hvb:Ints w vb ys) (hA:a.Els xs) (hB:b.Els ys) (hlen:xs.length=ys.length) (hsmall:xs.length≤1000000) :
    Calls Tryz.prog 31 [vS a,va,vS b,vb].toArray w fun en w'=>en=.returned (.bool (sameB a xs b ys))∧Below w.heap.size w w':=by
 refine fnStart (n:=34) (e:=[(0,vS a),(1,va),(2,vS b),(3,vb)]) Tryz.func31 Z Z Z Z Ends.both (zE (qF (yU (v:=vS a) Z Z Z Z Z fun p4 hp4=>?_)))
 show Ll _ _ (Own _ _ [_]) _ _ ((4,pt_ p4)::_) _ _ _;refine yU (v:=vS b) Z Z Z Z Z fun p6 hp6=>?_
 show Ll _ _ (Own _ _ [_,_]) _ _ ((6,pt_ p6)::_) _ _ _;refine qJ 1 Z (zH (zD [1,3,4,6] [_,_,_,_] Z (zE (zE (zB (zC 1 Z (zF (v:=i6_ (xs.length:Int)) Z (yR Z zW Z (ints_length _) (fun w1 hw1=>Row.own hva hw1)) (zC 1 Z (zK (zD [1,3,4,6,11,12] [_,_,_,_,_,_] Z (qS (xJ (σ:=Nat) (fun k=>k≤xs.length∧∀ i:Nat,i<k→stillAt a xs b ys i=true) (fun k=>[(1,va),(3,vb),(4,pt_ p4),(6,pt_ p6),(11,i6_ (xs.length:Int)),(12,i6_ (k:Int))]) (fun k=>Own w.heap.size w [bk_ p6 #[i6_ b.n,str b.set,str b.rel] 24,bk_ p4 #[i6_ a.n,str a.set,str a.rel] 24]) (fun k=>xs.length - k) (0) ⟨by omega,fun i hi=>absurd hi (by omega)⟩ (Sub.sel [1,3,4,6,11,12] Z) (fun _ h=>h) ?_))))))))))))
 rintro k ⟨hk,hall⟩;refine zE (zB (zC 1 Z (zK (zD [1,3,4,6,11,12,13] [_,_,_,_,_,_,_] Z (zE (xN Z (fun h13=>?_) (fun h13=>?_)))))))
 ·
  refine qT (zD [1,3,4,6,11,12] [_,_,_,_,_,_] Z (zE (qS (zE (zB (zC 2 Z (zK (zD [1,3,4,6,9,11,12] [_,_,_,_,_,_,_] Z (zE (jU yH (fun _ h=>h.drawn) (by kernel_rfl) (zF Z (zT (cs:=#[i6_ a.n,str a.set,str a.rel]) 1 Z zQ Z Z zO) (zC 2 Z (zF (v:=sTake va k) Z (uD (i:=(k:Int)) Z zW zL Z Z (by omega) (by rw [ints_length];omega) (fun w1 hw1=>Row.own hva hw1)) (zF Z (zT (cs:=#[i6_ b.n,str b.set,str b.rel]) 0 Z zQ Z Z zO) (zC 2 Z (zF (v:=sTake vb k) Z (uD (i:=(k:Int)) Z zW zL Z Z (by omega) (by rw [ints_length];omega) (fun w1 hw1=>Row.own hvb hw1)) (zC 2 Z (zF (v:=.pointer (some (sAt va (k:Int)))) Z (yM Z zW zL Z Z (by omega) (by rw [ints_length];omega) (fun w1 hw1=>Row.own hva hw1)) (zF (v:=i6_ (xs.getD ((k:Int).toNat) 0)) Z (qO Z zV Z (fun w1 hw1=>Ints.cell (Row.own hva hw1) (by omega) (by omega))) (zC 2 Z (zF (v:=.pointer (some (sAt vb (k:Int)))) Z (yM Z zW zL Z Z (by omega) (by rw [ints_length];omega) (fun w1 hw1=>Row.own hvb hw1)) (zF (v:=i6_ (ys.getD ((k:Int).toNat) 0)) Z (qO Z zV Z (fun w1 hw1=>Ints.cell (Row.own hvb hw1) (by omega) (by omega))) (zF (v:=bo_ (stillB a (xs.take k) b (ys.take k) (xs.getD ((k:Int).toNat) 0) (ys.getD ((k:Int).toNat) 0))) Z (qH Z Tryz.call64 Z qC (fun w1 hw1=>stillSame_ok a b (xs.take k) (ys.take k) (sTake va k) (sTake vb k) (xs.getD ((k:Int).toNat) 0) (ys.getD ((k:Int).toNat) 0) w1 (ha) (hb) (Ints.take (Row.own hva hw1) k (by omega)) (Ints.take (Row.own hvb hw1) k (by omega)) (hA.take _) (hB.take _) (by first | (simp;done) | (simp;omega) | omega) (by first | (simp;done) | (simp;omega) | omega) (by first | assumption | exact St.Els.at (by assumption) (by omega) (by omega)) (by first | assumption | exact St.Els.at (by assumption) (by omega) (by omega)))) (zC 1 Z (zK (zD [1,3,4,6,11,12,32] [_,_,_,_,_,_,_] Z (yA (b:=!(stillB a (xs.take k) b (ys.take k) (xs.getD ((k:Int).toNat) 0) (ys.getD ((k:Int).toNat) 0))) Z (fun h32=>?_) (fun h32=>?_))))))))))))))))))))))))))))
  ·
   replace h32:=not_true h32;refine zE (zB (zC 1 Z (zK (zD [8] [_] Z (qK (qR Z Z fun w' hw=>?_))))))
   exact ⟨ret_b (sameB_false (k:=k) (by omega) (by simpa [stillAt] using h32)).symm,hw.below⟩
  replace h32:=not_false h32;refine qT (zD [1,3,4,6,11,12] [_,_,_,_,_,_] Z (zB (zF Z (yI Z Z Z (by omega) (by omega)) (zC 1 Z (zK (yQ (k+1) ⟨by omega,fun i hi=>(Nat.lt_succ_iff_lt_or_eq.1 hi).elim (hall i) (fun e=>by subst e;simpa [stillAt] using h32)⟩ (by omega) (Sub.sel [1,3,4,6,11,12] Z) (fun _ h=>h)))))))
 refine yW Z (zD [] [] Z (zE (zB (zC 1 Z (zK (zD [8] [_] Z (qK (qR Z Z fun w' hw=>?_))))))))
 exact ⟨ret_b (sameB_true (k:=k) (by omega) hall).symm,hw.below⟩
end Go.Proofs.YtagbocafnliabaaGreatDoor
