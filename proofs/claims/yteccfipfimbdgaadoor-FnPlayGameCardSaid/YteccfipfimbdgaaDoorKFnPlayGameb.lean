/-
  FnPlayGame: all that its proof names (part 2)
-/
import Derived.Test.YteccfipfimbdgaaDoorKFnPlayGamea
import Derived.Lib.Fields
import Derived.Lib.FieldsLaws
import Derived.Lib.SplitLaws
import Derived.Lib.LaidTab
import Derived.Shelf.Strings.SlTrimAscii
import Derived.Shelf.Strings.Trim
import Derived.Test.YteccfipfimbdgaaDoorProg
import Derived.Deep.DeepWitnessRowRef
import Derived.Deep.DeepLaidRun
import Derived.Shelf.Vars
namespace Go.Wk
open Go.RowKit
def cutGo:List UInt8→List UInt8→List (List UInt8)
 | cur,[]=>[cur]
 | cur,b::l=>if b=32 then cur::cutGo [] l else cutGo (cur++[b]) l
def cutL (s:List UInt8):List (List UInt8):=cutGo [] s
theorem cutGo_pre:∀ (l cur:List UInt8),∃ p r,cutGo [] l=p::r∧cutGo cur l=(cur++p)::r
  | [],cur=>⟨[],[],rfl,by simp [cutGo]⟩
  | b::l,cur=>by
    unfold cutGo
    by_cases h:b=32
    · rw [if_pos h,if_pos h];exact ⟨[],_,rfl,by simp⟩
    · rw [if_neg h,if_neg h]
      obtain ⟨p,r,h1,h2⟩:=cutGo_pre l ([]++[b])
      obtain ⟨p',r',h3,h4⟩:=cutGo_pre l (cur++[b])
      rw [h1] at h3
      injection h3 with h5 h6
      subst h5;subst h6
      exact ⟨[b]++p,r,by rw [h2];rfl,by rw [h4,List.append_assoc]⟩
theorem index_blank (l:List UInt8):Lib.index (32::l) [32]=((0:Nat):Int):=by rw [Lib.index];simp [List.isPrefixOf]
theorem index_other {b:UInt8} (h:b ≠ 32) (l:List UInt8):Lib.index (b::l) [32]=if Lib.index l [32] == -1 then -1 else Lib.index l [32]+1:=by
  have hp:([32]:List UInt8).isPrefixOf (b::l)=false:=by simp [List.isPrefixOf,Ne.symm h]
  rw [Lib.index,hp];simp
theorem split_cut:∀ (l:List UInt8),Lib.splitK [32] 0 (Lib.count l [32]) l=cutL l
  | []=>by unfold cutL;rw [Lib.count_miss (by simp [Lib.index])];rfl
  | b::l=>by
    have ih:=split_cut l
    unfold cutL at ih ⊢
    by_cases h:b=32
    · subst h
      rw [Lib.count_cons_eq,Nat.add_comm,Lib.splitK,index_blank,if_neg (by decide),cutGo,if_pos rfl]
      simpa using ih
    · rw [Lib.count_cons_ne b 32 l h,cutGo,if_neg h]
      obtain ⟨p,r,h1,h2⟩:=cutGo_pre l ([]++[b])
      rw [h2]
      rw [h1] at ih
      have hx:=index_other h l
      cases hc:Lib.count l [32] with
      | zero =>
        rw [hc,Lib.splitK] at ih
        rw [Lib.splitK]
        injection ih with e1 e2
        rw [← e1,← e2];rfl
      | succ k =>
        rw [hc,Lib.splitK] at ih
        rw [Lib.splitK,hx]
        by_cases hm:Lib.index l [32] = -1
        · rw [Lib.count_miss hm] at hc;cases hc
        · have hge:=Lib.index_ge l [32]
          obtain ⟨j,hj⟩:∃ j:Nat,Lib.index l [32]=j:=⟨(Lib.index l [32]).toNat,by omega⟩
          rw [hj] at ih ⊢
          have hne:¬ ((j:Int) == -1)=true:=fun e=>by have:=beq_iff_eq.1 e;omega
          have hne2:¬ (((j:Int)+1) == -1)=true:=fun e=>by have:=beq_iff_eq.1 e;omega
          rw [if_neg hne] at ih ⊢
          rw [if_neg hne2]
          injection ih with e1 e2
          have t1:((j:Int)+1).toNat=j+1:=by omega
          have t2:((j:Int)).toNat=j:=by omega
          rw [t2] at e1 e2
          rw [t1,← e1,← e2]
          simp
theorem fields_cut:∀ (l cur:List UInt8),(∀ p∈cutGo cur l,p ≠ []∧∀ b∈p,Lib.isSp b=false)→Lib.fieldsGo cur l=cutGo cur l
  | [],cur,h=>by
    have hc:=(h cur (by simp [cutGo])).1
    cases cur with
    | nil=>exact absurd rfl hc
    | cons x y=>rfl
  | b::l,cur,h=>by
    unfold cutGo at h ⊢
    by_cases hb:b=32
    · rw [if_pos hb] at h ⊢
      have hc:=(h cur (by simp)).1
      rw [Lib.fieldsGo_end cur b l (by rw [hb];decide) hc,fields_cut l [] fun p hp=>h p (List.mem_cons_of_mem _ hp)]
    · rw [if_neg hb] at h ⊢
      obtain ⟨p,r,h1,h2⟩:=cutGo_pre l (cur++[b])
      have hs:Lib.isSp b=false:=(h ((cur++[b])++p) (by rw [h2];exact List.mem_cons_self ..)).2 b (by simp)
      rw [Lib.fieldsGo_more cur b l hs]
      exact fields_cut l (cur++[b]) h
def CutTo (s:List UInt8) (i f:Nat) (l:List (List UInt8)):Prop:=(i≤s.length∧f≤i∧l++cutGo ((s.drop f).take (i - f)) (s.drop i)=cutL s)∨(i=s.length+1∧l=cutL s)
theorem CutTo.start (s:List UInt8):CutTo s 0 0 []:=.inl ⟨Nat.zero_le _,Nat.le_refl _,by simp [cutL]⟩
theorem CutTo.le {s:List UInt8} {i f:Nat} {l:List (List UInt8)} (h:CutTo s i f l) (hi:i≤s.length):f≤i:=by
  rcases h with h | h
  · exact h.2.1
  · omega
theorem CutTo.last {s:List UInt8} {i f:Nat} {l:List (List UInt8)} (h:CutTo s i f l) (hi:i=s.length) (f':Nat):CutTo s (i+1) f' (l++[(s.drop f).take (i - f)]):=by
  rcases h with ⟨_,_,h3⟩ | h
  · refine .inr ⟨by omega,?_⟩
    rw [← h3,hi,List.drop_length];rfl
  · omega
theorem CutTo.cut {s:List UInt8} {i f:Nat} {l:List (List UInt8)} (h:CutTo s i f l) (hi:i<s.length) (hb:s.getD i 0=32):CutTo s (i+1) (i+1) (l++[(s.drop f).take (i - f)]):=by
  rcases h with ⟨_,_,h3⟩ | h
  · refine .inl ⟨by omega,Nat.le_refl _,?_⟩
    rw [← h3,List.drop_eq_getElem_cons hi,← getD_at (d:=0) hi,hb,cutGo,if_pos rfl,Nat.sub_self,List.take_zero,List.append_assoc];rfl
  · omega
theorem CutTo.on {s:List UInt8} {i f:Nat} {l:List (List UInt8)} (h:CutTo s i f l) (hi:i<s.length) (hb:¬ s.getD i 0=32):CutTo s (i+1) f l:=by
  rcases h with ⟨_,h2,h3⟩ | h
  · refine .inl ⟨by omega,by omega,?_⟩
    rw [← h3,List.drop_eq_getElem_cons hi,← getD_at (d:=0) hi,cutGo,if_neg hb]
    have e:(s.drop f).take (i+1 - f)=(s.drop f).take (i - f)++[s.getD i 0]:=by
      rw [show i+1 - f=(i - f)+1 by omega,List.take_succ_eq_append_getElem (by rw [List.length_drop];omega),List.getElem_drop,getD_at hi]
      congr 3
      omega
    rw [e]
  · omega
theorem CutTo.done {s:List UInt8} {i f:Nat} {l:List (List UInt8)} (h:CutTo s i f l) (hi:¬ i≤s.length):l=cutL s:=by
  rcases h with h | h
  · omega
  · exact h.2
theorem cutGo_len:∀ (l cur:List UInt8),(cutGo cur l).length≤l.length+1
  | [],_=>by simp [cutGo]
  | b::l,cur=>by
    unfold cutGo
    split
    · have:=cutGo_len l [];rw [List.length_cons,List.length_cons];omega
    · have:=cutGo_len l (cur++[b]);rw [List.length_cons];omega
theorem cut_len (s:List UInt8):(cutL s).length≤s.length+1:=cutGo_len s []
theorem CutTo.len {s:List UInt8} {i f:Nat} {l:List (List UInt8)} (h:CutTo s i f l):l.length≤s.length+1:=by
  have hc:=cut_len s
  rcases h with ⟨_,_,h3⟩ | h
  · rw [← h3,List.length_append] at hc;omega
  · rw [h.2];exact hc
theorem byte_32 {c:UInt8}:((c.toNat:Int)=32)↔c=32:=⟨fun h=>UInt8.toNat_inj.1 (by rw [show (32:UInt8).toNat=32 from rfl];omega),fun h=>by rw [h];rfl⟩
def moveB (n m:Int) (p:List UInt8):Bool:=decide ((p.length:Int)=2)&&(decide (((p.getD 0 0).toNat:Int)=97)||decide (((p.getD 0 0).toNat:Int)=98))&&decide (48≤((p.getD 1 0).toNat:Int))&&decide (((p.getD 1 0).toNat:Int) - 48<if ((p.getD 0 0).toNat:Int)=98 then m else n)
def movesB (n m:Int) (s:List UInt8):Bool:=decide (s=[])||((cutL s).all (moveB n m)&&decide (((cutL s).length:Int)≤3))
def movesL (s:List UInt8):List (List UInt8):=if s=[] then [] else cutL s
theorem move_parts {n m:Int} {p:List UInt8} (h:moveB n m p=true):p.length=2∧(((p.getD 0 0).toNat:Int)=97∨((p.getD 0 0).toNat:Int)=98)∧48≤((p.getD 1 0).toNat:Int)∧(((p.getD 0 0).toNat:Int)=97→((p.getD 1 0).toNat:Int) - 48<n)∧(((p.getD 0 0).toNat:Int)=98→((p.getD 1 0).toNat:Int) - 48<m):=by
  unfold moveB at h
  simp only [Bool.and_eq_true,Bool.or_eq_true,decide_eq_true_eq] at h
  obtain ⟨⟨⟨h1,h2⟩,h3⟩,h4⟩:=h
  refine ⟨by omega,h2,h3,fun e=>?_,fun e=>?_⟩
  · rwa [if_neg (by omega)] at h4
  · rwa [if_pos e] at h4
theorem moves_not {n m:Int} {s:List UInt8} {k:Nat} (hs:¬ s=[]) (hk:k<(cutL s).length) (h:moveB n m ((cutL s).getD k [])=false):movesB n m s=false:=by
  unfold movesB
  rw [decide_eq_false hs,Bool.false_or,show (cutL s).all (moveB n m)=false from by
    rw [List.all_eq_false]
    exact ⟨(cutL s).getD k [],by rw [getD_at hk];exact List.getElem_mem _,by rw [h];decide⟩];rfl
theorem moves_end {n m:Int} {s:List UInt8} (hs:¬ s=[]) (h:∀ i:Nat,i<(cutL s).length→moveB n m ((cutL s).getD i [])=true):movesB n m s=decide (((cutL s).length:Int)≤3):=by
  unfold movesB
  rw [decide_eq_false hs,Bool.false_or,show (cutL s).all (moveB n m)=true from by
    rw [List.all_eq_true]
    intro p hp
    obtain ⟨i,hi,rfl⟩:=List.getElem_of_mem hp
    rw [← getD_at (d:=[]) hi];exact h i hi,Bool.true_and]
theorem move_len {n m:Int} {p:List UInt8} (h:¬ (p.length:Int)=2):moveB n m p=false:=by unfold moveB;rw [decide_eq_false h];rfl
theorem move_head {n m:Int} {p:List UInt8} (h1:¬ ((p.getD 0 0).toNat:Int)=97) (h2:¬ ((p.getD 0 0).toNat:Int)=98):moveB n m p=false:=by unfold moveB;rw [decide_eq_false h1,decide_eq_false h2];simp
theorem move_low {n m:Int} {p:List UInt8} (h:((p.getD 1 0).toNat:Int)<48):moveB n m p=false:=by unfold moveB;rw [decide_eq_false (show ¬ 48≤((p.getD 1 0).toNat:Int) by omega)];simp
theorem move_high {n m z:Int} {p:List UInt8} (hz:z=if ((p.getD 0 0).toNat:Int)=98 then m else n) (h:z≤((p.getD 1 0).toNat:Int) - 48):moveB n m p=false:=by unfold moveB;rw [← hz,decide_eq_false (show ¬ ((p.getD 1 0).toNat:Int) - 48<z by omega)];simp
theorem move_yes {n m z:Int} {p:List UInt8} (hl:(p.length:Int)=2) (h1:((p.getD 0 0).toNat:Int)=97∨((p.getD 0 0).toNat:Int)=98) (hz:z=if ((p.getD 0 0).toNat:Int)=98 then m else n) (h2:48≤((p.getD 1 0).toNat:Int)) (h3:((p.getD 1 0).toNat:Int) - 48<z):moveB n m p=true:=by
  unfold moveB
  rw [← hz,decide_eq_true hl,decide_eq_true h2,decide_eq_true h3]
  rcases h1 with h | h <;> rw [decide_eq_true h] <;> simp
theorem sp_no {b:UInt8} (h:48≤b.toNat) (h2:b.toNat<128):Lib.isSp b=false:=by
 have key:∀ k:Nat,k<80→Lib.isSp (UInt8.ofNat (48+k))=false:=by decide
 have:=key (b.toNat - 48) (by omega)
 rwa [show 48+(b.toNat - 48)=b.toNat by omega,UInt8.ofNat_toNat] at this
theorem move_bytes {n m:Int} {p:List UInt8} (h:moveB n m p=true) (hn:n≤8) (hm:m≤8):∀ b∈p,48≤b.toNat∧b.toNat<128:=fun b hb=>by
  obtain ⟨h1,h2,h3,h4,h5⟩:=move_parts h
  obtain ⟨i,hi,rfl⟩:=List.getElem_of_mem hb
  rw [← getD_at (d:=0) hi]
  rcases (show i=0∨i=1 by omega) with rfl | rfl
  · omega
  · rcases h2 with e | e
    · have:=h4 e;omega
    · have:=h5 e;omega
theorem cut_ascii:∀ (l cur:List UInt8),(∀ p∈cutGo cur l,∀ b∈p,b.toNat<128)→∀ b∈l,b.toNat<128
  | [],_,_=>fun b hb=>by cases hb
  | c::l,cur,h=>by
    unfold cutGo at h
    intro b hb
    by_cases e:c=32
    · rw [if_pos e] at h
      rcases List.mem_cons.1 hb with rfl | hb
      · rw [e];decide
      · exact cut_ascii l [] (fun p hp=>h p (List.mem_cons_of_mem _ hp)) b hb
    · rw [if_neg e] at h
      rcases List.mem_cons.1 hb with rfl | hb
      · obtain ⟨p,r,_,h2⟩:=cutGo_pre l (cur++[b])
        exact h ((cur++[b])++p) (by rw [h2];exact List.mem_cons_self ..) b (by simp)
      · exact cut_ascii l (cur++[c]) h b hb
theorem moves_fields {n m:Int} {s:List UInt8} (h:movesB n m s=true) (hn:n≤8) (hm:m≤8):Lib.fields s=movesL s∧(∀ b∈s,b.toNat<128)∧(movesL s).length≤3∧∀ p∈movesL s,moveB n m p=true:=by
  unfold movesB at h
  unfold movesL
  by_cases e:s=[]
  · subst e
    rw [if_pos rfl]
    exact ⟨rfl,(fun b hb=>by cases hb),by decide,(fun p hp=>by cases hp)⟩
  · rw [decide_eq_false e,Bool.false_or,Bool.and_eq_true,decide_eq_true_eq,List.all_eq_true] at h
    rw [if_neg e]
    have hb:=fun p hp=>move_bytes (h.1 p hp) hn hm
    refine ⟨fields_cut s [] fun p hp=>⟨fun e2=>?_,fun b hbp=>sp_no (hb p hp b hbp).1 (hb p hp b hbp).2⟩,cut_ascii s [] fun p hp b hbp=>(hb p hp b hbp).2,by omega,h.1⟩
    have:=(move_parts (h.1 p hp)).1
    rw [e2] at this;cases this
def bestO (n:Nat) (a:St) (xs:List Int) (b:St) (ys:List Int) (x:Int):Option Nat:=(rep (goB n) a xs b ys x).or ((List.range b.n.toNat).find? fun y:Nat=>stillB a xs b ys x (y:Int))
def playGo (a b:St):List (List UInt8)→List Int→List Int→List Int×List Int×Bool
 | [],xs,ys=>(xs,ys,true)
 | m::l,xs,ys =>
  let x:=((m.getD 1 0).toNat:Int) - 48
  if ((m.getD 0 0).toNat:Int)=97 then match bestO l.length a xs b ys x with | some y=>playGo a b l (xs++[x]) (ys++[(y:Int)]) | none=>(xs++[x],ys,false)
  else match bestO l.length b ys a xs x with | some y=>playGo a b l (xs++[(y:Int)]) (ys++[x]) | none=>(xs,ys++[x],false)
def endS (v k:Bool):List UInt8:=if v then (if k then [115,101,99,111,110,100] else [102,105,114,115,116]) else [110,111]
def playO (a b:St) (s:List UInt8):List Int×List Int×List UInt8:=if validB a&&validB b&&movesB a.n b.n s then ((playGo a b (movesL s) [] []).1,(playGo a b (movesL s) [] []).2.1,endS true (playGo a b (movesL s) [] []).2.2) else ([],[],endS false false)
theorem drop_cons {l:List (List UInt8)} {i:Nat} (h:i<l.length):l.drop i=l.getD i []::l.drop (i+1):=by rw [List.drop_eq_getElem_cons h,getD_at h]
theorem best_some {n y:Nat} {a b:St} {xs ys:List Int} {x:Int} (h:rep (goB n) a xs b ys x=some y):bestO n a xs b ys x=some y:=by unfold bestO;rw [h];rfl
theorem best_at {n k:Nat} {a b:St} {xs ys:List Int} {x:Int} (h:rep (goB n) a xs b ys x=none) (hk:k<b.n.toNat) (hall:∀ i:Nat,i<k→stillB a xs b ys x (i:Int)=false) (hs:stillB a xs b ys x (k:Int)=true):bestO n a xs b ys x=some k:=by
 unfold bestO
 rw [h,Option.none_or]
 exact find_at hk (fun i hi=>hall i hi) hs
theorem best_none {n:Nat} {a b:St} {xs ys:List Int} {x:Int} (h:rep (goB n) a xs b ys x=none) (hall:∀ i:Nat,i<b.n.toNat→stillB a xs b ys x (i:Int)=false):bestO n a xs b ys x=none:=by
 unfold bestO
 rw [h,Option.none_or,List.find?_eq_none]
 exact fun i hi=>by rw [hall i (List.mem_range.1 hi)];decide
end Go.Wk
namespace Go.Wk
open Go.RowKit
section
variable {P:Program} {n:Nat} {B:Nat} {w0:World} {hs:List (Nat×Obj)} {N R:Act→World→Prop} {X:List (Nat×(Act→World→Prop))} {e:Env} {ops:Array Oper} {l:List Oper} {o:Oper}
def NewRowZ (B el:Nat) (w:World) (v z:Value) (n:Nat) (vs:List Value):Prop :=
 ∃ (g c:Nat) (u:Array Value),v=.tuple #[.slice (some ⟨g,0,none⟩) n c,z]∧B≤g∧w.heap[g]?=some (.cells u el (0,0))∧u.size=c*1∧n≤c∧u.toList.take (n*1)=vs
theorem Own.newRowZ {w:World} (h:Own B w0 hs w) {i g el c:Nat} {u:Array Value} {z:Value} (hi:hs[i]?=some (g,.cells u el (0,0))) {n:Nat} {vs:List Value} (hc:u.size=c*1) (hn:n≤c) (ht:u.toList.take (n*1)=vs) :
  NewRowZ B el w (.tuple #[.slice (some ⟨g,0,none⟩) n c,z]) z n vs:=⟨g,c,u,rfl,(h.has i g _ hi).1,(h.has i g _ hi).2,hc,hn,ht⟩
theorem Ll.callRowZ {d f el m:Nat} {xs:List Operand} {ts:Array TypeId} {us vs:List Value} {z:Value} (hd:Nat.blt d n=true) (hdst:o.dst=some d) (hg:wantE ops e o.guard=some true) (h:o.op=.call ⟨.value (.func f),xs.toArray,ts⟩)
  (hcf:∀ args w,(callFunc f args).run P w=.ok (.enter f args) w) (hx:opds e xs=some us)
  (hc:∀ w,Own B w0 hs w→Calls P f us.toArray w fun en w'=>∃ v,en=.returned v∧Below w.heap.size w w'∧NewRowZ w.heap.size el w' v z m vs)
  (k:∀ g c u,B≤g→u.size=c*1→m≤c→u.toList.take (m*1)=vs→Ll P n (Own B w0 ((g,.cells u el (0,0))::hs)) ops l ((d,.tuple #[.slice (some ⟨g,0,none⟩) m c,z])::e) N R X):Ll P n (Own B w0 hs) ops (o::l) e N R X :=
 Ll.call hd hdst hg h hcf hx fun w hw=>(hc w hw).mono fun en w' ⟨v,h1,h2,g,c,u,h3,h4,h5,h6,h7,h8⟩=>⟨v,h1,fun a' ha=>by
  subst h3
  have:=k g c u (Nat.le_trans hw.base h4) h6 h7 h8
  unfold Ll at this
  exact this a' w' ha (hw.learn h2 h4 h5)⟩
def NewRowsZ (B el1 el2:Nat) (w:World) (v z:Value) (n1:Nat) (vs1:List Value) (n2:Nat) (vs2:List Value):Prop :=
 ∃ (g1 c1:Nat) (u1:Array Value) (g2 c2:Nat) (u2:Array Value),v=.tuple #[.slice (some ⟨g1,0,none⟩) n1 c1,.slice (some ⟨g2,0,none⟩) n2 c2,z]∧g1 ≠ g2 ∧
  B≤g1∧w.heap[g1]?=some (.cells u1 el1 (0,0))∧u1.size=c1*1∧n1≤c1∧u1.toList.take (n1*1)=vs1 ∧
  B≤g2∧w.heap[g2]?=some (.cells u2 el2 (0,0))∧u2.size=c2*1∧n2≤c2∧u2.toList.take (n2*1)=vs2
theorem Own.newRowsZ {w:World} (h:Own B w0 hs w) {i j g1 c1 g2 c2 el1 el2:Nat} {u1 u2:Array Value} {z:Value} (hi:hs[i]?=some (g1,.cells u1 el1 (0,0))) (hj:hs[j]?=some (g2,.cells u2 el2 (0,0))) (hij:i ≠ j) {n1 n2:Nat} {vs1 vs2:List Value}
  (a1:u1.size=c1*1) (a2:n1≤c1) (a3:u1.toList.take (n1*1)=vs1) (b1:u2.size=c2*1) (b2:n2≤c2) (b3:u2.toList.take (n2*1)=vs2) :
  NewRowsZ B el1 el2 w (.tuple #[.slice (some ⟨g1,0,none⟩) n1 c1,.slice (some ⟨g2,0,none⟩) n2 c2,z]) z n1 vs1 n2 vs2 :=
 ⟨g1,c1,u1,g2,c2,u2,rfl,h.apart i j g1 _ g2 _ hi hj hij,(h.has i g1 _ hi).1,(h.has i g1 _ hi).2,a1,a2,a3,(h.has j g2 _ hj).1,(h.has j g2 _ hj).2,b1,b2,b3⟩
end
def mvE (m:List UInt8):Int:=((m.getD 1 0).toNat:Int) - 48
theorem play_a {a b:St} {m:List UInt8} {l:List (List UInt8)} {xs ys:List Int} {y:Nat} (h:((m.getD 0 0).toNat:Int)=97) (hb:bestO l.length a xs b ys (mvE m)=some y):playGo a b (m::l) xs ys=playGo a b l (xs++[mvE m]) (ys++[(y:Int)]):=by
 unfold mvE at *
 rw [playGo];simp only [h,if_true,hb]
theorem play_a' {a b:St} {m:List UInt8} {l:List (List UInt8)} {xs ys:List Int} (h:((m.getD 0 0).toNat:Int)=97) (hb:bestO l.length a xs b ys (mvE m)=none):playGo a b (m::l) xs ys=(xs++[mvE m],ys,false):=by
 unfold mvE at *
 rw [playGo];simp only [h,if_true,hb]
theorem play_b {a b:St} {m:List UInt8} {l:List (List UInt8)} {xs ys:List Int} {y:Nat} (h:¬ ((m.getD 0 0).toNat:Int)=97) (hb:bestO l.length b ys a xs (mvE m)=some y):playGo a b (m::l) xs ys=playGo a b l (xs++[(y:Int)]) (ys++[mvE m]):=by
 unfold mvE at *
 rw [playGo];simp only [h,if_false,hb]
theorem play_b' {a b:St} {m:List UInt8} {l:List (List UInt8)} {xs ys:List Int} (h:¬ ((m.getD 0 0).toNat:Int)=97) (hb:bestO l.length b ys a xs (mvE m)=none):playGo a b (m::l) xs ys=(xs,ys++[mvE m],false):=by
 unfold mvE at *
 rw [playGo];simp only [h,if_false,hb]
theorem best_rep {n:Nat} {a b:St} {xs ys:List Int} {x:Int} (h:¬ repI (rep (goB n) a xs b ys x)<0):repI (bestO n a xs b ys x)=repI (rep (goB n) a xs b ys x):=by
 obtain ⟨y,hy⟩:=Option.isSome_iff_exists.1 (repI_some h).1
 rw [best_some hy,hy]
theorem rep_none {n:Nat} {a b:St} {xs ys:List Int} {x:Int} (h:repI (rep (goB n) a xs b ys x)<0):rep (goB n) a xs b ys x=none:=by
 have:=repI_neg.1 h
 cases e:rep (goB n) a xs b ys x with
 | none=>rfl
 | some y=>rw [e] at this;cases this
theorem best_neg {n:Nat} {a b:St} {xs ys:List Int} {x:Int} (h:repI (bestO n a xs b ys x)<0):bestO n a xs b ys x=none:=by
 have:=repI_neg.1 h
 cases e:bestO n a xs b ys x with
 | none=>rfl
 | some y=>rw [e] at this;cases this
theorem best_pos {n:Nat} {a b:St} {xs ys:List Int} {x:Int} (h:¬ repI (bestO n a xs b ys x)<0):∃ y:Nat,bestO n a xs b ys x=some y∧repI (bestO n a xs b ys x)=(y:Int):=by
 obtain ⟨y,hy⟩:=Option.isSome_iff_exists.1 (repI_some h).1
 exact ⟨y,hy,by rw [hy];rfl⟩
theorem rep_lt {g:St→List Int→St→List Int→Bool} {a b:St} {xs ys:List Int} {x:Int} {y:Nat} (h:rep g a xs b ys x=some y):y<b.n.toNat:=by
  unfold rep at h
  split at h
  · exact List.mem_range.1 (List.mem_of_find?_eq_some h)
  · cases h
theorem best_lt {n y:Nat} {a b:St} {xs ys:List Int} {x:Int} (h:bestO n a xs b ys x=some y):y<b.n.toNat:=by
 unfold bestO at h
 cases e:rep (goB n) a xs b ys x with
 | some z=>rw [e] at h;injection h with h;subst h;exact rep_lt e
 | none=>rw [e,Option.none_or] at h;exact List.mem_range.1 (List.mem_of_find?_eq_some h)
theorem best_el {n y:Nat} {a b:St} {xs ys:List Int} {x:Int} (hb:b.Fine) (h:bestO n a xs b ys x=some y):b.El (y:Int):=by
 have h1:=best_lt h
 have h2:=hb.lo
 exact ⟨by omega,by omega⟩
structure PlayTo (a b:St) (l:List (List UInt8)) (i:Nat) (xs ys:List Int):Prop where
 le:i≤l.length
 lx:xs.length=i
 ly:ys.length=i
 ex:a.Els xs
 ey:b.Els ys
 go:playGo a b (l.drop i) xs ys=playGo a b l [] []
theorem PlayTo.start {a b:St} {l:List (List UInt8)}:PlayTo a b l 0 [] []:=⟨Nat.zero_le _,rfl,rfl,(fun x hx=>by cases hx),(fun x hx=>by cases hx),rfl⟩
section
variable {a b:St} {l:List (List UInt8)} {i:Nat} {xs ys:List Int}
theorem PlayTo.rest (hi:i<l.length) {n:Nat} (hn:n+i+1=l.length):l.drop i=l.getD i []::l.drop (i+1)∧(l.drop (i+1)).length=n:=⟨drop_cons hi,by rw [List.length_drop];omega⟩
theorem PlayTo.ma (h:PlayTo a b l i xs ys) (hi:i<l.length) {n y:Nat} (hn:n+i+1=l.length) (hb:b.Fine) (hm:((((l.getD i []).getD 0 0).toNat:Nat):Int)=97) (hx:a.El (mvE (l.getD i []))) (hbo:bestO n a xs b ys (mvE (l.getD i []))=some y):PlayTo a b l (i+1) (xs++[mvE (l.getD i [])]) (ys++[(y:Int)]):=by
 obtain ⟨h1,h2⟩:=PlayTo.rest hi hn
 refine ⟨hi,by simp [h.lx],by simp [h.ly],els_more h.ex hx,els_more h.ey (best_el hb hbo),?_⟩
 rw [← h.go,h1,play_a hm (by rw [h2];exact hbo)]
theorem PlayTo.mb (h:PlayTo a b l i xs ys) (hi:i<l.length) {n y:Nat} (hn:n+i+1=l.length) (ha:a.Fine) (hm:¬ ((((l.getD i []).getD 0 0).toNat:Nat):Int)=97) (hx:b.El (mvE (l.getD i []))) (hbo:bestO n b ys a xs (mvE (l.getD i []))=some y):PlayTo a b l (i+1) (xs++[(y:Int)]) (ys++[mvE (l.getD i [])]):=by
 obtain ⟨h1,h2⟩:=PlayTo.rest hi hn
 refine ⟨hi,by simp [h.lx],by simp [h.ly],els_more h.ex (best_el ha hbo),els_more h.ey hx,?_⟩
 rw [← h.go,h1,play_b hm (by rw [h2];exact hbo)]
end
theorem play_no {a b:St} {s:List UInt8} (h:(validB a&&validB b&&movesB a.n b.n s)=false):playO a b s=([],[],endS false false):=by unfold playO;rw [h];rfl
section
variable {a b:St} {s:List UInt8} {i:Nat} {xs ys:List Int}
theorem PlayTo.enda (h:PlayTo a b (movesL s) i xs ys) (hv:(validB a&&validB b&&movesB a.n b.n s)=true) (hi:i<(movesL s).length) {n:Nat} (hn:n+i+1=(movesL s).length) (hm:(((((movesL s).getD i []).getD 0 0).toNat:Nat):Int)=97) (hbo:bestO n a xs b ys (mvE ((movesL s).getD i []))=none):playO a b s=(xs++[mvE ((movesL s).getD i [])],ys,endS true false):=by
 obtain ⟨h1,h2⟩:=PlayTo.rest hi hn
 unfold playO
 rw [hv,if_pos rfl,← h.go,h1,play_a' hm (by rw [h2];exact hbo)]
theorem PlayTo.endb (h:PlayTo a b (movesL s) i xs ys) (hv:(validB a&&validB b&&movesB a.n b.n s)=true) (hi:i<(movesL s).length) {n:Nat} (hn:n+i+1=(movesL s).length) (hm:¬ (((((movesL s).getD i []).getD 0 0).toNat:Nat):Int)=97) (hbo:bestO n b ys a xs (mvE ((movesL s).getD i []))=none):playO a b s=(xs,ys++[mvE ((movesL s).getD i [])],endS true false):=by
 obtain ⟨h1,h2⟩:=PlayTo.rest hi hn
 unfold playO
 rw [hv,if_pos rfl,← h.go,h1,play_b' hm (by rw [h2];exact hbo)]
theorem PlayTo.fin (h:PlayTo a b (movesL s) i xs ys) (hv:(validB a&&validB b&&movesB a.n b.n s)=true) (hi:¬ i<(movesL s).length):playO a b s=(xs,ys,endS true true):=by
 unfold playO
 rw [hv,if_pos rfl,← h.go,List.drop_of_length_le (by omega)];rfl
end
theorem play_lens {a b:St}:∀ (l:List (List UInt8)) (xs ys:List Int),(playGo a b l xs ys).1.length≤xs.length+l.length∧(playGo a b l xs ys).2.1.length≤ys.length+l.length
  | [],xs,ys=>⟨Nat.le_refl _,Nat.le_refl _⟩
  | m::l,xs,ys=>by
    unfold playGo
    dsimp only
    rw [List.length_cons]
    split
    · split
      · have:=play_lens (a:=a) (b:=b) l (xs++[((m.getD 1 0).toNat:Int) - 48]) (ys++[((‹Nat›:Nat):Int)])
        simp only [List.length_append,List.length_singleton] at this
        omega
      · simp only [List.length_append,List.length_singleton];omega
    · split
      · have:=play_lens (a:=a) (b:=b) l (xs++[((‹Nat›:Nat):Int)]) (ys++[((m.getD 1 0).toNat:Int) - 48])
        simp only [List.length_append,List.length_singleton] at this
        omega
      · simp only [List.length_append,List.length_singleton];omega
theorem play_len {a b:St} {s:List UInt8} (h:(validB a&&validB b&&movesB a.n b.n s)=true):(playO a b s).1.length≤3∧(playO a b s).2.1.length≤3:=by
 have h0:=h
 simp only [Bool.and_eq_true] at h0
 have ha:=validB_fine h0.1.1
 have hb:=validB_fine h0.1.2
 have h1:=(moves_fields h0.2 ha.hi hb.hi).2.2.1
 have h2:=play_lens (a:=a) (b:=b) (movesL s) [] []
 unfold playO
 rw [if_pos h]
 simp only [List.length_nil] at h2
 dsimp only
 exact ⟨by omega,by omega⟩
end Go.Wk
namespace Go.Proofs
open Go.Shelf
def Tryd.lays160_ren:Go.Shelf.Ren:=⟨fun | 160=>101 | 232=>132 | 231=>131 | 227=>133 | 234=>135 | 233=>134 | 236=>137 | 235=>136 | 228=>158 | 271=>161 | 151=>160 | 197=>159 | 120=>170 | 152=>169 | 260=>168 | 137=>163 | 119=>175 | 224=>173 | 225=>172 | 217=>171 | 266=>176 | n=>n,fun | 9=>9 | 4=>4 | 3=>3 | 5=>5 | 117=>158 | 116=>157 | 0=>0 | 124=>161 | 21=>21 | 105=>188 | 46=>127 | 119=>101 | 139=>198 | 138=>197 | n=>n,fun | 3=>3 | 4=>4 | n=>n⟩
theorem Tryd.lays160:Go.Proofs.Lays.n160 Tryd.prog Tryd.lays160_ren:={
 mixed:=by kernel_rfl
 f119:=Tryd.func175.trans (congrArg some (by kernel_rfl))
 f120:=Tryd.func170.trans (congrArg some (by kernel_rfl))
 f137:=Tryd.func163.trans (congrArg some (by kernel_rfl))
 f151:=Tryd.func160.trans (congrArg some (by kernel_rfl))
 f152:=Tryd.func169.trans (congrArg some (by kernel_rfl))
 f160:=Tryd.func101.trans (congrArg some (by kernel_rfl))
 f197:=Tryd.func159.trans (congrArg some (by kernel_rfl))
 f217:=Tryd.func171.trans (congrArg some (by kernel_rfl))
 f224:=Tryd.func173.trans (congrArg some (by kernel_rfl))
 f225:=Tryd.func172.trans (congrArg some (by kernel_rfl))
 f227:=Tryd.func133.trans (congrArg some (by kernel_rfl))
 f228:=Tryd.func158.trans (congrArg some (by kernel_rfl))
 f231:=Tryd.func131.trans (congrArg some (by kernel_rfl))
 f232:=Tryd.func132.trans (congrArg some (by kernel_rfl))
 f233:=Tryd.func134.trans (congrArg some (by kernel_rfl))
 f234:=Tryd.func135.trans (congrArg some (by kernel_rfl))
 f235:=Tryd.func136.trans (congrArg some (by kernel_rfl))
 f236:=Tryd.func137.trans (congrArg some (by kernel_rfl))
 f260:=Tryd.func168.trans (congrArg some (by kernel_rfl))
 f266:=Tryd.func176.trans (congrArg some (by kernel_rfl))
 f271:=Tryd.func161.trans (congrArg some (by kernel_rfl))
 t0:=Tryd.underlying0
 a0:=Tryd.isAgg0
 z0:=Tryd.sizeOf0
 v0:=Tryd.zeroValue0
 t3:=Tryd.underlying3
 a3:=Tryd.isAgg3
 z3:=Tryd.sizeOf3
 v3:=Tryd.zeroValue3
 t4:=Tryd.underlying4
 a4:=Tryd.isAgg4
 z4:=Tryd.sizeOf4
 v4:=Tryd.zeroValue4
 t5:=Tryd.underlying5
 a5:=Tryd.isAgg5
 z5:=Tryd.sizeOf5
 v5:=Tryd.zeroValue5
 t9:=Tryd.underlying9
 a9:=Tryd.isAgg9
 z9:=Tryd.sizeOf9
 v9:=Tryd.zeroValue9
 t21:=Tryd.underlying21
 a21:=Tryd.isAgg21
 z21:=Tryd.sizeOf21
 v21:=Tryd.zeroValue21
 t46:=Tryd.underlying127
 a46:=Tryd.isAgg127
 z46:=Tryd.sizeOf127
 v46:=Tryd.zeroValue127
 t105:=Tryd.underlying188
 a105:=Tryd.isAgg188
 z105:=Tryd.sizeOf188
 v105:=Tryd.zeroValue188
 t116:=Tryd.underlying157
 a116:=Tryd.isAgg157
 z116:=Tryd.sizeOf157
 t117:=Tryd.underlying158
 a117:=Tryd.isAgg158
 z117:=Tryd.sizeOf158
 v117:=Tryd.zeroValue158
 t119:=Tryd.underlying101
 a119:=Tryd.isAgg101
 z119:=Tryd.sizeOf101
 t124:=Tryd.underlying161
 a124:=Tryd.isAgg161
 z124:=Tryd.sizeOf161
 v124:=Tryd.zeroValue161
 t138:=Tryd.underlying197
 a138:=Tryd.isAgg197
 z138:=Tryd.sizeOf197
 v138:=Tryd.zeroValue197
 t139:=Tryd.underlying198
 a139:=Tryd.isAgg198
 z139:=Tryd.sizeOf198
 v139:=Tryd.zeroValue198
 g3:=by kernel_rfl
 g4:=by kernel_rfl }
end Go.Proofs
namespace Go.Proofs.YteccfipfimbdgaaDoor
open Go.RowKit Go.Wk
theorem Base.mixed:Tryd.prog.follows .mixedOrders=true:=by kernel_rfl
theorem Base.elem22:Elem Tryd.prog 22 5 1:=⟨Tryd.underlying22,Tryd.t5,_,by kernel_rfl,rfl,rfl,by decide,rfl,by decide⟩
theorem Base.elem25:Elem Tryd.prog 25 9 1:=⟨Tryd.underlying25,Tryd.t9,_,by kernel_rfl,rfl,rfl,by decide,rfl,by decide⟩
theorem Base.elem30:Elem Tryd.prog 30 3 1:=⟨Tryd.underlying30,Tryd.t3,_,by kernel_rfl,rfl,rfl,by decide,rfl,by decide⟩
theorem Base.elem110:Elem Tryd.prog 110 182 1:=⟨Tryd.underlying110,Tryd.t182,_,by kernel_rfl,rfl,rfl,by decide,rfl,by decide⟩
theorem Base.elem182:Elem Tryd.prog 182 184 2:=⟨Tryd.underlying182,Tryd.t184,_,by kernel_rfl,rfl,rfl,by decide,rfl,by decide⟩
theorem trim_ok (s:List UInt8) (w:World) (hs:s.length≤1048576) :
  Calls Tryd.prog 101 [str s,str [48,49]].toArray w fun en w'=>en=.returned (str (Lib.trimS s [48,49]))∧Below w.heap.size w w' :=
 Any.strings_Trim_laid Tryd.lays160 (by kernel_rfl) ⟨⟨s⟩⟩ ⟨⟨[48,49]⟩⟩ w (by show s.length≤9223372036854775807;omega) (by decide) (ascii_of_all (by decide))
end Go.Proofs.YteccfipfimbdgaaDoor
namespace Go.Proofs.YteccfipfimbdgaaDoor
abbrev qS := @Base.elem30
abbrev yJ := @Base.mixed
abbrev xZ := @Base.elem25
abbrev jN := @Base.elem182
end Go.Proofs.YteccfipfimbdgaaDoor
namespace Go.Proofs.YteccfipfimbdgaaDoor
open Go.RowKit Go.Wk
set_option linter.unusedSimpArgs false
set_option maxHeartbeats 400000 in
theorem l1In_ok (n lo hi:Int) (w:World) :
    Calls Tryd.prog 54 [i6_ n,i6_ lo,i6_ hi].toArray w fun en w'=>en=.returned (.bool (inB n lo hi))∧Below w.heap.size w w':=by
 refine fnStart (n:=15) (e:=[(0,i6_ n),(1,i6_ lo),(2,i6_ hi)]) Tryd.func54 Z Z Z Z Ends.both (zF (zB (zA 1 Z (zH (zC [0,1,2] [_,_,_] Z (zF (zB (zA 4 Z (yF fun b10 hg10=>?_)))))))))
 cases b10
 ·
  replace hg10:=zR hg10;refine zE Z (zE Z (zE Z (zA 2 Z (zH (zC [6] [_] Z (qI (qK Z Z fun w' hw=>?_)))))))
  exact ⟨ret_b (by first | rfl | (simp_all [inB];done) | (simp_all [inB];omega)),hw.below⟩
 replace hg10:=zV hg10;refine zA 5 Z (zH (zC [6] [_] Z (qI (qK Z Z fun w' hw=>?_))))
 exact ⟨ret_b (by first | rfl | (simp_all [inB];done) | (simp_all [inB];omega)),hw.below⟩
set_option maxHeartbeats 400000 in
theorem l1Bits_ok (s:List UInt8) (n:Int) (w:World) (hs:s.length≤1048576) :
    Calls Tryd.prog 65 [str s,i6_ n].toArray w fun en w'=>en=.returned (.bool (bitsB s n))∧Below w.heap.size w w':=by
 refine fnStart (n:=26) (e:=[(0,str s),(1,i6_ n)]) Tryd.func65 Z Z Z Z Ends.both (zF (zB (zA 1 Z (zH (zC [0,1] [_,_] Z (zF (zF (zB (zA 1 Z (zH (zC [0,1,5] [_,_,_] Z (qT (xF (σ:=Nat) (fun k=>k≤s.length∧(s.take k).all isBit=true) (fun k=>[(0,str s),(1,i6_ n),(5,i6_ (k:Int))]) (fun k=>Own w.heap.size w []) (fun k=>s.length - k) (0) ⟨by omega,rfl⟩ (Sub.sel [0,1,5] Z) (fun _ h=>h) ?_)))))))))))))
 rintro k ⟨hk,hall⟩;refine zF (zF (zB (zA 2 Z (zD (v:=i6_ (s.length:Int)) Z (xK Z qA Z) (zA 1 Z (zH (zC [0,1,5,9] [_,_,_,_] Z (xI Z (fun h9=>?_) (fun h9=>?_)))))))))
 ·
  refine qR (zC [0,1,5] [_,_,_] Z (zF (qT (zF (zB (zA 2 Z (zD (v:=.int .u8 (((s.getD ((k:Int).toNat) 0).toNat:Int))) Z (yB Z qA Z Z (by omega) (by omega)) (zA 2 Z (yF fun b16 hg16=>?_)))))))))
  cases b16
  ·
   replace hg16:=not_false hg16
   replace hg16:=zV hg16;refine zE Z (zE Z (zE Z (zE Z (zA 1 Z (zH (zC [0,1,5,21] [_,_,_,_] Z (jQ Z (qR (zC [0,1,5] [_,_,_] Z (zB (zA 1 Z (zD Z (qV Z Z Z (by omega) (by omega)) (zA 1 Z (zH (qZ (k+1) ⟨by omega,all_take (by omega) hall (by unfold isBit;simp_all)⟩ (by omega) (Sub.sel [0,1,5] Z) (fun _ h=>h))))))))))))))))
  replace hg16:=not_true hg16
  replace hg16:=zR hg16;refine zA 2 Z (zD (v:=.int .u8 (((s.getD ((k:Int).toNat) 0).toNat:Int))) Z (yB Z qA Z Z (by omega) (by omega)) (zA 2 Z (zH (zC [0,1,5,21] [_,_,_,_] Z (yA (b:=!(decide ((((s.getD ((k:Int).toNat) 0).toNat:Int))=(49:Int)))) Z (fun h21=>?_) (fun h21=>?_))))))
  ·
   replace h21:=not_true h21
   replace h21:=zR h21;refine zF (zB (zA 1 Z (zH (zC [4] [_] Z (qI (qK Z Z fun w' hw=>?_))))))
   exact ⟨ret_b (by unfold bitsB;rw [all_false (k:=k) (by omega) (by unfold isBit;simp_all)];rfl),hw.below⟩
  replace h21:=not_false h21
  replace h21:=zV h21;refine qR (zC [0,1,5] [_,_,_] Z (zB (zA 1 Z (zD Z (qV Z Z Z (by omega) (by omega)) (zA 1 Z (zH (qZ (k+1) ⟨by omega,all_take (by omega) hall (by unfold isBit;simp_all)⟩ (by omega) (Sub.sel [0,1,5] Z) (fun _ h=>h))))))))
 refine yY Z (zC [0,1] [_,_] Z (zF (zB (zA 1 Z (zD (v:=i6_ (s.length:Int)) Z (xK Z qA Z) (zA 3 Z (zH (zC [4] [_] Z (qI (qK Z Z fun w' hw=>?_))))))))))
 exact ⟨ret_b (by unfold bitsB;rw [show s.all isBit=true from by rw [← List.take_of_length_le (show s.length≤k by omega)];exact hall];rfl),hw.below⟩
set_option maxHeartbeats 400000 in
theorem sValid_ok (a:St) (w:World) (ha:a.Small) :
    Calls Tryd.prog 36 [vS a].toArray w fun en w'=>en=.returned (.bool (validB a))∧Below w.heap.size w w':=by
 refine fnStart (n:=23) (e:=[(0,vS a)]) Tryd.func36 Z Z Z Z Ends.both ?_
 have h1:=ha.set
 have h2:=ha.rel;refine zF (qD (yT (v:=vS a) Z Z Z Z Z fun p1 hp1=>?_))
 show Ll _ _ (Own _ _ [_]) _ _ ((1,pt_ p1)::_) _ _ _;refine qQ 1 Z (zL (zC [1] [_] Z (zF (zB (zD Z (zN Z zI Z zY Z Z) (zD Z (zS 0 Z qF Z Z Z) (zD (v:=bo_ (inB a.n 1 8)) Z (qH Z Tryd.call54 Z zZ (fun w1 hw1=>l1In_ok a.n 1 8 w1 )) (zA 1 Z (yF fun b6 hg6=>?_)))))))))
 cases b6
 ·
  refine zE Z (zE Z (zE Z (zE Z (zE Z (zA 2 Z (zE Z (zE Z (zE Z (zE Z (zE Z (zE Z (zE Z (zE Z (zA 2 Z (zH (zC [2] [_] Z (qI (qK Z Z fun w' hw=>?_))))))))))))))))))
  exact ⟨ret_b (by first | (simp [validB, *];done) | (simp [validB, *];omega)),hw.below⟩
 have hn:1≤a.n∧a.n≤8:=by unfold inB at hg6;simpa using hg6
 have hq:=sq_le hn.1 hn.2;refine zD Z (zN Z zI Z zQ Z Z) (zD Z (zS 0 Z qG Z Z Z) (zD Z (zN Z zI Z zY Z Z) (zD Z (zS 0 Z qF Z Z Z) (zD (v:=bo_ (bitsB a.set a.n)) Z (qH Z Tryd.call65 Z zZ (fun w1 hw1=>l1Bits_ok a.set a.n w1 (by omega))) (zA 2 Z (yF fun b13 hg13=>?_))))))
 cases b13
 ·
  refine zE Z (zE Z (zE Z (zE Z (zE Z (zE Z (zE Z (zE Z (zA 2 Z (zH (zC [2] [_] Z (qI (qK Z Z fun w' hw=>?_))))))))))))
  exact ⟨ret_b (by first | (simp [validB, *];done) | (simp [validB, *];omega)),hw.below⟩
 refine zD Z (zN Z zI Z zQ Z Z) (zD Z (zS 0 Z qG Z Z Z) (zD Z (zN Z zI Z zY Z Z) (zD Z (zS 0 Z qF Z Z Z) (zD Z (zN Z zI Z zY Z Z) (zD Z (zS 0 Z qF Z Z Z) (zD Z (jP Z Z Z (by omega) (by omega)) (zD (v:=bo_ (bitsB a.rel (a.n*a.n))) Z (qH Z Tryd.call65 Z zZ (fun w1 hw1=>l1Bits_ok a.rel (a.n*a.n) w1 (by omega))) (zA 2 Z (zH (zC [2] [_] Z (qI (qK Z Z fun w' hw=>?_))))))))))))
 exact ⟨ret_b (by first | (simp [validB, *];done) | (simp [validB, *];omega)),hw.below⟩
set_option maxHeartbeats 400000 in
theorem l1Set_ok (a:St) (x:Int) (w:World) (ha:a.Fine) (hx:a.El x) :
    Calls Tryd.prog 116 [vS a,i6_ x].toArray w fun en w'=>en=.returned (.bool (a.inSet x))∧Below w.heap.size w w':=by
 refine fnStart (n:=10) (e:=[(0,vS a),(1,i6_ x)]) Tryd.func116 Z Z Z Z Ends.both ?_
 have hs:=ha.set
 obtain ⟨h0,h1⟩:=hx;refine zF (qD (yT (v:=vS a) Z Z Z Z Z fun p2 hp2=>?_))
 show Ll _ _ (Own _ _ [_]) _ _ ((2,pt_ p2)::_) _ _ _;refine qQ 1 Z (zL (zC [1,2] [_,_] Z (zF (zB (zD Z (zN Z zI Z zQ Z Z) (zD Z (zS 0 Z qG Z Z Z) (zA 1 Z (zD (v:=.int .u8 (((a.set.getD ((x).toNat) 0).toNat:Int))) Z (yB Z qA Z Z (by omega) (by omega)) (zA 2 Z (zH (zC [4] [_] Z (qI (qK Z Z fun w' hw=>?_)))))))))))))
 exact ⟨ret_b (by first | rfl | (simp_all;done) | (simp_all;omega)),hw.below⟩
set_option maxHeartbeats 400000 in
theorem l1Rel_ok (a:St) (x y:Int) (w:World) (ha:a.Fine) (hx:a.El x) (hy:a.El y) :
    Calls Tryd.prog 117 [vS a,i6_ x,i6_ y].toArray w fun en w'=>en=.returned (.bool (a.inRel x y))∧Below w.heap.size w w':=by
 refine fnStart (n:=17) (e:=[(0,vS a),(1,i6_ x),(2,i6_ y)]) Tryd.func117 Z Z Z Z Ends.both ?_
 obtain ⟨k0,k1,k2,k3,k4⟩:=ha.relLt hx hy;refine zF (qD (yT (v:=vS a) Z Z Z Z Z fun p3 hp3=>?_))
 show Ll _ _ (Own _ _ [_]) _ _ ((3,pt_ p3)::_) _ _ _;refine qQ 1 Z (zL (zC [1,2,3] [_,_,_] Z (zF (zB (zD Z (zN Z zI Z zQ Z Z) (zD Z (zS 0 Z qG Z Z Z) (zA 1 Z (zD Z (zN Z zI Z zY Z Z) (zD Z (zS 0 Z qF Z Z Z) (zD Z (jP Z Z Z (by omega) (by omega)) (zA 1 Z (zD Z (qV Z Z Z (by omega) (by omega)) (zD (v:=.int .u8 (((a.rel.getD (((x*a.n)+y).toNat) 0).toNat:Int))) Z (yB Z qA Z Z (by omega) (by omega)) (zA 2 Z (zH (zC [6] [_] Z (qI (qK Z Z fun w' hw=>?_))))))))))))))))))
 exact ⟨ret_b (by first | rfl | (simp_all;done) | (simp_all;omega)),hw.below⟩
set_option maxHeartbeats 400000 in
theorem areBits_ok (s:List UInt8) (n:Int) (w:World) (hs:s.length≤1048576) :
    Calls Tryd.prog 63 [str s,i6_ n].toArray w fun en w'=>en=.returned (.bool (bitsB s n))∧Below w.heap.size w w':=by
 refine fnStart (n:=14) (e:=[(0,str s),(1,i6_ n)]) Tryd.func63 Z Z Z Z Ends.both (zF (zB (zA 1 Z (zH (zC [0,1] [_,_] Z (zF (zB (zA 1 Z (zD (v:=i6_ (s.length:Int)) Z (xK Z qA Z) (zA 3 Z (yF fun b9 hg9=>?_)))))))))))
 cases b9
 ·
  replace hg9:=zR hg9;refine zE Z (zE Z (zE Z (zA 2 Z (zH (zC [4] [_] Z (qI (qK Z Z fun w' hw=>?_)))))))
  exact ⟨ret_b (by unfold bitsB;simp [*]),hw.below⟩
 replace hg9:=zV hg9;refine zA 1 Z (zD (v:=str (Lib.trimS s [48,49])) Z (qH Z Tryd.call101 Z zZ (fun w1 hw1=>trim_ok s w1 (by omega))) (zD Z (jR Z Z Z) (zA 2 Z (zH (zC [4] [_] Z (qI (qK Z Z fun w' hw=>?_)))))))
 exact ⟨ret_b (by unfold bitsB;rw [trim_nil];simp [*]),hw.below⟩
set_option maxHeartbeats 400000 in
theorem isStructure_ok (a:St) (w:World) (ha:a.Small) :
    Calls Tryd.prog 32 [vS a].toArray w fun en w'=>en=.returned (.bool (validB a))∧Below w.heap.size w w':=by
 refine fnStart (n:=28) (e:=[(0,vS a)]) Tryd.func32 Z Z Z Z Ends.both ?_
 have h1:=ha.set
 have h2:=ha.rel;refine zF (qD (yT (v:=vS a) Z Z Z Z Z fun p1 hp1=>?_))
 show Ll _ _ (Own _ _ [_]) _ _ ((1,pt_ p1)::_) _ _ _;refine qQ 1 Z (zL (zC [1] [_] Z (zF (zB (zD Z (zN Z zI Z zY Z Z) (zD Z (zS 0 Z qF Z Z Z) (zA 2 Z (yF fun b6 hg6=>?_))))))))
 cases b6
 ·
  replace hg6:=zR hg6;refine zE Z (zE Z (zE Z (zA 2 Z (zE Z (zE Z (zE Z (zE Z (zE Z (zA 2 Z (zE Z (zE Z (zE Z (zE Z (zE Z (zE Z (zE Z (zE Z (zA 2 Z (zH (zC [2] [_] Z (qI (qK Z Z fun w' hw=>?_))))))))))))))))))))))
  exact ⟨ret_b (by first | (simp [validB,inB, *];done) | (simp [validB,inB, *];omega)),hw.below⟩
 replace hg6:=zV hg6;refine zD Z (zN Z zI Z zY Z Z) (zD Z (zS 0 Z qF Z Z Z) (zA 3 Z (yF fun b11 hg11=>?_)))
 cases b11
 ·
  replace hg11:=zR hg11;refine zE Z (zE Z (zE Z (zE Z (zE Z (zA 2 Z (zE Z (zE Z (zE Z (zE Z (zE Z (zE Z (zE Z (zE Z (zA 2 Z (zH (zC [2] [_] Z (qI (qK Z Z fun w' hw=>?_))))))))))))))))))
  exact ⟨ret_b (by first | (simp [validB,inB, *];done) | (simp [validB,inB, *];omega)),hw.below⟩
 replace hg11:=zV hg11
 have hq:=sq_le hg6 hg11;refine zD Z (zN Z zI Z zQ Z Z) (zD Z (zS 0 Z qG Z Z Z) (zD Z (zN Z zI Z zY Z Z) (zD Z (zS 0 Z qF Z Z Z) (zD (v:=bo_ (bitsB a.set a.n)) Z (qH Z Tryd.call63 Z zZ (fun w1 hw1=>areBits_ok a.set a.n w1 (by omega))) (zA 2 Z (yF fun b18 hg18=>?_))))))
 cases b18
 ·
  refine zE Z (zE Z (zE Z (zE Z (zE Z (zE Z (zE Z (zE Z (zA 2 Z (zH (zC [2] [_] Z (qI (qK Z Z fun w' hw=>?_))))))))))))
  exact ⟨ret_b (by first | (simp [validB,inB, *];done) | (simp [validB,inB, *];omega)),hw.below⟩
 refine zD Z (zN Z zI Z zQ Z Z) (zD Z (zS 0 Z qG Z Z Z) (zD Z (zN Z zI Z zY Z Z) (zD Z (zS 0 Z qF Z Z Z) (zD Z (zN Z zI Z zY Z Z) (zD Z (zS 0 Z qF Z Z Z) (zD Z (jP Z Z Z (by omega) (by omega)) (zD (v:=bo_ (bitsB a.rel (a.n*a.n))) Z (qH Z Tryd.call63 Z zZ (fun w1 hw1=>areBits_ok a.rel (a.n*a.n) w1 (by omega))) (zA 2 Z (zH (zC [2] [_] Z (qI (qK Z Z fun w' hw=>?_))))))))))))
 exact ⟨ret_b (by first | (simp [validB,inB, *];done) | (simp [validB,inB, *];omega)),hw.below⟩
set_option maxHeartbeats 400000 in
theorem inSet_ok (a:St) (x:Int) (w:World) (ha:a.Fine) (hx:a.El x) :
    Calls Tryd.prog 110 [vS a,i6_ x].toArray w fun en w'=>en=.returned (.bool (a.inSet x))∧Below w.heap.size w w':=by
 refine fnStart (n:=10) (e:=[(0,vS a),(1,i6_ x)]) Tryd.func110 Z Z Z Z Ends.both ?_
 have hs:=ha.set
 obtain ⟨h0,h1⟩:=hx;refine zF (qD (yT (v:=vS a) Z Z Z Z Z fun p2 hp2=>?_))
 show Ll _ _ (Own _ _ [_]) _ _ ((2,pt_ p2)::_) _ _ _;refine qQ 1 Z (zL (zC [1,2] [_,_] Z (zF (zB (zD Z (zN Z zI Z zQ Z Z) (zD Z (zS 0 Z qG Z Z Z) (zA 1 Z (zD (v:=.int .u8 (((a.set.getD ((x).toNat) 0).toNat:Int))) Z (yB Z qA Z Z (by omega) (by omega)) (zA 2 Z (zH (zC [4] [_] Z (qI (qK Z Z fun w' hw=>?_)))))))))))))
 exact ⟨ret_b (by first | rfl | (simp_all;done) | (simp_all;omega)),hw.below⟩
set_option maxHeartbeats 400000 in
theorem inRel_ok (a:St) (x y:Int) (w:World) (ha:a.Fine) (hx:a.El x) (hy:a.El y) :
    Calls Tryd.prog 112 [vS a,i6_ x,i6_ y].toArray w fun en w'=>en=.returned (.bool (a.inRel x y))∧Below w.heap.size w w':=by
 refine fnStart (n:=17) (e:=[(0,vS a),(1,i6_ x),(2,i6_ y)]) Tryd.func112 Z Z Z Z Ends.both ?_
 obtain ⟨k0,k1,k2,k3,k4⟩:=ha.relLt hx hy;refine zF (qD (yT (v:=vS a) Z Z Z Z Z fun p3 hp3=>?_))
 show Ll _ _ (Own _ _ [_]) _ _ ((3,pt_ p3)::_) _ _ _;refine qQ 1 Z (zL (zC [1,2,3] [_,_,_] Z (zF (zB (zD Z (zN Z zI Z zQ Z Z) (zD Z (zS 0 Z qG Z Z Z) (zA 1 Z (zD Z (zN Z zI Z zY Z Z) (zD Z (zS 0 Z qF Z Z Z) (zD Z (jP Z Z Z (by omega) (by omega)) (zA 1 Z (zD Z (qV Z Z Z (by omega) (by omega)) (zD (v:=.int .u8 (((a.rel.getD (((x*a.n)+y).toNat) 0).toNat:Int))) Z (yB Z qA Z Z (by omega) (by omega)) (zA 2 Z (zH (zC [6] [_] Z (qI (qK Z Z fun w' hw=>?_))))))))))))))))))
 exact ⟨ret_b (by first | rfl | (simp_all;done) | (simp_all;omega)),hw.below⟩
set_option maxHeartbeats 400000 in
theorem noEl_ok (a:St) (g T:Nat) (x:Int) (w:World) (hg:w.heap[g]?=some (.cells #[.int .i64 a.n,str a.set,str a.rel] T (0,0))) :
    Calls Tryd.prog 106 [i6_ x,.pointer (some ⟨g,0,none⟩)].toArray w fun en w'=>en=.returned (.bool (!elB a x))∧Below w.heap.size w w':=by
 refine fnStart (n:=12) (e:=[(0,i6_ x),(1,.pointer (some ⟨g,0,none⟩))]) Tryd.func106 Z Z Z Z Ends.both (zF (zB (zA 1 Z (zH (zC [0,1] [_,_] Z (zF (zB (zA 3 Z (yF fun b6 hg6=>?_)))))))))
 cases b6
 ·
  replace hg6:=zR hg6;refine zA 1 Z (zD Z (zN Z zI Z zY Z Z) (zD (v:=i6_ a.n) Z (yC Z qF Z (fun w1 hw1=>at_box hg hw1 0 Z)) (zA 3 Z (zH (zC [3] [_] Z (qI (qK Z Z fun w' hw=>?_)))))))
  exact ⟨ret_b (by first | exact el_neg (by assumption) | exact el_geq (by assumption)),hw.below⟩
 replace hg6:=zV hg6;refine zE Z (zE Z (zE Z (zE Z (zA 2 Z (zH (zC [3] [_] Z (qI (qK Z Z fun w' hw=>?_))))))))
 exact ⟨ret_b (by first | exact el_neg (by assumption) | exact el_geq (by assumption)),hw.below⟩
set_option maxHeartbeats 400000 in
theorem indexFunc_ok (va:Value) (xs:List Int) (w:World) (hva:Ints w va xs) (hs:xs.length≤140737488355328) (F:FuncId) (caps:Array Value) (q:Int→Bool) (hF:∀ args w,(callFunc F args).run Tryd.prog w=.ok (.enter F args) w) (hq:∀ w1,Below w.heap.size w w1→∀ x,Calls Tryd.prog F (#[.int .i64 x]++caps) w1 fun en w'=>en=.returned (.bool (q x))∧Below w1.heap.size w1 w') :
    Calls Tryd.prog 142 [va,.func (.func F) #[] caps].toArray w fun en w'=>en=.returned (.int .i64 (idxI xs q))∧Below w.heap.size w w':=by
 refine fnStart (n:=19) (e:=[(0,va),(1,.func (.func F) #[] caps)]) Tryd.func142 Z Z Z Z Ends.both (zF (zB (zA 1 Z (zH (zC [0,1] [_,_] Z (zF (zF (zB (zA 1 Z (zD (v:=i6_ (xs.length:Int)) Z (yI Z zK Z (ints_length _) (fun w1 hw1=>Row.own hva hw1)) (zA 1 Z (zH (zC [0,1,7,8] [_,_,_,_] Z (qT (xF (σ:=Nat) (fun k=>k≤xs.length∧∀ i:Nat,i<k→q (xs.getD i 0)=false) (fun k=>[(0,va),(1,.func (.func F) #[] caps),(7,i6_ (xs.length:Int)),(8,i6_ (k:Int))]) (fun k=>Own w.heap.size w []) (fun k=>xs.length - k) (0) ⟨by omega,fun i hi=>absurd hi (by omega)⟩ (Sub.sel [0,1,7,8] Z) (fun _ h=>h) ?_)))))))))))))))
 rintro k ⟨hk,hall⟩;refine zF (zB (zA 1 Z (zH (zC [0,1,7,8,9] [_,_,_,_,_] Z (zF (xI Z (fun h9=>?_) (fun h9=>?_)))))))
 ·
  refine qR (zC [0,1,7,8] [_,_,_,_] Z (zF (qT (zF (zB (zA 2 Z (zH (zC [0,1,5,7,8] [_,_,_,_,_] Z (zF (zB (zA 3 Z (zD (v:=.pointer (some (sAt va (k:Int)))) Z (yE Z zK zY Z Z (by omega) (by rw [ints_length];omega) (fun w1 hw1=>Row.own hva hw1)) (zD (v:=i6_ (xs.getD ((k:Int).toNat) 0)) Z (yC Z qF Z (fun w1 hw1=>Ints.cell (Row.own hva hw1) (by omega) (by omega))) (zD (v:=bo_ (q (xs.getD ((k:Int).toNat) 0))) Z (OpQ.callFn Z Z hF Z zZ (fun w1 hw1=>hq w1 hw1.below (xs.getD ((k:Int).toNat) 0))) (zH (zC [0,1,5,7,8,16] [_,_,_,_,_,_] Z (yA (b:=q (xs.getD ((k:Int).toNat) 0)) Z (fun h16=>?_) (fun h16=>?_))))))))))))))))))
  ·
   refine zF (zB (zA 2 Z (zH (zC [4] [_] Z (qI (qK Z Z fun w' hw=>?_))))))
   exact ⟨ret_i (idxI_at (by omega) hall (by simpa using h16)).symm,hw.below⟩
  refine qR (zC [0,1,7,8] [_,_,_,_] Z (zB (zD Z (qV Z Z Z (by omega) (by omega)) (zA 1 Z (zH (qZ (k+1) ⟨by omega,fun i hi=>(Nat.lt_succ_iff_lt_or_eq.1 hi).elim (hall i) (fun e=>by subst e;simpa using h16)⟩ (by omega) (Sub.sel [0,1,7,8] Z) (fun _ h=>h)))))))
 refine yY Z (zC [] [] Z (zF (zB (zA 1 Z (zH (zC [4] [_] Z (qI (qK Z Z fun w' hw=>?_))))))))
 exact ⟨ret_i (idxI_none (fun i hi=>hall i (by omega))).symm,hw.below⟩
set_option maxHeartbeats 400000 in
theorem containsFunc_ok (va:Value) (xs:List Int) (w:World) (hva:Ints w va xs) (hs:xs.length≤140737488355328) (F:FuncId) (caps:Array Value) (q:Int→Bool) (hF:∀ args w,(callFunc F args).run Tryd.prog w=.ok (.enter F args) w) (hq:∀ w1,Below w.heap.size w w1→∀ x,Calls Tryd.prog F (#[.int .i64 x]++caps) w1 fun en w'=>en=.returned (.bool (q x))∧Below w1.heap.size w1 w') :
    Calls Tryd.prog 105 [va,.func (.func F) #[] caps].toArray w fun en w'=>en=.returned (.bool (xs.any q))∧Below w.heap.size w w':=by
 refine fnStart (n:=9) (e:=[(0,va),(1,.func (.func F) #[] caps)]) Tryd.func105 Z Z Z Z Ends.both (zF (zB (zA 1 Z (zH (zC [0,1] [_,_] Z (zF (zB (zA 2 Z (zD (v:=i6_ (idxI xs q)) Z (qH Z Tryd.call142 Z zZ (fun w1 hw1=>indexFunc_ok va xs w1 (Row.own hva hw1) hs F caps q hF (fun w2 hb x=>hq w2 (hw1.below.trans (hb.mono hw1.base)) x))) (zA 2 Z (zH (zC [4] [_] Z (qI (qK Z Z fun w' hw=>?_))))))))))))))
 exact ⟨ret_b (idxI_any xs q),hw.below⟩
set_option maxHeartbeats 400000 in
theorem stillSame_ok (a b:St) (xs ys:List Int) (va vb:Value) (x y:Int) (w:World) (ha:a.Fine) (hb:b.Fine) (hva:Ints w va xs) (hvb:Ints w vb ys) (hA:a.Els xs) (hB:b.Els ys) (hlen:xs.length=ys.length) (hsmall:xs.length≤1000000) (hx:a.El x) (hy:b.El y) :
    Calls Tryd.prog 79 [vS a,va,vS b,vb,i6_ x,i6_ y].toArray w fun en w'=>en=.returned (.bool (stillB a xs b ys x y))∧Below w.heap.size w w':=by
 refine fnStart (n:=75) (e:=[(0,vS a),(1,va),(2,vS b),(3,vb),(4,i6_ x),(5,i6_ y)]) Tryd.func79 Z Z Z Z Ends.both ?_
 have hT:=stillB_true (a:=a) (b:=b) (x:=x) (y:=y) hlen;refine zF (qD (yT (v:=vS a) Z Z Z Z Z fun p6 hp6=>?_))
 show Ll _ _ (Own _ _ [_]) _ _ ((6,pt_ p6)::_) _ _ _;refine yT (v:=vS b) Z Z Z Z Z fun p8 hp8=>?_
 show Ll _ _ (Own _ _ [_,_]) _ _ ((8,pt_ p8)::_) _ _ _;refine qQ 1 Z (zL (zC [1,3,4,5,6,8] [_,_,_,_,_,_] Z (zF (zF (jS yJ (fun _ h=>h.drawn) (by kernel_rfl) (zD Z (zU (cs:=#[i6_ a.n,str a.set,str a.rel]) 1 Z zP Z Z zJ) (zA 1 Z (zD (v:=bo_ (a.inSet x)) Z (qH Z Tryd.call110 Z zZ (fun w1 hw1=>inSet_ok a x w1 ha (by first | assumption | exact St.Els.at (by assumption) (by omega) (by omega)))) (zD Z (zU (cs:=#[i6_ b.n,str b.set,str b.rel]) 0 Z zP Z Z zJ) (zA 1 Z (zD (v:=bo_ (b.inSet y)) Z (qH Z Tryd.call110 Z zZ (fun w1 hw1=>inSet_ok b y w1 hb (by first | assumption | exact St.Els.at (by assumption) (by omega) (by omega)))) (zD Z (OpQ.bne Z xL Z Z) (zA 1 Z (yF fun b23 hg23=>?_))))))))))))))
 cases b23
 ·
  refine zD Z (zU (cs:=#[i6_ a.n,str a.set,str a.rel]) 1 Z zP Z Z zJ) (zA 2 Z (zD (v:=bo_ (a.inRel x x)) Z (qH Z Tryd.call112 Z zZ (fun w1 hw1=>inRel_ok a x x w1 ha (by first | assumption | exact St.Els.at (by assumption) (by omega) (by omega)) (by first | assumption | exact St.Els.at (by assumption) (by omega) (by omega)))) (zD Z (zU (cs:=#[i6_ b.n,str b.set,str b.rel]) 0 Z zP Z Z zJ) (zA 2 Z (zD (v:=bo_ (b.inRel y y)) Z (qH Z Tryd.call112 Z zZ (fun w1 hw1=>inRel_ok b y y w1 hb (by first | assumption | exact St.Els.at (by assumption) (by omega) (by omega)) (by first | assumption | exact St.Els.at (by assumption) (by omega) (by omega)))) (zD Z (OpQ.bne Z xL Z Z) (zA 1 Z (zH (zC [1,3,4,5,6,8,33] [_,_,_,_,_,_,_] Z (yA (b:=(a.inRel x x) != (b.inRel y y)) Z (fun h33=>?_) (fun h33=>?_)))))))))))
  ·
   refine zF (zB (zA 1 Z (zH (zC [12] [_] Z (qI (qK Z Z fun w' hw=>?_))))))
   have hf:stillB a xs b ys x y=false:=by
    cases hs:stillB a xs b ys x y with
    | false=>rfl
    | true=>obtain ⟨e1,e2,e3⟩:=hT.1 hs;simp_all
   exact ⟨by rw [hf],hw.below⟩
  refine qR (zC [1,3,4,5,6,8] [_,_,_,_,_,_] Z (zF (zF (zB (zA 1 Z (zD (v:=i6_ (xs.length:Int)) Z (yI Z zK Z (ints_length _) (fun w1 hw1=>Row.own hva hw1)) (zA 1 Z (zH (zC [3,4,5,6,8,34,35,36] [_,_,_,_,_,_,_,_] Z (qT (xF (σ:=Nat) (fun k=>k≤xs.length∧∀ i:Nat,i<k→pairOk a b x y (xs.getD i 0) (ys.getD i 0)=true) (fun k=>[(3,vb),(4,i6_ x),(5,i6_ y),(6,pt_ p6),(8,pt_ p8),(34,va),(35,i6_ (xs.length:Int)),(36,i6_ (k:Int))]) (fun k=>Own w.heap.size w [bk_ p8 #[i6_ b.n,str b.set,str b.rel] 24,bk_ p6 #[i6_ a.n,str a.set,str a.rel] 24]) (fun k=>xs.length - k) (0) ⟨by omega,fun i hi=>absurd hi (by omega)⟩ (Sub.sel [3,4,5,6,8,34,35,36] Z) (fun _ h=>h) ?_)))))))))))
  rintro k ⟨hk,hall⟩;refine zF (zB (zA 1 Z (zH (zC [3,4,5,6,8,34,35,36,37] [_,_,_,_,_,_,_,_,_] Z (zF (xI Z (fun h37=>?_) (fun h37=>?_)))))))
  ·
   refine qR (zC [3,4,5,6,8,34,35,36] [_,_,_,_,_,_,_,_] Z (zF (qT (zF (zB (zA 1 Z (zD (v:=.pointer (some (sAt va (k:Int)))) Z (yE Z zK zY Z Z (by omega) (by rw [ints_length];omega) (fun w1 hw1=>Row.own hva hw1)) (zD (v:=i6_ (xs.getD ((k:Int).toNat) 0)) Z (yC Z qF Z (fun w1 hw1=>Ints.cell (Row.own hva hw1) (by omega) (by omega))) (zA 2 Z (zH (zC [3,4,5,6,8,13,14,34,35,36] [_,_,_,_,_,_,_,_,_,_] Z (zF (zB (zA 2 Z (zD (v:=.pointer (some (sAt vb (k:Int)))) Z (yE Z zK zY Z Z (by omega) (by rw [ints_length];omega) (fun w1 hw1=>Row.own hvb hw1)) (zD (v:=i6_ (ys.getD ((k:Int).toNat) 0)) Z (yC Z qF Z (fun w1 hw1=>Ints.cell (Row.own hvb hw1) (by omega) (by omega))) (zA 1 Z (zH (zC [3,4,5,6,8,14,15,34,35,36] [_,_,_,_,_,_,_,_,_,_] Z (zF (jS yJ (fun _ h=>h.drawn) (by kernel_rfl) (zA 6 Z (zD Z (OpQ.bne Z xL Z Z) (zA 1 Z (yF fun b52 hg52=>?_)))))))))))))))))))))))))
   cases b52
   ·
    refine zD Z (zU (cs:=#[i6_ a.n,str a.set,str a.rel]) 1 Z zP Z Z zJ) (zA 2 Z (zD (v:=bo_ (a.inRel (xs.getD ((k:Int).toNat) 0) x)) Z (qH Z Tryd.call112 Z zZ (fun w1 hw1=>inRel_ok a (xs.getD ((k:Int).toNat) 0) x w1 ha (by first | assumption | exact St.Els.at (by assumption) (by omega) (by omega)) (by first | assumption | exact St.Els.at (by assumption) (by omega) (by omega)))) (zD Z (zU (cs:=#[i6_ b.n,str b.set,str b.rel]) 0 Z zP Z Z zJ) (zA 2 Z (zD (v:=bo_ (b.inRel (ys.getD ((k:Int).toNat) 0) y)) Z (qH Z Tryd.call112 Z zZ (fun w1 hw1=>inRel_ok b (ys.getD ((k:Int).toNat) 0) y w1 hb (by first | assumption | exact St.Els.at (by assumption) (by omega) (by omega)) (by first | assumption | exact St.Els.at (by assumption) (by omega) (by omega)))) (zD Z (OpQ.bne Z xL Z Z) (zA 2 Z (yF fun b63 hg63=>?_))))))))
    cases b63
    ·
     refine zD Z (zU (cs:=#[i6_ a.n,str a.set,str a.rel]) 1 Z zP Z Z zJ) (zA 2 Z (zD (v:=bo_ (a.inRel x (xs.getD ((k:Int).toNat) 0))) Z (qH Z Tryd.call112 Z zZ (fun w1 hw1=>inRel_ok a x (xs.getD ((k:Int).toNat) 0) w1 ha (by first | assumption | exact St.Els.at (by assumption) (by omega) (by omega)) (by first | assumption | exact St.Els.at (by assumption) (by omega) (by omega)))) (zD Z (zU (cs:=#[i6_ b.n,str b.set,str b.rel]) 0 Z zP Z Z zJ) (zA 2 Z (zD (v:=bo_ (b.inRel y (ys.getD ((k:Int).toNat) 0))) Z (qH Z Tryd.call112 Z zZ (fun w1 hw1=>inRel_ok b y (ys.getD ((k:Int).toNat) 0) w1 hb (by first | assumption | exact St.Els.at (by assumption) (by omega) (by omega)) (by first | assumption | exact St.Els.at (by assumption) (by omega) (by omega)))) (zD Z (OpQ.bne Z xL Z Z) (zA 1 Z (zH (zC [3,4,5,6,8,34,35,36,73] [_,_,_,_,_,_,_,_,_] Z (yA (b:=(a.inRel x (xs.getD ((k:Int).toNat) 0)) != (b.inRel y (ys.getD ((k:Int).toNat) 0))) Z (fun h73=>?_) (fun h73=>?_)))))))))))
     ·
      refine zF (zB (zA 1 Z (zH (zC [12] [_] Z (qI (qK Z Z fun w' hw=>?_))))))
      have hf:stillB a xs b ys x y=false:=by
       cases hs:stillB a xs b ys x y with
       | false=>rfl
       | true =>
        obtain ⟨e1,e2,e3⟩:=hT.1 hs
        obtain ⟨e4,e5,e6⟩:=pairOk_true.1 (e3 k (by omega))
        simp only [Int.toNat_natCast] at *
        simp_all
      exact ⟨by rw [hf],hw.below⟩
     refine qR (zC [3,4,5,6,8,34,35,36] [_,_,_,_,_,_,_,_] Z (zB (zD Z (qV Z Z Z (by omega) (by omega)) (zA 1 Z (zH (qZ (k+1) ⟨by omega,fun i hi=>(Nat.lt_succ_iff_lt_or_eq.1 hi).elim (hall i) (fun e=>by subst e;exact pairOk_true.2 ⟨by simpa using hg52,by simpa using hg63,by simpa using h73⟩)⟩ (by omega) (Sub.sel [3,4,5,6,8,34,35,36] Z) (fun _ h=>h)))))))
    refine zE Z (zE Z (zE Z (zE Z (zE Z (zE Z (zE Z (zE Z (zE Z (zA 1 Z (zH (zC [3,4,5,6,8,34,35,36,73] [_,_,_,_,_,_,_,_,_] Z (jB Z (zF (zB (zA 1 Z (zH (zC [12] [_] Z (qI (qK Z Z fun w' hw=>?_)))))))))))))))))))
    have hf:stillB a xs b ys x y=false:=by
     cases hs:stillB a xs b ys x y with
     | false=>rfl
     | true =>
      obtain ⟨e1,e2,e3⟩:=hT.1 hs
      obtain ⟨e4,e5,e6⟩:=pairOk_true.1 (e3 k (by omega))
      simp only [Int.toNat_natCast] at *
      simp_all
    exact ⟨by rw [hf],hw.below⟩
   refine zE Z (zE Z (zE Z (zE Z (zE Z (zE Z (zE Z (zE Z (zE Z (zA 2 Z (zE Z (zE Z (zE Z (zE Z (zE Z (zE Z (zE Z (zE Z (zE Z (zA 1 Z (zH (zC [3,4,5,6,8,34,35,36,73] [_,_,_,_,_,_,_,_,_] Z (jB Z (zF (zB (zA 1 Z (zH (zC [12] [_] Z (qI (qK Z Z fun w' hw=>?_)))))))))))))))))))))))))))))
   have hf:stillB a xs b ys x y=false:=by
    cases hs:stillB a xs b ys x y with
    | false=>rfl
    | true =>
     obtain ⟨e1,e2,e3⟩:=hT.1 hs
     obtain ⟨e4,e5,e6⟩:=pairOk_true.1 (e3 k (by omega))
     simp only [Int.toNat_natCast] at *
     simp_all
   exact ⟨by rw [hf],hw.below⟩
  refine yY Z (zC [] [] Z (zF (zB (zA 1 Z (zH (zC [12] [_] Z (qI (qK Z Z fun w' hw=>?_))))))))
  exact ⟨by rw [hT.2 ⟨bne_false ‹_›,bne_false ‹_›,fun i hi=>hall i (by omega)⟩],hw.below⟩
 refine zE Z (zE Z (zE Z (zE Z (zE Z (zE Z (zE Z (zE Z (zE Z (zA 1 Z (zH (zC [1,3,4,5,6,8,33] [_,_,_,_,_,_,_] Z (jB Z (zF (zB (zA 1 Z (zH (zC [12] [_] Z (qI (qK Z Z fun w' hw=>?_)))))))))))))))))))
 have hf:stillB a xs b ys x y=false:=by
  cases hs:stillB a xs b ys x y with
  | false=>rfl
  | true=>obtain ⟨e1,e2,e3⟩:=hT.1 hs;simp_all
 exact ⟨by rw [hf],hw.below⟩
set_option maxHeartbeats 400000 in
theorem sameWay_ok (a b:St) (xs ys:List Int) (va vb:Value) (w:World) (ha:a.Fine) (hb:b.Fine) (hva:Ints w va xs) (hvb:Ints w vb ys) (hA:a.Els xs) (hB:b.Els ys) (hlen:xs.length=ys.length) (hsmall:xs.length≤1000000) :
    Calls Tryd.prog 51 [vS a,va,vS b,vb].toArray w fun en w'=>en=.returned (.bool (sameB a xs b ys))∧Below w.heap.size w w':=by
 refine fnStart (n:=34) (e:=[(0,vS a),(1,va),(2,vS b),(3,vb)]) Tryd.func51 Z Z Z Z Ends.both (zF (qD (yT (v:=vS a) Z Z Z Z Z fun p4 hp4=>?_)))
 show Ll _ _ (Own _ _ [_]) _ _ ((4,pt_ p4)::_) _ _ _;refine yT (v:=vS b) Z Z Z Z Z fun p6 hp6=>?_
 show Ll _ _ (Own _ _ [_,_]) _ _ ((6,pt_ p6)::_) _ _ _;refine qQ 1 Z (zL (zC [1,3,4,6] [_,_,_,_] Z (zF (zF (zB (zA 1 Z (zD (v:=i6_ (xs.length:Int)) Z (yI Z zK Z (ints_length _) (fun w1 hw1=>Row.own hva hw1)) (zA 1 Z (zH (zC [1,3,4,6,11,12] [_,_,_,_,_,_] Z (qT (xF (σ:=Nat) (fun k=>k≤xs.length∧∀ i:Nat,i<k→stillAt a xs b ys i=true) (fun k=>[(1,va),(3,vb),(4,pt_ p4),(6,pt_ p6),(11,i6_ (xs.length:Int)),(12,i6_ (k:Int))]) (fun k=>Own w.heap.size w [bk_ p6 #[i6_ b.n,str b.set,str b.rel] 24,bk_ p4 #[i6_ a.n,str a.set,str a.rel] 24]) (fun k=>xs.length - k) (0) ⟨by omega,fun i hi=>absurd hi (by omega)⟩ (Sub.sel [1,3,4,6,11,12] Z) (fun _ h=>h) ?_))))))))))))
 rintro k ⟨hk,hall⟩;refine zF (zB (zA 1 Z (zH (zC [1,3,4,6,11,12,13] [_,_,_,_,_,_,_] Z (zF (xI Z (fun h13=>?_) (fun h13=>?_)))))))
 ·
  refine qR (zC [1,3,4,6,11,12] [_,_,_,_,_,_] Z (zF (qT (zF (zB (zA 2 Z (zH (zC [1,3,4,6,9,11,12] [_,_,_,_,_,_,_] Z (zF (jS yJ (fun _ h=>h.drawn) (by kernel_rfl) (zD Z (zU (cs:=#[i6_ a.n,str a.set,str a.rel]) 1 Z zP Z Z zJ) (zA 2 Z (zD (v:=sTake va k) Z (OpQ.takeRow (i:=(k:Int)) Z zK zY Z Z (by omega) (by rw [ints_length];omega) (fun w1 hw1=>Row.own hva hw1)) (zD Z (zU (cs:=#[i6_ b.n,str b.set,str b.rel]) 0 Z zP Z Z zJ) (zA 2 Z (zD (v:=sTake vb k) Z (OpQ.takeRow (i:=(k:Int)) Z zK zY Z Z (by omega) (by rw [ints_length];omega) (fun w1 hw1=>Row.own hvb hw1)) (zA 2 Z (zD (v:=.pointer (some (sAt va (k:Int)))) Z (yE Z zK zY Z Z (by omega) (by rw [ints_length];omega) (fun w1 hw1=>Row.own hva hw1)) (zD (v:=i6_ (xs.getD ((k:Int).toNat) 0)) Z (yC Z qF Z (fun w1 hw1=>Ints.cell (Row.own hva hw1) (by omega) (by omega))) (zA 2 Z (zD (v:=.pointer (some (sAt vb (k:Int)))) Z (yE Z zK zY Z Z (by omega) (by rw [ints_length];omega) (fun w1 hw1=>Row.own hvb hw1)) (zD (v:=i6_ (ys.getD ((k:Int).toNat) 0)) Z (yC Z qF Z (fun w1 hw1=>Ints.cell (Row.own hvb hw1) (by omega) (by omega))) (zD (v:=bo_ (stillB a (xs.take k) b (ys.take k) (xs.getD ((k:Int).toNat) 0) (ys.getD ((k:Int).toNat) 0))) Z (qH Z Tryd.call79 Z zZ (fun w1 hw1=>stillSame_ok a b (xs.take k) (ys.take k) (sTake va k) (sTake vb k) (xs.getD ((k:Int).toNat) 0) (ys.getD ((k:Int).toNat) 0) w1 (ha) (hb) (Ints.take (Row.own hva hw1) k (by omega)) (Ints.take (Row.own hvb hw1) k (by omega)) (hA.take _) (hB.take _) (by first | (simp;done) | (simp;omega) | omega) (by first | (simp;done) | (simp;omega) | omega) (by first | assumption | exact St.Els.at (by assumption) (by omega) (by omega)) (by first | assumption | exact St.Els.at (by assumption) (by omega) (by omega)))) (zA 1 Z (zH (zC [1,3,4,6,11,12,32] [_,_,_,_,_,_,_] Z (yA (b:=!(stillB a (xs.take k) b (ys.take k) (xs.getD ((k:Int).toNat) 0) (ys.getD ((k:Int).toNat) 0))) Z (fun h32=>?_) (fun h32=>?_))))))))))))))))))))))))))))
  ·
   replace h32:=not_true h32;refine zF (zB (zA 1 Z (zH (zC [8] [_] Z (qI (qK Z Z fun w' hw=>?_))))))
   exact ⟨ret_b (sameB_false (k:=k) (by omega) (by simpa [stillAt] using h32)).symm,hw.below⟩
  replace h32:=not_false h32;refine qR (zC [1,3,4,6,11,12] [_,_,_,_,_,_] Z (zB (zD Z (qV Z Z Z (by omega) (by omega)) (zA 1 Z (zH (qZ (k+1) ⟨by omega,fun i hi=>(Nat.lt_succ_iff_lt_or_eq.1 hi).elim (hall i) (fun e=>by subst e;simpa [stillAt] using h32)⟩ (by omega) (Sub.sel [1,3,4,6,11,12] Z) (fun _ h=>h)))))))
 refine yY Z (zC [] [] Z (zF (zB (zA 1 Z (zH (zC [8] [_] Z (qI (qK Z Z fun w' hw=>?_))))))))
 exact ⟨ret_b (sameB_true (k:=k) (by omega) hall).symm,hw.below⟩
end Go.Proofs.YteccfipfimbdgaaDoor
namespace Go.Proofs.YteccfipfimbdgaaDoor
open Go.RowKit Go.Wk
set_option linter.unusedSimpArgs false
set_option maxHeartbeats 400000 in
theorem areElements_ok (a:St) (va:Value) (xs:List Int) (w:World) (hva:Ints w va xs) (hs:xs.length≤140737488355328) :
    Calls Tryd.prog 66 [vS a,va].toArray w fun en w'=>en=.returned (.bool (xs.all (elB a)))∧Below w.heap.size w w':=by
 refine fnStart (n:=9) (e:=[(0,vS a),(1,va)]) Tryd.func66 Z Z Z Z Ends.both (zF (qD (yT (v:=vS a) Z Z Z Z Z fun p2 hp2=>?_)))
 show Ll _ _ (Own _ _ [_]) _ _ ((2,pt_ p2)::_) _ _ _;refine qQ 1 Z (zL (zC [1,2] [_,_] Z (zF (zB (zA 1 Z (zD (v:=.func (.func 106) #[] #[pt_ p2]) Z (OpQ.func' (cap:=[.tmp 2]) Z Z) (zD (v:=bo_ (xs.any fun x=>!elB a x)) Z (qH Z Tryd.call105 Z zZ (fun w1 hw1=>containsFunc_ok va xs w1 (Row.own hva hw1) hs 106 #[.pointer (some ⟨p2,0,none⟩)] (fun x=>!elB a x) Tryd.call106 (fun w2 hb x=>noEl_ok a p2 _ x w2 ((hw1.stable _ _ hb).has 0 _ _ Z).2))) (zA 2 Z (zH (zC [4] [_] Z (qI (qK Z Z fun w' hw=>?_))))))))))))
 exact ⟨ret_b (not_any_elB a xs),hw.below⟩
set_option maxHeartbeats 400000 in
theorem isList_ok (a:St) (va:Value) (xs:List Int) (w:World) (hsa:a.Small) (hva:Ints w va xs) (hs:xs.length≤140737488355328) :
    Calls Tryd.prog 86 [vS a,va].toArray w fun en w'=>en=.returned (.bool (listB a xs))∧Below w.heap.size w w':=by
 refine fnStart (n:=17) (e:=[(0,vS a),(1,va)]) Tryd.func86 Z Z Z Z Ends.both (zF (qD (yT (v:=vS a) Z Z Z Z Z fun p2 hp2=>?_)))
 show Ll _ _ (Own _ _ [_]) _ _ ((2,pt_ p2)::_) _ _ _;refine qQ 1 Z (zL (zC [1,2] [_,_] Z (zF (zB (zD Z (zU (cs:=#[i6_ a.n,str a.set,str a.rel]) 0 Z zP Z Z zJ) (zD (v:=bo_ (validB a)) Z (qH Z Tryd.call32 Z zZ (fun w1 hw1=>isStructure_ok a w1 hsa)) (zA 1 Z (yF fun b7 hg7=>?_))))))))
 cases b7
 ·
  refine zE Z (zE Z (zE Z (zA 2 Z (zE Z (zE Z (zE Z (zA 2 Z (zH (zC [4] [_] Z (qI (qK Z Z fun w' hw=>?_)))))))))))
  exact ⟨ret_b (by unfold listB;simp [*]),hw.below⟩
 refine zA 1 Z (zD (v:=i6_ (xs.length:Int)) Z (yI Z zK Z (ints_length _) (fun w1 hw1=>Row.own hva hw1)) (zA 3 Z (yF fun b12 hg12=>?_)))
 cases b12
 ·
  replace hg12:=zR hg12;refine zE Z (zE Z (zE Z (zA 2 Z (zH (zC [4] [_] Z (qI (qK Z Z fun w' hw=>?_)))))))
  exact ⟨ret_b (by unfold listB;simp [*]),hw.below⟩
 replace hg12:=zV hg12;refine zD Z (zU (cs:=#[i6_ a.n,str a.set,str a.rel]) 0 Z zP Z Z zJ) (zA 1 Z (zD (v:=bo_ (xs.all (elB a))) Z (qH Z Tryd.call66 Z zZ (fun w1 hw1=>areElements_ok a va xs w1 (Row.own hva hw1) (by first | (simp;done) | (simp;omega) | omega))) (zA 2 Z (zH (zC [4] [_] Z (qI (qK Z Z fun w' hw=>?_)))))))
 exact ⟨ret_b (by unfold listB;simp [*]),hw.below⟩
set_option maxHeartbeats 400000 in
theorem areLists_ok (a b:St) (xs ys:List Int) (va vb:Value) (w:World) (hsa:a.Small) (hsb:b.Small) (hva:Ints w va xs) (hvb:Ints w vb ys) (hs1:xs.length≤140737488355328) (hs2:ys.length≤140737488355328) :
    Calls Tryd.prog 50 [vS a,va,vS b,vb].toArray w fun en w'=>en=.returned (.bool (listsB a xs b ys))∧Below w.heap.size w w':=by
 refine fnStart (n:=24) (e:=[(0,vS a),(1,va),(2,vS b),(3,vb)]) Tryd.func50 Z Z Z Z Ends.both (zF (qD (yT (v:=vS a) Z Z Z Z Z fun p4 hp4=>?_)))
 show Ll _ _ (Own _ _ [_]) _ _ ((4,pt_ p4)::_) _ _ _;refine yT (v:=vS b) Z Z Z Z Z fun p6 hp6=>?_
 show Ll _ _ (Own _ _ [_,_]) _ _ ((6,pt_ p6)::_) _ _ _;refine qQ 1 Z (zL (zC [1,3,4,6] [_,_,_,_] Z (zF (zB (zD Z (zU (cs:=#[i6_ a.n,str a.set,str a.rel]) 1 Z zP Z Z zJ) (zA 1 Z (zD (v:=bo_ (listB a xs)) Z (qH Z Tryd.call86 Z zZ (fun w1 hw1=>isList_ok a va xs w1 hsa (Row.own hva hw1) (by first | (simp;done) | (simp;omega) | omega))) (zA 1 Z (yF fun b12 hg12=>?_)))))))))
 cases b12
 ·
  refine zE Z (zE Z (zE Z (zA 2 Z (zE Z (zE Z (zE Z (zE Z (zE Z (zA 2 Z (zH (zC [8] [_] Z (qI (qK Z Z fun w' hw=>?_)))))))))))))
  exact ⟨ret_b (by unfold listsB;simp [*]),hw.below⟩
 refine zD Z (zU (cs:=#[i6_ b.n,str b.set,str b.rel]) 0 Z zP Z Z zJ) (zA 1 Z (zD (v:=bo_ (listB b ys)) Z (qH Z Tryd.call86 Z zZ (fun w1 hw1=>isList_ok b vb ys w1 hsb (Row.own hvb hw1) (by first | (simp;done) | (simp;omega) | omega))) (zA 2 Z (yF fun b17 hg17=>?_))))
 cases b17
 ·
  refine zE Z (zE Z (zE Z (zE Z (zE Z (zA 2 Z (zH (zC [8] [_] Z (qI (qK Z Z fun w' hw=>?_)))))))))
  exact ⟨ret_b (by unfold listsB;simp [*]),hw.below⟩
 refine zA 1 Z (zD (v:=i6_ (xs.length:Int)) Z (yI Z zK Z (ints_length _) (fun w1 hw1=>Row.own hva hw1)) (zA 1 Z (zD (v:=i6_ (ys.length:Int)) Z (yI Z zK Z (ints_length _) (fun w1 hw1=>Row.own hvb hw1)) (zA 3 Z (zH (zC [8] [_] Z (qI (qK Z Z fun w' hw=>?_))))))))
 exact ⟨ret_b (by unfold listsB;simp [*]),hw.below⟩
set_option maxHeartbeats 400000 in
theorem fits_ok (a b:St) (xs ys:List Int) (va vb:Value) (m:Nat) (w:World) (ha:a.Fine) (hb:b.Fine) (hva:Ints w va xs) (hvb:Ints w vb ys) (hA:a.Els xs) (hB:b.Els ys) (hm:xs.length=m+1) (hm2:ys.length=m+1) (hsmall:m≤1000000) :
    Calls Tryd.prog 74 [vS a,va,vS b,vb].toArray w fun en w'=>en=.returned (.bool (stillAt a xs b ys m))∧Below w.heap.size w w':=by
 refine fnStart (n:=97) (e:=[(0,vS a),(1,va),(2,vS b),(3,vb)]) Tryd.func74 Z Z Z Z Ends.both ?_
 have hT:=fits_true (a:=a) (b:=b) hm hm2;refine zF (qD (yT (v:=vS a) Z Z Z Z Z fun p4 hp4=>?_))
 show Ll _ _ (Own _ _ [_]) _ _ ((4,pt_ p4)::_) _ _ _;refine yT (v:=vS b) Z Z Z Z Z fun p6 hp6=>?_
 show Ll _ _ (Own _ _ [_,_]) _ _ ((6,pt_ p6)::_) _ _ _;refine qQ 1 Z (zL (zC [1,3,4,6] [_,_,_,_] Z (zF (zB (zA 1 Z (zD (v:=i6_ ((m+1):Int)) Z (yI Z zK Z ((ints_length _).trans hm) (fun w1 hw1=>Row.own hva hw1)) (zD (v:=i6_ (m:Int)) Z (qW (by simp) (xO Z Z Z (by omega) (by omega))) (zA 1 Z (zH (zC [1,3,4,6,9] [_,_,_,_,_] Z (zF (zF (jS yJ (fun _ h=>h.drawn) (by kernel_rfl) (zD Z (zU (cs:=#[i6_ a.n,str a.set,str a.rel]) 1 Z zP Z Z zJ) (zA 2 Z (zD (v:=.pointer (some (sAt va (m:Int)))) Z (yE Z zK zY Z Z (by omega) (by rw [ints_length];omega) (fun w1 hw1=>Row.own hva hw1)) (zD (v:=i6_ (xs.getD ((m:Int).toNat) 0)) Z (yC Z qF Z (fun w1 hw1=>Ints.cell (Row.own hva hw1) (by omega) (by omega))) (zD (v:=bo_ (a.inSet (xs.getD ((m:Int).toNat) 0))) Z (qH Z Tryd.call116 Z zZ (fun w1 hw1=>l1Set_ok a (xs.getD ((m:Int).toNat) 0) w1 ha (by first | assumption | exact St.Els.at (by assumption) (by omega) (by omega)))) (zD Z (zU (cs:=#[i6_ b.n,str b.set,str b.rel]) 0 Z zP Z Z zJ) (zA 2 Z (zD (v:=.pointer (some (sAt vb (m:Int)))) Z (yE Z zK zY Z Z (by omega) (by rw [ints_length];omega) (fun w1 hw1=>Row.own hvb hw1)) (zD (v:=i6_ (ys.getD ((m:Int).toNat) 0)) Z (yC Z qF Z (fun w1 hw1=>Ints.cell (Row.own hvb hw1) (by omega) (by omega))) (zD (v:=bo_ (b.inSet (ys.getD ((m:Int).toNat) 0))) Z (qH Z Tryd.call116 Z zZ (fun w1 hw1=>l1Set_ok b (ys.getD ((m:Int).toNat) 0) w1 hb (by first | assumption | exact St.Els.at (by assumption) (by omega) (by omega)))) (zD Z (OpQ.bne Z xL Z Z) (zH (zC [1,3,4,6,9,26] [_,_,_,_,_,_] Z (yA (b:=(a.inSet (xs.getD ((m:Int).toNat) 0)) != (b.inSet (ys.getD ((m:Int).toNat) 0))) Z (fun h26=>?_) (fun h26=>?_))))))))))))))))))))))))))))
 ·
  refine zF (zB (zA 1 Z (zH (zC [8] [_] Z (qI (qK Z Z fun w' hw=>?_))))))
  have hf:stillAt a xs b ys m=false:=by
   cases hs:stillAt a xs b ys m with
   | false=>rfl
   | true =>
    obtain ⟨e1,e3⟩:=hT.1 hs
    simp_all
  exact ⟨ret_b hf.symm,hw.below⟩
 refine qR (zC [1,3,4,6,9] [_,_,_,_,_] Z (zF (zF (zB (zA 1 Z (zH (zC [1,3,4,6,9,10] [_,_,_,_,_,_] Z (qT (xF (σ:=Nat) (fun k=>k≤m+1∧∀ i:Nat,i<k→pairOk a b (xs.getD m 0) (ys.getD m 0) (xs.getD i 0) (ys.getD i 0)=true) (fun k=>[(1,va),(3,vb),(4,pt_ p4),(6,pt_ p6),(9,i6_ (m:Int)),(10,i6_ (k:Int))]) (fun k=>Own w.heap.size w [bk_ p6 #[i6_ b.n,str b.set,str b.rel] 24,bk_ p4 #[i6_ a.n,str a.set,str a.rel] 24]) (fun k=>m+1 - k) (0) ⟨by omega,fun i hi=>absurd hi (by omega)⟩ (Sub.sel [1,3,4,6,9,10] Z) (fun _ h=>h) ?_)))))))))
 rintro k ⟨hk,hall⟩;refine zF (zF (zB (zA 3 Z (zH (zC [1,3,4,6,9,10,29] [_,_,_,_,_,_,_] Z (xI Z (fun h29=>?_) (fun h29=>?_)))))))
 ·
  refine qR (zC [1,3,4,6,9,10] [_,_,_,_,_,_] Z (zF (qT (zF (jS yJ (fun _ h=>h.drawn) (by kernel_rfl) (zA 2 Z (zD (v:=.pointer (some (sAt va (k:Int)))) Z (yE Z zK zY Z Z (by omega) (by rw [ints_length];omega) (fun w1 hw1=>Row.own hva hw1)) (zD (v:=i6_ (xs.getD ((k:Int).toNat) 0)) Z (yC Z qF Z (fun w1 hw1=>Ints.cell (Row.own hva hw1) (by omega) (by omega))) (zA 2 Z (zD (v:=.pointer (some (sAt va (m:Int)))) Z (yE Z zK zY Z Z (by omega) (by rw [ints_length];omega) (fun w1 hw1=>Row.own hva hw1)) (zD (v:=i6_ (xs.getD ((m:Int).toNat) 0)) Z (yC Z qF Z (fun w1 hw1=>Ints.cell (Row.own hva hw1) (by omega) (by omega))) (zA 3 Z (zD (v:=.pointer (some (sAt vb (k:Int)))) Z (yE Z zK zY Z Z (by omega) (by rw [ints_length];omega) (fun w1 hw1=>Row.own hvb hw1)) (zD (v:=i6_ (ys.getD ((k:Int).toNat) 0)) Z (yC Z qF Z (fun w1 hw1=>Ints.cell (Row.own hvb hw1) (by omega) (by omega))) (zA 2 Z (zD (v:=.pointer (some (sAt vb (m:Int)))) Z (yE Z zK zY Z Z (by omega) (by rw [ints_length];omega) (fun w1 hw1=>Row.own hvb hw1)) (zD (v:=i6_ (ys.getD ((m:Int).toNat) 0)) Z (yC Z qF Z (fun w1 hw1=>Ints.cell (Row.own hvb hw1) (by omega) (by omega))) (zA 1 Z (zD Z (OpQ.bne Z xL Z Z) (zA 1 Z (yF fun b51 hg51=>?_)))))))))))))))))))))
  cases b51
  ·
   refine zD Z (zU (cs:=#[i6_ a.n,str a.set,str a.rel]) 1 Z zP Z Z zJ) (zA 2 Z (zD (v:=.pointer (some (sAt va (k:Int)))) Z (yE Z zK zY Z Z (by omega) (by rw [ints_length];omega) (fun w1 hw1=>Row.own hva hw1)) (zD (v:=i6_ (xs.getD ((k:Int).toNat) 0)) Z (yC Z qF Z (fun w1 hw1=>Ints.cell (Row.own hva hw1) (by omega) (by omega))) (zA 2 Z (zD (v:=.pointer (some (sAt va (m:Int)))) Z (yE Z zK zY Z Z (by omega) (by rw [ints_length];omega) (fun w1 hw1=>Row.own hva hw1)) (zD (v:=i6_ (xs.getD ((m:Int).toNat) 0)) Z (yC Z qF Z (fun w1 hw1=>Ints.cell (Row.own hva hw1) (by omega) (by omega))) (zD (v:=bo_ (a.inRel (xs.getD ((k:Int).toNat) 0) (xs.getD ((m:Int).toNat) 0))) Z (qH Z xV Z zZ (fun w1 hw1=>l1Rel_ok a (xs.getD ((k:Int).toNat) 0) (xs.getD ((m:Int).toNat) 0) w1 ha (by first | assumption | exact St.Els.at (by assumption) (by omega) (by omega)) (by first | assumption | exact St.Els.at (by assumption) (by omega) (by omega)))) (zD Z (zU (cs:=#[i6_ b.n,str b.set,str b.rel]) 0 Z zP Z Z zJ) (zA 2 Z (zD (v:=.pointer (some (sAt vb (k:Int)))) Z (yE Z zK zY Z Z (by omega) (by rw [ints_length];omega) (fun w1 hw1=>Row.own hvb hw1)) (zD (v:=i6_ (ys.getD ((k:Int).toNat) 0)) Z (yC Z qF Z (fun w1 hw1=>Ints.cell (Row.own hvb hw1) (by omega) (by omega))) (zA 2 Z (zD (v:=.pointer (some (sAt vb (m:Int)))) Z (yE Z zK zY Z Z (by omega) (by rw [ints_length];omega) (fun w1 hw1=>Row.own hvb hw1)) (zD (v:=i6_ (ys.getD ((m:Int).toNat) 0)) Z (yC Z qF Z (fun w1 hw1=>Ints.cell (Row.own hvb hw1) (by omega) (by omega))) (zD (v:=bo_ (b.inRel (ys.getD ((k:Int).toNat) 0) (ys.getD ((m:Int).toNat) 0))) Z (qH Z xV Z zZ (fun w1 hw1=>l1Rel_ok b (ys.getD ((k:Int).toNat) 0) (ys.getD ((m:Int).toNat) 0) w1 hb (by first | assumption | exact St.Els.at (by assumption) (by omega) (by omega)) (by first | assumption | exact St.Els.at (by assumption) (by omega) (by omega)))) (zD Z (OpQ.bne Z xL Z Z) (zA 2 Z (yF fun b74 hg74=>?_))))))))))))))))))
   cases b74
   ·
    refine zD Z (zU (cs:=#[i6_ a.n,str a.set,str a.rel]) 1 Z zP Z Z zJ) (zA 2 Z (zD (v:=.pointer (some (sAt va (m:Int)))) Z (yE Z zK zY Z Z (by omega) (by rw [ints_length];omega) (fun w1 hw1=>Row.own hva hw1)) (zD (v:=i6_ (xs.getD ((m:Int).toNat) 0)) Z (yC Z qF Z (fun w1 hw1=>Ints.cell (Row.own hva hw1) (by omega) (by omega))) (zA 2 Z (zD (v:=.pointer (some (sAt va (k:Int)))) Z (yE Z zK zY Z Z (by omega) (by rw [ints_length];omega) (fun w1 hw1=>Row.own hva hw1)) (zD (v:=i6_ (xs.getD ((k:Int).toNat) 0)) Z (yC Z qF Z (fun w1 hw1=>Ints.cell (Row.own hva hw1) (by omega) (by omega))) (zD (v:=bo_ (a.inRel (xs.getD ((m:Int).toNat) 0) (xs.getD ((k:Int).toNat) 0))) Z (qH Z xV Z zZ (fun w1 hw1=>l1Rel_ok a (xs.getD ((m:Int).toNat) 0) (xs.getD ((k:Int).toNat) 0) w1 ha (by first | assumption | exact St.Els.at (by assumption) (by omega) (by omega)) (by first | assumption | exact St.Els.at (by assumption) (by omega) (by omega)))) (zD Z (zU (cs:=#[i6_ b.n,str b.set,str b.rel]) 0 Z zP Z Z zJ) (zA 2 Z (zD (v:=.pointer (some (sAt vb (m:Int)))) Z (yE Z zK zY Z Z (by omega) (by rw [ints_length];omega) (fun w1 hw1=>Row.own hvb hw1)) (zD (v:=i6_ (ys.getD ((m:Int).toNat) 0)) Z (yC Z qF Z (fun w1 hw1=>Ints.cell (Row.own hvb hw1) (by omega) (by omega))) (zA 2 Z (zD (v:=.pointer (some (sAt vb (k:Int)))) Z (yE Z zK zY Z Z (by omega) (by rw [ints_length];omega) (fun w1 hw1=>Row.own hvb hw1)) (zD (v:=i6_ (ys.getD ((k:Int).toNat) 0)) Z (yC Z qF Z (fun w1 hw1=>Ints.cell (Row.own hvb hw1) (by omega) (by omega))) (zD (v:=bo_ (b.inRel (ys.getD ((m:Int).toNat) 0) (ys.getD ((k:Int).toNat) 0))) Z (qH Z xV Z zZ (fun w1 hw1=>l1Rel_ok b (ys.getD ((m:Int).toNat) 0) (ys.getD ((k:Int).toNat) 0) w1 hb (by first | assumption | exact St.Els.at (by assumption) (by omega) (by omega)) (by first | assumption | exact St.Els.at (by assumption) (by omega) (by omega)))) (zD Z (OpQ.bne Z xL Z Z) (zA 1 Z (zH (zC [1,3,4,6,9,10,96] [_,_,_,_,_,_,_] Z (yA (b:=(a.inRel (xs.getD ((m:Int).toNat) 0) (xs.getD ((k:Int).toNat) 0)) != (b.inRel (ys.getD ((m:Int).toNat) 0) (ys.getD ((k:Int).toNat) 0))) Z (fun h96=>?_) (fun h96=>?_)))))))))))))))))))))
    ·
     refine zF (zB (zA 1 Z (zH (zC [8] [_] Z (qI (qK Z Z fun w' hw=>?_))))))
     have hf:stillAt a xs b ys m=false:=by
      cases hs:stillAt a xs b ys m with
      | false=>rfl
      | true =>
       obtain ⟨e1,e3⟩:=hT.1 hs
       obtain ⟨e4,e5,e6⟩:=pairOk_true.1 (e3 k (by omega))
       simp only [Int.toNat_natCast] at *
       simp_all
     exact ⟨ret_b hf.symm,hw.below⟩
    refine qR (zC [1,3,4,6,9,10] [_,_,_,_,_,_] Z (zB (zA 1 Z (zD Z (qV Z Z Z (by omega) (by omega)) (zA 1 Z (zH (qZ (k+1) ⟨by omega,fun i hi=>(Nat.lt_succ_iff_lt_or_eq.1 hi).elim (hall i) (fun e=>by subst e;exact pairOk_true.2 ⟨by simpa using hg51,by simpa using hg74,by simpa using h96⟩)⟩ (by omega) (Sub.sel [1,3,4,6,9,10] Z) (fun _ h=>h))))))))
   refine zE Z (zE Z (zE Z (zE Z (zE Z (zE Z (zE Z (zE Z (zE Z (zE Z (zE Z (zE Z (zE Z (zE Z (zE Z (zE Z (zE Z (zE Z (zE Z (zE Z (zE Z (zA 1 Z (zH (zC [1,3,4,6,9,10,96] [_,_,_,_,_,_,_] Z (jB Z (zF (zB (zA 1 Z (zH (zC [8] [_] Z (qI (qK Z Z fun w' hw=>?_)))))))))))))))))))))))))))))))
   have hf:stillAt a xs b ys m=false:=by
    cases hs:stillAt a xs b ys m with
    | false=>rfl
    | true =>
     obtain ⟨e1,e3⟩:=hT.1 hs
     obtain ⟨e4,e5,e6⟩:=pairOk_true.1 (e3 k (by omega))
     simp only [Int.toNat_natCast] at *
     simp_all
   exact ⟨ret_b hf.symm,hw.below⟩
  refine zE Z (zE Z (zE Z (zE Z (zE Z (zE Z (zE Z (zE Z (zE Z (zE Z (zE Z (zE Z ?_)))))))))));refine zE Z (zE Z (zE Z (zE Z (zE Z (zE Z (zE Z (zE Z (zE Z (zA 2 Z (zE Z (zE Z (zE Z (zE Z (zE Z (zE Z (zE Z (zE Z (zE Z (zE Z (zE Z (zE Z (zE Z (zE Z (zE Z (zE Z (zE Z (zE Z (zE Z (zE Z (zE Z (zA 1 Z (zH (zC [1,3,4,6,9,10,96] [_,_,_,_,_,_,_] Z (jB Z (zF (zB (zA 1 Z (zH (zC [8] [_] Z (qI (qK Z Z fun w' hw=>?_)))))))))))))))))))))))))))))))))))))))))
  have hf:stillAt a xs b ys m=false:=by
   cases hs:stillAt a xs b ys m with
   | false=>rfl
   | true =>
    obtain ⟨e1,e3⟩:=hT.1 hs
    obtain ⟨e4,e5,e6⟩:=pairOk_true.1 (e3 k (by omega))
    simp only [Int.toNat_natCast] at *
    simp_all
  exact ⟨ret_b hf.symm,hw.below⟩
 refine yY Z (zC [] [] Z (zF (zB (zA 1 Z (zH (zC [8] [_] Z (qI (qK Z Z fun w' hw=>?_))))))))
 exact ⟨ret_b (hT.2 ⟨bne_false ‹_›,fun i hi=>hall i (by omega)⟩).symm,hw.below⟩
set_option maxHeartbeats 400000 in
theorem iPart_ok (a b:St) (xs ys:List Int) (va vb:Value) (w:World) (hsa:a.Small) (hsb:b.Small) (hva:Ints w va xs) (hvb:Ints w vb ys) (hs1:xs.length≤140737488355328) (hs2:ys.length≤140737488355328) :
    Calls Tryd.prog 22 [vS a,va,vS b,vb].toArray w fun en w'=>en=.returned (.bool (wayB a xs b ys))∧Below w.heap.size w w':=by
 refine fnStart (n:=21) (e:=[(0,vS a),(1,va),(2,vS b),(3,vb)]) Tryd.func22 Z Z Z Z Ends.both (zF (qD (yT (v:=vS a) Z Z Z Z Z fun p4 hp4=>?_)))
 show Ll _ _ (Own _ _ [_]) _ _ ((4,pt_ p4)::_) _ _ _;refine yT (v:=vS b) Z Z Z Z Z fun p6 hp6=>?_
 show Ll _ _ (Own _ _ [_,_]) _ _ ((6,pt_ p6)::_) _ _ _;refine qQ 1 Z (zL (zC [1,3,4,6] [_,_,_,_] Z (zF (zB (zD Z (zU (cs:=#[i6_ a.n,str a.set,str a.rel]) 1 Z zP Z Z zJ) (zA 1 Z (zD Z (zU (cs:=#[i6_ b.n,str b.set,str b.rel]) 0 Z zP Z Z zJ) (zA 1 Z (zD (v:=bo_ (listsB a xs b ys)) Z (qH Z Tryd.call50 Z zZ (fun w1 hw1=>areLists_ok a b xs ys va vb w1 hsa hsb (Row.own hva hw1) (Row.own hvb hw1) (by first | (simp;done) | (simp;omega) | omega) (by first | (simp;done) | (simp;omega) | omega))) (zA 1 Z (yF fun b14 hg14=>?_)))))))))))
 cases b14
 ·
  refine zE Z (zE Z (zE Z (zE Z (zE Z (zA 2 Z (zH (zC [8] [_] Z (qI (qK Z Z fun w' hw=>?_)))))))))
  exact ⟨ret_b (by unfold wayB;simp [*]),hw.below⟩
 obtain ⟨LA,LB,hlen⟩:=listsB_true hg14
 have ha:=LA.fine
 have hb:=LB.fine
 have hA:=LA.els
 have hB:=LB.els
 have hl4:=LA.len;refine zD Z (zU (cs:=#[i6_ a.n,str a.set,str a.rel]) 1 Z zP Z Z zJ) (zA 1 Z (zD Z (zU (cs:=#[i6_ b.n,str b.set,str b.rel]) 0 Z zP Z Z zJ) (zA 1 Z (zD (v:=bo_ (sameB a xs b ys)) Z (qH Z Tryd.call51 Z zZ (fun w1 hw1=>sameWay_ok a b xs ys va vb w1 ha hb (Row.own hva hw1) (Row.own hvb hw1) hA hB (by omega) (by omega))) (zA 2 Z (zH (zC [8] [_] Z (qI (qK Z Z fun w' hw=>?_)))))))))
 exact ⟨ret_b (by unfold wayB;simp [*]),hw.below⟩
end Go.Proofs.YteccfipfimbdgaaDoor
namespace Go.Proofs.YteccfipfimbdgaaDoor
open Go.RowKit Go.Wk
set_option linter.unusedSimpArgs false
set_option maxHeartbeats 400000 in
theorem bitD_ok (b:Bool) (w:World) :
    Calls Tryd.prog 35 [bo_ b].toArray w fun en w'=>en=.returned (str (if b then [49] else [48]))∧Below w.heap.size w w':=by
 refine fnStart (n:=4) (e:=[(0,bo_ b)]) Tryd.func35 Z Z Z Z Ends.both (zF (zB (zD (v:=str ([])) Z (yV Z Z) (zH (zC [0] [_] Z (zF (zF (zB (zA 1 Z (zH (zC [3] [_] Z (yA (b:=b) Z (fun h3=>?_) (fun h3=>?_)))))))))))))
 ·
  refine zF (zB (zD (v:=str ([49])) Z (yV Z Z) (zH (zC [2] [_] Z (qI (qK Z Z fun w' hw=>?_))))))
  exact ⟨by rw [‹b=_›];rfl,hw.below⟩
 refine qR (zC [] [] Z (zF (zB (zD (v:=str ([48])) Z (yV Z Z) (zH (zC [2] [_] Z (qI (qK Z Z fun w' hw=>?_))))))))
 exact ⟨by rw [‹b=_›];rfl,hw.below⟩
set_option maxHeartbeats 400000 in
theorem pick_ok (B:Nat) (w0:World) (hs:List (Nat×Obj)) (rp p:Nat) (bv:Value) (L:List Int) (n:Int) (w:World) (hb:∀ w,Own B w0 hs w→Row w bv (u8s L)) (hL8:Bytes8 L) (hL:L.length≤2000) (hp:p≤1000000) (hw:Own B w0 ((rp,.cells #[bv,.int .i64 (p:Int)] 84 (0,0))::hs) w) :
    Calls Tryd.prog 46 [pt_ rp,i6_ n].toArray w fun en w'=>∃ k:Int,∃ p':Nat,en=.returned (i6_ k)∧(0≤k∧(1≤n→k<n)∧p'=p+1)∧Own B w0 (((rp,.cells #[bv,.int .i64 (p':Int)] 84 (0,0))::hs)) w':=by
 refine fnStartC (Own B w0 ((rp,.cells #[bv,.int .i64 (p:Int)] 84 (0,0))::hs)) (n:=99) (e:=[(0,pt_ rp),(1,i6_ n)]) Tryd.func46 Z Z Z Z Ends.both hw (zF (zB (zA 1 Z (zH (zC [0,1] [_,_] Z (zF (qD (qQ 2 Z (qC (v:=pt_ rp) Z (xX Z Z) (qC Z (zN Z xC Z zY Z Z) (qC Z (zS 0 Z qF Z Z Z) (qC Z (qV Z Z Z (by omega) (by omega)) (qC (v:=pt_ rp) Z (xX Z Z) (qC Z (zN Z xC Z zY Z Z) (qY (v:=i6_ ((p:Int)+(1:Int))) (hs':=(bk_ rp #[bv,i6_ ((p:Int)+(1:Int))] 84::hs)) 0 Z Z Z Z Z Z zY Z (by simp) Z (zL (zC [0,1] [_,_] Z (zF (zF (zB (zA 3 Z (yF fun b17 hg17=>?_))))))))))))))))))))))
 cases b17
 ·
  replace hg17:=zR hg17;refine zA 1 Z (zD (v:=pt_ rp) Z (xX Z Z) (zD Z (zN Z xC Z jJ Z Z) (zD Z (zS 0 Z jM Z Z Z) (zD (v:=i6_ (L.length:Int)) Z (yI Z yN Z (u8s_length _) (fun w1 hw1=>hb _ (qE (f:=[_]) hw1))) (zA 2 Z (zH (zC [0,1,24] [_,_,_] Z (yA (b:=decide ((L.length:Int)=(0:Int))) Z (fun h24=>?_) (fun h24=>?_)))))))))
  ·
   replace h24:=zV h24;refine zF (zB (zA 1 Z (zH (zC [4] [_] Z (qI (qK Z Z fun w' hw=>?_))))))
   exact ⟨0,p+1,rfl,⟨Int.le_refl 0,fun _=>by omega,rfl⟩,hw⟩
  replace h24:=zR h24
  have hlp:0<L.length:=by omega
  refine qR (zC [0,1] [_,_] Z (zF (zB (zA 1 Z (zD (v:=pt_ rp) Z (xX Z Z) (zD Z (zN Z xC Z zY Z Z) (zD Z (zS 0 Z qF Z Z Z) (zD (v:=i6_ (p:Int)) Z (qW (by congr 1;omega) (xO Z Z Z (by omega) (by omega))) (zA 1 Z (zH (zC [0,1,5] [_,_,_] Z (zF (zF (zB (zA 2 Z (zD (v:=pt_ rp) Z (xX Z Z) (zD Z (zN Z xC Z jJ Z Z) (zD Z (zS 0 Z jM Z Z Z) (zD (v:=i6_ (L.length:Int)) Z (yI Z yN Z (u8s_length _) (fun w1 hw1=>hb _ (qE (f:=[_]) hw1))) (zA 1 Z (zH (zC [0,1,5,36] [_,_,_,_] Z (yA (b:=decide ((p:Int)<(L.length:Int))) Z (fun h36=>?_) (fun h36=>?_))))))))))))))))))))))))
  ·
   replace h36:=zV h36
   have hb0:=hL8.at (i:=(p:Int).toNat) (by omega);refine zF (zB (zA 1 Z (zD (v:=pt_ rp) Z (xX Z Z) (zD Z (zN Z xC Z jJ Z Z) (zD Z (zS 0 Z jM Z Z Z) (zA 1 Z (zD (v:=.pointer (some (sAt bv (p:Int)))) Z (yE Z yN Tryd.sizeOf5 Z Z (by omega) (by rw [u8s_length];omega) (fun w1 hw1=>hb _ (qE (f:=[_]) hw1))) (zD (v:=.int .u8 (L.getD ((p:Int).toNat) 0)) Z (yC Z Tryd.isAgg5 Z (fun w1 hw1=>u8s_cell (hb _ (qE (f:=[_]) hw1)) (by omega) (by omega))) (zD (v:=i6_ (L.getD ((p:Int).toNat) 0)) Z (xR .i64 Z yO xD Z (IntWalk.i64_in _ (by omega))) (zA 1 Z (zD (v:=i6_ ((L.getD ((p:Int).toNat) 0) % n)) Z (OpQ.rem Z Z Z (by omega) (by omega)) (zA 1 Z (zH (zC [4] [_] Z (qI (qK Z Z fun w' hw=>?_))))))))))))))))
   exact ⟨_,p+1,rfl,⟨Int.emod_nonneg _ (by omega),fun _=>Int.emod_lt_of_pos _ (by omega),rfl⟩,hw⟩
  replace h36:=zR h36
  have hm1:=Int.emod_nonneg (p:Int) (b:=(L.length:Int)) (by omega)
  have hm2:=Int.emod_lt_of_pos (p:Int) (b:=(L.length:Int)) (by omega)
  have hm3:=Int.emod_nonneg ((p:Int)*(7:Int)+(3:Int)) (b:=(L.length:Int)) (by omega)
  have hm4:=Int.emod_lt_of_pos ((p:Int)*(7:Int)+(3:Int)) (b:=(L.length:Int)) (by omega)
  have hd1:=Int.ediv_nonneg (a:=(p:Int)) (b:=(L.length:Int)) (by omega) (by omega)
  have hd2:=Int.ediv_le_self (L.length:Int) (show (0:Int)≤(p:Int) by omega)
  have hb1:=hL8.at (i:=((p:Int) % (L.length:Int)).toNat) (by omega)
  have hb2:=hL8.at (i:=(((p:Int)*(7:Int)+(3:Int)) % (L.length:Int)).toNat) (by omega);refine qR (zC [0,1,5] [_,_,_] Z (zF (jS yJ (fun _ h=>h.drawn) (by kernel_rfl) (zA 1 Z (zD (v:=pt_ rp) Z (xX Z Z) (zD Z (zN Z xC Z jJ Z Z) (zD Z (zS 0 Z jM Z Z Z) (zA 2 Z (zD (v:=pt_ rp) Z (xX Z Z) (zD Z (zN Z xC Z jJ Z Z) (zD Z (zS 0 Z jM Z Z Z) (zD (v:=i6_ (L.length:Int)) Z (yI Z yN Z (u8s_length _) (fun w1 hw1=>hb _ (qE (f:=[_]) hw1))) (zD (v:=i6_ ((p:Int) % (L.length:Int))) Z (OpQ.rem Z Z Z (by omega) (by omega)) (zD (v:=.pointer (some (sAt bv ((p:Int) % (L.length:Int))))) Z (yE Z yN Tryd.sizeOf5 Z Z (by omega) (by rw [u8s_length];omega) (fun w1 hw1=>hb _ (qE (f:=[_]) hw1))) (zD (v:=.int .u8 (L.getD (((p:Int) % (L.length:Int)).toNat) 0)) Z (yC Z Tryd.isAgg5 Z (fun w1 hw1=>u8s_cell (hb _ (qE (f:=[_]) hw1)) (by omega) (by omega))) (zD (v:=i6_ (L.getD (((p:Int) % (L.length:Int)).toNat) 0)) Z (xR .i64 Z yO xD Z (IntWalk.i64_in _ (by omega))) (zD Z (jP Z Z Z (by omega) (by omega)) (zA 1 Z ?_))))))))))))))))));refine zD (v:=pt_ rp) Z (xX Z Z) (zD Z (zN Z xC Z jJ Z Z) (zD Z (zS 0 Z jM Z Z Z) (zA 1 Z (zD Z (jP Z Z Z (by omega) (by omega)) (zD Z (qV Z Z Z (by omega) (by omega)) (zA 1 Z (zD (v:=pt_ rp) Z (xX Z Z) (zD Z (zN Z xC Z jJ Z Z) (zD Z (zS 0 Z jM Z Z Z) (zD (v:=i6_ (L.length:Int)) Z (yI Z yN Z (u8s_length _) (fun w1 hw1=>hb _ (qE (f:=[_]) hw1))) (zD (v:=i6_ ((((p:Int)*(7:Int))+(3:Int)) % (L.length:Int))) Z (OpQ.rem Z Z Z (by omega) (by omega)) (zD (v:=.pointer (some (sAt bv ((((p:Int)*(7:Int))+(3:Int)) % (L.length:Int))))) Z (yE Z yN Tryd.sizeOf5 Z Z (by omega) (by rw [u8s_length];omega) (fun w1 hw1=>hb _ (qE (f:=[_]) hw1))) (zD (v:=.int .u8 (L.getD (((((p:Int)*(7:Int))+(3:Int)) % (L.length:Int)).toNat) 0)) Z (yC Z Tryd.isAgg5 Z (fun w1 hw1=>u8s_cell (hb _ (qE (f:=[_]) hw1)) (by omega) (by omega))) (zD (v:=i6_ (L.getD (((((p:Int)*(7:Int))+(3:Int)) % (L.length:Int)).toNat) 0)) Z (xR .i64 Z yO xD Z (IntWalk.i64_in _ (by omega))) (zD Z (jP Z Z Z (by omega) (by omega)) (zD Z (qV Z Z Z (by omega) (by omega)) (zA 1 Z (zD Z (jP Z Z Z (by omega) (by omega)) (zD Z (qV Z Z Z (by omega) (by omega)) (zA 2 Z (zD (v:=pt_ rp) Z (xX Z Z) (zD Z (zN Z xC Z jJ Z Z) (zD Z (zS 0 Z jM Z Z Z) (zD (v:=i6_ (L.length:Int)) Z (yI Z yN Z (u8s_length _) (fun w1 hw1=>hb _ (qE (f:=[_]) hw1))) (zD (v:=i6_ ((p:Int) / (L.length:Int))) Z (OpQ.quo Z Z Z (by omega) (by omega) (by omega)) (zD Z (jP Z Z Z (by omega) (by omega)) (zD Z (qV Z Z Z (by omega) (by omega)) (zA 1 Z (zH (zC [1,6] [_,_] Z (zF (zB (zA 2 Z (zD (v:=i6_ ((((((L.getD (((p:Int) % (L.length:Int)).toNat) 0)*(131:Int))+((L.getD (((((p:Int)*(7:Int))+(3:Int)) % (L.length:Int)).toNat) 0)*(1117:Int)))+((p:Int)*(29:Int)))+(((p:Int) / (L.length:Int))*(53:Int))) / (64:Int))) Z (OpQ.quo Z Z Z (by omega) (by omega) (by decide)) (zD (v:=i6_ (bits .xor .i64 (((((L.getD (((p:Int) % (L.length:Int)).toNat) 0)*(131:Int))+((L.getD (((((p:Int)*(7:Int))+(3:Int)) % (L.length:Int)).toNat) 0)*(1117:Int)))+((p:Int)*(29:Int)))+(((p:Int) / (L.length:Int))*(53:Int))) ((((((L.getD (((p:Int) % (L.length:Int)).toNat) 0)*(131:Int))+((L.getD (((((p:Int)*(7:Int))+(3:Int)) % (L.length:Int)).toNat) 0)*(1117:Int)))+((p:Int)*(29:Int)))+(((p:Int) / (L.length:Int))*(53:Int))) / (64:Int)))) Z (OpQ.xor Z Z Z) (zA 1 Z (zH (zC [1,6] [_,_] Z (zF (zB ?_))))))))))))))))))))))))))))))))))))))))
  have hx0:0≤bits .xor .i64 (((((L.getD (((p:Int) % (L.length:Int)).toNat) 0)*(131:Int))+((L.getD (((((p:Int)*(7:Int))+(3:Int)) % (L.length:Int)).toNat) 0)*(1117:Int)))+((p:Int)*(29:Int)))+(((p:Int) / (L.length:Int))*(53:Int))) ((((((L.getD (((p:Int) % (L.length:Int)).toNat) 0)*(131:Int))+((L.getD (((((p:Int)*(7:Int))+(3:Int)) % (L.length:Int)).toNat) 0)*(1117:Int)))+((p:Int)*(29:Int)))+(((p:Int) / (L.length:Int))*(53:Int))) / (64:Int)):=xor_pos (by omega) (by omega) (Int.ediv_nonneg (by omega) (by decide)) (by omega);refine zA 2 Z (zD (v:=i6_ ((bits .xor .i64 (((((L.getD (((p:Int) % (L.length:Int)).toNat) 0)*(131:Int))+((L.getD (((((p:Int)*(7:Int))+(3:Int)) % (L.length:Int)).toNat) 0)*(1117:Int)))+((p:Int)*(29:Int)))+(((p:Int) / (L.length:Int))*(53:Int))) ((((((L.getD (((p:Int) % (L.length:Int)).toNat) 0)*(131:Int))+((L.getD (((((p:Int)*(7:Int))+(3:Int)) % (L.length:Int)).toNat) 0)*(1117:Int)))+((p:Int)*(29:Int)))+(((p:Int) / (L.length:Int))*(53:Int))) / (64:Int))) % n)) Z (OpQ.rem Z Z Z hx0 (by omega)) (zA 1 Z (zH (zC [4] [_] Z (qI (qK Z Z fun w' hw=>?_))))))
  exact ⟨_,p+1,rfl,⟨Int.emod_nonneg _ (by omega),fun _=>Int.emod_lt_of_pos _ (by omega),rfl⟩,hw⟩
 replace hg17:=zV hg17;refine zE Z (zE Z (zE Z (zE Z (zE Z (zE Z (zA 1 Z (zH (zC [0,1,24] [_,_,_] Z (jB Z (zF (zB (zA 1 Z (zH (zC [4] [_] Z (qI (qK Z Z fun w' hw=>?_))))))))))))))))
 exact ⟨0,p+1,rfl,⟨Int.le_refl 0,fun _=>by omega,rfl⟩,hw⟩
set_option maxHeartbeats 400000 in
theorem num_ok (B:Nat) (w0:World) (hs:List (Nat×Obj)) (rp p:Nat) (bv:Value) (L:List Int) (va:Value) (xs:List Int) (w:World) (hb:∀ w,Own B w0 hs w→Row w bv (u8s L)) (hL8:Bytes8 L) (hL:L.length≤2000) (hva:∀ w,Own B w0 hs w→Ints w va xs) (hne:0<xs.length) (hp:p≤1000000) (hw:Own B w0 ((rp,.cells #[bv,.int .i64 (p:Int)] 84 (0,0))::hs) w) :
    Calls Tryd.prog 84 [pt_ rp,va].toArray w fun en w'=>∃ v:Int,∃ p':Nat,en=.returned (i6_ v)∧(v∈xs∧p'=p+1)∧Own B w0 (((rp,.cells #[bv,.int .i64 (p':Int)] 84 (0,0))::hs)) w':=by
 refine fnStartC (Own B w0 ((rp,.cells #[bv,.int .i64 (p:Int)] 84 (0,0))::hs)) (n:=12) (e:=[(0,pt_ rp),(1,va)]) Tryd.func84 Z Z Z Z Ends.both hw (zF (zB (zA 1 Z (zH (zC [0,1] [_,_] Z (zF (qD (qQ 3 Z (qC (v:=i6_ (xs.length:Int)) Z (yI Z zK Z (ints_length _) (fun w1 hw1=>hva _ (qE (f:=[_]) hw1))) (yM (rp:=rp) (RT:=84) (p:=p) (bv:=bv) (hs:=hs) (ok:=fun (k:Int) p'=>0≤k∧(1≤(xs.length:Int)→k<(xs.length:Int))∧p'=p+1) (v:=fun (k:Int)=>i6_ k) (new:=fun (k:Int)=>[]) (xs:=[.tmp 6,.tmp 8]) (vs:=[pt_ rp,i6_ (xs.length:Int)]) ([]:List (Nat×Obj)) Z Z Z Z xP Z (fun w1 hw1=>(pick_ok B w0 (([]:List (Nat×Obj))++hs) rp p bv L (xs.length:Int) w1 (fun w2 hw2=>hb w2 (qE (f:=([]:List (Nat×Obj))) hw2)) hL8 hL (by omega) hw1).mono fun en w' ⟨k',p',h1,h2,h3⟩=>⟨k',p',h1,h2,h3⟩) fun k9 p_9 hKp_9=>?_))))))))))
 show Ll _ _ (Own _ _ (_::hs)) _ _ ((9,i6_ k9)::_) _ _ _
 obtain ⟨h0k9,h1k9,hep_9⟩:=hKp_9
 try have hltk9:=h1k9 (by first | omega | (split <;> omega) | decide);refine qC (v:=.pointer (some (sAt va k9))) Z (yE Z zK zY Z Z (by omega) (by rw [ints_length];omega) (fun w1 hw1=>hva _ (qE (f:=[_]) hw1))) (qC (v:=i6_ (xs.getD ((k9).toNat) 0)) Z (yC Z qF Z (fun w1 hw1=>Ints.cell (hva _ (qE (f:=[_]) hw1)) (by omega) (by omega))) (qQ 1 Z (zL (zC [4] [_] Z (qI (qK Z Z fun w' hw=>?_))))))
 exact ⟨_,p_9,rfl,⟨by rw [getD_at (by omega)];exact List.getElem_mem _,hep_9⟩,hw⟩
set_option maxHeartbeats 400000 in
theorem of_ok (B:Nat) (w0:World) (hs:List (Nat×Obj)) (rp p:Nat) (bv:Value) (L:List Int) (va:Value) (xs:List (List UInt8)) (w:World) (hb:∀ w,Own B w0 hs w→Row w bv (u8s L)) (hL8:Bytes8 L) (hL:L.length≤2000) (hva:∀ w,Own B w0 hs w→Strs w va xs) (hne:0<xs.length) (hp:p≤1000000) (hw:Own B w0 ((rp,.cells #[bv,.int .i64 (p:Int)] 84 (0,0))::hs) w) :
    Calls Tryd.prog 48 [pt_ rp,va].toArray w fun en w'=>∃ v:List UInt8,∃ p':Nat,en=.returned (str v)∧(v∈xs∧p'=p+1)∧Own B w0 (((rp,.cells #[bv,.int .i64 (p':Int)] 84 (0,0))::hs)) w':=by
 refine fnStartC (Own B w0 ((rp,.cells #[bv,.int .i64 (p:Int)] 84 (0,0))::hs)) (n:=12) (e:=[(0,pt_ rp),(1,va)]) Tryd.func48 Z Z Z Z Ends.both hw (zF (zB (zD (v:=str ([])) Z (yV Z Z) (zH (zC [0,1] [_,_] Z (zF (qD (qQ 3 Z (qC (v:=i6_ (xs.length:Int)) Z (yI Z yD Z (strs_length _) (fun w1 hw1=>hva _ (qE (f:=[_]) hw1))) (yM (rp:=rp) (RT:=84) (p:=p) (bv:=bv) (hs:=hs) (ok:=fun (k:Int) p'=>0≤k∧(1≤(xs.length:Int)→k<(xs.length:Int))∧p'=p+1) (v:=fun (k:Int)=>i6_ k) (new:=fun (k:Int)=>[]) (xs:=[.tmp 6,.tmp 8]) (vs:=[pt_ rp,i6_ (xs.length:Int)]) ([]:List (Nat×Obj)) Z Z Z Z xP Z (fun w1 hw1=>(pick_ok B w0 (([]:List (Nat×Obj))++hs) rp p bv L (xs.length:Int) w1 (fun w2 hw2=>hb w2 (qE (f:=([]:List (Nat×Obj))) hw2)) hL8 hL (by omega) hw1).mono fun en w' ⟨k',p',h1,h2,h3⟩=>⟨k',p',h1,h2,h3⟩) fun k9 p_9 hKp_9=>?_))))))))))
 show Ll _ _ (Own _ _ (_::hs)) _ _ ((9,i6_ k9)::_) _ _ _
 obtain ⟨h0k9,h1k9,hep_9⟩:=hKp_9
 try have hltk9:=h1k9 (by first | omega | (split <;> omega) | decide);refine qC (v:=.pointer (some (sAt va k9))) Z (yE Z yD zQ Z Z (by omega) (by rw [strs_length];omega) (fun w1 hw1=>hva _ (qE (f:=[_]) hw1))) (qC (v:=str (xs.getD ((k9).toNat) [])) Z (yC Z qG Z (fun w1 hw1=>Strs.cell (hva _ (qE (f:=[_]) hw1)) (by omega) (by omega))) (qQ 1 Z (zL (zC [4] [_] Z (qI (qK Z Z fun w' hw=>?_))))))
 exact ⟨_,p_9,rfl,⟨by rw [getD_at (by omega)];exact List.getElem_mem _,hep_9⟩,hw⟩
set_option maxHeartbeats 400000 in
theorem many_ok (s:List UInt8) (w:World) (n:Int) (hn0:0≤n) (hn:n≤100) (hs1:s.length=1) :
    Calls Tryd.prog 85 [str s,i6_ n].toArray w fun en w'=>∃ t:List UInt8,en=.returned (str t)∧(t.length≤40000)∧Below w.heap.size w w':=by
 refine fnStart (n:=20) (e:=[(0,str s),(1,i6_ n)]) Tryd.func85 Z Z Z Z Ends.both (zF (zB (zD (v:=str ([])) Z (yV Z Z) (zH (zC [0,1] [_,_] Z (zF (zB (zD (v:=str ([])) Z (yV Z Z) (zH (zC [0,1,5] [_,_,_] Z (zF (qT (xF (σ:=Nat×List UInt8×List UInt8×Int) (fun ⟨i,t,u,m⟩=>(0≤m∧m≤100)∧m.toNat*2 ^ i≤100∧u.length=2 ^ i∧t.length≤2 ^ i∧i≤7) (fun ⟨i,t,u,m⟩=>[(0,str u),(1,i6_ m),(5,str t)]) (fun ⟨i,t,u,m⟩=>Own w.heap.size w []) (fun ⟨i,t,u,m⟩=>m.toNat) (0,[],s,n) ⟨by omega,by omega,hs1,by simp,by omega⟩ (Sub.sel [0,1,5] Z) (fun _ h=>h) ?_)))))))))))))
 rintro ⟨i,t,u,m⟩ ⟨⟨hm0,hm9⟩,hm1,hu,ht,hi⟩
 dsimp only;refine zF (zF (zB (zA 2 Z (zH (zC [0,1,5,7] [_,_,_,_] Z (yA (b:=decide ((0:Int)<m)) Z (fun h7=>?_) (fun h7=>?_)))))))
 ·
  replace h7:=zV h7
  have h128:2 ^ i≤128:=Nat.le_trans (Nat.pow_le_pow_right (by decide) hi) (by decide);refine qR (zC [0,1,5] [_,_,_] Z (qT (zF (zF (zB (zA 1 Z (zD (v:=i6_ (m % (2:Int))) Z (OpQ.rem Z Z Z (by omega) (by decide)) (zA 1 Z (zH (zC [0,1,5,10] [_,_,_,_] Z (xI Z (fun h10=>?_) (fun h10=>?_))))))))))))
  ·
   refine zB (zA 2 Z (zD Z (qU Z Z Z (by first | omega | (simp only [zM,qL,qM];omega))) (zA 1 Z (zH (zC [0,1,5] [_,_,_] Z (zF (zB (zA 2 Z (zD Z (qU Z Z Z (by first | omega | (simp only [zM,qL,qM];omega))) (zA 1 Z (zH (zC [0,1,5] [_,_,_] Z (zB (zA 1 Z (zD (v:=i6_ (m / (2:Int))) Z (OpQ.quo Z Z Z (by omega) (by omega) (by decide)) (zA 1 Z (zH (qZ (i+1,t++u,u++u,m / (2:Int)) ⟨by dsimp only;omega,many_half hm0 hm1,by rw [zM,hu,Nat.pow_succ];omega,by dsimp only;(try rw [zM]);rw [Nat.pow_succ];omega,many_more hm1 (by omega)⟩ (by dsimp only;omega) (Sub.sel [0,1,5] Z) (fun _ h=>h)))))))))))))))))))
  refine qR (zC [0,1,5] [_,_,_] Z (zF (zB (zA 2 Z (zD Z (qU Z Z Z (by first | omega | (simp only [zM,qL,qM];omega))) (zA 1 Z (zH (zC [0,1,5] [_,_,_] Z (zB (zA 1 Z (zD (v:=i6_ (m / (2:Int))) Z (OpQ.quo Z Z Z (by omega) (by omega) (by decide)) (zA 1 Z (zH (qZ (i+1,t,u++u,m / (2:Int)) ⟨by dsimp only;omega,many_half hm0 hm1,by rw [zM,hu,Nat.pow_succ];omega,by dsimp only;(try rw [zM]);rw [Nat.pow_succ];omega,many_more hm1 (by omega)⟩ (by dsimp only;omega) (Sub.sel [0,1,5] Z) (fun _ h=>h)))))))))))))))
 replace h7:=zR h7;refine yY Z (zC [5] [_] Z (zF (zB (zA 2 Z (zH (zC [4] [_] Z (qI (qK Z Z fun w' hw=>?_))))))))
 exact ⟨t,rfl,Nat.le_trans ht (Nat.le_trans (Nat.pow_le_pow_right (by decide) hi) (by decide)),hw.below⟩
end Go.Proofs.YteccfipfimbdgaaDoor
namespace Go.Proofs.YteccfipfimbdgaaDoor
open Go.RowKit Go.Wk
set_option linter.unusedSimpArgs false
set_option maxHeartbeats 400000 in
theorem l5Atoms_ok (a:St) (va:Value) (xs:List Int) (w:World) (ha:a.Fine) (hva:Ints w va xs) (hA:a.Els xs) (hl7:xs.length≤7) :
    Calls Tryd.prog 147 [vS a,va].toArray w fun en w'=>en=.returned (str (atomBits a xs))∧Below w.heap.size w w':=by
 refine fnStart (n:=65) (e:=[(0,vS a),(1,va)]) Tryd.func147 Z Z Z Z Ends.both (zF (qD (yT (v:=vS a) Z Z Z Z Z fun p2 hp2=>?_)))
 show Ll _ _ (Own _ _ [_]) _ _ ((2,pt_ p2)::_) _ _ _;refine qC (v:=str ([])) Z (yV Z Z) (zL (zC [1,2] [_,_] Z (zF (zB (zD (v:=str ([])) Z (yV Z Z) (zH (zC [1,2,5] [_,_,_] Z (zF (zF (zB (zA 1 Z (zH (zC [1,2,5,6] [_,_,_,_] Z (qT (xF (σ:=Nat) (fun k=>k≤xs.length) (fun k=>[(1,va),(2,pt_ p2),(5,str (bitsTo a xs k)),(6,i6_ (k:Int))]) (fun k=>Own w.heap.size w [bk_ p2 #[i6_ a.n,str a.set,str a.rel] 24]) (fun k=>xs.length - k) (0) (by omega) (Sub.cons Z (Sub.cons Z (Sub.cons Z (Sub.sel [6] Z)))) (fun _ h=>h) ?_)))))))))))))))
 rintro k hk;refine zF (zF (zB (zA 2 Z (zD (v:=i6_ (xs.length:Int)) Z (yI Z zK Z (ints_length _) (fun w1 hw1=>Row.own hva hw1)) (zA 1 Z (zH (zC [1,2,5,6,11] [_,_,_,_,_] Z (yA (b:=decide ((k:Int)<(xs.length:Int))) Z (fun h11=>?_) (fun h11=>?_)))))))))
 ·
  replace h11:=zV h11
  have hb:=bits_small (a:=a) (xs:=xs) (i:=k) (by omega);refine qR (zC [1,2,5,6] [_,_,_,_] Z (zF (qT (zF (jS yJ (fun _ h=>h.drawn) (by kernel_rfl) (zA 1 Z (zD Z (zU (cs:=#[i6_ a.n,str a.set,str a.rel]) 0 Z zP Z Z zJ) (zA 2 Z (zD (v:=.pointer (some (sAt va (k:Int)))) Z (yE Z zK zY Z Z (by omega) (by rw [ints_length];omega) (fun w1 hw1=>Row.own hva hw1)) (zD (v:=i6_ (xs.getD ((k:Int).toNat) 0)) Z (yC Z qF Z (fun w1 hw1=>Ints.cell (Row.own hva hw1) (by omega) (by omega))) (zD (v:=bo_ (a.inSet (xs.getD ((k:Int).toNat) 0))) Z (qH Z Tryd.call116 Z zZ (fun w1 hw1=>l1Set_ok a (xs.getD ((k:Int).toNat) 0) w1 ha (by first | assumption | exact St.Els.at (by assumption) (by omega) (by omega)))) (zD (v:=str ((if a.inSet (xs.getD ((k:Int).toNat) 0) then [49] else [48]))) Z (qH Z yX Z zZ (fun w1 hw1=>bitD_ok (a.inSet (xs.getD ((k:Int).toNat) 0)) w1 )) (zD Z (qU Z Z Z (by simp only [zM,pairBits_length,bit_len,bitS_length,qL,qM];omega)) (zA 1 Z (zH (zC [1,2,5,6] [_,_,_,_] Z (zF (zB (zA 1 Z (zH (zC [1,2,5,6,7] [_,_,_,_,_] Z (qT (xF (σ:=Nat) (fun j=>j≤k+1) (fun j=>[(1,va),(2,pt_ p2),(5,str ((bitsTo a xs k++bitS (a.inSet (xs.getD k 0)))++pairBits a xs k j)),(6,i6_ (k:Int)),(7,i6_ (j:Int))]) (fun j=>Own w.heap.size w [bk_ p2 #[i6_ a.n,str a.set,str a.rel] 24]) (fun j=>k+1 - j) (0) (by omega) (Sub.cons Z (Sub.cons Z (Sub.cons (by simp [pairBits,List.lookup];rfl) (Sub.sel [6,7] Z)))) (fun _ h=>h) ?_)))))))))))))))))))))))
  rintro j hj;refine zF (zF (zB (zA 3 Z (zH (zC [1,2,5,6,7,25] [_,_,_,_,_,_] Z (xI Z (fun h25=>?_) (fun h25=>?_)))))))
  ·
   refine qR (zC [1,2,5,6,7] [_,_,_,_,_] Z ?_);refine zF (qT (jS yJ (fun _ h=>h.drawn) (by kernel_rfl) (zA 3 Z (zD (v:=.pointer (some (sAt va (k:Int)))) Z (yE Z zK zY Z Z (by omega) (by rw [ints_length];omega) (fun w1 hw1=>Row.own hva hw1)) (zD (v:=i6_ (xs.getD ((k:Int).toNat) 0)) Z (yC Z qF Z (fun w1 hw1=>Ints.cell (Row.own hva hw1) (by omega) (by omega))) (zA 2 Z (zD (v:=.pointer (some (sAt va (j:Int)))) Z (yE Z zK zY Z Z (by omega) (by rw [ints_length];omega) (fun w1 hw1=>Row.own hva hw1)) (zD (v:=i6_ (xs.getD ((j:Int).toNat) 0)) Z (yC Z qF Z (fun w1 hw1=>Ints.cell (Row.own hva hw1) (by omega) (by omega))) (zA 1 Z (zD (v:=str ((if decide ((xs.getD ((k:Int).toNat) 0)=(xs.getD ((j:Int).toNat) 0)) then [49] else [48]))) Z (qH Z yX Z zZ (fun w1 hw1=>bitD_ok (decide ((xs.getD ((k:Int).toNat) 0)=(xs.getD ((j:Int).toNat) 0))) w1 )) (zD Z (qU Z Z Z (by simp only [zM,pairBits_length,bit_len,bitS_length,qL,qM];omega)) (zD Z (zU (cs:=#[i6_ a.n,str a.set,str a.rel]) 0 Z zP Z Z zJ) (zA 2 Z (zD (v:=.pointer (some (sAt va (k:Int)))) Z (yE Z zK zY Z Z (by omega) (by rw [ints_length];omega) (fun w1 hw1=>Row.own hva hw1)) (zD (v:=i6_ (xs.getD ((k:Int).toNat) 0)) Z (yC Z qF Z (fun w1 hw1=>Ints.cell (Row.own hva hw1) (by omega) (by omega))) (zA 2 Z (zD (v:=.pointer (some (sAt va (j:Int)))) Z (yE Z zK zY Z Z (by omega) (by rw [ints_length];omega) (fun w1 hw1=>Row.own hva hw1)) (zD (v:=i6_ (xs.getD ((j:Int).toNat) 0)) Z (yC Z qF Z (fun w1 hw1=>Ints.cell (Row.own hva hw1) (by omega) (by omega))) (zD (v:=bo_ (a.inRel (xs.getD ((k:Int).toNat) 0) (xs.getD ((j:Int).toNat) 0))) Z (qH Z xV Z zZ (fun w1 hw1=>l1Rel_ok a (xs.getD ((k:Int).toNat) 0) (xs.getD ((j:Int).toNat) 0) w1 ha (by first | assumption | exact St.Els.at (by assumption) (by omega) (by omega)) (by first | assumption | exact St.Els.at (by assumption) (by omega) (by omega)))) (zD (v:=str ((if a.inRel (xs.getD ((k:Int).toNat) 0) (xs.getD ((j:Int).toNat) 0) then [49] else [48]))) Z (qH Z yX Z zZ (fun w1 hw1=>bitD_ok (a.inRel (xs.getD ((k:Int).toNat) 0) (xs.getD ((j:Int).toNat) 0)) w1 )) (zD Z (qU Z Z Z (by simp only [zM,pairBits_length,bit_len,bitS_length,qL,qM];omega)) (zD Z (zU (cs:=#[i6_ a.n,str a.set,str a.rel]) 0 Z zP Z Z zJ) (zA 2 Z (zD (v:=.pointer (some (sAt va (j:Int)))) Z (yE Z zK zY Z Z (by omega) (by rw [ints_length];omega) (fun w1 hw1=>Row.own hva hw1)) (zD (v:=i6_ (xs.getD ((j:Int).toNat) 0)) Z (yC Z qF Z (fun w1 hw1=>Ints.cell (Row.own hva hw1) (by omega) (by omega))) (zA 2 Z (zD (v:=.pointer (some (sAt va (k:Int)))) Z (yE Z zK zY Z Z (by omega) (by rw [ints_length];omega) (fun w1 hw1=>Row.own hva hw1)) (zD (v:=i6_ (xs.getD ((k:Int).toNat) 0)) Z (yC Z qF Z (fun w1 hw1=>Ints.cell (Row.own hva hw1) (by omega) (by omega))) (zD (v:=bo_ (a.inRel (xs.getD ((j:Int).toNat) 0) (xs.getD ((k:Int).toNat) 0))) Z (qH Z xV Z zZ (fun w1 hw1=>l1Rel_ok a (xs.getD ((j:Int).toNat) 0) (xs.getD ((k:Int).toNat) 0) w1 ha (by first | assumption | exact St.Els.at (by assumption) (by omega) (by omega)) (by first | assumption | exact St.Els.at (by assumption) (by omega) (by omega)))) (zD (v:=str ((if a.inRel (xs.getD ((j:Int).toNat) 0) (xs.getD ((k:Int).toNat) 0) then [49] else [48]))) Z (qH Z yX Z zZ (fun w1 hw1=>bitD_ok (a.inRel (xs.getD ((j:Int).toNat) 0) (xs.getD ((k:Int).toNat) 0)) w1 )) (zD Z (qU Z Z Z (by simp only [zM,pairBits_length,bit_len,bitS_length,qL,qM];omega)) (zA 1 Z (zH (zC [1,2,5,6,7] [_,_,_,_,_] Z (zB (zA 1 Z (zD Z (qV Z Z Z (by omega) (by omega)) (zA 1 Z (zH (qZ (j+1) (by omega) (by omega) (Sub.cons Z (Sub.cons Z (Sub.cons (by rw [pair_step];rfl) (Sub.sel [6,7] Z)))) (fun _ h=>h)))))))))))))))))))))))))))))))))))))))))
  refine yY Z (zC [1,2,5,6] [_,_,_,_] Z (zB (zA 1 Z (zD Z (qV Z Z Z (by omega) (by omega)) (zA 1 Z (zH (qZ (k+1) (by omega) (by omega) (Sub.cons Z (Sub.cons Z (Sub.cons (by rw [show j=k+1 from by omega];rfl) (Sub.sel [6] Z)))) (fun _ h=>h))))))))
 replace h11:=zR h11;refine yY Z (zC [5] [_] Z (zF (zB (zA 2 Z (zH (zC [4] [_] Z (qI (qK Z Z fun w' hw=>?_))))))))
 exact ⟨ret_s (by rw [show k=xs.length from by omega];rfl),hw.below⟩
end Go.Proofs.YteccfipfimbdgaaDoor
namespace Go.Proofs.YteccfipfimbdgaaDoor
open Go.RowKit Go.Wk
set_option linter.unusedSimpArgs false
set_option maxHeartbeats 400000 in
theorem l15Dec_ok (x:Int) (w:World) (h0:0≤x) (h1:x<1000000000000) :
    Calls Tryd.prog 47 [i6_ x].toArray w fun en w'=>en=.returned (str (decS x.toNat))∧Below w.heap.size w w':=by
 refine fnStart (n:=31) (e:=[(0,i6_ x)]) Tryd.func47 Z Z Z Z Ends.both ?_
 have hdl:=decS_len x.toNat 12 (show x.toNat<1000000000000 by omega) (by decide);refine zF (zB (zD (v:=str ([])) Z (yV Z Z) (zH (zC [0] [_] Z (zF (zF (zB (zA 2 Z (zH (zC [0,5] [_,_] Z (yA (b:=decide (x<(-9223372036854775807:Int))) Z (fun h5=>?_) (fun h5=>?_))))))))))))
 ·
  replace h5:=zV h5
  omega
 replace h5:=zR h5;refine qR (zC [0] [_] Z (zF (zF (zB (zA 2 Z (zH (zC [0,7] [_,_] Z (yA (b:=decide (x<(0:Int))) Z (fun h7=>?_) (fun h7=>?_)))))))))
 ·
  replace h7:=zV h7
  omega
 replace h7:=zR h7;refine qR (zC [0] [_] Z (zF (zB (zD (v:=str ([])) Z (yV Z Z) (zH (zC [0,3] [_,_] Z (zF (qT (xF (σ:=Nat×List UInt8) (fun ⟨n,o⟩=>decS x.toNat=decS n++o∧n≤x.toNat) (fun ⟨n,o⟩=>[(0,i6_ (n:Int)),(3,str o)]) (fun ⟨n,o⟩=>Own w.heap.size w []) (fun ⟨n,o⟩=>n) (x.toNat,[]) ⟨by simp,Nat.le_refl _⟩ (Sub.cons (by rw [Int.toNat_of_nonneg h0];rfl) (Sub.sel [3] Z)) (fun _ h=>h) ?_)))))))))
 rintro ⟨n,o⟩ ⟨ho,hn⟩
 dsimp only
 have hol:=dec_len ho hdl;refine zF (zF (zB (zA 2 Z (zH (zC [0,3,13] [_,_,_] Z (xI Z (fun h13=>?_) (fun h13=>?_)))))))
 ·
  refine qR (zC [0,3] [_,_] Z (qT (zF (qD (qQ 1 Z (qC (v:=i6_ ((n:Int) % (10:Int))) Z (OpQ.rem Z Z Z (by omega) (by decide)) (qC Z (qV Z Z Z (by omega) (by omega)) (qC (v:=.int .u8 ((48:Int)+((n:Int) % (10:Int)))) Z (xR .u8 Z xD yO Z (IntWalk.u8_in _ (by omega))) (yS (xs:=[.tmp 17]) (vs:=[.int .u8 ((48:Int)+((n:Int) % (10:Int)))]) Base.elem22 Z Z Z Z Z Z (by decide) Z fun p18 hp18=>(qC (v:=str ([UInt8.ofNat (48+n % 10)])) Z (OpQ.byteStr (b:=UInt8.ofNat (48+n % 10)) 0 Z Tryd.underlying22 yO qO Z Z (by rw [toNat_dig (by omega)];omega)) (qQ 1 Z (qC Z (qU Z Z Z (by first | omega | (simp only [zM,qL,qM];omega))) (qQ 1 Z (zL (zC [0,3] [_,_] Z (zB (zA 1 Z (zD (v:=i6_ ((n / 10:Nat):Int)) Z (qW (by simp) (OpQ.quo Z Z Z (by omega) (by omega) (by decide))) (zA 1 Z (zH (qZ (n / 10,[UInt8.ofNat (48+n % 10)]++o) ⟨dec_step ho (by omega),by omega⟩ (by omega) (Sub.sel [0,3] Z) (fun _ h=>h.tail))))))))))))))))))))))
 refine yY Z (zC [0,3] [_,_] Z (zF (qD (qQ 1 Z (qC Z (qV Z Z Z (by omega) (by omega)) (qC (v:=.int .u8 ((48:Int)+(n:Int))) Z (xR .u8 Z xD yO Z (IntWalk.u8_in _ (by omega))) (yS (xs:=[.tmp 26]) (vs:=[.int .u8 ((48:Int)+(n:Int))]) Base.elem22 Z Z Z Z Z Z (by decide) Z fun p27 hp27=>(qC (v:=str ([UInt8.ofNat (48+n)])) Z (OpQ.byteStr (b:=UInt8.ofNat (48+n)) 0 Z Tryd.underlying22 yO qO Z Z (by rw [toNat_dig (by omega)];omega)) (qQ 1 Z (qC Z (qU Z Z Z (by first | omega | (simp only [zM,qL,qM];omega))) (qQ 1 Z (zL (zC [2] [_] Z (qI (qK Z Z fun w' hw=>?_)))))))))))))))
 exact ⟨ret_s (by rw [ho,decS,if_pos (by omega)]),hw.below⟩
set_option maxHeartbeats 400000 in
theorem l5Insert_ok (B:Nat) (w0:World) (hs:List (Nat×Obj)) (g cap:Nat) (cur:Array Value) (xs:List Int) (m:Int) (w:World) (hc:cur.size=cap*1) (hle:xs.length≤cap) (ht:cur.toList.take xs.length=ints xs) (hs1:xs.length≤1000) (hw:Own B w0 ((g,.cells cur 3 (0,0))::hs) w) :
    Calls Tryd.prog 148 [sl_ g xs.length cap,i6_ m].toArray w fun en w'=>∃ (g' cap':Nat) (cur':Array Value),en=.returned (.slice (some ⟨g',0,none⟩) (insS xs m).length cap')∧(cur'.size=cap'*1∧(insS xs m).length≤cap'∧cur'.toList.take (insS xs m).length=ints (insS xs m))∧Own B w0 ((g',.cells cur' 3 (0,0))::hs) w':=by
 refine fnStartC (Own B w0 ((g,.cells cur 3 (0,0))::hs)) (n:=41) (e:=[(0,sl_ g xs.length cap),(1,i6_ m)]) Tryd.func148 Z Z Z Z Ends.both hw (zF (zB (zA 1 Z (zH (zC [0,1] [_,_] Z (zF (zF (zB (zA 1 Z (zH (zC [0,1,5] [_,_,_] Z (qT (xF (σ:=Nat) (fun k=>k≤xs.length∧∀ j:Nat,j<k→¬ xs.getD j 0=m∧¬ m<xs.getD j 0) (fun k=>[(0,sl_ g xs.length cap),(1,i6_ m),(5,i6_ (k:Int))]) (fun k=>Own B w0 (bk_ g cur 3::hs)) (fun k=>xs.length - k) (0) ⟨by omega,fun i hi=>absurd hi (by omega)⟩ (Sub.sel [0,1,5] Z) (fun _ h=>h) ?_)))))))))))))
 rintro k ⟨hk,hall⟩;refine zF (zF (zB (zA 2 Z (zD Z (jE Z zK Z) (zA 1 Z (zH (zC [0,1,5,9] [_,_,_,_] Z (yA (b:=decide ((k:Int)<(xs.length:Int))) Z (fun h9=>?_) (fun h9=>?_)))))))))
 ·
  replace h9:=zV h9
  have hk2:k<xs.length:=by omega
  refine qR (zC [0,1,5] [_,_,_] Z (zF (qT (zF (zF (zB (zA 2 Z (zD (v:=pf_ g k) Z (qW (by simp) (yK Z zK zY Z Z (by omega) (by omega))) (zD (v:=i6_ (xs.getD (k) 0)) Z (xN 0 Z qF Z Z (cur_at ht (ints_at2 (by omega)))) (zA 2 Z (zH (zC [0,1,5,17] [_,_,_,_] Z (xI Z (fun h17=>?_) (fun h17=>?_))))))))))))))
  ·
   refine zF (zB (zA 2 Z (zH (zC [4] [_] Z (qI (qK Z Z fun w' hw=>?_))))))
   have e:=insS_at (n:=m) hk2 hall (by simpa using h17)
   exact ⟨g,cap,cur,by rw [e],⟨hc,by rw [e];exact hle,by rw [e];exact ht⟩,hw⟩
  refine qR (zC [0,1,5] [_,_,_] Z (zF (zB (zA 2 Z (zD (v:=pf_ g k) Z (qW (by simp) (yK Z zK zY Z Z (by omega) (by omega))) (zD (v:=i6_ (xs.getD (k) 0)) Z (xN 0 Z qF Z Z (cur_at ht (ints_at2 (by omega)))) (zA 2 Z (zH (zC [0,1,5,24] [_,_,_,_] Z (xI Z (fun h24=>?_) (fun h24=>?_)))))))))))
  ·
   refine zF (Wk.regionT (S:=Own B w0 [bk_ g cur 3]) (.take 1 (.take 2 (.take 3 (.take 5 (.take 8 (.take 9 (.take 10 (.two 0 (.two 4 (.one 6 (.one 7 (.one 11 (.take 12 .done)))) 6 (.one 4 (.one 7 (.one 11 (.take 12 .done))))) 6 (.one 0 (.one 4 (.one 7 (.one 11 (.take 12 .done))))))))))))) yJ (fun _ h=>h.drawn) (by kernel_rfl) (Lt.run 2 Z (pk [0] Z Z) (jI (v:=sl_ g ((k:Int).toNat) cap) Z Z Z Z Z (OpQ.takeS (i:=(k:Int)) Z zK zY Z Z (by omega) (by omega)) (pk [0] Z Z) (Lt.run 3 Z (pk [0] Z Z) (jI (v:=.slice (some ⟨g,(k:Int).toNat,none⟩) (xs.length - (k:Int).toNat) (cap - (k:Int).toNat)) Z Z Z Z Z (OpQ.dropS Z zK zY Z Z (by omega) (by omega) (by omega)) (pk [0] Z Z) (Lt.two Z Z ?_ ?_))))))
   ·
    refine yS (xs:=[]) (vs:=[]) qS Z Z Z Z Z Z (by decide) Z fun p25 hp25=>(zL (xH (pk [1] Z Z) ?_));refine Lt.two Z Z ?_ ?_
    ·
     refine yG (xs:=[]) (ys:=(xs).take ((k:Int).toNat)) qS 0 Z Z Z Z Z Z Z Z (by decide) Z (fun w1 hw1=>(Own.rowTake hw1 (i:=1) Z ht (by omega) hle)) (((xs).take ((k:Int).toNat)).length) (by first | (simp;done) | (simp;omega)) (by first | (simp;done) | (simp;omega) | omega) fun p29 cap29 cur29 hp29 hcp29 hlp29 htp29=>?_
     show Ll _ _ (Own _ _ (_::_::hs)) _ _ ((29,sl_ p29 ((((xs).take ((k:Int).toNat)).length)) cap29)::_) _ _ _;refine zL (xH (pk [1] Z Z) ?_);refine xY Z (yS (xs:=[.tmp 30]) (vs:=[i6_ m]) qS Z Z Z Z Z Z (by decide) Z fun p31 hp31=>(zL (xH (pk [2] Z Z) ?_)));refine xY Z (yG (xs:=(xs).take ((k:Int).toNat)) (ys:=[m]) qS 1 Z Z Z Z Z Z Z hcp29 hlp29 (by simpa using htp29) (fun w1 hw1=>(yH hw1 (i:=0) Z (n:=1) (cap:=1) (vs:=ints [m]) Z Z (by decide))) ((((xs).take ((k:Int).toNat))++([m])).length) (by first | (simp;done) | (simp;omega)) (by first | (simp;done) | (simp;omega) | omega) fun p32 cap32 cur32 hp32 hcp32 hlp32 htp32=>?_)
     show Ll _ _ (Own _ _ (_::_::_::hs)) _ _ ((32,sl_ p32 (((((xs).take ((k:Int).toNat))++([m])).length)) cap32)::_) _ _ _;refine zL (xH (pk [2] Z Z) ?_);refine xY Z (yG (xs:=((xs).take ((k:Int).toNat))++([m])) (ys:=(xs).drop ((k:Int).toNat)) qS 1 Z Z Z Z Z Z Z hcp32 hlp32 (by simpa using htp32) (fun w1 hw1=>(Own.rowDrop hw1 (i:=2) Z ht (by omega) hle)) (((((xs).take ((k:Int).toNat))++([m]))++((xs).drop ((k:Int).toNat))).length) (by first | (simp;done) | (simp;omega)) (by first | (simp;done) | (simp;omega) | omega) fun p36 cap36 cur36 hp36 hcp36 hlp36 htp36=>?_)
     show Ll _ _ (Own _ _ (_::_::_::hs)) _ _ ((36,sl_ p36 ((((((xs).take ((k:Int).toNat))++([m]))++((xs).drop ((k:Int).toNat))).length)) cap36)::_) _ _ _;refine zL (xH (pk [2] Z Z) ?_);refine Lt.run 1 Z (pk [2] Z Z) (Lt.nil (zC [4] [_] Z (qI (qK Z Z fun w' hw=>?_))))
     have e:=insS_mid (n:=m) hk2 hall (by simpa using h24)
     simp only [Int.toNat_natCast,Nat.mul_one] at *
     exact ⟨p36,cap36,cur36,by rw [e],⟨by simpa using hcp36,by rw [e];exact hlp36,by rw [e];exact htp36⟩,hw.sub (zW _ (zG _ (zW _ (qJ _))))⟩
    refine yS (xs:=[.tmp 30]) (vs:=[i6_ m]) qS Z Z Z Z Z Z (by decide) Z fun p31_1 hp31_1=>(zL (xH (pk [2] Z Z) ?_));refine xY Z (yG (xs:=[]) (ys:=(xs).take ((k:Int).toNat)) qS 1 Z Z Z Z Z Z Z Z (by decide) Z (fun w1 hw1=>(Own.rowTake hw1 (i:=2) Z ht (by omega) hle)) (((xs).take ((k:Int).toNat)).length) (by first | (simp;done) | (simp;omega)) (by first | (simp;done) | (simp;omega) | omega) fun p29_1 cap29_1 cur29_1 hp29_1 hcp29_1 hlp29_1 htp29_1=>?_)
    show Ll _ _ (Own _ _ (_::_::_::hs)) _ _ ((29,sl_ p29_1 ((((xs).take ((k:Int).toNat)).length)) cap29_1)::_) _ _ _;refine zL (xH (pk [2] Z Z) ?_);refine xY Z (yG (xs:=(xs).take ((k:Int).toNat)) (ys:=[m]) qS 1 Z Z Z Z Z Z Z hcp29_1 hlp29_1 (by simpa using htp29_1) (fun w1 hw1=>(yH hw1 (i:=0) Z (n:=1) (cap:=1) (vs:=ints [m]) Z Z (by decide))) ((((xs).take ((k:Int).toNat))++([m])).length) (by first | (simp;done) | (simp;omega)) (by first | (simp;done) | (simp;omega) | omega) fun p32_1 cap32_1 cur32_1 hp32_1 hcp32_1 hlp32_1 htp32_1=>?_)
    show Ll _ _ (Own _ _ (_::_::_::hs)) _ _ ((32,sl_ p32_1 (((((xs).take ((k:Int).toNat))++([m])).length)) cap32_1)::_) _ _ _;refine zL (xH (pk [2] Z Z) ?_);refine xY Z (yG (xs:=((xs).take ((k:Int).toNat))++([m])) (ys:=(xs).drop ((k:Int).toNat)) qS 1 Z Z Z Z Z Z Z hcp32_1 hlp32_1 (by simpa using htp32_1) (fun w1 hw1=>(Own.rowDrop hw1 (i:=2) Z ht (by omega) hle)) (((((xs).take ((k:Int).toNat))++([m]))++((xs).drop ((k:Int).toNat))).length) (by first | (simp;done) | (simp;omega)) (by first | (simp;done) | (simp;omega) | omega) fun p36_1 cap36_1 cur36_1 hp36_1 hcp36_1 hlp36_1 htp36_1=>?_)
    show Ll _ _ (Own _ _ (_::_::_::hs)) _ _ ((36,sl_ p36_1 ((((((xs).take ((k:Int).toNat))++([m]))++((xs).drop ((k:Int).toNat))).length)) cap36_1)::_) _ _ _;refine zL (xH (pk [2] Z Z) ?_);refine Lt.run 1 Z (pk [2] Z Z) (Lt.nil (zC [4] [_] Z (qI (qK Z Z fun w' hw=>?_))))
    have e:=insS_mid (n:=m) hk2 hall (by simpa using h24)
    simp only [Int.toNat_natCast,Nat.mul_one] at *
    exact ⟨p36_1,cap36_1,cur36_1,by rw [e],⟨by simpa using hcp36_1,by rw [e];exact hlp36_1,by rw [e];exact htp36_1⟩,hw.sub (zW _ (zG _ (zW _ (qJ _))))⟩
   refine yS (xs:=[.tmp 30]) (vs:=[i6_ m]) qS Z Z Z Z Z Z (by decide) Z fun p31_2 hp31_2=>(zL (xH (pk [1] Z Z) ?_));refine xY Z (yS (xs:=[]) (vs:=[]) qS Z Z Z Z Z Z (by decide) Z fun p25_1 hp25_1=>(zL (xH (pk [2] Z Z) ?_)));refine xY Z (yG (xs:=[]) (ys:=(xs).take ((k:Int).toNat)) qS 0 Z Z Z Z Z Z Z Z (by decide) Z (fun w1 hw1=>(Own.rowTake hw1 (i:=2) Z ht (by omega) hle)) (((xs).take ((k:Int).toNat)).length) (by first | (simp;done) | (simp;omega)) (by first | (simp;done) | (simp;omega) | omega) fun p29_2 cap29_2 cur29_2 hp29_2 hcp29_2 hlp29_2 htp29_2=>?_)
   show Ll _ _ (Own _ _ (_::_::_::hs)) _ _ ((29,sl_ p29_2 ((((xs).take ((k:Int).toNat)).length)) cap29_2)::_) _ _ _;refine zL (xH (pk [2] Z Z) ?_);refine xY Z (yG (xs:=(xs).take ((k:Int).toNat)) (ys:=[m]) qS 0 Z Z Z Z Z Z Z hcp29_2 hlp29_2 (by simpa using htp29_2) (fun w1 hw1=>(yH hw1 (i:=1) Z (n:=1) (cap:=1) (vs:=ints [m]) Z Z (by decide))) ((((xs).take ((k:Int).toNat))++([m])).length) (by first | (simp;done) | (simp;omega)) (by first | (simp;done) | (simp;omega) | omega) fun p32_2 cap32_2 cur32_2 hp32_2 hcp32_2 hlp32_2 htp32_2=>?_)
   show Ll _ _ (Own _ _ (_::_::_::hs)) _ _ ((32,sl_ p32_2 (((((xs).take ((k:Int).toNat))++([m])).length)) cap32_2)::_) _ _ _;refine zL (xH (pk [2] Z Z) ?_);refine xY Z (yG (xs:=((xs).take ((k:Int).toNat))++([m])) (ys:=(xs).drop ((k:Int).toNat)) qS 0 Z Z Z Z Z Z Z hcp32_2 hlp32_2 (by simpa using htp32_2) (fun w1 hw1=>(Own.rowDrop hw1 (i:=2) Z ht (by omega) hle)) (((((xs).take ((k:Int).toNat))++([m]))++((xs).drop ((k:Int).toNat))).length) (by first | (simp;done) | (simp;omega)) (by first | (simp;done) | (simp;omega) | omega) fun p36_2 cap36_2 cur36_2 hp36_2 hcp36_2 hlp36_2 htp36_2=>?_)
   show Ll _ _ (Own _ _ (_::_::_::hs)) _ _ ((36,sl_ p36_2 ((((((xs).take ((k:Int).toNat))++([m]))++((xs).drop ((k:Int).toNat))).length)) cap36_2)::_) _ _ _;refine zL (xH (pk [2] Z Z) ?_);refine Lt.run 1 Z (pk [2] Z Z) (Lt.nil (zC [4] [_] Z (qI (qK Z Z fun w' hw=>?_))))
   have e:=insS_mid (n:=m) hk2 hall (by simpa using h24)
   simp only [Int.toNat_natCast,Nat.mul_one] at *
   exact ⟨p36_2,cap36_2,cur36_2,by rw [e],⟨by simpa using hcp36_2,by rw [e];exact hlp36_2,by rw [e];exact htp36_2⟩,hw.sub (zG _ (zW _ (zW _ (qJ _))))⟩
  refine qR (zC [0,1,5] [_,_,_] Z (zB (zA 1 Z (zD Z (qV Z Z Z (by omega) (by omega)) (zA 1 Z (zH (qZ (k+1) ⟨by omega,fun i hi=>(Nat.lt_succ_iff_lt_or_eq.1 hi).elim (hall i) (fun e=>by subst e;exact ⟨by simpa using h17,by simpa using h24⟩)⟩ (by omega) (Sub.sel [0,1,5] Z) (fun _ h=>h))))))))
 replace h9:=zR h9;refine yY Z (zC [0,1] [_,_] Z (zF (qD (qQ 2 Z (yS (xs:=[.tmp 38]) (vs:=[i6_ m]) qS Z Z Z Z Z Z (by decide) Z fun p39 hp39=>(yG (xs:=xs) (ys:=[m]) qS 1 Z Z Z Z Z Z Z hc hle ht (fun w1 hw1=>(yH hw1 (i:=0) Z (n:=1) (cap:=1) (vs:=ints [m]) Z Z (by decide))) ((xs++([m])).length) (by first | (simp;done) | (simp;omega)) (by first | (simp;done) | (simp;omega) | omega) fun p40 cap40 cur40 hp40 hcp40 hlp40 htp40=>?_))))))
 show Ll _ _ (Own _ _ (_::_::hs)) _ _ ((40,sl_ p40 (((xs++([m])).length)) cap40)::_) _ _ _;refine qQ 1 Z (zL (zC [4] [_] Z (qI (qK Z Z fun w' hw=>?_))))
 have e:=insS_end (l:=xs) (n:=m) (fun j hj=>hall j (by omega))
 simp only [Int.toNat_natCast,Nat.mul_one] at *
 exact ⟨p40,cap40,cur40,by rw [e],⟨by simpa using hcp40,by rw [e];exact hlp40,by rw [e];exact htp40⟩,hw.sub (zW _ (zG _ (qJ _)))⟩
set_option maxHeartbeats 400000 in
theorem l5New_ok (B:Nat) (w0:World) (hs:List (Nat×Obj)) (w:World) (hw:Own B w0 hs w) :
    Calls Tryd.prog 90 [].toArray w fun en w'=>∃ q c:Nat,en=.returned (.agg #[.slice (some ⟨q,0,none⟩) 997 997,.slice (some ⟨c,0,none⟩) 1 1])∧Own B w0 (tabL 182 3 184 q c (List.replicate 997 none) []++hs) w':=by
 refine fnStartC (Own B w0 hs) (n:=4) (e:=[]) Tryd.func90 Z Z Z Z Ends.both hw (zF (qD (xW Z Z Z Z Tryd.zeroValue112 fun p0 hp0=>?_)))
 show Ll _ _ (Own _ _ (bk_ p0 #[.slice none 0 0,.slice none 0 0] 112::hs)) _ _ ((0,pt_ p0)::_) _ _ _;refine zL (zC [0] [_] Z (zF (qD (Ll.make (k:=997) Base.elem110 Tryd.zeroValue182 Z Z Z Z Z (by omega) fun p1 hp1=>?_))))
 rw [show madeCells (Value.cells (.slice none 0 0)) (997*1)=(List.replicate 997 (.slice none 0 0)).toArray from made_list _ _ rfl];refine yS (xs:=[.const (i6_ 0)]) (vs:=[i6_ 0]) qS Z Z Z Z Z Z (by decide) Z fun p2 hp2=>(qC (v:=.agg #[sl_ p1 997 997,sl_ p2 1 1]) Z (OpQ.build (xs:=[.tmp 1,.tmp 2]) (vs:=[sl_ p1 997 997,sl_ p2 1 1]) Z Z (by kernel_rfl)) (yL (cs':=#[sl_ p1 997 997,sl_ p2 1 1]) (hs':=(_::_::bk_ p0 #[sl_ p1 997 997,sl_ p2 1 1] 112::hs)) 2 Z Z Z Z Z (by kernel_rfl:_=some Tryd.t112) Z Z Z Z Z (zL (zC [0] [_] Z (qI (Kt.endBox (cs:=#[sl_ p1 997 997,sl_ p2 1 1]) 2 Z Z Z Tryd.isAgg112 Tryd.sizeOf112 fun w' hw=>?_))))));refine ⟨p1,p2,rfl,?_⟩
 show Own B w0 (_::_::(blks _ _++hs)) w'
 rw [blks_new,← new_bkts]
 exact (hw.perm (List.Perm.swap _ _ _)).sub (zG _ (zG _ (zW _ (qJ _))))
set_option maxHeartbeats 400000 in
theorem number_nil (B:Nat) (w0:World) (hs:List (Nat×Obj)) (q c:Nat) (bs:List Bkt) (T:List (List UInt8)) (s:List UInt8) (w:World) (hT:TabOk bs T) (hlT:T.length≤1000000) (hls:s.length≤1000) (hb:bs.getD (hashS s) none=none) (hw:Own B w0 (bk_ q ((bs.map bktV).toArray) 182::bk_ c #[i6_ (T.length:Int)] 3::hs) w) :
    Calls Tryd.prog 123 [.agg #[sl_ q 997 997,sl_ c 1 1],str s].toArray w fun en w'=>en=.returned (.int .i64 (T.length:Int))∧s ∉ T∧∃ (g' cap':Nat) (cur':Array Value),cur'.size=cap'*2∧1≤cap'∧cur'.toList.take (1*2)=entC (s,T.length)∧Own B w0 ((g',.cells cur' 184 (0,0))::(q,.cells ((bs.set (hashS s) (some (g',1,cap',cur'))).map bktV).toArray 182 (0,0))::(c,.cells #[.int .i64 ((T.length:Int)+1)] 3 (0,0))::hs) w':=by
 refine fnStartC (Own B w0 (bk_ q ((bs.map bktV).toArray) 182::bk_ c #[i6_ (T.length:Int)] 3::hs)) (n:=77) (e:=[(0,.agg #[sl_ q 997 997,sl_ c 1 1]),(1,str s)]) Tryd.func123 Z Z Z Z Ends.both hw ?_
 have h997:=hash_lt s
 have hkl:hashS s<bs.length:=by rw [hT.len];exact h997
 have hE:=hT.no _ h997 hb
 have hEl:(ents T (hashS s)).length=0:=by rw [hE];rfl
 refine zF (qD (yT (v:=.agg #[sl_ q 997 997,sl_ c 1 1]) Z Z Z Z Z fun p2 hp2=>?_))
 show Ll _ _ (Own _ _ (_::_::_::hs)) _ _ ((2,pt_ p2)::_) _ _ _;refine qQ 1 Z (zL (zC [1,2] [_,_] Z (zF (zB (zA 1 Z (zH (zC [1,2,5] [_,_,_] Z (zF (zF (zB (zA 1 Z (zH (zC [1,2,5,6] [_,_,_,_] Z (qT (xF (σ:=Nat) (fun k=>k≤s.length) (fun k=>[(1,str s),(2,pt_ p2),(5,i6_ (((hashS (s.take k):Nat):Int))),(6,i6_ (k:Int))]) (fun k=>Own B w0 (bk_ p2 #[sl_ q 997 997,sl_ c 1 1] 112::bk_ q ((bs.map bktV).toArray) 182::bk_ c #[i6_ (T.length:Int)] 3::hs)) (fun k=>s.length - k) (0) (by omega) (Sub.cons Z (Sub.cons Z (Sub.cons Z (Sub.sel [6] Z)))) (fun _ h=>h) ?_)))))))))))))))
 rintro k hk;refine zF (zF (zB (zA 2 Z (zD (v:=i6_ (s.length:Int)) Z (xK Z qA Z) (zA 1 Z (zH (zC [1,2,5,6,12] [_,_,_,_,_] Z (yA (b:=decide ((k:Int)<(s.length:Int))) Z (fun h12=>?_) (fun h12=>?_)))))))))
 ·
  replace h12:=zV h12
  have hk2:k<s.length:=by omega
  have hkh:=hash_lt (s.take k)
  have hby:=UInt8.toNat_lt (s.getD k 0);refine qR (zC [1,2,5,6] [_,_,_,_] Z (zF (qT (zB (zA 1 Z (zD Z (jP Z Z Z (by omega) (by omega)) (zA 2 Z (zD (v:=.int .u8 (((s.getD ((k:Int).toNat) 0).toNat:Int))) Z (yB Z qA Z Z (by omega) (by omega)) (zD (v:=i6_ (((s.getD ((k:Int).toNat) 0).toNat:Int))) Z (xR .i64 Z yO xD Z (IntWalk.i64_in _ (by have:=UInt8.toNat_lt (s.getD ((k:Int).toNat) 0);omega))) (zD Z (qV Z Z Z (by simp only [Int.toNat_natCast];omega) (by simp only [Int.toNat_natCast];omega)) (zD (v:=i6_ (((hashS (s.take (k+1)):Nat):Int))) Z (qW (by rw [Wk.hash_step hk2];simp) (OpQ.rem Z Z Z (by omega) (by decide))) (zA 1 Z (zH (zC [1,2,5,6] [_,_,_,_] Z (zB (zA 1 Z (zD Z (qV Z Z Z (by omega) (by omega)) (zA 1 Z (zH (qZ (k+1) (by omega) (by omega) (Sub.sel [1,2,5,6] Z) (fun _ h=>h)))))))))))))))))))))
 replace h12:=zR h12
 obtain rfl:k=s.length:=by omega
 rw [List.take_length];refine yY Z (zC [1,2,5] [_,_,_] Z (zF (zF (zB (zA 1 Z (zH (zC [1,2,5,7] [_,_,_,_] Z (qT (xF (σ:=Nat) (fun j=>j≤0∧∀ i:Nat,i<j→¬ ((ents T (hashS s)).getD i ([],0)).1=s) (fun j=>[(1,str s),(2,pt_ p2),(5,i6_ ((hashS s:Nat):Int)),(7,i6_ (j:Int))]) (fun j=>Own B w0 (bk_ p2 #[sl_ q 997 997,sl_ c 1 1] 112::bk_ q ((bs.map bktV).toArray) 182::bk_ c #[i6_ (T.length:Int)] 3::hs)) (fun j=>0 - j) (0) ⟨by omega,fun i hi=>absurd hi (by omega)⟩ (Sub.sel [1,2,5,7] Z) (fun _ h=>h) ?_)))))))))
 rintro j ⟨hj0,hall⟩;refine zF (zF (zB (zA 1 Z (zD Z (zN Z yU Z jF Z Z) (zD Z (zS 0 Z jK Z Z Z) (zA 1 Z (zD (v:=pf_ q (hashS s)) Z (qW (by simp) (yK Z xG xJ Z Z (by omega) (by omega))) (zD (v:=.slice none 0 0) Z (xN (v:=.slice none 0 0) 1 Z jL Z Z (bkt_at (b:=none) hkl hb)) (zD Z (jE Z Tryd.runUnderlying182 Z) (zA 1 Z (zH (zC [1,2,5,7,30] [_,_,_,_,_] Z (yA (b:=decide ((j:Int)<(0:Int))) Z (fun h30=>?_) (fun h30=>?_))))))))))))))
 ·
  replace h30:=zV h30
  omega
 replace h30:=zR h30;refine yY Z (zC [1,2,5] [_,_,_] Z (zF (zB (zD Z (zN Z yU Z Tryd.sizeOf30 Z Z) (zD Z (zS 0 Z Tryd.isAgg30 Z Z Z) (zD (v:=pt_ c) Z (qW Z (yK (i:=0) Z zK zY Z Z (by decide) (by decide))) (zD Z (zS 2 Z qF Z Z Z) (zA 1 Z (zH (zC [1,2,5,8] [_,_,_,_] Z (zF (qD (qC Z (zN Z yU Z Tryd.sizeOf30 Z Z) (qC Z (zS 0 Z Tryd.isAgg30 Z Z Z) (qQ 1 Z (qC Z (qV Z Z Z (by omega) (by omega)) (qC (v:=pt_ c) Z (qW Z (yK (i:=0) Z zK zY Z Z (by decide) (by decide))) (qY (v:=i6_ ((T.length:Int)+(1:Int))) (hs':=(_::_::bk_ c #[i6_ ((T.length:Int)+(1:Int))] 3::hs)) 2 Z Z Z Z Z Z zY Z (by simp) Z (zL (zC [1,2,5,8] [_,_,_,_] Z (zF (Wk.regionT (S:=Own B w0 [bk_ p2 #[sl_ q 997 997,sl_ c 1 1] 112,bk_ c #[i6_ ((T.length:Int)+(1:Int))] 3]) (.take 0 (.take 1 (.take 2 (.take 3 (.take 4 (.take 5 (.take 6 (.take 8 (.take 9 (.take 10 (.two 7 (.one 11 (.one 12 (.take 13 (.one 14 .done)))) 11 (.one 7 (.one 12 (.take 13 (.one 14 .done))))))))))))))) yJ (fun _ h=>h.drawn) (by kernel_rfl) (jI Z Z Z Z Z (zN Z yU Z jF Z Z) (pk [0,2] Z Z) (jI Z Z Z Z Z (zS 0 Z jK Z Z Z) (pk [0,2] Z Z) (Lt.run 1 Z (pk [0,2] Z Z) (jI Z Z Z Z Z (zN Z yU Z jF Z Z) (pk [0,2] Z Z) (jI Z Z Z Z Z (zS 0 Z jK Z Z Z) (pk [0,2] Z Z) (Lt.run 1 Z (pk [0,2] Z Z) (jI (v:=pf_ q (hashS s)) Z Z Z Z Z (qW (by simp) (yK Z xG xJ Z Z (by omega) (by omega))) (pk [0,2] Z Z) (Lt.run 2 Z (pk [0,2] Z Z) (jI (v:=.agg #[str s,i6_ (T.length:Int)]) Z Z Z Z Z (OpQ.build (xs:=[.tmp 70,.tmp 71]) (vs:=[str s,i6_ (T.length:Int)]) Z Z (by kernel_rfl)) (pk [0,2] Z Z) (Lt.two Z Z ?_ ?_))))))))))))))))))))))))))))))))
 ·
  refine qC (v:=.slice none 0 0) Z (xN (v:=.slice none 0 0) 1 Z jL Z Z (bkt_at (b:=none) hkl hb)) (zL (xH (pk [0,2] Z Z) ?_));refine xY Z (Ll.slice2 jN Z Z Z Z Z fun p73 hp73=>(zL (xH (pk [1,3] Z Z) ?_)));refine xY Z (Ll.appendNil jN (entC (s,T.length)) Z Z Z Z Z Z (by decide) (by simp) Z (fun w1 hw1 ad had j u hj=>by injection had with had;subst had;rw [Addr.add_lit,Nat.zero_add,hw1.cell (i:=0) rfl];simpa [entC] using hj) (by decide) fun g2 cap2 cur2 hg2 hcg2 hlg2 htg2=>?_)
  show Ll _ _ (Own _ _ (_::_::_::_::_::hs)) _ _ ((74,sl_ g2 1 cap2)::_) _ _ _;refine zL (xH (pk [2,4] Z Z) ?_);refine jI (v:=pf_ q (hashS s)) Z Z Z Z Z (qW (by simp) (yK Z xG xJ Z Z (by omega) (by omega))) (pk [2,4] Z Z) (xY Z (qY (v:=sl_ g2 1 cap2) (hs':=(_::_::_::bk_ q (((bs.set (hashS s) (some (g2,1,cap2,cur2))).map bktV).toArray) 182::_::hs)) 3 Z Z Z Z Z Z xJ Z (by simpa using hkl) (by rw [← set_bkt];rfl) (zL (xH (pk [2,4] Z Z) ?_))));refine Lt.nil (zC [8] [_] Z (zF (zB (zA 2 Z (zH (zC [4] [_] Z (qI (qK Z Z fun w' hw=>?_))))))))
  exact ⟨rfl,ents_not (fun e he=>by obtain ⟨i,hi,rfl⟩:=List.mem_iff_getElem.1 he;have:=hall i (by omega);rwa [getD_at hi] at this),g2,cap2,cur2,hcg2,hlg2,htg2,hw.sub (zG _ (zW _ (zW _ (zG _ (zG _ (qJ _))))))⟩
 refine Ll.slice2 jN Z Z Z Z Z fun p73_1 hp73_1=>(zL (xH (pk [1,3] Z Z) ?_));refine xY Z (qC (v:=.slice none 0 0) Z (xN (v:=.slice none 0 0) 2 Z jL Z Z (bkt_at (b:=none) hkl hb)) (zL (xH (pk [1,3] Z Z) ?_)));refine xY Z (Ll.appendNil jN (entC (s,T.length)) Z Z Z Z Z Z (by decide) (by simp) Z (fun w1 hw1 ad had j u hj=>by injection had with had;subst had;rw [Addr.add_lit,Nat.zero_add,hw1.cell (i:=0) rfl];simpa [entC] using hj) (by decide) fun g2_1 cap2_1 cur2_1 hg2_1 hcg2_1 hlg2_1 htg2_1=>?_)
 show Ll _ _ (Own _ _ (_::_::_::_::_::hs)) _ _ ((74,sl_ g2_1 1 cap2_1)::_) _ _ _;refine zL (xH (pk [2,4] Z Z) ?_);refine jI (v:=pf_ q (hashS s)) Z Z Z Z Z (qW (by simp) (yK Z xG xJ Z Z (by omega) (by omega))) (pk [2,4] Z Z) (xY Z (qY (v:=sl_ g2_1 1 cap2_1) (hs':=(_::_::_::bk_ q (((bs.set (hashS s) (some (g2_1,1,cap2_1,cur2_1))).map bktV).toArray) 182::_::hs)) 3 Z Z Z Z Z Z xJ Z (by simpa using hkl) (by rw [← set_bkt];rfl) (zL (xH (pk [2,4] Z Z) ?_))));refine Lt.nil (zC [8] [_] Z (zF (zB (zA 2 Z (zH (zC [4] [_] Z (qI (qK Z Z fun w' hw=>?_))))))))
 exact ⟨rfl,ents_not (fun e he=>by obtain ⟨i,hi,rfl⟩:=List.mem_iff_getElem.1 he;have:=hall i (by omega);rwa [getD_at hi] at this),g2_1,cap2_1,cur2_1,hcg2_1,hlg2_1,htg2_1,hw.sub (zG _ (zW _ (zW _ (zG _ (zG _ (qJ _))))))⟩
set_option maxHeartbeats 400000 in
theorem number_some (B:Nat) (w0:World) (hs:List (Nat×Obj)) (q c:Nat) (bs:List Bkt) (T:List (List UInt8)) (s:List UInt8) (w:World) (hT:TabOk bs T) (hlT:T.length≤1000000) (hls:s.length≤1000) (g m cap:Nat) (cur:Array Value) (hb:bs.getD (hashS s) none=some (g,m,cap,cur)) (hw:Own B w0 (bk_ g cur 184::bk_ q ((bs.map bktV).toArray) 182::bk_ c #[i6_ (T.length:Int)] 3::hs) w) :
    Calls Tryd.prog 123 [.agg #[sl_ q 997 997,sl_ c 1 1],str s].toArray w fun en w'=>(∃ n:Nat,en=.returned (.int .i64 (n:Int))∧T[n]?=some s∧Own B w0 (bk_ g cur 184::bk_ q ((bs.map bktV).toArray) 182::bk_ c #[i6_ (T.length:Int)] 3::hs) w')∨(en=.returned (.int .i64 (T.length:Int))∧s ∉ T∧∃ (g' cap':Nat) (cur':Array Value),cur'.size=cap'*2∧m+1≤cap'∧cur'.toList.take ((m+1)*2)=flatE (ents T (hashS s))++entC (s,T.length)∧Own B w0 ((g',.cells cur' 184 (0,0))::(q,.cells ((bs.set (hashS s) (some (g',m+1,cap',cur'))).map bktV).toArray 182 (0,0))::(c,.cells #[.int .i64 ((T.length:Int)+1)] 3 (0,0))::hs) w'):=by
 refine fnStartC (Own B w0 (bk_ g cur 184::bk_ q ((bs.map bktV).toArray) 182::bk_ c #[i6_ (T.length:Int)] 3::hs)) (n:=77) (e:=[(0,.agg #[sl_ q 997 997,sl_ c 1 1]),(1,str s)]) Tryd.func123 Z Z Z Z Ends.both hw ?_
 have h997:=hash_lt s
 have hkl:hashS s<bs.length:=by rw [hT.len];exact h997
 obtain ⟨hm,hc,hle,ht⟩:=hT.yes _ h997 _ _ _ _ hb
 have hmT:=ents_le T (hashS s);refine zF (qD (yT (v:=.agg #[sl_ q 997 997,sl_ c 1 1]) Z Z Z Z Z fun p2 hp2=>?_))
 show Ll _ _ (Own _ _ (_::_::_::_::hs)) _ _ ((2,pt_ p2)::_) _ _ _;refine qQ 1 Z (zL (zC [1,2] [_,_] Z (zF (zB (zA 1 Z (zH (zC [1,2,5] [_,_,_] Z (zF (zF (zB (zA 1 Z (zH (zC [1,2,5,6] [_,_,_,_] Z (qT (xF (σ:=Nat) (fun k=>k≤s.length) (fun k=>[(1,str s),(2,pt_ p2),(5,i6_ (((hashS (s.take k):Nat):Int))),(6,i6_ (k:Int))]) (fun k=>Own B w0 (bk_ p2 #[sl_ q 997 997,sl_ c 1 1] 112::bk_ g cur 184::bk_ q ((bs.map bktV).toArray) 182::bk_ c #[i6_ (T.length:Int)] 3::hs)) (fun k=>s.length - k) (0) (by omega) (Sub.cons Z (Sub.cons Z (Sub.cons Z (Sub.sel [6] Z)))) (fun _ h=>h) ?_)))))))))))))))
 rintro k hk;refine zF (zF (zB (zA 2 Z (zD (v:=i6_ (s.length:Int)) Z (xK Z qA Z) (zA 1 Z (zH (zC [1,2,5,6,12] [_,_,_,_,_] Z (yA (b:=decide ((k:Int)<(s.length:Int))) Z (fun h12=>?_) (fun h12=>?_)))))))))
 ·
  replace h12:=zV h12
  have hk2:k<s.length:=by omega
  have hkh:=hash_lt (s.take k)
  have hby:=UInt8.toNat_lt (s.getD k 0);refine qR (zC [1,2,5,6] [_,_,_,_] Z (zF (qT (zB (zA 1 Z (zD Z (jP Z Z Z (by omega) (by omega)) (zA 2 Z (zD (v:=.int .u8 (((s.getD ((k:Int).toNat) 0).toNat:Int))) Z (yB Z qA Z Z (by omega) (by omega)) (zD (v:=i6_ (((s.getD ((k:Int).toNat) 0).toNat:Int))) Z (xR .i64 Z yO xD Z (IntWalk.i64_in _ (by have:=UInt8.toNat_lt (s.getD ((k:Int).toNat) 0);omega))) (zD Z (qV Z Z Z (by simp only [Int.toNat_natCast];omega) (by simp only [Int.toNat_natCast];omega)) (zD (v:=i6_ (((hashS (s.take (k+1)):Nat):Int))) Z (qW (by rw [Wk.hash_step hk2];simp) (OpQ.rem Z Z Z (by omega) (by decide))) (zA 1 Z (zH (zC [1,2,5,6] [_,_,_,_] Z (zB (zA 1 Z (zD Z (qV Z Z Z (by omega) (by omega)) (zA 1 Z (zH (qZ (k+1) (by omega) (by omega) (Sub.sel [1,2,5,6] Z) (fun _ h=>h)))))))))))))))))))))
 replace h12:=zR h12
 obtain rfl:k=s.length:=by omega
 rw [List.take_length];refine yY Z (zC [1,2,5] [_,_,_] Z (zF (zF (zB (zA 1 Z (zH (zC [1,2,5,7] [_,_,_,_] Z (qT (xF (σ:=Nat) (fun j=>j≤m∧∀ i:Nat,i<j→¬ ((ents T (hashS s)).getD i ([],0)).1=s) (fun j=>[(1,str s),(2,pt_ p2),(5,i6_ ((hashS s:Nat):Int)),(7,i6_ (j:Int))]) (fun j=>Own B w0 (bk_ p2 #[sl_ q 997 997,sl_ c 1 1] 112::bk_ g cur 184::bk_ q ((bs.map bktV).toArray) 182::bk_ c #[i6_ (T.length:Int)] 3::hs)) (fun j=>m - j) (0) ⟨by omega,fun i hi=>absurd hi (by omega)⟩ (Sub.sel [1,2,5,7] Z) (fun _ h=>h) ?_)))))))))
 rintro j ⟨hj0,hall⟩;refine zF (zF (zB (zA 1 Z (zD Z (zN Z yU Z jF Z Z) (zD Z (zS 0 Z jK Z Z Z) (zA 1 Z (zD (v:=pf_ q (hashS s)) Z (qW (by simp) (yK Z xG xJ Z Z (by omega) (by omega))) (zD (v:=sl_ g m cap) Z (xN (v:=sl_ g m cap) 2 Z jL Z Z (bkt_at (b:=some (g,m,cap,cur)) hkl hb)) (zD Z (jE Z Tryd.runUnderlying182 Z) (zA 1 Z (zH (zC [1,2,5,7,30] [_,_,_,_,_] Z (yA (b:=decide ((j:Int)<(m:Int))) Z (fun h30=>?_) (fun h30=>?_))))))))))))))
 ·
  replace h30:=zV h30
  have hj:j<m:=by omega
  refine qR (zC [1,2,5,7] [_,_,_,_] Z (zF (qT (zF (zB (zD Z (zN Z yU Z jF Z Z) (zD Z (zS 0 Z jK Z Z Z) (zA 1 Z (zD (v:=pf_ q (hashS s)) Z (qW (by simp) (yK Z xG xJ Z Z (by omega) (by omega))) (zD (v:=sl_ g m cap) Z (xN (v:=sl_ g m cap) 2 Z jL Z Z (bkt_at (b:=some (g,m,cap,cur)) hkl hb)) (zA 1 Z (zD (v:=pf_ g (j*2)) Z (qW (v':=pf_ g (j*2)) (by simp) (OpQ.indexAddr (i:=(j:Int)) Z Tryd.runUnderlying182 Tryd.sizeOf184 Z Z (by omega) (by omega))) (zD Z (zN Z Tryd.runUnderlying184 Z zQ Z Z) (zD (v:=str (((ents T (hashS s)).getD j ([],0)).1)) Z (xN (v:=str (((ents T (hashS s)).getD j ([],0)).1)) 1 Z qG Z Z (ent_at ht hm hj).1) (zA 1 Z (zD Z (jR Z Z Z) (zH (zC [1,2,5,7,43] [_,_,_,_,_] Z (yA (b:=(((ents T (hashS s)).getD j ([],0)).1)==s) Z (fun h43=>?_) (fun h43=>?_))))))))))))))))))))
  ·
   refine zF (zB (zD Z (zN Z yU Z jF Z Z) (zD Z (zS 0 Z jK Z Z Z) (zA 1 Z (zD (v:=pf_ q (hashS s)) Z (qW (by simp) (yK Z xG xJ Z Z (by omega) (by omega))) (zD (v:=sl_ g m cap) Z (xN (v:=sl_ g m cap) 2 Z jL Z Z (bkt_at (b:=some (g,m,cap,cur)) hkl hb)) (zA 1 Z (zD (v:=pf_ g (j*2)) Z (qW (v':=pf_ g (j*2)) (by simp) (OpQ.indexAddr (i:=(j:Int)) Z Tryd.runUnderlying182 Tryd.sizeOf184 Z Z (by omega) (by omega))) (zD Z (zN Z Tryd.runUnderlying184 Z zY Z Z) (zD (v:=i6_ ((((ents T (hashS s)).getD j ([],0)).2:Int))) Z (xN (v:=i6_ ((((ents T (hashS s)).getD j ([],0)).2:Int))) 1 Z qF Z Z (ent_at ht hm hj).2) (zA 1 Z (zH (zC [4] [_] Z (qI (qK Z Z fun w' hw=>?_)))))))))))))))
   exact .inl ⟨_,rfl,ents_mem (e:=(ents T (hashS s)).getD j ([],0)) (by rw [getD_at (by omega)];exact List.getElem_mem _) |>.trans (by rw [show ((ents T (hashS s)).getD j ([],0)).1=s from by simpa using h43]),hw.sub ((zW _ (zG _ (zG _ (zG _ (qJ _))))))⟩
  refine qR (zC [1,2,5,7] [_,_,_,_] Z (zB (zA 1 Z (zD Z (qV Z Z Z (by omega) (by omega)) (zA 1 Z (zH (qZ (j+1) ⟨by omega,fun i hi=>(Nat.lt_succ_iff_lt_or_eq.1 hi).elim (hall i) (fun e=>by subst e;simpa using h43)⟩ (by omega) (Sub.sel [1,2,5,7] Z) (fun _ h=>h))))))))
 replace h30:=zR h30;refine yY Z (zC [1,2,5] [_,_,_] Z (zF (zB (zD Z (zN Z yU Z Tryd.sizeOf30 Z Z) (zD Z (zS 0 Z Tryd.isAgg30 Z Z Z) (zD (v:=pt_ c) Z (qW Z (yK (i:=0) Z zK zY Z Z (by decide) (by decide))) (zD Z (zS 3 Z qF Z Z Z) (zA 1 Z (zH (zC [1,2,5,8] [_,_,_,_] Z (zF (qD (qC Z (zN Z yU Z Tryd.sizeOf30 Z Z) (qC Z (zS 0 Z Tryd.isAgg30 Z Z Z) (qQ 1 Z (qC Z (qV Z Z Z (by omega) (by omega)) (qC (v:=pt_ c) Z (qW Z (yK (i:=0) Z zK zY Z Z (by decide) (by decide))) (qY (v:=i6_ ((T.length:Int)+(1:Int))) (hs':=(_::_::_::bk_ c #[i6_ ((T.length:Int)+(1:Int))] 3::hs)) 3 Z Z Z Z Z Z zY Z (by simp) Z (zL (zC [1,2,5,8] [_,_,_,_] Z (zF (Wk.regionT (S:=Own B w0 [bk_ p2 #[sl_ q 997 997,sl_ c 1 1] 112,bk_ c #[i6_ ((T.length:Int)+(1:Int))] 3]) (.take 0 (.take 1 (.take 2 (.take 3 (.take 4 (.take 5 (.take 6 (.take 8 (.take 9 (.take 10 (.two 7 (.one 11 (.one 12 (.take 13 (.one 14 .done)))) 11 (.one 7 (.one 12 (.take 13 (.one 14 .done))))))))))))))) yJ (fun _ h=>h.drawn) (by kernel_rfl) (jI Z Z Z Z Z (zN Z yU Z jF Z Z) (pk [0,3] Z Z) (jI Z Z Z Z Z (zS 0 Z jK Z Z Z) (pk [0,3] Z Z) (Lt.run 1 Z (pk [0,3] Z Z) (jI Z Z Z Z Z (zN Z yU Z jF Z Z) (pk [0,3] Z Z) (jI Z Z Z Z Z (zS 0 Z jK Z Z Z) (pk [0,3] Z Z) (Lt.run 1 Z (pk [0,3] Z Z) (jI (v:=pf_ q (hashS s)) Z Z Z Z Z (qW (by simp) (yK Z xG xJ Z Z (by omega) (by omega))) (pk [0,3] Z Z) (Lt.run 2 Z (pk [0,3] Z Z) (jI (v:=.agg #[str s,i6_ (T.length:Int)]) Z Z Z Z Z (OpQ.build (xs:=[.tmp 70,.tmp 71]) (vs:=[str s,i6_ (T.length:Int)]) Z Z (by kernel_rfl)) (pk [0,3] Z Z) (Lt.two Z Z ?_ ?_))))))))))))))))))))))))))))))))
 ·
  refine qC (v:=sl_ g m cap) Z (xN (v:=sl_ g m cap) 2 Z jL Z Z (bkt_at (b:=some (g,m,cap,cur)) hkl hb)) (zL (xH (pk [0,3] Z Z) ?_));refine xY Z (Ll.slice2 jN Z Z Z Z Z fun p73 hp73=>(zL (xH (pk [1,4] Z Z) ?_)));refine xY Z (Ll.append jN 2 (entC (s,T.length)) Z Z Z Z Z Z Z hc hle Z (fun h=>by cases h) (fun w1 hw1 ad had j u hj=>by injection had with had;subst had;rw [Addr.add_lit,Nat.zero_add,hw1.cell (i:=0) rfl];simpa [entC] using hj) (by simp [entC,str,Value.oneCell']) (by omega) fun g2 cap2 cur2 hg2 hcg2 hlg2 htg2=>?_)
  show Ll _ _ (Own _ _ (_::_::_::_::_::hs)) _ _ ((74,sl_ g2 (m+1) cap2)::_) _ _ _;refine zL (xH (pk [1,4] Z Z) ?_);refine jI (v:=pf_ q (hashS s)) Z Z Z Z Z (qW (by simp) (yK Z xG xJ Z Z (by omega) (by omega))) (pk [1,4] Z Z) (xY Z (qY (v:=sl_ g2 (m+1) cap2) (hs':=(_::_::_::bk_ q (((bs.set (hashS s) (some (g2,(m+1),cap2,cur2))).map bktV).toArray) 182::_::hs)) 3 Z Z Z Z Z Z xJ Z (by simpa using hkl) (by rw [← set_bkt];rfl) (zL (xH (pk [1,4] Z Z) ?_))));refine Lt.nil (zC [8] [_] Z (zF (zB (zA 2 Z (zH (zC [4] [_] Z (qI (qK Z Z fun w' hw=>?_))))))))
  exact .inr ⟨rfl,ents_not (fun e he=>by obtain ⟨i,hi,rfl⟩:=List.mem_iff_getElem.1 he;have:=hall i (by omega);rwa [getD_at hi] at this),g2,cap2,cur2,hcg2,hlg2,by rw [htg2,ht],hw.sub (zW _ (zW _ (zG _ (zG _ (zG _ (qJ _))))))⟩
 refine Ll.slice2 jN Z Z Z Z Z fun p73_1 hp73_1=>(zL (xH (pk [1,4] Z Z) ?_));refine xY Z (qC (v:=sl_ g m cap) Z (xN (v:=sl_ g m cap) 3 Z jL Z Z (bkt_at (b:=some (g,m,cap,cur)) hkl hb)) (zL (xH (pk [1,4] Z Z) ?_)));refine xY Z (Ll.append jN 2 (entC (s,T.length)) Z Z Z Z Z Z Z hc hle Z (fun h=>by cases h) (fun w1 hw1 ad had j u hj=>by injection had with had;subst had;rw [Addr.add_lit,Nat.zero_add,hw1.cell (i:=0) rfl];simpa [entC] using hj) (by simp [entC,str,Value.oneCell']) (by omega) fun g2_1 cap2_1 cur2_1 hg2_1 hcg2_1 hlg2_1 htg2_1=>?_)
 show Ll _ _ (Own _ _ (_::_::_::_::_::hs)) _ _ ((74,sl_ g2_1 (m+1) cap2_1)::_) _ _ _;refine zL (xH (pk [1,4] Z Z) ?_);refine jI (v:=pf_ q (hashS s)) Z Z Z Z Z (qW (by simp) (yK Z xG xJ Z Z (by omega) (by omega))) (pk [1,4] Z Z) (xY Z (qY (v:=sl_ g2_1 (m+1) cap2_1) (hs':=(_::_::_::bk_ q (((bs.set (hashS s) (some (g2_1,(m+1),cap2_1,cur2_1))).map bktV).toArray) 182::_::hs)) 3 Z Z Z Z Z Z xJ Z (by simpa using hkl) (by rw [← set_bkt];rfl) (zL (xH (pk [1,4] Z Z) ?_))));refine Lt.nil (zC [8] [_] Z (zF (zB (zA 2 Z (zH (zC [4] [_] Z (qI (qK Z Z fun w' hw=>?_))))))))
 exact .inr ⟨rfl,ents_not (fun e he=>by obtain ⟨i,hi,rfl⟩:=List.mem_iff_getElem.1 he;have:=hall i (by omega);rwa [getD_at hi] at this),g2_1,cap2_1,cur2_1,hcg2_1,hlg2_1,by rw [htg2_1,ht],hw.sub (zW _ (zW _ (zG _ (zG _ (zG _ (qJ _))))))⟩
theorem number_ok (B:Nat) (w0:World) (hs:List (Nat×Obj)) (q c:Nat) (bs:List Bkt) (T:List (List UInt8)) (s:List UInt8) (w:World) (hT:TabOk bs T) (hlT:T.length≤1000000) (hls:s.length≤1000) (hw:Own B w0 (tabL 182 3 184 q c bs T++hs) w) :
    Calls Tryd.prog 123 [.agg #[.slice (some ⟨q,0,none⟩) 997 997,.slice (some ⟨c,0,none⟩) 1 1],str s].toArray w fun en w'=>∃ (n:Nat) (bs':List Bkt) (T':List (List UInt8)),en=.returned (.int .i64 (n:Int))∧(TabTo T bs' T' 1∧T'[n]?=some s)∧Own B w0 (tabL 182 3 184 q c bs' T'++hs) w':=by
  have h997:=hash_lt s
  have hkl:hashS s<bs.length:=by rw [hT.len];exact h997
  cases hb:bs.getD (hashS s) none with
  | none =>
    refine (number_nil B w0 (blks 184 bs++hs) q c bs T s w hT hlT hls hb hw).mono fun en w' ⟨h1,h2,g',cap',cur',h3,h4,h5,h6⟩=>(⟨T.length,bs.set (hashS s) (some (g',1,cap',cur')),T++[s],h1,⟨⟨hT.add h2 (by rw [hT.no _ h997 hb];rfl) h3 h4 (by rw [hT.no _ h997 hb];exact h5),List.prefix_append _ _,by simp⟩,by simp⟩,?_⟩)
    have hp:=(blks_put (E:=184) (g:=g') (m:=1) (cap:=cap') (cur:=cur') hkl)
    rw [blks_none hkl hb] at hp
    have e1:((T++[s]).length:Int)=(T.length:Int)+1:=by simp
    show Own B w0 (_::(_,.cells #[.int .i64 ((T++[s]).length:Int)] _ (0,0))::(blks _ _++hs)) w'
    rw [e1]
    exact h6.perm ((perm_back [_] [_,_] _).trans (List.Perm.cons _ (List.Perm.cons _ (hp.symm.append_right hs))))
  | some b =>
    obtain ⟨g,m,cap,cur⟩:=b
    have hp:=(blks_take (E:=184) hkl hb)
    have hw2:Own B w0 ((g,.cells cur 184 (0,0))::(q,.cells (bs.map bktV).toArray 182 (0,0))::(c,.cells #[.int .i64 (T.length:Int)] 3 (0,0))::(blks 184 (bs.set (hashS s) none)++hs)) w :=
      hw.perm ((List.Perm.cons _ (List.Perm.cons _ (hp.append_right hs))).trans (perm_back [_,_] [_] _))
    refine (number_some B w0 (blks 184 (bs.set (hashS s) none)++hs) q c bs T s w hT hlT hls g m cap cur hb hw2).mono fun en w' h=>?_
    rcases h with ⟨n,h1,h2,h3⟩ | ⟨h1,h2,g',cap',cur',h3,h4,h5,h6⟩
    · exact ⟨n,bs,T,h1,⟨⟨hT,List.prefix_refl _,by omega⟩,h2⟩,h3.perm ((perm_back [_] [_,_] _).trans (List.Perm.cons _ (List.Perm.cons _ (hp.symm.append_right hs))))⟩
    · refine ⟨T.length,bs.set (hashS s) (some (g',m+1,cap',cur')),T++[s],h1,⟨⟨hT.add h2 (by rw [(hT.yes _ h997 _ _ _ _ hb).1]) h3 h4 h5,List.prefix_append _ _,by simp⟩,by simp⟩,?_⟩
      have hp2:=(blks_put (E:=184) (g:=g') (m:=m+1) (cap:=cap') (cur:=cur') hkl)
      have e1:((T++[s]).length:Int)=(T.length:Int)+1:=by simp
      show Own B w0 (_::(_,.cells #[.int .i64 ((T++[s]).length:Int)] _ (0,0))::(blks _ _++hs)) w'
      rw [e1]
      exact h6.perm ((perm_back [_] [_,_] _).trans (List.Perm.cons _ (List.Perm.cons _ (hp2.symm.append_right hs))))
end Go.Proofs.YteccfipfimbdgaaDoor
namespace Go.Proofs.YteccfipfimbdgaaDoor
open Go.RowKit Go.Wk
set_option linter.unusedSimpArgs false
set_option maxHeartbeats 400000 in
theorem l4With_ok (va:Value) (xs:List Int) (x:Int) (w:World) (hva:Ints w va xs) (hs:xs.length≤1048576) :
    Calls Tryd.prog 41 [va,i6_ x].toArray w fun en w'=>∃ v,en=.returned v∧Below w.heap.size w w'∧NewRow w.heap.size 3 1 w' v (xs++[x]).length (ints (xs++[x])):=by
 refine fnStart (n:=11) (e:=[(0,va),(1,i6_ x)]) Tryd.func41 Z Z Z Z Ends.both (zF (zB (zA 1 Z (zH (zC [0,1] [_,_] Z (zF (qD (yS (xs:=[]) (vs:=[]) qS Z Z Z Z Z Z (by decide) Z fun p5 hp5=>(qQ 1 Z (yG (xs:=[]) (ys:=xs) qS 0 Z Z Z Z Z Z Z Z (by decide) Z (fun w1 hw1=>(Row.own hva hw1)) ((xs).length) (by first | (simp;done) | (simp;omega)) (by first | (simp;done) | (simp;omega) | omega) fun p7 cap7 cur7 hp7 hcp7 hlp7 htp7=>?_))))))))))
 show Ll _ _ (Own _ _ [_]) _ _ ((7,sl_ p7 ((xs).length) cap7)::_) _ _ _;refine qQ 1 Z (yS (xs:=[.tmp 8]) (vs:=[i6_ x]) qS Z Z Z Z Z Z (by decide) Z fun p9 hp9=>(yG (xs:=xs) (ys:=[x]) qS 1 Z Z Z Z Z Z Z hcp7 hlp7 (by simpa using htp7) (fun w1 hw1=>(yH hw1 (i:=0) Z (n:=1) (cap:=1) (vs:=ints [x]) Z Z (by decide))) ((xs++([x])).length) (by first | (simp;done) | (simp;omega)) (by first | (simp;done) | (simp;omega) | omega) fun p10 cap10 cur10 hp10 hcp10 hlp10 htp10=>?_))
 show Ll _ _ (Own _ _ [_,_]) _ _ ((10,sl_ p10 (((xs++([x])).length)) cap10)::_) _ _ _;refine qQ 1 Z (zL (zC [4] [_] Z (qI (qK Z Z fun w' hw=>?_))))
 exact ⟨_,rfl,hw.below,hw.newRow (i:=1) (n:=_) rfl (by assumption) (by assumption) (by assumption)⟩
set_option maxHeartbeats 400000 in
theorem with_ok (va:Value) (xs:List Int) (x:Int) (w:World) (hva:Ints w va xs) (hs:xs.length≤1048576) :
    Calls Tryd.prog 121 [va,i6_ x].toArray w fun en w'=>∃ v,en=.returned v∧Below w.heap.size w w'∧NewRow w.heap.size 3 1 w' v (xs++[x]).length (ints (xs++[x])):=by
 refine fnStart (n:=11) (e:=[(0,va),(1,i6_ x)]) Tryd.func121 Z Z Z Z Ends.both (zF (zB (zA 1 Z (zH (zC [0,1] [_,_] Z (zF (qD (yS (xs:=[]) (vs:=[]) qS Z Z Z Z Z Z (by decide) Z fun p5 hp5=>(qQ 1 Z (yG (xs:=[]) (ys:=xs) qS 0 Z Z Z Z Z Z Z Z (by decide) Z (fun w1 hw1=>(Row.own hva hw1)) ((xs).length) (by first | (simp;done) | (simp;omega)) (by first | (simp;done) | (simp;omega) | omega) fun p7 cap7 cur7 hp7 hcp7 hlp7 htp7=>?_))))))))))
 show Ll _ _ (Own _ _ [_]) _ _ ((7,sl_ p7 ((xs).length) cap7)::_) _ _ _;refine qQ 1 Z (yS (xs:=[.tmp 8]) (vs:=[i6_ x]) qS Z Z Z Z Z Z (by decide) Z fun p9 hp9=>(yG (xs:=xs) (ys:=[x]) qS 1 Z Z Z Z Z Z Z hcp7 hlp7 (by simpa using htp7) (fun w1 hw1=>(yH hw1 (i:=0) Z (n:=1) (cap:=1) (vs:=ints [x]) Z Z (by decide))) ((xs++([x])).length) (by first | (simp;done) | (simp;omega)) (by first | (simp;done) | (simp;omega) | omega) fun p10 cap10 cur10 hp10 hcp10 hlp10 htp10=>?_))
 show Ll _ _ (Own _ _ [_,_]) _ _ ((10,sl_ p10 (((xs++([x])).length)) cap10)::_) _ _ _;refine qQ 1 Z (zL (zC [4] [_] Z (qI (qK Z Z fun w' hw=>?_))))
 exact ⟨_,rfl,hw.below,hw.newRow (i:=1) (n:=_) rfl (by assumption) (by assumption) (by assumption)⟩
set_option maxHeartbeats 400000 in
theorem reply_of (n:Nat) (ih:∀ (a b:St) (xs ys:List Int) (va vb:Value) (w:World),a.Fine→b.Fine→Ints w va xs→Ints w vb ys→a.Els xs→b.Els ys→xs.length=ys.length→xs.length+n≤7→Calls Tryd.prog 120 #[vS a,va,vS b,vb,.int .i64 (n:Int)] w fun en w'=>en=.returned (.bool (goB n a xs b ys))∧Below w.heap.size w w') (a b:St) (xs ys:List Int) (va vb:Value) (w:World) (ha:a.Fine) (hb:b.Fine) (hva:Ints w va xs) (hvb:Ints w vb ys) (hA:a.Els xs) (hB:b.Els ys) (hlen:xs.length=ys.length) (h7:xs.length+(n+1)≤7) (x:Int) (hx:a.El x) :
    Calls Tryd.prog 78 [vS a,va,vS b,vb,i6_ ((n:Int)+1),i6_ x].toArray w fun en w'=>en=.returned (.tuple #[.int .i64 (((rep (goB n) a xs b ys x).getD 0:Nat):Int),.bool (rep (goB n) a xs b ys x).isSome])∧Below w.heap.size w w':=by
 refine fnStart (n:=48) (e:=[(0,vS a),(1,va),(2,vS b),(3,vb),(4,i6_ ((n:Int)+1)),(5,i6_ x)]) Tryd.func78 Z Z Z Z Ends.both ?_
 have hn8:=hb.hi
 have hn1:=hb.lo
 have hL:=rep_law (g:=goB n) (a:=a) (xs:=xs) (b:=b) (ys:=ys) (x:=x);refine zF (qD (yT (v:=vS a) Z Z Z Z Z fun p6 hp6=>?_))
 show Ll _ _ (Own _ _ [_]) _ _ ((6,pt_ p6)::_) _ _ _;refine yT (v:=vS b) Z Z Z Z Z fun p8 hp8=>?_
 show Ll _ _ (Own _ _ [_,_]) _ _ ((8,pt_ p8)::_) _ _ _;refine qQ 2 Z (zL (zC [1,3,4,5,6,8] [_,_,_,_,_,_] Z (zF (zF (zB (zD Z (zU (cs:=#[i6_ a.n,str a.set,str a.rel]) 1 Z zP Z Z zJ) (zA 1 Z (zD Z (zU (cs:=#[i6_ b.n,str b.set,str b.rel]) 0 Z zP Z Z zJ) (zA 1 Z (zD (v:=bo_ (sameB a xs b ys)) Z (qH Z Tryd.call51 Z zZ (fun w1 hw1=>sameWay_ok a b xs ys va vb w1 ha hb (Row.own hva hw1) (Row.own hvb hw1) hA hB (by omega) (by omega))) (zA 1 Z (zH (zC [1,3,4,5,6,8,20] [_,_,_,_,_,_,_] Z (yA (b:=!(sameB a xs b ys)) Z (fun h20=>?_) (fun h20=>?_)))))))))))))))
 ·
  replace h20:=not_true h20;refine zF (zB (zA 2 Z (zH (zC [12,13] [_,_] Z (qI (Kt.end2 Z Z Z fun w' hw=>?_))))))
  exact ⟨by rw [hL.1 (by simpa using h20)];rfl,hw.below⟩
 replace h20:=not_false h20;refine qR (zC [1,3,4,5,6,8] [_,_,_,_,_,_] Z (zF (zF (zB (zD Z (zN Z zI Z zY Z Z) (zD Z (zS 0 Z qF Z Z Z) (zA 1 Z (zH (zC [1,3,4,5,6,8,22,23] [_,_,_,_,_,_,_,_] Z (qT (xF (σ:=Nat) (fun k=>(k:Int)≤b.n∧∀ i:Nat,i<k→(stillB a xs b ys x i&&goB n a (xs++[x]) b (ys++[(i:Int)]))=false) (fun k=>[(1,va),(3,vb),(4,i6_ ((n:Int)+1)),(5,i6_ x),(6,pt_ p6),(8,pt_ p8),(22,i6_ b.n),(23,i6_ (k:Int))]) (fun k=>Own w.heap.size w [bk_ p8 #[i6_ b.n,str b.set,str b.rel] 24,bk_ p6 #[i6_ a.n,str a.set,str a.rel] 24]) (fun k=>(b.n - k).toNat) (0) ⟨by omega,fun i hi=>absurd hi (by omega)⟩ (Sub.sel [1,3,4,5,6,8,22,23] Z) (fun _ h=>h) ?_)))))))))))
 rintro k ⟨hk,hall⟩;refine zF (zB (zA 1 Z (zH (zC [1,3,4,5,6,8,22,23,24] [_,_,_,_,_,_,_,_,_] Z (zF (yA (b:=decide ((k:Int)<b.n)) Z (fun h24=>?_) (fun h24=>?_)))))))
 ·
  replace h24:=zV h24
  have hy:b.El k:=⟨by omega,by omega⟩;refine qR (zC [1,3,4,5,6,8,22,23] [_,_,_,_,_,_,_,_] Z (zF (qT (zF (zB (zA 2 Z (zH (zC [1,3,4,5,6,8,14,22,23] [_,_,_,_,_,_,_,_,_] Z (zF (Wk.regionO [(0,true),(1,true),(2,true),(3,true),(4,true),(5,true),(6,false),(7,true),(8,true),(9,true),(10,true),(12,true),(13,true),(14,true),(16,true),(17,true),(11,false),(15,false),(18,false),(19,true)] yJ (fun _ h=>h.drawn) (by kernel_rfl) (xE Z Z Z Z Z (zU (cs:=#[i6_ a.n,str a.set,str a.rel]) 1 Z zP Z Z zJ) (fun _ h=>h) (xT 1 Z (fun _ h=>h) (xE Z Z Z Z Z (zU (cs:=#[i6_ b.n,str b.set,str b.rel]) 0 Z zP Z Z zJ) (fun _ h=>h) (xT 3 Z (fun _ h=>h) (yZ Z (qC (v:=bo_ (stillB a xs b ys x (k:Int))) Z (qH Z Tryd.call79 Z zZ (fun w1 hw1=>stillSame_ok a b xs ys va vb x (k:Int) w1 (ha) (hb) (Row.own hva hw1) (Row.own hvb hw1) (hA) (hB) (by first | (simp;done) | (simp;omega) | omega) (by first | (simp;done) | (simp;omega) | omega) (by first | assumption | exact St.Els.at (by assumption) (by omega) (by omega)) (by first | assumption | exact St.Els.at (by assumption) (by omega) (by omega)))) (zL (yP (fun _ h=>h) ?_))))))))))))))))));refine xT 1 Z (fun _ h=>h) (Ld.bool fun b33 hg33=>?_)
  cases b33
  ·
   refine Ld.pass Z Z Z Z (fun _ h=>h) (Ld.pass Z Z Z Z (fun _ h=>h) (Ld.pass Z Z Z Z (fun _ h=>h) (Ld.pass Z Z Z Z (fun _ h=>h) (Ld.pass Z Z Z Z (fun _ h=>h) (Ld.pass Z Z Z Z (fun _ h=>h) (Ld.pass Z Z Z Z (fun _ h=>h) (Ld.pass Z Z Z Z (fun _ h=>h) (yZ Z (Ll.pass3 Z (zL (yP (fun _ h=>h) ?_)))))))))));refine yZ Z (Ll.pass3 Z (zL (yP (fun _ h=>h) ?_)));refine yZ Z (Ll.pass3 Z (zL (yP (fun _ h=>h) ?_)));refine xT 1 Z (fun _ h=>h) (Ld.nil (zC [1,3,4,5,6,8,14,22,23,45] [_,_,_,_,_,_,_,_,_,_] Z (jQ Z (qR (zC [1,3,4,5,6,8,22,23] [_,_,_,_,_,_,_,_] Z (zB (zD Z (qV Z Z Z (by omega) (by omega)) (zA 1 Z (zH (qZ (k+1) ⟨by omega,fun i hi=>(Nat.lt_succ_iff_lt_or_eq.1 hi).elim (hall i) (fun e=>by subst e;simp_all)⟩ (by omega) (Sub.sel [1,3,4,5,6,8,22,23] Z) (fun _ h=>h)))))))))))
  refine xE Z Z Z Z Z (zU (cs:=#[i6_ a.n,str a.set,str a.rel]) 1 Z zP Z Z zJ) (fun _ h=>h) (xT 2 Z (fun _ h=>h) (xE Z Z Z Z Z (zU (cs:=#[i6_ b.n,str b.set,str b.rel]) 0 Z zP Z Z zJ) (fun _ h=>h) (xT 3 Z (fun _ h=>h) (xE (v:=i6_ (n:Int)) Z Z Z Z Z (qW (by congr 1;omega) (xO Z Z Z (by omega) (by omega))) (fun _ h=>h) (yZ Z (xQ (xs:=[.tmp 35,.tmp 36]) (m:=(xs++[x]).length) (vs:=ints (xs++[x])) (el:=3) (size:=1) Z Z Z Z Tryd.call121 Z (fun w1 hw1=>with_ok va xs x w1 (Row.own hva hw1) (by omega)) fun p37 cap37 cur37 hp37 hcp37 hlp37 htp37=>(zL (yP (fun _ h=>h.tail) ?_))))))));refine yZ Z (xQ (xs:=[.tmp 39,.tmp 40]) (m:=(ys++[(k:Int)]).length) (vs:=ints (ys++[(k:Int)])) (el:=3) (size:=1) Z Z Z Z Tryd.call121 Z (fun w1 hw1=>with_ok vb ys (k:Int) w1 (Row.own hvb hw1) (by omega)) fun p41 cap41 cur41 hp41 hcp41 hlp41 htp41=>(zL (yP (fun _ h=>h.tail.tail) ?_)));refine yZ Z (qC (v:=bo_ (goB n a (xs++[x]) b (ys++[(k:Int)]))) Z (qH Z Tryd.call120 Z zZ (fun w1 hw1=>ih a b (xs++[x]) (ys++[(k:Int)]) (sl_ p37 ((xs++[x]).length) cap37) (sl_ p41 ((ys++[(k:Int)]).length) cap41) w1 ha hb (yH hw1 (i:=1) Z (by simpa using htp37) (by simp) hlp37) (yH hw1 (i:=0) Z (by simpa using htp41) (by simp) hlp41) (els_more hA hx) (els_more hB hy) (by first | (simp;done) | (simp;omega) | omega) (by first | (simp;done) | (simp;omega) | omega))) (zL (yP (fun _ h=>h.tail.tail) ?_)));refine xT 1 Z (fun _ h=>h.tail.tail) (Ld.nil (zC [1,3,4,5,6,8,14,22,23,45] [_,_,_,_,_,_,_,_,_,_] Z (yA (b:=goB n a (xs++[x]) b (ys++[(k:Int)])) Z (fun h45=>?_) (fun h45=>?_))))
  ·
   refine zF (zB (zA 3 Z (zH (zC [12,13] [_,_] Z (qI (Kt.end2 Z Z Z fun w' hw=>?_))))))
   exact ⟨by rw [hL.2.1 (by simpa using h20) k (by omega) hall (by simp [*])];rfl,hw.below⟩
  refine qR (zC [1,3,4,5,6,8,22,23] [_,_,_,_,_,_,_,_] Z (zB (zD Z (qV Z Z Z (by omega) (by omega)) (zA 1 Z (zH (qZ (k+1) ⟨by omega,fun i hi=>(Nat.lt_succ_iff_lt_or_eq.1 hi).elim (hall i) (fun e=>by subst e;simp_all)⟩ (by omega) (Sub.sel [1,3,4,5,6,8,22,23] Z) (fun _ h=>h.tail.tail)))))))
 replace h24:=zR h24;refine yY Z (zC [] [] Z (zF (zB (zA 2 Z (zH (zC [12,13] [_,_] Z (qI (Kt.end2 Z Z Z fun w' hw=>?_))))))))
 exact ⟨by rw [hL.2.2 (fun i hi=>hall i (by omega))];rfl,hw.below⟩
set_option maxHeartbeats 400000 in
theorem goes_zero (a b:St) (xs ys:List Int) (va vb:Value) (w:World) :
    Calls Tryd.prog 120 [vS a,va,vS b,vb,i6_ 0].toArray w fun en w'=>en=.returned (.bool (goB 0 a xs b ys))∧Below w.heap.size w w':=by
 refine fnStart (n:=55) (e:=[(0,vS a),(1,va),(2,vS b),(3,vb),(4,i6_ 0)]) Tryd.func120 Z Z Z Z Ends.both (zF (qD (yT (v:=vS a) Z Z Z Z Z fun p5 hp5=>?_)))
 show Ll _ _ (Own _ _ [_]) _ _ ((5,pt_ p5)::_) _ _ _;refine yT (v:=vS b) Z Z Z Z Z fun p7 hp7=>?_
 show Ll _ _ (Own _ _ [_,_]) _ _ ((7,pt_ p7)::_) _ _ _;refine qQ 1 Z (zL (zC [1,3,4,5,7] [_,_,_,_,_] Z (zF (zF (zB (zA 2 Z (zH (zC [1,3,4,5,7,18] [_,_,_,_,_,_] Z (yA (b:=decide ((0:Int)=(0:Int))) Z (fun h18=>?_) (fun h18=>?_))))))))))
 ·
  replace h18:=zV h18;refine zF (zB (zA 1 Z (zH (zC [10] [_] Z (qI (qK Z Z fun w' hw=>?_))))))
  exact ⟨rfl,hw.below⟩
 replace h18:=zR h18
 exact absurd rfl h18
set_option maxHeartbeats 400000 in
theorem goes_of (n:Nat) (ih:∀ (a b:St) (xs ys:List Int) (va vb:Value) (w:World),a.Fine→b.Fine→Ints w va xs→Ints w vb ys→a.Els xs→b.Els ys→xs.length=ys.length→xs.length+(n+1)≤7→∀ x:Int,a.El x→Calls Tryd.prog 78 #[vS a,va,vS b,vb,.int .i64 ((n:Int)+1),.int .i64 x] w fun en w'=>en=.returned (.tuple #[.int .i64 (((rep (goB n) a xs b ys x).getD 0:Nat):Int),.bool (rep (goB n) a xs b ys x).isSome])∧Below w.heap.size w w') (a b:St) (xs ys:List Int) (va vb:Value) (w:World) (ha:a.Fine) (hb:b.Fine) (hva:Ints w va xs) (hvb:Ints w vb ys) (hA:a.Els xs) (hB:b.Els ys) (hlen:xs.length=ys.length) (h7:xs.length+(n+1)≤7) :
    Calls Tryd.prog 120 [vS a,va,vS b,vb,i6_ ((n:Int)+1)].toArray w fun en w'=>en=.returned (.bool (goB (n+1) a xs b ys))∧Below w.heap.size w w':=by
 refine fnStart (n:=55) (e:=[(0,vS a),(1,va),(2,vS b),(3,vb),(4,i6_ ((n:Int)+1))]) Tryd.func120 Z Z Z Z Ends.both ?_
 have hn8:=hb.hi
 have hn1:=hb.lo
 have hm8:=ha.hi
 have hm1:=ha.lo;refine zF (qD (yT (v:=vS a) Z Z Z Z Z fun p5 hp5=>?_))
 show Ll _ _ (Own _ _ [_]) _ _ ((5,pt_ p5)::_) _ _ _;refine yT (v:=vS b) Z Z Z Z Z fun p7 hp7=>?_
 show Ll _ _ (Own _ _ [_,_]) _ _ ((7,pt_ p7)::_) _ _ _;refine qQ 1 Z (zL (zC [1,3,4,5,7] [_,_,_,_,_] Z (zF (zF (zB (zA 2 Z (zH (zC [1,3,4,5,7,18] [_,_,_,_,_,_] Z (yA (b:=decide (((n:Int)+1)=(0:Int))) Z (fun h18=>?_) (fun h18=>?_))))))))))
 ·
  replace h18:=zV h18
  omega
 replace h18:=zR h18;refine qR (zC [1,3,4,5,7] [_,_,_,_,_] Z (zF (zF (zB (zD Z (zN Z zI Z zY Z Z) (zD Z (zS 1 Z qF Z Z Z) (zA 1 Z (zH (zC [1,3,4,5,7,20,21] [_,_,_,_,_,_,_] Z (qT (xF (σ:=Nat) (fun k=>(k:Int)≤a.n∧∀ i:Nat,i<k→(rep (goB n) a xs b ys i).isSome=true) (fun k=>[(1,va),(3,vb),(4,i6_ ((n:Int)+1)),(5,pt_ p5),(7,pt_ p7),(20,i6_ a.n),(21,i6_ (k:Int))]) (fun k=>Own w.heap.size w [bk_ p7 #[i6_ b.n,str b.set,str b.rel] 24,bk_ p5 #[i6_ a.n,str a.set,str a.rel] 24]) (fun k=>(a.n - k).toNat) (0) ⟨by omega,fun i hi=>absurd hi (by omega)⟩ (Sub.sel [1,3,4,5,7,20,21] Z) (fun _ h=>h) ?_)))))))))))
 rintro k ⟨hk1,hall1⟩;refine zF (zB (zA 1 Z (zH (zC [1,3,4,5,7,20,21,22] [_,_,_,_,_,_,_,_] Z (zF (yA (b:=decide ((k:Int)<a.n)) Z (fun h22=>?_) (fun h22=>?_)))))))
 ·
  replace h22:=zV h22
  have hx:a.El k:=⟨by omega,by omega⟩;refine qR (zC [1,3,4,5,7,20,21] [_,_,_,_,_,_,_] Z (zF (qT (zF (zB (zA 2 Z (zH (zC [1,3,4,5,7,11,20,21] [_,_,_,_,_,_,_,_] Z (zF (zB (zD Z (zU (cs:=#[i6_ a.n,str a.set,str a.rel]) 1 Z zP Z Z zJ) (zA 1 Z (zD Z (zU (cs:=#[i6_ b.n,str b.set,str b.rel]) 0 Z zP Z Z zJ) (zA 3 Z (zD (v:=.tuple #[i6_ ((((rep (goB n) a xs b ys (k:Int)).getD 0:Nat):Int)),bo_ ((rep (goB n) a xs b ys (k:Int)).isSome)]) Z (qH Z Tryd.call78 Z zZ (fun w1 hw1=>ih a b xs ys va vb w1 ha hb (Row.own hva hw1) (Row.own hvb hw1) hA hB (by first | (simp;done) | (simp;omega) | omega) (by first | (simp;done) | (simp;omega) | omega) (k:Int) hx)) (zA 1 Z (zD (v:=i6_ ((((rep (goB n) a xs b ys (k:Int)).getD 0:Nat):Int))) Z (xA Z Z Z) (zD (v:=bo_ ((rep (goB n) a xs b ys (k:Int)).isSome)) Z (xA Z Z Z) (zA 2 Z (zH (zC [1,3,4,5,7,13,20,21] [_,_,_,_,_,_,_,_] Z (zF (zB (zA 2 Z (zH (zC [1,3,4,5,7,20,21,35] [_,_,_,_,_,_,_,_] Z (yA (b:=!((rep (goB n) a xs b ys (k:Int)).isSome)) Z (fun h35=>?_) (fun h35=>?_))))))))))))))))))))))))))))
  ·
   replace h35:=not_true h35;refine zF (zB (zA 1 Z (zH (zC [10] [_] Z (qI (qK Z Z fun w' hw=>?_))))))
   exact ⟨ret_b (go_no1 (x:=k) (by omega) (by simpa using h35)).symm,hw.below⟩
  replace h35:=not_false h35;refine qR (zC [1,3,4,5,7,20,21] [_,_,_,_,_,_,_] Z (zB (zD Z (qV Z Z Z (by omega) (by omega)) (zA 1 Z (zH (qZ (k+1) ⟨by omega,fun i hi=>(Nat.lt_succ_iff_lt_or_eq.1 hi).elim (hall1 i) (fun e=>by subst e;assumption)⟩ (by omega) (Sub.sel [1,3,4,5,7,20,21] Z) (fun _ h=>h)))))))
 replace h22:=zR h22;refine yY Z (zC [1,3,4,5,7] [_,_,_,_,_] Z (zF (zF (zB (zD Z (zN Z zI Z zY Z Z) (zD Z (zS 0 Z qF Z Z Z) (zA 1 Z (zH (zC [1,3,4,5,7,38,39] [_,_,_,_,_,_,_] Z (qT (xF (σ:=Nat) (fun m=>(m:Int)≤b.n∧∀ i:Nat,i<m→(rep (goB n) b ys a xs i).isSome=true) (fun m=>[(1,va),(3,vb),(4,i6_ ((n:Int)+1)),(5,pt_ p5),(7,pt_ p7),(38,i6_ b.n),(39,i6_ (m:Int))]) (fun m=>Own w.heap.size w [bk_ p7 #[i6_ b.n,str b.set,str b.rel] 24,bk_ p5 #[i6_ a.n,str a.set,str a.rel] 24]) (fun m=>(b.n - m).toNat) (0) ⟨by omega,fun i hi=>absurd hi (by omega)⟩ (Sub.sel [1,3,4,5,7,38,39] Z) (fun _ h=>h) ?_)))))))))))
 rintro m ⟨hk2,hall2⟩;refine zF (zB (zA 1 Z (zH (zC [1,3,4,5,7,38,39,40] [_,_,_,_,_,_,_,_] Z (zF (yA (b:=decide ((m:Int)<b.n)) Z (fun h40=>?_) (fun h40=>?_)))))))
 ·
  replace h40:=zV h40
  have hy:b.El m:=⟨by omega,by omega⟩;refine qR (zC [1,3,4,5,7,38,39] [_,_,_,_,_,_,_] Z (zF (qT (zF (zB (zA 2 Z (zH (zC [1,3,4,5,7,14,38,39] [_,_,_,_,_,_,_,_] Z (zF (zB (zD Z (zU (cs:=#[i6_ b.n,str b.set,str b.rel]) 0 Z zP Z Z zJ) (zA 1 Z (zD Z (zU (cs:=#[i6_ a.n,str a.set,str a.rel]) 1 Z zP Z Z zJ) (zA 3 Z (zD (v:=.tuple #[i6_ ((((rep (goB n) b ys a xs (m:Int)).getD 0:Nat):Int)),bo_ ((rep (goB n) b ys a xs (m:Int)).isSome)]) Z (qH Z Tryd.call78 Z zZ (fun w1 hw1=>ih b a ys xs vb va w1 hb ha (Row.own hvb hw1) (Row.own hva hw1) hB hA (by first | (simp;done) | (simp;omega) | omega) (by first | (simp;done) | (simp;omega) | omega) (m:Int) hy)) (zA 1 Z (zD (v:=i6_ ((((rep (goB n) b ys a xs (m:Int)).getD 0:Nat):Int))) Z (xA Z Z Z) (zD (v:=bo_ ((rep (goB n) b ys a xs (m:Int)).isSome)) Z (xA Z Z Z) (zA 2 Z (zH (zC [1,3,4,5,7,16,38,39] [_,_,_,_,_,_,_,_] Z (zF (zB (zA 2 Z (zH (zC [1,3,4,5,7,38,39,53] [_,_,_,_,_,_,_,_] Z (yA (b:=!((rep (goB n) b ys a xs (m:Int)).isSome)) Z (fun h53=>?_) (fun h53=>?_))))))))))))))))))))))))))))
  ·
   replace h53:=not_true h53;refine zF (zB (zA 1 Z (zH (zC [10] [_] Z (qI (qK Z Z fun w' hw=>?_))))))
   exact ⟨ret_b (go_no2 (y:=m) (by omega) (by simpa using h53)).symm,hw.below⟩
  replace h53:=not_false h53;refine qR (zC [1,3,4,5,7,38,39] [_,_,_,_,_,_,_] Z (zB (zD Z (qV Z Z Z (by omega) (by omega)) (zA 1 Z (zH (qZ (m+1) ⟨by omega,fun i hi=>(Nat.lt_succ_iff_lt_or_eq.1 hi).elim (hall2 i) (fun e=>by subst e;assumption)⟩ (by omega) (Sub.sel [1,3,4,5,7,38,39] Z) (fun _ h=>h)))))))
 replace h40:=zR h40;refine yY Z (zC [] [] Z (zF (zB (zA 1 Z (zH (zC [10] [_] Z (qI (qK Z Z fun w' hw=>?_))))))))
 exact ⟨ret_b (go_yes (fun i hi=>hall1 i (by omega)) (fun i hi=>hall2 i (by omega))).symm,hw.below⟩
theorem goes_ok:∀ n:Nat,∀ (a b:St) (xs ys:List Int) (va vb:Value) (w:World),a.Fine→b.Fine→Ints w va xs→Ints w vb ys→a.Els xs→b.Els ys→xs.length=ys.length→xs.length+n≤7→Calls Tryd.prog 120 #[vS a,va,vS b,vb,.int .i64 (n:Int)] w fun en w'=>en=.returned (.bool (goB n a xs b ys))∧Below w.heap.size w w'
  | 0=>fun a b xs ys va vb w _ _ _ _ _ _ _ _=>goes_zero a b xs ys va vb w
  | n+1=>fun a b xs ys va vb w ha hb hva hvb hA hB hl h7 =>
    goes_of n (fun a b xs ys va vb w ha hb hva hvb hA hB hl h7 x hx=>reply_of n (goes_ok n) a b xs ys va vb w ha hb hva hvb hA hB hl h7 x hx) a b xs ys va vb w ha hb hva hvb hA hB hl h7
theorem goes_at (r:Int) (h0:0≤r):∀ (a b:St) (xs ys:List Int) (va vb:Value) (w:World),a.Fine→b.Fine→Ints w va xs→Ints w vb ys→a.Els xs→b.Els ys→xs.length=ys.length→xs.length+r.toNat≤7→Calls Tryd.prog 120 #[vS a,va,vS b,vb,.int .i64 r] w fun en w'=>en=.returned (.bool (goB r.toNat a xs b ys))∧Below w.heap.size w w':=by
  have h:=goes_ok r.toNat
  rw [Int.toNat_of_nonneg h0] at h
  exact h
theorem reply_at (r:Int) (h0:0≤r):∀ (a b:St) (xs ys:List Int) (va vb:Value) (w:World),a.Fine→b.Fine→Ints w va xs→Ints w vb ys→a.Els xs→b.Els ys→xs.length=ys.length→xs.length+(r.toNat+1)≤7→∀ x:Int,a.El x→Calls Tryd.prog 78 #[vS a,va,vS b,vb,.int .i64 (r+1),.int .i64 x] w fun en w'=>en=.returned (.tuple #[.int .i64 (((rep (goB r.toNat) a xs b ys x).getD 0:Nat):Int),.bool (rep (goB r.toNat) a xs b ys x).isSome])∧Below w.heap.size w w':=by
  intro a b xs ys va vb w ha hb hva hvb hA hB hl h7 x hx
  have h:=reply_of r.toNat (goes_ok r.toNat) a b xs ys va vb w ha hb hva hvb hA hB hl h7 x hx
  rw [Int.toNat_of_nonneg h0] at h
  exact h
set_option maxHeartbeats 400000 in
theorem isGame_ok (a b:St) (xs ys:List Int) (va vb:Value) (w:World) (hsa:a.Small) (hsb:b.Small) (hva:Ints w va xs) (hvb:Ints w vb ys) (hs1:xs.length≤140737488355328) (hs2:ys.length≤140737488355328) (r:Int) :
    Calls Tryd.prog 87 [vS a,va,vS b,vb,i6_ r].toArray w fun en w'=>en=.returned (.bool (gameB a xs b ys r))∧Below w.heap.size w w':=by
 refine fnStart (n:=24) (e:=[(0,vS a),(1,va),(2,vS b),(3,vb),(4,i6_ r)]) Tryd.func87 Z Z Z Z Ends.both (zF (qD (yT (v:=vS a) Z Z Z Z Z fun p5 hp5=>?_)))
 show Ll _ _ (Own _ _ [_]) _ _ ((5,pt_ p5)::_) _ _ _;refine yT (v:=vS b) Z Z Z Z Z fun p7 hp7=>?_
 show Ll _ _ (Own _ _ [_,_]) _ _ ((7,pt_ p7)::_) _ _ _;refine qQ 1 Z (zL (zC [1,3,4,5,7] [_,_,_,_,_] Z (zF (zB (zD Z (zU (cs:=#[i6_ a.n,str a.set,str a.rel]) 1 Z zP Z Z zJ) (zA 1 Z (zD Z (zU (cs:=#[i6_ b.n,str b.set,str b.rel]) 0 Z zP Z Z zJ) (zA 1 Z (zD (v:=bo_ (listsB a xs b ys)) Z (qH Z Tryd.call50 Z zZ (fun w1 hw1=>areLists_ok a b xs ys va vb w1 hsa hsb (Row.own hva hw1) (Row.own hvb hw1) (by first | (simp;done) | (simp;omega) | omega) (by first | (simp;done) | (simp;omega) | omega))) (zA 1 Z (yF fun b16 hg16=>?_)))))))))))
 cases b16
 ·
  refine zE Z (zE Z (zA 2 Z (zE Z (zE Z (zA 2 Z (zH (zC [10] [_] Z (qI (qK Z Z fun w' hw=>?_)))))))))
  exact ⟨ret_b (by unfold gameB inB;first | (simp_all;done) | (simp_all;omega)),hw.below⟩
 refine zA 4 Z (yF fun b20 hg20=>?_)
 cases b20
 ·
  replace hg20:=zR hg20;refine zE Z (zE Z (zA 2 Z (zH (zC [10] [_] Z (qI (qK Z Z fun w' hw=>?_))))))
  exact ⟨ret_b (by unfold gameB inB;first | (simp_all;done) | (simp_all;omega)),hw.below⟩
 replace hg20:=zV hg20;refine zA 4 Z (zH (zC [10] [_] Z (qI (qK Z Z fun w' hw=>?_))))
 exact ⟨ret_b (by unfold gameB inB;first | (simp_all;done) | (simp_all;omega)),hw.below⟩
set_option maxHeartbeats 400000 in
theorem wins_ok (a b:St) (xs ys:List Int) (va vb:Value) (w:World) (ha:a.Fine) (hb:b.Fine) (hva:Ints w va xs) (hvb:Ints w vb ys) (hA:a.Els xs) (hB:b.Els ys) (hlen:xs.length=ys.length) (h4:xs.length≤4) (r:Int) (h0:0≤r) (h3:r≤3) :
    Calls Tryd.prog 88 [vS a,va,vS b,vb,i6_ r].toArray w fun en w'=>en=.returned (.bool (winB r.toNat a xs b ys))∧Below w.heap.size w w':=by
 refine fnStart (n:=24) (e:=[(0,vS a),(1,va),(2,vS b),(3,vb),(4,i6_ r)]) Tryd.func88 Z Z Z Z Ends.both (zF (qD (yT (v:=vS a) Z Z Z Z Z fun p5 hp5=>?_)))
 show Ll _ _ (Own _ _ [_]) _ _ ((5,pt_ p5)::_) _ _ _;refine yT (v:=vS b) Z Z Z Z Z fun p7 hp7=>?_
 show Ll _ _ (Own _ _ [_,_]) _ _ ((7,pt_ p7)::_) _ _ _;refine qQ 1 Z (zL (zC [1,3,4,5,7] [_,_,_,_,_] Z (zF (zB (zD Z (zU (cs:=#[i6_ a.n,str a.set,str a.rel]) 1 Z zP Z Z zJ) (zA 1 Z (zD Z (zU (cs:=#[i6_ b.n,str b.set,str b.rel]) 0 Z zP Z Z zJ) (zA 1 Z (zD (v:=bo_ (sameB a xs b ys)) Z (qH Z Tryd.call51 Z zZ (fun w1 hw1=>sameWay_ok a b xs ys va vb w1 ha hb (Row.own hva hw1) (Row.own hvb hw1) hA hB (by omega) (by omega))) (zA 1 Z (yF fun b16 hg16=>?_)))))))))))
 cases b16
 ·
  refine zE Z (zE Z (zE Z (zE Z (zE Z (zE Z (zA 2 Z (zH (zC [10] [_] Z (qI (qK Z Z fun w' hw=>?_))))))))))
  exact ⟨ret_b (by unfold winB;simp [*]),hw.below⟩
 refine zD Z (zU (cs:=#[i6_ a.n,str a.set,str a.rel]) 1 Z zP Z Z zJ) (zA 1 Z (zD Z (zU (cs:=#[i6_ b.n,str b.set,str b.rel]) 0 Z zP Z Z zJ) (zA 2 Z (zD (v:=bo_ (goB r.toNat a xs b ys)) Z (qH Z Tryd.call120 Z zZ (fun w1 hw1=>goes_at r h0 a b xs ys va vb w1 ha hb (Row.own hva hw1) (Row.own hvb hw1) hA hB (by first | (simp;done) | (simp;omega) | omega) (by first | (simp;done) | (simp;omega) | omega))) (zA 2 Z (zH (zC [10] [_] Z (qI (qK Z Z fun w' hw=>?_)))))))))
 exact ⟨ret_b (by unfold winB;simp [*]),hw.below⟩
set_option maxHeartbeats 400000 in
theorem iWins_ok (a b:St) (xs ys:List Int) (va vb:Value) (w:World) (hsa:a.Small) (hsb:b.Small) (hva:Ints w va xs) (hvb:Ints w vb ys) (hs1:xs.length≤140737488355328) (hs2:ys.length≤140737488355328) (r:Int) :
    Calls Tryd.prog 52 [vS a,va,vS b,vb,i6_ r].toArray w fun en w'=>en=.returned (.bool (secB a xs b ys r))∧Below w.heap.size w w':=by
 refine fnStart (n:=25) (e:=[(0,vS a),(1,va),(2,vS b),(3,vb),(4,i6_ r)]) Tryd.func52 Z Z Z Z Ends.both (zF (qD (yT (v:=vS a) Z Z Z Z Z fun p5 hp5=>?_)))
 show Ll _ _ (Own _ _ [_]) _ _ ((5,pt_ p5)::_) _ _ _;refine yT (v:=vS b) Z Z Z Z Z fun p7 hp7=>?_
 show Ll _ _ (Own _ _ [_,_]) _ _ ((7,pt_ p7)::_) _ _ _;refine qQ 1 Z (zL (zC [1,3,4,5,7] [_,_,_,_,_] Z (zF (zB (zD Z (zU (cs:=#[i6_ a.n,str a.set,str a.rel]) 1 Z zP Z Z zJ) (zA 1 Z (zD Z (zU (cs:=#[i6_ b.n,str b.set,str b.rel]) 0 Z zP Z Z zJ) (zA 2 Z (zD (v:=bo_ (gameB a xs b ys r)) Z (qH Z Tryd.call87 Z zZ (fun w1 hw1=>isGame_ok a b xs ys va vb w1 hsa hsb (Row.own hva hw1) (Row.own hvb hw1) (by first | (simp;done) | (simp;omega) | omega) (by first | (simp;done) | (simp;omega) | omega) r)) (zA 1 Z (yF fun b17 hg17=>?_)))))))))))
 cases b17
 ·
  refine zE Z (zE Z (zE Z (zE Z (zE Z (zE Z (zA 2 Z (zH (zC [10] [_] Z (qI (qK Z Z fun w' hw=>?_))))))))))
  exact ⟨ret_b (by unfold secB;simp [*]),hw.below⟩
 replace hg17:gameB a xs b ys r=true:=by simpa using hg17
 obtain ⟨hLL,hr0,hr3⟩:=gameB_true hg17
 obtain ⟨LA,LB,hlen⟩:=listsB_true hLL
 have ha:=LA.fine
 have hb:=LB.fine
 have hA:=LA.els
 have hB:=LB.els
 have hl4:=LA.len;refine zD Z (zU (cs:=#[i6_ a.n,str a.set,str a.rel]) 1 Z zP Z Z zJ) (zA 1 Z (zD Z (zU (cs:=#[i6_ b.n,str b.set,str b.rel]) 0 Z zP Z Z zJ) (zA 2 Z (zD (v:=bo_ (winB r.toNat a xs b ys)) Z (qH Z Tryd.call88 Z zZ (fun w1 hw1=>wins_ok a b xs ys va vb w1 ha hb (Row.own hva hw1) (Row.own hvb hw1) hA hB (by first | (simp;done) | (simp;omega) | omega) (by first | (simp;done) | (simp;omega) | omega) r (by omega) (by omega))) (zA 2 Z (zH (zC [10] [_] Z (qI (qK Z Z fun w' hw=>?_)))))))))
 exact ⟨ret_b (by unfold secB;simp [*]),hw.below⟩
set_option maxHeartbeats 400000 in
theorem type_zero (B:Nat) (w0:World) (hs:List (Nat×Obj)) (q c:Nat) (bs:List Bkt) (T:List (List UInt8)) (a:St) (va:Value) (xs:List Int) (w:World) (hT:TabOk bs T) (ha:a.Fine) (hva:∀ w,Own B w0 hs w→Ints w va xs) (hA:a.Els xs) (h7:xs.length+0≤7) (hcap:T.length+cnt 0≤1000000) (hw:Own B w0 (tabL 182 3 184 q c bs T++hs) w) :
    Calls Tryd.prog 115 [.agg #[sl_ q 997 997,sl_ c 1 1],vS a,va,i6_ 0].toArray w fun en w'=>∃ (m:Nat) (bs':List Bkt) (T':List (List UInt8)),en=.returned (.int .i64 (m:Int))∧(TabTo T bs' T' (cnt 0)∧Means T' 0 a xs m)∧Own B w0 (tabL 182 3 184 q c bs' T'++hs) w':=by
 refine fnStartC (Own B w0 (tabL 182 3 184 q c bs T++hs)) (n:=56) (e:=[(0,.agg #[sl_ q 997 997,sl_ c 1 1]),(1,vS a),(2,va),(3,i6_ 0)]) Tryd.func115 Z Z Z Z Ends.both hw ?_
 have hc0:cnt 0=1:=rfl
 have hbits:(atomBits a xs).length≤175:=bits_small (by omega)
 have hd0:=decS_len 0 12 (by decide) (by decide);refine zF (qD (yT (v:=.agg #[sl_ q 997 997,sl_ c 1 1]) Z Z Z Z Z fun p4 hp4=>?_))
 show Ll _ _ (Own _ _ (_::_::_::(blks 184 bs++hs))) _ _ ((4,pt_ p4)::_) _ _ _;refine yT (v:=vS a) Z Z Z Z Z fun p5 hp5=>?_
 show Ll _ _ (Own _ _ (_::_::_::_::(blks 184 bs++hs))) _ _ ((5,pt_ p5)::_) _ _ _;refine qQ 1 Z (zL (zC [2,3,4,5] [_,_,_,_] Z (zF (zB (zD Z (zU (cs:=#[i6_ a.n,str a.set,str a.rel]) 0 Z zP Z Z zJ) (zA 1 Z (zD (v:=str (atomBits a xs)) Z (qH Z Tryd.call147 Z zZ (fun w1 hw1=>l5Atoms_ok a va xs w1 ha (hva _ (qE (f:=bk_ p5 #[i6_ a.n,str a.set,str a.rel] 24::bk_ p4 #[sl_ q 997 997,sl_ c 1 1] 112::bk_ q ((bs.map bktV).toArray) 182::bk_ c #[i6_ (T.length:Int)] 3::blks 184 (bs)) hw1)) hA (by first | (simp;done) | (simp;omega) | omega))) (zA 1 Z (zH (zC [2,3,4,5,9] [_,_,_,_,_] Z (zF (zF (zB (zA 2 Z (zH (zC [2,3,4,5,9,17] [_,_,_,_,_,_] Z (yA (b:=decide ((0:Int)<(0:Int))) Z (fun h17=>?_) (fun h17=>?_))))))))))))))))))
 ·
  replace h17:=zV h17
  exact absurd h17 (by decide)
 replace h17:=zR h17;refine qR (zC [3,4,9] [_,_,_] Z (zF (jG (S:=Own B w0 [bk_ p5 #[i6_ a.n,str a.set,str a.rel] 24,bk_ p4 #[sl_ q 997 997,sl_ c 1 1] 112]) [(0,true),(1,true),(4,true),(2,false),(3,true),(5,true),(6,false),(7,true)] yJ (fun _ h=>h.drawn) (by kernel_rfl) (xE Z Z Z Z Z (zU (cs:=#[sl_ q 997 997,sl_ c 1 1]) 1 Z Tryd.isAgg112 Z Z Tryd.sizeOf112) (pk [0,1] Z Z) (xT 2 Z (pk [0,1] Z Z) (yZ Z (qC (v:=str (decS 0)) Z (qW Z (qH Z Tryd.call47 Z zZ (fun w1 hw1=>l15Dec_ok 0 w1 (by omega) (by omega)))) (zL (yP (pk [0,1] Z Z) ?_)))))))));refine xE Z Z Z Z Z (qU Z Z Z (by simp only [zM,qL,qM];omega)) (pk [0,1] Z Z) (xE Z Z Z Z Z (qU Z Z Z (by simp only [zM,qL,qM];omega)) (pk [0,1] Z Z) (yZ Z (Ll.callTab (S:=182) (I:=3) (E:=184) (q:=q) (c:=c) (bs:=bs) (T:=T) (hs:=hs) (ok:=fun m bs' T'=>TabTo T bs' T' 1∧T'[m]?=some (((decS 0)++([58]))++(atomBits a xs))) (xs:=[.tmp 49,.tmp 54]) (vs:=[.agg #[sl_ q 997 997,sl_ c 1 1],str (((decS 0)++([58]))++(atomBits a xs))]) [bk_ p5 #[i6_ a.n,str a.set,str a.rel] 24,bk_ p4 #[sl_ q 997 997,sl_ c 1 1] 112] Z Z Z Z Tryd.call123 Z (fun w1 hw1=>number_ok B w0 ([bk_ p5 #[i6_ a.n,str a.set,str a.rel] 24,bk_ p4 #[sl_ q 997 997,sl_ c 1 1] 112]++hs) q c bs T (((decS 0)++([58]))++(atomBits a xs)) w1 hT (by omega) (by simp only [zM,qL,qM];omega) hw1) fun m bs_ T_ hKm=>?_)))
 show Ll _ _ (Own _ _ (_::_::_::_::(blks 184 bs_++hs))) _ _ ((55,i6_ (m:Int))::_) _ _ _;refine zL (yP (pk [0,1] Z Z) ?_);refine xT 1 Z (pk [0,1] Z Z) (Ld.nil (zC [8] [_] Z (qI (qK Z Z fun w' hw=>?_))))
 exact ⟨m,bs_,T_,rfl,⟨hKm.1,by show _=some (descr 0 _ []);simpa [descr,commas] using hKm.2⟩,hw.drop (f:=[bk_ p5 #[i6_ a.n,str a.set,str a.rel] 24,bk_ p4 #[sl_ q 997 997,sl_ c 1 1] 112])⟩
set_option maxHeartbeats 400000 in
theorem type_of (n:Nat) (ih:∀ (B:Nat) (w0:World) (hs:List (Nat×Obj)) (q c:Nat) (bs:List Bkt) (T:List (List UInt8)) (a:St) (va:Value) (xs:List Int) (w:World),TabOk bs T→a.Fine→(∀ w,Own B w0 hs w→Ints w va xs)→a.Els xs→xs.length+n≤7→T.length+cnt n≤1000000→Own B w0 (tabL 182 3 184 q c bs T++hs) w→Calls Tryd.prog 115 #[.agg #[.slice (some ⟨q,0,none⟩) 997 997,.slice (some ⟨c,0,none⟩) 1 1],vS a,va,.int .i64 (n:Int)] w fun en w'=>∃ (m:Nat) (bs':List Bkt) (T':List (List UInt8)),en=.returned (.int .i64 (m:Int))∧(TabTo T bs' T' (cnt n)∧Means T' n a xs m)∧Own B w0 (tabL 182 3 184 q c bs' T'++hs) w') (B:Nat) (w0:World) (hs:List (Nat×Obj)) (q c:Nat) (bs:List Bkt) (T:List (List UInt8)) (a:St) (va:Value) (xs:List Int) (w:World) (hT:TabOk bs T) (ha:a.Fine) (hva:∀ w,Own B w0 hs w→Ints w va xs) (hA:a.Els xs) (h7:xs.length+(n+1)≤7) (hcap:T.length+cnt (n+1)≤1000000) (hw:Own B w0 (tabL 182 3 184 q c bs T++hs) w) :
    Calls Tryd.prog 115 [.agg #[sl_ q 997 997,sl_ c 1 1],vS a,va,i6_ ((n:Int)+1)].toArray w fun en w'=>∃ (m:Nat) (bs':List Bkt) (T':List (List UInt8)),en=.returned (.int .i64 (m:Int))∧(TabTo T bs' T' (cnt (n+1))∧Means T' (n+1) a xs m)∧Own B w0 (tabL 182 3 184 q c bs' T'++hs) w':=by
 refine fnStartC (Own B w0 (tabL 182 3 184 q c bs T++hs)) (n:=56) (e:=[(0,.agg #[sl_ q 997 997,sl_ c 1 1]),(1,vS a),(2,va),(3,i6_ ((n:Int)+1))]) Tryd.func115 Z Z Z Z Ends.both hw ?_
 have hcs:=cnt_succ n
 have hbits:(atomBits a xs).length≤175:=bits_small (by omega)
 have hm8:=ha.hi
 have hm1:=ha.lo
 have hdn:=decS_len (n+1) 12 (show n+1<1000000000000 by omega) (by decide);refine zF (qD (yT (v:=.agg #[sl_ q 997 997,sl_ c 1 1]) Z Z Z Z Z fun p4 hp4=>?_))
 show Ll _ _ (Own _ _ (_::_::_::(blks 184 bs++hs))) _ _ ((4,pt_ p4)::_) _ _ _;refine yT (v:=vS a) Z Z Z Z Z fun p5 hp5=>?_
 show Ll _ _ (Own _ _ (_::_::_::_::(blks 184 bs++hs))) _ _ ((5,pt_ p5)::_) _ _ _;refine qQ 1 Z (zL (zC [2,3,4,5] [_,_,_,_] Z (zF (zB (zD Z (zU (cs:=#[i6_ a.n,str a.set,str a.rel]) 0 Z zP Z Z zJ) (zA 1 Z (zD (v:=str (atomBits a xs)) Z (qH Z Tryd.call147 Z zZ (fun w1 hw1=>l5Atoms_ok a va xs w1 ha (hva _ (qE (f:=bk_ p5 #[i6_ a.n,str a.set,str a.rel] 24::bk_ p4 #[sl_ q 997 997,sl_ c 1 1] 112::bk_ q ((bs.map bktV).toArray) 182::bk_ c #[i6_ (T.length:Int)] 3::blks 184 (bs)) hw1)) hA (by first | (simp;done) | (simp;omega) | omega))) (zA 1 Z (zH (zC [2,3,4,5,9] [_,_,_,_,_] Z (zF (zF (zB (zA 2 Z (zH (zC [2,3,4,5,9,17] [_,_,_,_,_,_] Z (yA (b:=decide ((0:Int)<((n:Int)+1))) Z (fun h17=>?_) (fun h17=>?_))))))))))))))))))
 ·
  replace h17:=zV h17;refine zF (qD (yS (xs:=[]) (vs:=[]) qS Z Z Z Z Z Z (by decide) Z fun p18 hp18=>(qQ 1 Z (zL (zC [2,3,4,5,9,10] [_,_,_,_,_,_] Z (zF (zF (zB (zA 1 Z (zH (zC [2,3,4,5,9,10,11] [_,_,_,_,_,_,_] Z (qT (xF (σ:=Nat×List Bkt×List (List UInt8)×Nat×Nat×Array Value×List Int) (fun ⟨k,bs1,T1,g,cap,cur,L⟩=>(k:Int)≤a.n∧TabTo T bs1 T1 (k*cnt n)∧FoundL T1 n a xs L k∧cur.size=cap*1∧L.length≤cap∧cur.toList.take L.length=ints L) (fun ⟨k,bs1,T1,g,cap,cur,L⟩=>[(2,va),(3,i6_ ((n:Int)+1)),(4,pt_ p4),(5,pt_ p5),(9,str (atomBits a xs)),(10,sl_ g L.length cap),(11,i6_ (k:Int))]) (fun ⟨k,bs1,T1,g,cap,cur,L⟩=>Own B w0 (bk_ g cur 3::bk_ p5 #[i6_ a.n,str a.set,str a.rel] 24::bk_ p4 #[sl_ q 997 997,sl_ c 1 1] 112::bk_ q ((bs1.map bktV).toArray) 182::bk_ c #[i6_ (T1.length:Int)] 3::(blks 184 bs1++hs))) (fun ⟨k,bs1,T1,g,cap,cur,L⟩=>(a.n - k).toNat) (0,bs,T,p18,0,#[],[]) ⟨by omega,⟨hT,List.prefix_refl _,by omega⟩,FoundL.zero,rfl,Nat.le_refl _,rfl⟩ (Sub.sel [2,3,4,5,9,10,11] Z) (fun _ h=>h) ?_)))))))))))))
  rintro ⟨k,bs1,T1,g,cap,cur,L⟩ ⟨hk,hTT,hF,hc,hle,ht⟩
  dsimp only
  have hFl:=hF.len
  have hTl:=hTT.len
  have hk8:=cnt_le k n (by omega);refine zF (zF (zB (zA 1 Z (zD Z (zN Z zI Z zY Z Z) (zD Z (zS 1 Z qF Z Z Z) (zA 1 Z (zH (zC [2,3,4,5,9,10,11,22] [_,_,_,_,_,_,_,_] Z (yA (b:=decide ((k:Int)<a.n)) Z (fun h22=>?_) (fun h22=>?_))))))))))
  ·
   replace h22:=zV h22
   have hx:a.El k:=⟨by omega,by omega⟩
   have hk8b:=cnt_le (k+1) n (by omega)
   rw [Nat.add_mul,Nat.one_mul] at hk8b;refine qR (zC [2,3,4,5,9,10,11] [_,_,_,_,_,_,_] Z (zF (qT (jG (S:=Own B w0 [bk_ p5 #[i6_ a.n,str a.set,str a.rel] 24,bk_ p4 #[sl_ q 997 997,sl_ c 1 1] 112]) [(0,true),(1,true),(2,true),(3,true),(4,true),(6,true),(7,true),(5,false),(8,false),(9,false),(10,true)] yJ (fun _ h=>h.drawn) (by kernel_rfl) (xT 1 Z (pk [1,2] Z Z) (xE Z Z Z Z Z (zU (cs:=#[sl_ q 997 997,sl_ c 1 1]) 1 Z Tryd.isAgg112 Z Z Tryd.sizeOf112) (pk [1,2] Z Z) (xE Z Z Z Z Z (zU (cs:=#[i6_ a.n,str a.set,str a.rel]) 0 Z zP Z Z zJ) (pk [1,2] Z Z) (xT 3 Z (pk [1,2] Z Z) (xE (v:=i6_ (n:Int)) Z Z Z Z Z (qW (by congr 1;omega) (xO Z Z Z (by omega) (by omega))) (pk [1,2] Z Z) (yZ Z (xQ (xs:=[.tmp 28,.tmp 29]) (m:=(xs++[(k:Int)]).length) (vs:=ints (xs++[(k:Int)])) (el:=3) (size:=1) Z Z Z Z jC Z (fun w1 hw1=>l4With_ok va xs (k:Int) w1 (hva _ (qE (f:=bk_ g cur 3::bk_ p5 #[i6_ a.n,str a.set,str a.rel] 24::bk_ p4 #[sl_ q 997 997,sl_ c 1 1] 112::bk_ q ((bs1.map bktV).toArray) 182::bk_ c #[i6_ (T1.length:Int)] 3::blks 184 (bs1)) hw1)) (by omega)) fun p30 cap30 cur30 hp30 hcp30 hlp30 htp30=>(zL (yP (pk [2,3] Z Z) ?_)))))))))))));refine yZ Z (Ll.callTab (S:=182) (I:=3) (E:=184) (q:=q) (c:=c) (bs:=bs1) (T:=T1) (hs:=hs) (ok:=fun m bs' T'=>TabTo T1 bs' T' (cnt n)∧Means T' n a (xs++[(k:Int)]) m) (xs:=[.tmp 26,.tmp 27,.tmp 30,.tmp 32]) (vs:=[.agg #[sl_ q 997 997,sl_ c 1 1],vS a,sl_ p30 ((xs++[(k:Int)]).length) cap30,i6_ (n:Int)]) [bk_ p30 cur30 3,bk_ g cur 3,bk_ p5 #[i6_ a.n,str a.set,str a.rel] 24,bk_ p4 #[sl_ q 997 997,sl_ c 1 1] 112] Z Z Z Z Tryd.call115 Z (fun w1 hw1=>ih B w0 ([bk_ p30 cur30 3,bk_ g cur 3,bk_ p5 #[i6_ a.n,str a.set,str a.rel] 24,bk_ p4 #[sl_ q 997 997,sl_ c 1 1] 112]++hs) q c bs1 T1 a (sl_ p30 ((xs++[(k:Int)]).length) cap30) (xs++[(k:Int)]) w1 hTT.ok ha (fun w2 hw2=>(yH hw2 (i:=0) Z (by simpa using htp30) (by simp) hlp30)) (els_more hA hx) (by first | (simp;done) | (simp;omega) | omega) (by omega) hw1) fun m bs_ T_ hKm=>?_)
   show Ll _ _ (Own _ _ (_::_::_::_::_::_::(blks 184 bs_++hs))) _ _ ((33,i6_ (m:Int))::_) _ _ _;refine zL (yP (pk [2,3] Z Z) ?_);refine yZ Z (Ll.callGet (σ:=Nat×Nat×Array Value) (ok:=fun (g,c',u)=>u.size=c'*1∧(insS L (m:Int)).length≤c'∧u.toList.take (insS L (m:Int)).length=ints (insS L (m:Int))) (v:=fun (g,c',u)=>.slice (some ⟨g,0,none⟩) (insS L (m:Int)).length c') (xs:=[.tmp 25,.tmp 33]) (vs:=[sl_ g L.length cap,i6_ (m:Int)]) (hs':=fun (g,c',u)=>(bk_ p30 cur30 3::bk_ g u 3::bk_ p5 #[i6_ a.n,str a.set,str a.rel] 24::bk_ p4 #[sl_ q 997 997,sl_ c 1 1] 112::bk_ q ((bs_.map bktV).toArray) 182::bk_ c #[i6_ (T_.length:Int)] 3::(blks 184 bs_++hs))) Z Z Z Z Tryd.call148 Z (fun w1 hw1=>(l5Insert_ok _ _ _ g cap cur L (m:Int) w1 hc hle ht (by omega) (hw1.perm (perm_back [bk_ p30 cur30 3] [_] _))).mono fun en w' ⟨g',cap',cur',h1,h2,h3⟩=>⟨(g',cap',cur'),h1,h2,h3.perm (perm_back [_] [bk_ p30 cur30 3] _)⟩) fun ⟨g_,cap_,cur_⟩ ⟨hcg_,hlg_,htg_⟩=>?_)
   show Ll _ _ (Own _ _ (_::_::_::_::_::_::(blks 184 bs_++hs))) _ _ ((34,sl_ g_ ((insS L (m:Int)).length) cap_)::_) _ _ _;refine zL (yP (pk [2,3] Z Z) ?_);refine xT 1 Z (pk [2,3] Z Z) (Ld.nil (zC [2,3,4,5,9,10,11] [_,_,_,_,_,_,_] Z (zB (zA 1 Z (zD Z (qV Z Z Z (by omega) (by omega)) (zA 1 Z (zH (qZ ((k+1,bs_,T_,g_,cap_,cur_,(insS L (m:Int)))) ⟨by omega,hTT.trans hKm.1 (by rw [Nat.add_mul,Nat.one_mul];exact Nat.le_refl _),hF.step hKm.1.pre hKm.2,hcg_,hlg_,htg_⟩ (by omega) (Sub.sel [2,3,4,5,9,10,11] Z) (fun _ h=>h.tail)))))))))
  replace h22:=zR h22
  have hsm:=hF.small (by omega);refine yY Z (zC [3,4,9,10] [_,_,_,_] Z (zF (zB (zA 1 Z (zH (zC [3,4,9,10,12] [_,_,_,_,_] Z (qT (xF (σ:=Nat) (fun i=>i≤L.length) (fun i=>[(3,i6_ ((n:Int)+1)),(4,pt_ p4),(9,str (atomBits a xs++commas (L.take i))),(10,sl_ g L.length cap),(12,i6_ (i:Int))]) (fun i=>Own B w0 (bk_ g cur 3::bk_ p5 #[i6_ a.n,str a.set,str a.rel] 24::bk_ p4 #[sl_ q 997 997,sl_ c 1 1] 112::bk_ q ((bs1.map bktV).toArray) 182::bk_ c #[i6_ (T1.length:Int)] 3::(blks 184 bs1++hs))) (fun i=>L.length - i) (0) (by omega) (Sub.cons Z (Sub.cons Z (Sub.cons (by simp [commas,List.lookup]) (Sub.sel [10,12] Z)))) (fun _ h=>h) ?_))))))))
  rintro i hi;refine zF (zF (zB (zA 2 Z (zD Z (jE Z zK Z) (zA 1 Z (zH (zC [3,4,9,10,12,38] [_,_,_,_,_,_] Z (yA (b:=decide ((i:Int)<(L.length:Int))) Z (fun h38=>?_) (fun h38=>?_)))))))))
  ·
   replace h38:=zV h38
   have hct:=commas_take (i:=i) hsm (by omega)
   obtain ⟨hs0,hs1⟩:=at_small hsm (i:=i) (by omega)
   have hdi:=decS_len (L.getD i 0).toNat 12 (show _<1000000000000 by omega) (by decide);refine qR (zC [3,4,9,10,12] [_,_,_,_,_] Z (zF (qT (zB (zA 1 Z (zD Z (qU Z Z Z (by simp only [zM,qL,qM];omega)) (zA 2 Z (zD (v:=pf_ g i) Z (qW (by simp) (yK Z zK zY Z Z (by omega) (by omega))) (zD (v:=i6_ (L.getD (i) 0)) Z (xN 0 Z qF Z Z (cur_at ht (ints_at2 (by omega)))) (zD (v:=str (decS (L.getD (i) 0).toNat)) Z (qH Z Tryd.call47 Z zZ (fun w1 hw1=>l15Dec_ok (L.getD (i) 0) w1 (by omega) (by omega))) (zD Z (qU Z Z Z (by simp only [zM,qL,qM,Int.toNat_natCast] at *;omega)) (zA 1 Z (zH (zC [3,4,9,10,12] [_,_,_,_,_] Z (zB (zA 1 Z (zD Z (qV Z Z Z (by omega) (by omega)) (zA 1 Z (zH (qZ (i+1) (by omega) (by omega) (Sub.cons Z (Sub.cons Z (Sub.cons (by rw [commas_step (by omega)];rfl) (Sub.sel [10,12] Z)))) (fun _ h=>h)))))))))))))))))))))
  replace h38:=zR h38
  obtain rfl:i=L.length:=by omega
  rw [List.take_length]
  have hcl:=commas_len hsm;refine yY Z (zC [3,4,9] [_,_,_] Z (zF (jG (S:=Own B w0 [bk_ g cur 3,bk_ p5 #[i6_ a.n,str a.set,str a.rel] 24,bk_ p4 #[sl_ q 997 997,sl_ c 1 1] 112]) [(0,true),(1,true),(4,true),(2,false),(3,true),(5,true),(6,false),(7,true)] yJ (fun _ h=>h.drawn) (by kernel_rfl) (xE Z Z Z Z Z (zU (cs:=#[sl_ q 997 997,sl_ c 1 1]) 2 Z Tryd.isAgg112 Z Z Tryd.sizeOf112) (pk [0,1,2] Z Z) (xT 2 Z (pk [0,1,2] Z Z) (yZ Z (qC (v:=str (decS (n+1))) Z (qW (by rw [show ((n:Int)+1).toNat=n+1 from by omega]) (qH Z Tryd.call47 Z zZ (fun w1 hw1=>l15Dec_ok ((n:Int)+1) w1 (by omega) (by omega)))) (zL (yP (pk [0,1,2] Z Z) ?_)))))))));refine xE Z Z Z Z Z (qU Z Z Z (by simp only [zM,qL,qM];omega)) (pk [0,1,2] Z Z) (xE Z Z Z Z Z (qU Z Z Z (by simp only [zM,qL,qM];omega)) (pk [0,1,2] Z Z) (yZ Z (Ll.callTab (S:=182) (I:=3) (E:=184) (q:=q) (c:=c) (bs:=bs1) (T:=T1) (hs:=hs) (ok:=fun m bs' T'=>TabTo T1 bs' T' 1∧T'[m]?=some (((decS (n+1))++([58]))++(atomBits a xs++commas L))) (xs:=[.tmp 49,.tmp 54]) (vs:=[.agg #[sl_ q 997 997,sl_ c 1 1],str (((decS (n+1))++([58]))++(atomBits a xs++commas L))]) [bk_ g cur 3,bk_ p5 #[i6_ a.n,str a.set,str a.rel] 24,bk_ p4 #[sl_ q 997 997,sl_ c 1 1] 112] Z Z Z Z Tryd.call123 Z (fun w1 hw1=>number_ok B w0 ([bk_ g cur 3,bk_ p5 #[i6_ a.n,str a.set,str a.rel] 24,bk_ p4 #[sl_ q 997 997,sl_ c 1 1] 112]++hs) q c bs1 T1 (((decS (n+1))++([58]))++(atomBits a xs++commas L)) w1 hTT.ok (by omega) (by simp only [zM,qL,qM];omega) hw1) fun m_1 bs__1 T__1 hKm_1=>?_)))
  show Ll _ _ (Own _ _ (_::_::_::_::_::(blks 184 bs__1++hs))) _ _ ((55,i6_ (m_1:Int))::_) _ _ _;refine zL (yP (pk [0,1,2] Z Z) ?_);refine xT 1 Z (pk [0,1,2] Z Z) (Ld.nil (zC [8] [_] Z (qI (qK Z Z fun w' hw=>?_))))
  obtain rfl:k=a.n.toNat:=by omega
  exact ⟨m_1,bs__1,T__1,rfl,⟨hTT.trans hKm_1.1 (by rw [cnt_succ];omega),hF.means hKm_1.1.pre hKm_1.2⟩,hw.drop (f:=[bk_ g cur 3,bk_ p5 #[i6_ a.n,str a.set,str a.rel] 24,bk_ p4 #[sl_ q 997 997,sl_ c 1 1] 112])⟩
 replace h17:=zR h17
 exact absurd h17 (by omega)
theorem type_ok:∀ n:Nat,∀ (B:Nat) (w0:World) (hs:List (Nat×Obj)) (q c:Nat) (bs:List Bkt) (T:List (List UInt8)) (a:St) (va:Value) (xs:List Int) (w:World),TabOk bs T→a.Fine→(∀ w,Own B w0 hs w→Ints w va xs)→a.Els xs→xs.length+n≤7→T.length+cnt n≤1000000→Own B w0 (tabL 182 3 184 q c bs T++hs) w→Calls Tryd.prog 115 #[.agg #[.slice (some ⟨q,0,none⟩) 997 997,.slice (some ⟨c,0,none⟩) 1 1],vS a,va,.int .i64 (n:Int)] w fun en w'=>∃ (m:Nat) (bs':List Bkt) (T':List (List UInt8)),en=.returned (.int .i64 (m:Int))∧(TabTo T bs' T' (cnt n)∧Means T' n a xs m)∧Own B w0 (tabL 182 3 184 q c bs' T'++hs) w'
  | 0=>fun B w0 hs q c bs T a va xs w hT ha hva hA h7 hcap hw=>type_zero B w0 hs q c bs T a va xs w hT ha hva hA h7 hcap hw
  | n+1=>fun B w0 hs q c bs T a va xs w hT ha hva hA h7 hcap hw=>type_of n (type_ok n) B w0 hs q c bs T a va xs w hT ha hva hA h7 hcap hw
end Go.Proofs.YteccfipfimbdgaaDoor
namespace Go.Proofs.YteccfipfimbdgaaDoor
open Go.RowKit Go.Wk
set_option linter.unusedSimpArgs false
set_option maxHeartbeats 400000 in
theorem l5Reply_ok (a b:St) (xs ys:List Int) (va vb:Value) (w:World) (ha:a.Fine) (hb:b.Fine) (hva:Ints w va xs) (hvb:Ints w vb ys) (hA:a.Els xs) (hB:b.Els ys) (hlen:xs.length=ys.length) (h4:xs.length≤4) (n:Nat) (h3:n≤2) (x:Int) (hx:a.El x) :
    Calls Tryd.prog 73 [vS a,va,vS b,vb,i6_ ((n:Int)+1),i6_ x].toArray w fun en w'=>en=.returned (.int .i64 (repI (rep (goB n) a xs b ys x)))∧Below w.heap.size w w':=by
 refine fnStart (n:=42) (e:=[(0,vS a),(1,va),(2,vS b),(3,vb),(4,i6_ ((n:Int)+1)),(5,i6_ x)]) Tryd.func73 Z Z Z Z Ends.both ?_
 have hcn:=cnt_small (n:=n) (by omega)
 have hn8:=hb.hi
 have hn1:=hb.lo;refine zF (qD (yT (v:=vS a) Z Z Z Z Z fun p6 hp6=>?_))
 show Ll _ _ (Own _ _ [_]) _ _ ((6,pt_ p6)::_) _ _ _;refine yT (v:=vS b) Z Z Z Z Z fun p8 hp8=>?_
 show Ll _ _ (Own _ _ [_,_]) _ _ ((8,pt_ p8)::_) _ _ _;refine qQ 1 Z (zL (zC [1,3,4,5,6,8] [_,_,_,_,_,_] Z (zF (qD (Ll.callGet (σ:=Nat×Nat×List Bkt) (ok:=fun s=>TabOk s.2.2 []) (v:=fun s=>.agg #[.slice (some ⟨s.1,0,none⟩) 997 997,.slice (some ⟨s.2.1,0,none⟩) 1 1]) (xs:=[]) (vs:=[]) (hs':=fun s=>[bk_ p8 #[i6_ b.n,str b.set,str b.rel] 24,bk_ p6 #[i6_ a.n,str a.set,str a.rel] 24]++(tabL 182 3 184 s.1 s.2.1 s.2.2 []++[])) Z Z Z Z Tryd.call90 Z (fun w1 hw1=>(l5New_ok _ _ _ w1 hw1).mono fun en w' ⟨q,c,h1,h2⟩=>⟨(q,c,_),h1,TabOk.new,by dsimp only;rw [List.append_nil];exact h2.perm perm_front⟩) fun ⟨q,c,bs0⟩ hT0=>?_)))))
 show Ll _ _ (Own _ _ (_::_::_::_::(blks 184 bs0++[]))) _ _ ((16,.agg #[sl_ q 997 997,sl_ c 1 1])::_) _ _ _;refine xW Z Z Z Z Tryd.zeroValue112 fun p13 hp13=>?_
 show Ll _ _ (Own _ _ (bk_ p13 #[.slice none 0 0,.slice none 0 0] 112::_::_::_::_::(blks 184 bs0++[]))) _ _ ((13,pt_ p13)::_) _ _ _;refine yL (cs':=#[sl_ q 997 997,sl_ c 1 1]) (hs':=(bk_ p13 #[sl_ q 997 997,sl_ c 1 1] 112::_::_::_::_::(blks 184 bs0++[]))) 0 Z Z Z Z Z (by kernel_rfl:_=some Tryd.t112) Z Z Z Z Z (zL (zC [1,3,4,5,6,8,13] [_,_,_,_,_,_,_] Z (zF (jG (S:=Own w.heap.size w [bk_ p13 #[sl_ q 997 997,sl_ c 1 1] 112,bk_ p8 #[i6_ b.n,str b.set,str b.rel] 24,bk_ p6 #[i6_ a.n,str a.set,str a.rel] 24]) [(0,true),(1,true),(2,true),(3,true),(5,true),(6,true),(4,false),(7,false),(8,true)] yJ (fun _ h=>h.drawn) (by kernel_rfl) (xE Z Z Z Z Z (zU (cs:=#[sl_ q 997 997,sl_ c 1 1]) 0 Z Tryd.isAgg112 Z Z Tryd.sizeOf112) (pk [0,1,2] Z Z) (xE Z Z Z Z Z (zU (cs:=#[i6_ a.n,str a.set,str a.rel]) 2 Z zP Z Z zJ) (pk [0,1,2] Z Z) (xT 3 Z (pk [0,1,2] Z Z) (xE (v:=i6_ (n:Int)) Z Z Z Z Z (qW (by congr 1;omega) (xO Z Z Z (by omega) (by omega))) (pk [0,1,2] Z Z) (yZ Z (xQ (xs:=[.tmp 19,.tmp 20]) (m:=(xs++[x]).length) (vs:=ints (xs++[x])) (el:=3) (size:=1) Z Z Z Z jC Z (fun w1 hw1=>l4With_ok va xs x w1 (Row.own hva hw1) (by omega)) fun p21 cap21 cur21 hp21 hcp21 hlp21 htp21=>(zL (yP (pk [1,2,3] Z Z) ?_))))))))))));refine yZ Z (Ll.callTab (S:=182) (I:=3) (E:=184) (q:=q) (c:=c) (bs:=bs0) (T:=([]:List (List UInt8))) (hs:=[]) (ok:=fun m bs' T'=>TabTo ([]:List (List UInt8)) bs' T' (cnt n)∧Means T' n a (xs++[x]) m) (xs:=[.tmp 17,.tmp 18,.tmp 21,.tmp 23]) (vs:=[.agg #[sl_ q 997 997,sl_ c 1 1],vS a,sl_ p21 ((xs++[x]).length) cap21,i6_ (n:Int)]) [bk_ p21 cur21 3,bk_ p13 #[sl_ q 997 997,sl_ c 1 1] 112,bk_ p8 #[i6_ b.n,str b.set,str b.rel] 24,bk_ p6 #[i6_ a.n,str a.set,str a.rel] 24] Z Z Z Z Tryd.call115 Z (fun w1 hw1=>type_ok n w.heap.size w ([bk_ p21 cur21 3,bk_ p13 #[sl_ q 997 997,sl_ c 1 1] 112,bk_ p8 #[i6_ b.n,str b.set,str b.rel] 24,bk_ p6 #[i6_ a.n,str a.set,str a.rel] 24]++[]) q c bs0 ([]:List (List UInt8)) a (sl_ p21 ((xs++[x]).length) cap21) (xs++[x]) w1 hT0 ha (fun w2 hw2=>(yH hw2 (i:=0) Z (by simpa using htp21) (by simp) hlp21)) (els_more hA hx) (by simp;omega) (by simp only [qM];omega) hw1) fun m bs_ T_ hKm=>?_)
 show Ll _ _ (Own _ _ (_::_::_::_::_::_::(blks 184 bs_++[]))) _ _ ((24,i6_ (m:Int))::_) _ _ _;refine zL (yP (pk [1,2,3] Z Z) ?_);refine xT 1 Z (pk [1,2,3] Z Z) (Ld.nil (zC [3,4,8,13,14] [_,_,_,_,_] Z (zF (zF (zB (zA 1 Z (zH (zC [3,4,8,13,14,15] [_,_,_,_,_,_] Z (qT (xF (σ:=Nat×List Bkt×List (List UInt8)) (fun ⟨k,bs1,T1⟩=>(k:Int)≤b.n∧TabTo T_ bs1 T1 (k*cnt n)∧Means T1 n a (xs++[x]) m∧∀ i:Nat,i<k→winB n a (xs++[x]) b (ys++[(i:Int)])=false) (fun ⟨k,bs1,T1⟩=>[(3,vb),(4,i6_ ((n:Int)+1)),(8,pt_ p8),(13,pt_ p13),(14,i6_ (m:Int)),(15,i6_ (k:Int))]) (fun ⟨k,bs1,T1⟩=>Own w.heap.size w (bk_ p21 cur21 3::bk_ p13 #[sl_ q 997 997,sl_ c 1 1] 112::bk_ p8 #[i6_ b.n,str b.set,str b.rel] 24::bk_ p6 #[i6_ a.n,str a.set,str a.rel] 24::bk_ q ((bs1.map bktV).toArray) 182::bk_ c #[i6_ (T1.length:Int)] 3::(blks 184 bs1++[]))) (fun ⟨k,bs1,T1⟩=>(b.n - k).toNat) (0,bs_,T_) ⟨by omega,⟨hKm.1.ok,List.prefix_refl _,by omega⟩,hKm.2,fun i hi=>absurd hi (by omega)⟩ (Sub.sel [3,4,8,13,14,15] Z) (fun _ h=>h) ?_))))))))))
 rintro ⟨k,bs1,T1⟩ ⟨hk,hTT,hM,hall⟩
 dsimp only
 have hTl:=hTT.len
 have hTl0:=hKm.1.len
 simp only [qM] at hTl0
 have hk8:=cnt_le k n (by omega);refine zF (zF (zB (zA 1 Z (zD Z (zN Z zI Z zY Z Z) (zD Z (zS 2 Z qF Z Z Z) (zA 1 Z (zH (zC [3,4,8,13,14,15,28] [_,_,_,_,_,_,_] Z (yA (b:=decide ((k:Int)<b.n)) Z (fun h28=>?_) (fun h28=>?_))))))))))
 ·
  replace h28:=zV h28
  have hy:b.El k:=⟨by omega,by omega⟩;refine qR (zC [3,4,8,13,14,15] [_,_,_,_,_,_] Z (zF (qT (zF (jG (S:=Own w.heap.size w [bk_ p21 cur21 3,bk_ p13 #[sl_ q 997 997,sl_ c 1 1] 112,bk_ p8 #[i6_ b.n,str b.set,str b.rel] 24,bk_ p6 #[i6_ a.n,str a.set,str a.rel] 24]) [(0,true),(1,true),(2,true),(3,true),(5,true),(6,true),(8,true),(4,false),(7,false),(9,true)] yJ (fun _ h=>h.drawn) (by kernel_rfl) (xE Z Z Z Z Z (zU (cs:=#[sl_ q 997 997,sl_ c 1 1]) 1 Z Tryd.isAgg112 Z Z Tryd.sizeOf112) (pk [0,1,2,3] Z Z) (xE Z Z Z Z Z (zU (cs:=#[i6_ b.n,str b.set,str b.rel]) 2 Z zP Z Z zJ) (pk [0,1,2,3] Z Z) (xT 3 Z (pk [0,1,2,3] Z Z) (xE (v:=i6_ (n:Int)) Z Z Z Z Z (qW (by congr 1;omega) (xO Z Z Z (by omega) (by omega))) (pk [0,1,2,3] Z Z) (xT 1 Z (pk [0,1,2,3] Z Z) (yZ Z (xQ (xs:=[.tmp 33,.tmp 34]) (m:=(ys++[(k:Int)]).length) (vs:=ints (ys++[(k:Int)])) (el:=3) (size:=1) Z Z Z Z jC Z (fun w1 hw1=>l4With_ok vb ys (k:Int) w1 (Row.own hvb hw1) (by omega)) fun p35 cap35 cur35 hp35 hcp35 hlp35 htp35=>(zL (yP (pk [1,2,3,4] Z Z) ?_))))))))))))));refine yZ Z (Ll.callTab (S:=182) (I:=3) (E:=184) (q:=q) (c:=c) (bs:=bs1) (T:=T1) (hs:=[]) (ok:=fun m bs' T'=>TabTo T1 bs' T' (cnt n)∧Means T' n b (ys++[(k:Int)]) m) (xs:=[.tmp 31,.tmp 32,.tmp 35,.tmp 37]) (vs:=[.agg #[sl_ q 997 997,sl_ c 1 1],vS b,sl_ p35 ((ys++[(k:Int)]).length) cap35,i6_ (n:Int)]) [bk_ p35 cur35 3,bk_ p21 cur21 3,bk_ p13 #[sl_ q 997 997,sl_ c 1 1] 112,bk_ p8 #[i6_ b.n,str b.set,str b.rel] 24,bk_ p6 #[i6_ a.n,str a.set,str a.rel] 24] Z Z Z Z Tryd.call115 Z (fun w1 hw1=>type_ok n w.heap.size w ([bk_ p35 cur35 3,bk_ p21 cur21 3,bk_ p13 #[sl_ q 997 997,sl_ c 1 1] 112,bk_ p8 #[i6_ b.n,str b.set,str b.rel] 24,bk_ p6 #[i6_ a.n,str a.set,str a.rel] 24]++[]) q c bs1 T1 b (sl_ p35 ((ys++[(k:Int)]).length) cap35) (ys++[(k:Int)]) w1 hTT.ok hb (fun w2 hw2=>(yH hw2 (i:=0) Z (by simpa using htp35) (by simp) hlp35)) (els_more hB hy) (by simp;omega) (by omega) hw1) fun m_1 bs__1 T__1 hKm_1=>?_)
  show Ll _ _ (Own _ _ (_::_::_::_::_::_::_::(blks 184 bs__1++[]))) _ _ ((38,i6_ (m_1:Int))::_) _ _ _;refine zL (yP (pk [1,2,3,4] Z Z) ?_);refine xT 1 Z (pk [1,2,3,4] Z Z) (Ld.nil (zC [3,4,8,13,14,15,40] [_,_,_,_,_,_,_] Z (yA (b:=decide ((m_1:Int)=(m:Int))) Z (fun h40=>?_) (fun h40=>?_))))
  ·
   replace h40:=zV h40
   have hwe:=winB_eq (n:=n) (xs:=xs++[x]) (ys:=ys++[(k:Int)]) hKm_1.1.ok.nodup (by simp [hlen]) (hM.mono hKm_1.1.pre _ _ _ _) hKm_1.2
   have hyw:winB n a (xs++[x]) b (ys++[(k:Int)])=true:=by rw [← hwe];simpa using h40.symm
   refine zF (zB (zA 2 Z (zH (zC [12] [_] Z (qI (qK Z Z fun w' hw=>?_))))))
   exact ⟨ret_i (repI_at hlen (by omega) hall hyw).symm,hw.below⟩
  replace h40:=zR h40
  have hwe:=winB_eq (n:=n) (xs:=xs++[x]) (ys:=ys++[(k:Int)]) hKm_1.1.ok.nodup (by simp [hlen]) (hM.mono hKm_1.1.pre _ _ _ _) hKm_1.2
  have hnw:winB n a (xs++[x]) b (ys++[(k:Int)])=false:=by rw [← hwe];simpa using fun e=>h40 e.symm
  refine qR (zC [3,4,8,13,14,15] [_,_,_,_,_,_] Z (zB (zA 1 Z (zD Z (qV Z Z Z (by omega) (by omega)) (zA 1 Z (zH (qZ (k+1,bs__1,T__1) ⟨by omega,hTT.trans hKm_1.1 (by rw [Nat.add_mul,Nat.one_mul];exact Nat.le_refl _),hM.mono hKm_1.1.pre _ _ _ _,fun i hi=>(Nat.lt_succ_iff_lt_or_eq.1 hi).elim (hall i) (fun e=>by subst e;exact hnw)⟩ (by omega) (Sub.sel [3,4,8,13,14,15] Z) (fun _ h=>h.tail))))))))
 replace h28:=zR h28;refine yY Z (zC [] [] Z (zF (zB (zA 1 Z (zH (zC [12] [_] Z (qI (qK Z Z fun w' hw=>?_))))))))
 exact ⟨ret_i (repI_no hlen (fun i hi=>hall i (by omega))).symm,hw.below⟩
theorem l5Reply_at (r:Int) (h1:1≤r) (h3:r≤3) (a b:St) (xs ys:List Int) (va vb:Value) (w:World) (ha:a.Fine) (hb:b.Fine) (hva:Ints w va xs) (hvb:Ints w vb ys) (hA:a.Els xs) (hB:b.Els ys) (hlen:xs.length=ys.length) (h4:xs.length≤4) (x:Int) (hx:a.El x) :
    Calls Tryd.prog 73 #[vS a,va,vS b,vb,.int .i64 r,.int .i64 x] w fun en w'=>en=.returned (.int .i64 (repI (rep (goB (r - 1).toNat) a xs b ys x)))∧Below w.heap.size w w':=by
  have h:=l5Reply_ok a b xs ys va vb w ha hb hva hvb hA hB hlen h4 (r - 1).toNat (by omega) x hx
  rw [show (((r - 1).toNat:Int)+1)=r from by omega] at h
  exact h
theorem reply_to (r:Int) (h1:1≤r):∀ (a b:St) (xs ys:List Int) (va vb:Value) (w:World),a.Fine→b.Fine→Ints w va xs→Ints w vb ys→a.Els xs→b.Els ys→xs.length=ys.length→xs.length+((r - 1).toNat+1)≤7→∀ x:Int,a.El x→Calls Tryd.prog 78 #[vS a,va,vS b,vb,.int .i64 r,.int .i64 x] w fun en w'=>en=.returned (.tuple #[.int .i64 (((rep (goB (r - 1).toNat) a xs b ys x).getD 0:Nat):Int),.bool (rep (goB (r - 1).toNat) a xs b ys x).isSome])∧Below w.heap.size w w':=by
  intro a b xs ys va vb w ha hb hva hvb hA hB hl h7 x hx
  have h:=reply_at (r - 1) (by omega) a b xs ys va vb w ha hb hva hvb hA hB hl h7 x hx
  rw [show r - 1+1=r from by omega] at h
  exact h
end Go.Proofs.YteccfipfimbdgaaDoor
namespace Go.Proofs.YteccfipfimbdgaaDoor
open Go.RowKit Go.Wk
set_option linter.unusedSimpArgs false
set_option maxHeartbeats 400000 in
theorem l15Cut_ok (s:List UInt8) (w:World) (hs:s.length≤1048576) :
    Calls Tryd.prog 72 [str s,.int .u8 32].toArray w fun en w'=>∃ v,en=.returned v∧Below w.heap.size w w'∧NewRow w.heap.size 9 1 w' v (cutL s).length (strs (cutL s)):=by
 refine fnStart (n:=36) (e:=[(0,str s),(1,.int .u8 32)]) Tryd.func72 Z Z Z Z Ends.both (zF (zB (zA 1 Z (zH (zC [0,1] [_,_] Z (zF (qD (yS (xs:=[]) (vs:=[]) xZ Z Z Z Z Z Z (by decide) Z fun p8 hp8=>(qQ 1 Z (zL (zC [0,1,5] [_,_,_] Z (zF (zB (zA 1 Z (zH (zC [0,1,5,6] [_,_,_,_] Z (zF (zF (zB (zA 1 Z (zH (zC [0,1,5,6,7] [_,_,_,_,_] Z (qT (xF (σ:=Nat×Nat×Nat×Nat×Array Value×List (List UInt8)) (fun ⟨i,f,g,c,u,l⟩=>i≤s.length+1∧u.size=c*1∧l.length≤c∧u.toList.take l.length=strs l∧CutTo s i f l) (fun ⟨i,f,g,c,u,l⟩=>[(0,str s),(1,.int .u8 32),(5,sl_ g l.length c),(6,i6_ (f:Int)),(7,i6_ (i:Int))]) (fun ⟨i,f,g,c,u,l⟩=>Own w.heap.size w [bk_ g u 9]) (fun ⟨i,f,g,c,u,l⟩=>s.length+1 - i) (0,0,p8,0,#[],[]) ⟨by omega,rfl,Nat.le_refl 0,rfl,CutTo.start s⟩ (Sub.sel [0,1,5,6,7] Z) (fun _ h=>h) ?_))))))))))))))))))))))))
 rintro ⟨i,f,g,c,u,l⟩ ⟨hi,hcg,hlg,htg,hC⟩
 dsimp only
 have hcl:=hC.len;refine zF (zF (zB (zA 2 Z (zD (v:=i6_ (s.length:Int)) Z (xK Z qA Z) (zA 1 Z (zH (zC [0,1,5,6,7,12] [_,_,_,_,_,_] Z (yA (b:=decide ((i:Int)≤(s.length:Int))) Z (fun h12=>?_) (fun h12=>?_)))))))))
 ·
  replace h12:=zV h12
  have hfi:=hC.le (by omega);refine qR (zC [0,1,5,6,7] [_,_,_,_,_] Z (zF (qT (zF (zB (zA 2 Z (zD (v:=i6_ (s.length:Int)) Z (xK Z qA Z) (zA 2 Z (yF fun b19 hg19=>?_)))))))))
  cases b19
  ·
   replace hg19:=zR hg19
   skip;refine zA 2 Z (zD (v:=.int .u8 (((s.getD ((i:Int).toNat) 0).toNat:Int))) Z (yB Z qA Z Z (by omega) (by omega)) (zA 3 Z (zH (zC [0,1,5,6,7,25] [_,_,_,_,_,_] Z (yA (b:=decide ((((s.getD ((i:Int).toNat) 0).toNat:Int))=(32:Int))) Z (fun h25=>?_) (fun h25=>?_))))))
   ·
    replace h25:=zV h25
    skip;refine zF (qD (qQ 4 Z (qC (v:=str ((s.drop ((f:Int).toNat)).take ((i:Int).toNat - (f:Int).toNat))) Z (OpQ.sliceStr Z qO Z Z Z (by omega) (by omega) (by first | omega | (simp;omega))) (yS (xs:=[.tmp 30]) (vs:=[str ((s.drop ((f:Int).toNat)).take ((i:Int).toNat - (f:Int).toNat))]) xZ Z Z Z Z Z Z (by decide) Z fun p31 hp31=>(Ll.appendStrs (xs:=l) (ys:=([(s.drop ((f:Int).toNat)).take ((i:Int).toNat - (f:Int).toNat)]:List (List UInt8))) xZ 1 Z Z Z Z Z Z Z hcg hlg htg (fun w1 hw1=>(yH hw1 (i:=0) Z (n:=1) (cap:=1) (vs:=strs ([(s.drop ((f:Int).toNat)).take ((i:Int).toNat - (f:Int).toNat)]:List (List UInt8))) Z Z (by decide))) ((l++(([(s.drop ((f:Int).toNat)).take ((i:Int).toNat - (f:Int).toNat)]:List (List UInt8)))).length) (by first | (simp;done) | (simp;omega)) (by first | (simp;done) | (simp;omega) | omega) fun p32 cap32 cur32 hp32 hcp32 hlp32 htp32=>?_)))))
    show Ll _ _ (Own _ _ [_,_]) _ _ ((32,sl_ p32 (((l++(([(s.drop ((f:Int).toNat)).take ((i:Int).toNat - (f:Int).toNat)]:List (List UInt8)))).length)) cap32)::_) _ _ _;refine qQ 1 Z (zL (zC [0,1,5,7] [_,_,_,_] Z (zB (zA 1 Z (zD Z (qV Z Z Z (by omega) (by omega)) (zA 1 Z (zH (zC [0,1,5,6,7] [_,_,_,_,_] Z (zB (zA 1 Z (zD Z (qV Z Z Z (by omega) (by omega)) (zA 1 Z (zH (qZ ((i+1,i+1,p32,cap32,cur32,l++(([(s.drop ((f:Int).toNat)).take ((i:Int).toNat - (f:Int).toNat)]:List (List UInt8))))) ⟨by omega,hcp32,by simpa using hlp32,by simpa using (by simpa using htp32),hC.cut (by omega) (byte_32.1 (by assumption))⟩ (by omega) (Sub.sel [0,1,5,6,7] Z) (fun _ h=>h.sub (zW _ (zG _ (qJ _))))))))))))))))))
   replace h25:=zR h25
   skip;refine qR (zC [0,1,5,6,7] [_,_,_,_,_] Z (zB (zA 1 Z (zD Z (qV Z Z Z (by omega) (by omega)) (zA 1 Z (zH (qZ (i+1,f,g,c,u,l) ⟨by omega,hcg,hlg,htg,hC.on (by omega) (fun e=>h25 (byte_32.2 e))⟩ (by omega) (Sub.sel [0,1,5,6,7] Z) (fun _ h=>h))))))))
  replace hg19:=zV hg19
  skip;refine zE Z (zE Z (zE Z (zE Z (zE Z (zA 1 Z (zH (zC [0,1,5,6,7,25] [_,_,_,_,_,_] Z (jB Z (zF (qD (qQ 4 Z (qC (v:=str ((s.drop ((f:Int).toNat)).take ((i:Int).toNat - (f:Int).toNat))) Z (OpQ.sliceStr Z qO Z Z Z (by omega) (by omega) (by first | omega | (simp;omega))) (yS (xs:=[.tmp 30]) (vs:=[str ((s.drop ((f:Int).toNat)).take ((i:Int).toNat - (f:Int).toNat))]) xZ Z Z Z Z Z Z (by decide) Z fun p31_1 hp31_1=>(Ll.appendStrs (xs:=l) (ys:=([(s.drop ((f:Int).toNat)).take ((i:Int).toNat - (f:Int).toNat)]:List (List UInt8))) xZ 1 Z Z Z Z Z Z Z hcg hlg htg (fun w1 hw1=>(yH hw1 (i:=0) Z (n:=1) (cap:=1) (vs:=strs ([(s.drop ((f:Int).toNat)).take ((i:Int).toNat - (f:Int).toNat)]:List (List UInt8))) Z Z (by decide))) ((l++(([(s.drop ((f:Int).toNat)).take ((i:Int).toNat - (f:Int).toNat)]:List (List UInt8)))).length) (by first | (simp;done) | (simp;omega)) (by first | (simp;done) | (simp;omega) | omega) fun p32_1 cap32_1 cur32_1 hp32_1 hcp32_1 hlp32_1 htp32_1=>?_))))))))))))))
  show Ll _ _ (Own _ _ [_,_]) _ _ ((32,sl_ p32_1 (((l++(([(s.drop ((f:Int).toNat)).take ((i:Int).toNat - (f:Int).toNat)]:List (List UInt8)))).length)) cap32_1)::_) _ _ _;refine qQ 1 Z (zL (zC [0,1,5,7] [_,_,_,_] Z (zB (zA 1 Z (zD Z (qV Z Z Z (by omega) (by omega)) (zA 1 Z (zH (zC [0,1,5,6,7] [_,_,_,_,_] Z (zB (zA 1 Z (zD Z (qV Z Z Z (by omega) (by omega)) (zA 1 Z (zH (qZ ((i+1,i+1,p32_1,cap32_1,cur32_1,l++(([(s.drop ((f:Int).toNat)).take ((i:Int).toNat - (f:Int).toNat)]:List (List UInt8))))) ⟨by omega,hcp32_1,by simpa using hlp32_1,by simpa using (by simpa using htp32_1),hC.last (by omega) _⟩ (by omega) (Sub.sel [0,1,5,6,7] Z) (fun _ h=>h.sub (zW _ (zG _ (qJ _))))))))))))))))))
 replace h12:=zR h12;refine yY Z (zC [5] [_] Z (zF (zB (zA 2 Z (zH (zC [4] [_] Z (qI (qK Z Z fun w' hw=>?_))))))))
 have hl9:=hC.done (by omega)
 subst hl9
 exact ⟨_,rfl,hw.below,hw.newRow (i:=0) rfl hcg hlg (by simpa using htg)⟩
def GW (B : Nat) (w0 : World) : Prop := (2 < B ∧ ∃ m, w0.cell? ⟨2, 0, none⟩ = some (.int .i64 m)) ∧ (∃ g, g < B ∧ Tryd.prog.globalNamed "strings.asciiSpace" = some g) ∧ Lib.TabIs Tryd.prog w0 "strings.asciiSpace" .u8 Lib.asciiSpaceTab
theorem gw_max {B:Nat} {w0 w:World} {hs:List (Nat×Obj)} (h:GW B w0) (hw:Own B w0 hs w):∃ m,w.cell? ⟨2,0,none⟩=some (.int .i64 m):=by
  obtain ⟨⟨h1,m,h2⟩,_⟩:=h
  exact ⟨m,(hw.below.cell h1).trans h2⟩
theorem gw_tab {B : Nat} {w0 w : World} {hs : List (Nat × Obj)} (h : GW B w0) (hw : Own B w0 hs w) : Lib.TabIs Tryd.prog w "strings.asciiSpace" .u8 Lib.asciiSpaceTab := by
  obtain ⟨_,⟨g,hg,hn⟩,ht⟩:=h
  unfold Lib.TabIs World.var? at ht ⊢
  rw [hn] at ht ⊢
  rw [Option.bind_some] at ht ⊢
  rw [hw.below.block g hg];exact ht
theorem gw_lt {B:Nat} {w0 w:World} {hs:List (Nat×Obj)} (h:GW B w0) (hw:Own B w0 hs w):2<w.heap.size:=Nat.lt_of_lt_of_le h.1.1 hw.base
theorem strs_of {l:List ByteArray} {r:List (List UInt8)} (h:l.map (·.data.toList)=r):l.map Value.string=strs r:=by
  subst h
  unfold strs
  rw [List.map_map]
  exact List.map_congr_left fun b _=>rfl
theorem new_strs {w:World} {l:List Value} {n T:Nat} (h:l.length=n):Below w.heap.size w (w.alloc (.cells l.toArray T))∧NewRow w.heap.size T 1 (w.alloc (.cells l.toArray T)) (.slice (some ⟨w.heap.size,0,none⟩) n n) n l :=
  ⟨(Below.refl _ _).alloc (Nat.le_refl _) _,w.heap.size,n,l.toArray,rfl,Nat.le_refl _,(by show (w.heap.push _)[w.heap.size]?=_;simp),by simp [h],Nat.le_refl _,by simp [← h]⟩
theorem split_ok (s:List UInt8) (w:World) (hs:s.length≤1048576) (hm:∃ m,w.cell? ⟨2,0,none⟩=some (.int .i64 m)):Calls Tryd.prog 75 #[str s,str [32]] w fun en w'=>∃ v,en=.returned v∧Below w.heap.size w w'∧NewRow w.heap.size 9 1 w' v (cutL s).length (strs (cutL s)):=by
  obtain ⟨m,hm⟩:=hm;refine (Tryd.strings_Split ⟨⟨s⟩⟩ ⟨⟨[32]⟩⟩ m w (by show s.length<_;omega) hm (by decide)).mono fun en w' ⟨h1,h2⟩=>?_
  have e0:=Lib.splitB_data ⟨⟨[32]⟩⟩ 0 (Lib.countB ⟨⟨s⟩⟩ ⟨⟨[32]⟩⟩) ⟨⟨s⟩⟩
  have e1:(Lib.splitB ⟨⟨[32]⟩⟩ 0 (Lib.countB ⟨⟨s⟩⟩ ⟨⟨[32]⟩⟩) ⟨⟨s⟩⟩).map (·.data.toList)=cutL s:=e0.trans (split_cut s)
  have e2:=strs_of e1
  have hl:=Lib.splitB_all ⟨⟨[32]⟩⟩ (by decide) 0 _ ⟨⟨s⟩⟩ rfl
  have hl2:Lib.countB ⟨⟨s⟩⟩ ⟨⟨[32]⟩⟩+1=(cutL s).length:=by rw [← hl,← e1,List.length_map]
  rw [hl2] at h1
  rw [e2] at h2
  have h3:=new_strs (w:=w) (l:=strs (cutL s)) (T:=9) (strs_length _)
  exact ⟨_,h1,by rw [h2];exact h3.1,by rw [h2];exact h3.2⟩
theorem fields_ok (s : List UInt8) (w : World) (hs : s.length ≤ 1048576) (ha : ∀ b ∈ s, b.toNat < 128) (ht : Lib.TabIs Tryd.prog w "strings.asciiSpace" .u8 Lib.asciiSpaceTab) : Calls Tryd.prog 43 #[str s] w fun en w' => ∃ v, en = .returned v ∧ Below w.heap.size w w' ∧ NewRow w.heap.size 9 1 w' v (Lib.fields s).length (strs (Lib.fields s)) := by
  refine (Tryd.strings_Fields ⟨⟨s⟩⟩ w (by show s.length<_;omega) (fun j b hb=>ha b (List.mem_of_getElem? hb)) ht).mono fun en w' ⟨h1,h2⟩=>?_
  have h3:=new_strs (w:=w) (l:=strs (Lib.fields s)) (T:=9) (strs_length _)
  exact ⟨_,h1,by rw [h2];exact h3.1,by rw [h2];exact h3.2⟩
theorem fieldsM_ok (s : List UInt8) (l : List (List UInt8)) (w : World) (hs : s.length ≤ 1048576) (hl : Lib.fields s = l) (ha : ∀ b ∈ s, b.toNat < 128) (ht : Lib.TabIs Tryd.prog w "strings.asciiSpace" .u8 Lib.asciiSpaceTab) : Calls Tryd.prog 43 #[str s] w fun en w' => ∃ v, en = .returned v ∧ Below w.heap.size w w' ∧ NewRow w.heap.size 9 1 w' v l.length (strs l) := by
  subst hl;exact fields_ok s w hs ha ht
theorem gw_own {B:Nat} {w0 w:World} {hs:List (Nat×Obj)} (h:GW B w0) (hw:Own B w0 hs w):GW w.heap.size w:=by
  obtain ⟨⟨h1,_⟩,⟨g,hg,hn⟩,_⟩:=id h
  exact ⟨⟨gw_lt h hw,gw_max h hw⟩,⟨g,Nat.lt_of_lt_of_le hg hw.base,hn⟩,gw_tab h hw⟩
set_option maxHeartbeats 400000 in
theorem iMoves_ok (a b:St) (s:List UInt8) (w:World) (ha:a.Fine) (hb:b.Fine) (hs:s.length≤1048576) (hm:∃ m,w.cell? ⟨2,0,none⟩=some (.int .i64 m)) (hm2:2<w.heap.size) :
    Calls Tryd.prog 42 [vS a,vS b,str s].toArray w fun en w'=>en=.returned (.bool (movesB a.n b.n s))∧Below w.heap.size w w':=by
 refine fnStart (n:=56) (e:=[(0,vS a),(1,vS b),(2,str s)]) Tryd.func42 Z Z Z Z Ends.both ?_
 have ha1:=ha.lo
 have ha8:=ha.hi
 have hb1:=hb.lo
 have hb8:=hb.hi;refine zF (qD (yT (v:=vS a) Z Z Z Z Z fun p3 hp3=>?_))
 show Ll _ _ (Own _ _ [_]) _ _ ((3,pt_ p3)::_) _ _ _;refine yT (v:=vS b) Z Z Z Z Z fun p4 hp4=>?_
 show Ll _ _ (Own _ _ [_,_]) _ _ ((4,pt_ p4)::_) _ _ _;refine qQ 1 Z (zL (zC [2,3,4] [_,_,_] Z (zF (zF (zB (zA 1 Z (zD Z (jR Z Z Z) (zH (zC [2,3,4,12] [_,_,_,_] Z (yA (b:=s==([])) Z (fun h12=>?_) (fun h12=>?_)))))))))))
 ·
  refine zF (zB (zA 1 Z (zH (zC [6] [_] Z (qI (qK Z Z fun w' hw=>?_))))))
  exact ⟨ret_b (by rw [show s=[] by simpa using h12];rfl),hw.below⟩
 have hse:¬ s=[]:=by simpa using h12
 refine qR (zC [2,3,4] [_,_,_] Z (zF (qD (qQ 1 Z (xQ (xs:=[.tmp 13,.const (str ([32]))]) (m:=(cutL s).length) (vs:=strs (cutL s)) (el:=9) (size:=1) Z Z Z Z Tryd.call75 Z (fun w1 hw1=>split_ok s w1 (by omega) (by obtain ⟨m,hm⟩:=hm;exact ⟨m,(hw1.below.cell hm2).trans hm⟩)) fun p14 cap14 cur14 hp14 hcp14 hlp14 htp14=>(qQ 1 Z (zL (zC [3,4,7] [_,_,_] Z (zF (zF (zB (zA 1 Z (zD Z (jE Z yD Z) (zA 1 Z (zH (zC [3,4,7,15,16,17] [_,_,_,_,_,_] Z (qT (xF (σ:=Nat) (fun k=>k≤(cutL s).length∧∀ i:Nat,i<k→moveB a.n b.n ((cutL s).getD i [])=true) (fun k=>[(3,pt_ p3),(4,pt_ p4),(7,sl_ p14 ((cutL s).length) cap14),(15,sl_ p14 ((cutL s).length) cap14),(16,i6_ ((cutL s).length:Int)),(17,i6_ (k:Int))]) (fun k=>Own w.heap.size w [bk_ p14 cur14 9,bk_ p4 #[i6_ b.n,str b.set,str b.rel] 24,bk_ p3 #[i6_ a.n,str a.set,str a.rel] 24]) (fun k=>(cutL s).length - k) (0) ⟨by omega,fun i hi=>absurd hi (by omega)⟩ (Sub.sel [3,4,7,15,16,17] Z) (fun _ h=>h) ?_))))))))))))))))))
 rintro k ⟨hk,hall⟩;refine zF (zB (zA 1 Z (zH (zC [3,4,7,15,16,17,18] [_,_,_,_,_,_,_] Z (zF (yA (b:=decide ((k:Int)<((cutL s).length:Int))) Z (fun h18=>?_) (fun h18=>?_)))))))
 ·
  replace h18:=zV h18
  have hkl:k<(cutL s).length:=by omega
  have hml:=(cut_len s)
  have hby:=UInt8.toNat_lt (((cutL s).getD (k:Int).toNat []).getD (1:Int).toNat 0);refine qR (zC [3,4,7,15,16,17] [_,_,_,_,_,_] Z (zF (qT (zF (zB (zD (v:=pf_ p14 ((k:Int).toNat)) Z (qW (by rw [Nat.zero_add]) (yK (i:=(k:Int)) Z yD zQ Z Z (by omega) (by omega))) (zD (v:=str ((cutL s).getD ((k:Int).toNat) [])) Z (xN 0 Z qG Z Z (cur_at (by simpa using htp14) (strs_at (c:=cutL s) (off:=(k:Int).toNat) (by first | (simp;done) | (simp;omega) | omega)))) (zA 1 Z (zH (zC [3,4,7,9,15,16,17] [_,_,_,_,_,_,_] Z (zF (zF (zB (zA 1 Z (zD (v:=i6_ ((((cutL s).getD ((k:Int).toNat) []).length:Int))) Z (xK Z qA Z) (zA 2 Z (yF fun b24 hg24=>?_)))))))))))))))))
  cases b24
  ·
   replace hg24:=not_false hg24
   replace hg24:=zV hg24;refine zA 1 Z (zD (v:=.int .u8 (((((cutL s).getD ((k:Int).toNat) []).getD (0:Int).toNat 0).toNat:Int))) Z (qW (v':=.int .u8 ((((cutL s).getD ((k:Int).toNat) []).getD (0:Int).toNat 0).toNat:Int)) Z (yB (i:=(0:Int)) Z qA Z Z (by decide) (by omega))) (zA 2 Z (yF fun b28 hg28=>?_)))
   cases b28
   ·
    replace hg28:=not_false hg28
    replace hg28:=zV hg28;refine zE Z (zE Z (zE Z (zA 2 Z (zH (zC [3,4,7,9,15,16,17,33] [_,_,_,_,_,_,_,_] Z (jQ Z (qR (zC [3,4,7,9,15,16,17] [_,_,_,_,_,_,_] Z (zF (zB (zD Z (zN Z zI Z zY Z Z) (zD Z (zS 2 Z qF Z Z Z) (zA 1 Z (zH (zC [3,4,7,9,10,15,16,17] [_,_,_,_,_,_,_,_] Z (zF (zF (zB (zA 1 Z (zD (v:=.int .u8 (((((cutL s).getD ((k:Int).toNat) []).getD (0:Int).toNat 0).toNat:Int))) Z (qW (v':=.int .u8 ((((cutL s).getD ((k:Int).toNat) []).getD (0:Int).toNat 0).toNat:Int)) Z (yB (i:=(0:Int)) Z qA Z Z (by decide) (by omega))) (zA 1 Z (zH (zC [3,4,7,9,10,15,16,17,38] [_,_,_,_,_,_,_,_,_] Z (Wk.join (σ:=Int) (fun z=>z=(if ((((cutL s).getD (k:Int).toNat []).getD (0:Int).toNat 0).toNat:Int)=98 then b.n else a.n)) (fun z=>[(3,pt_ p3),(4,pt_ p4),(7,sl_ p14 ((cutL s).length) cap14),(9,str ((cutL s).getD ((k:Int).toNat) [])),(10,i6_ z),(15,sl_ p14 ((cutL s).length) cap14),(16,i6_ ((cutL s).length:Int)),(17,i6_ (k:Int))]) (fun z=>Own w.heap.size w [bk_ p14 cur14 9,bk_ p4 #[i6_ b.n,str b.set,str b.rel] 24,bk_ p3 #[i6_ a.n,str a.set,str a.rel] 24]) ?_ ?_))))))))))))))))))))))))
    ·
     refine xI Z (fun h38=>?_) (fun h38=>?_)
     ·
      refine zB (zD Z (zN Z zI Z zY Z Z) (zD Z (zS 1 Z qF Z Z Z) (zA 1 Z (zH (qX (b.n) (by first | (exfalso;omega) | rw [if_pos (by assumption)] | rw [if_neg (by assumption)]) (Sub.sel [3,4,7,9,10,15,16,17] Z) (fun _ h=>h))))))
     refine qR (qX (a.n) (by first | (exfalso;omega) | rw [if_pos (by assumption)] | rw [if_neg (by assumption)]) (Sub.sel [3,4,7,9,10,15,16,17] Z) (fun _ h=>h))
    rintro z hz;refine zC [3,4,7,9,10,15,16,17] [_,_,_,_,_,_,_,_] Z (zF (zB (zA 1 Z (zD (v:=.int .u8 (((((cutL s).getD ((k:Int).toNat) []).getD (1:Int).toNat 0).toNat:Int))) Z (qW (v':=.int .u8 ((((cutL s).getD ((k:Int).toNat) []).getD (1:Int).toNat 0).toNat:Int)) Z (yB (i:=(1:Int)) Z qA Z Z (by decide) (by omega))) (zA 2 Z (yF fun b44 hg44=>?_))))))
    cases b44
    ·
     replace hg44:=zR hg44;refine zA 1 Z (zD (v:=.int .u8 (((((cutL s).getD ((k:Int).toNat) []).getD (1:Int).toNat 0).toNat:Int))) Z (qW (v':=.int .u8 ((((cutL s).getD ((k:Int).toNat) []).getD (1:Int).toNat 0).toNat:Int)) Z (yB (i:=(1:Int)) Z qA Z Z (by decide) (by omega))) (zD (v:=.int .u8 ((((((cutL s).getD ((k:Int).toNat) []).getD (1:Int).toNat 0).toNat:Int)) - (48:Int))) Z (qW (by rw [IntWalk.u8_in _ (by omega)]) (OpQ.subU8 Z Z Z)) (zD (v:=i6_ ((((((cutL s).getD ((k:Int).toNat) []).getD (1:Int).toNat 0).toNat:Int)) - (48:Int))) Z (xR .i64 Z yO xD Z (IntWalk.i64_in _ (by omega))) (zA 3 Z (zH (zC [3,4,7,15,16,17,51] [_,_,_,_,_,_,_] Z (xI Z (fun h51=>?_) (fun h51=>?_))))))))
     ·
      refine zF (zB (zA 1 Z (zH (zC [6] [_] Z (qI (qK Z Z fun w' hw=>?_))))))
      simp only [Int.toNat_natCast,Int.toNat_zero,Int.toNat_one] at *
      exact ⟨ret_b (moves_not hse hkl (by first | exact move_len (by assumption) | exact move_head (by assumption) (by assumption) | exact move_low (by omega) | exact move_high hz (by omega))).symm,hw.below⟩
     refine qR (zC [3,4,7,15,16,17] [_,_,_,_,_,_] Z (zB (zD Z (qV Z Z Z (by omega) (by omega)) (zA 1 Z (zH (qZ (k+1) ⟨by omega,fun i hi=>(Nat.lt_succ_iff_lt_or_eq.1 hi).elim (hall i) (fun e=>by subst e;simp only [Int.toNat_natCast,Int.toNat_zero,Int.toNat_one] at *;exact move_yes (by assumption) (by first | exact .inl (by assumption) | exact .inr (by assumption)) hz (by omega) (by omega))⟩ (by omega) (Sub.sel [3,4,7,15,16,17] Z) (fun _ h=>h)))))))
    replace hg44:=zV hg44;refine zE Z (zE Z (zE Z (zE Z (zE Z (zE Z (zA 1 Z (zH (zC [3,4,7,15,16,17,51] [_,_,_,_,_,_,_] Z (jB Z (zF (zB (zA 1 Z (zH (zC [6] [_] Z (qI (qK Z Z fun w' hw=>?_))))))))))))))))
    simp only [Int.toNat_natCast,Int.toNat_zero,Int.toNat_one] at *
    exact ⟨ret_b (moves_not hse hkl (by first | exact move_len (by assumption) | exact move_head (by assumption) (by assumption) | exact move_low (by omega) | exact move_high hz (by omega))).symm,hw.below⟩
   replace hg28:=not_true hg28
   replace hg28:=zR hg28;refine zA 1 Z (zD (v:=.int .u8 (((((cutL s).getD ((k:Int).toNat) []).getD (0:Int).toNat 0).toNat:Int))) Z (qW (v':=.int .u8 ((((cutL s).getD ((k:Int).toNat) []).getD (0:Int).toNat 0).toNat:Int)) Z (yB (i:=(0:Int)) Z qA Z Z (by decide) (by omega))) (zA 3 Z (zH (zC [3,4,7,9,15,16,17,33] [_,_,_,_,_,_,_,_] Z (yA (b:=!(decide ((((((cutL s).getD ((k:Int).toNat) []).getD (0:Int).toNat 0).toNat:Int))=(98:Int)))) Z (fun h33=>?_) (fun h33=>?_))))))
   ·
    replace h33:=not_true h33
    replace h33:=zR h33;refine zF (zB (zA 1 Z (zH (zC [6] [_] Z (qI (qK Z Z fun w' hw=>?_))))))
    simp only [Int.toNat_natCast,Int.toNat_zero,Int.toNat_one] at *
    exact ⟨ret_b (moves_not hse hkl (by first | exact move_len (by assumption) | exact move_head (by assumption) (by assumption) | exact move_low (by omega) | exact move_high hz (by omega))).symm,hw.below⟩
   replace h33:=not_false h33
   replace h33:=zV h33;refine qR (zC [3,4,7,9,15,16,17] [_,_,_,_,_,_,_] Z (zF (zB (zD Z (zN Z zI Z zY Z Z) (zD Z (zS 2 Z qF Z Z Z) (zA 1 Z (zH (zC [3,4,7,9,10,15,16,17] [_,_,_,_,_,_,_,_] Z (zF (zF (zB (zA 1 Z (zD (v:=.int .u8 (((((cutL s).getD ((k:Int).toNat) []).getD (0:Int).toNat 0).toNat:Int))) Z (qW (v':=.int .u8 ((((cutL s).getD ((k:Int).toNat) []).getD (0:Int).toNat 0).toNat:Int)) Z (yB (i:=(0:Int)) Z qA Z Z (by decide) (by omega))) (zA 1 Z (zH (zC [3,4,7,9,10,15,16,17,38] [_,_,_,_,_,_,_,_,_] Z (Wk.join (σ:=Int) (fun z=>z=(if ((((cutL s).getD (k:Int).toNat []).getD (0:Int).toNat 0).toNat:Int)=98 then b.n else a.n)) (fun z=>[(3,pt_ p3),(4,pt_ p4),(7,sl_ p14 ((cutL s).length) cap14),(9,str ((cutL s).getD ((k:Int).toNat) [])),(10,i6_ z),(15,sl_ p14 ((cutL s).length) cap14),(16,i6_ ((cutL s).length:Int)),(17,i6_ (k:Int))]) (fun z=>Own w.heap.size w [bk_ p14 cur14 9,bk_ p4 #[i6_ b.n,str b.set,str b.rel] 24,bk_ p3 #[i6_ a.n,str a.set,str a.rel] 24]) ?_ ?_)))))))))))))))))
   ·
    refine xI Z (fun h38_1=>?_) (fun h38_1=>?_)
    ·
     refine zB (zD Z (zN Z zI Z zY Z Z) (zD Z (zS 1 Z qF Z Z Z) (zA 1 Z (zH (qX (b.n) (by first | (exfalso;omega) | rw [if_pos (by assumption)] | rw [if_neg (by assumption)]) (Sub.sel [3,4,7,9,10,15,16,17] Z) (fun _ h=>h))))))
    refine qR (qX (a.n) (by first | (exfalso;omega) | rw [if_pos (by assumption)] | rw [if_neg (by assumption)]) (Sub.sel [3,4,7,9,10,15,16,17] Z) (fun _ h=>h))
   rintro z hz;refine zC [3,4,7,9,10,15,16,17] [_,_,_,_,_,_,_,_] Z (zF (zB (zA 1 Z (zD (v:=.int .u8 (((((cutL s).getD ((k:Int).toNat) []).getD (1:Int).toNat 0).toNat:Int))) Z (qW (v':=.int .u8 ((((cutL s).getD ((k:Int).toNat) []).getD (1:Int).toNat 0).toNat:Int)) Z (yB (i:=(1:Int)) Z qA Z Z (by decide) (by omega))) (zA 2 Z (yF fun b44 hg44_1=>?_))))))
   cases b44
   ·
    replace hg44_1:=zR hg44_1;refine zA 1 Z (zD (v:=.int .u8 (((((cutL s).getD ((k:Int).toNat) []).getD (1:Int).toNat 0).toNat:Int))) Z (qW (v':=.int .u8 ((((cutL s).getD ((k:Int).toNat) []).getD (1:Int).toNat 0).toNat:Int)) Z (yB (i:=(1:Int)) Z qA Z Z (by decide) (by omega))) (zD (v:=.int .u8 ((((((cutL s).getD ((k:Int).toNat) []).getD (1:Int).toNat 0).toNat:Int)) - (48:Int))) Z (qW (by rw [IntWalk.u8_in _ (by omega)]) (OpQ.subU8 Z Z Z)) (zD (v:=i6_ ((((((cutL s).getD ((k:Int).toNat) []).getD (1:Int).toNat 0).toNat:Int)) - (48:Int))) Z (xR .i64 Z yO xD Z (IntWalk.i64_in _ (by omega))) (zA 3 Z (zH (zC [3,4,7,15,16,17,51] [_,_,_,_,_,_,_] Z (xI Z (fun h51_1=>?_) (fun h51_1=>?_))))))))
    ·
     refine zF (zB (zA 1 Z (zH (zC [6] [_] Z (qI (qK Z Z fun w' hw=>?_))))))
     simp only [Int.toNat_natCast,Int.toNat_zero,Int.toNat_one] at *
     exact ⟨ret_b (moves_not hse hkl (by first | exact move_len (by assumption) | exact move_head (by assumption) (by assumption) | exact move_low (by omega) | exact move_high hz (by omega))).symm,hw.below⟩
    refine qR (zC [3,4,7,15,16,17] [_,_,_,_,_,_] Z (zB (zD Z (qV Z Z Z (by omega) (by omega)) (zA 1 Z (zH (qZ (k+1) ⟨by omega,fun i hi=>(Nat.lt_succ_iff_lt_or_eq.1 hi).elim (hall i) (fun e=>by subst e;simp only [Int.toNat_natCast,Int.toNat_zero,Int.toNat_one] at *;exact move_yes (by assumption) (by first | exact .inl (by assumption) | exact .inr (by assumption)) hz (by omega) (by omega))⟩ (by omega) (Sub.sel [3,4,7,15,16,17] Z) (fun _ h=>h)))))))
   replace hg44_1:=zV hg44_1;refine zE Z (zE Z (zE Z (zE Z (zE Z (zE Z (zA 1 Z (zH (zC [3,4,7,15,16,17,51] [_,_,_,_,_,_,_] Z (jB Z (zF (zB (zA 1 Z (zH (zC [6] [_] Z (qI (qK Z Z fun w' hw=>?_))))))))))))))))
   simp only [Int.toNat_natCast,Int.toNat_zero,Int.toNat_one] at *
   exact ⟨ret_b (moves_not hse hkl (by first | exact move_len (by assumption) | exact move_head (by assumption) (by assumption) | exact move_low (by omega) | exact move_high hz (by omega))).symm,hw.below⟩
  replace hg24:=not_true hg24
  replace hg24:=zR hg24;refine zE Z (zE Z (zE Z (zE Z (zE Z (zE Z (zE Z (zE Z (zA 1 Z (zH (zC [3,4,7,9,15,16,17,33] [_,_,_,_,_,_,_,_] Z (jB Z (zF (zB (zA 1 Z (zH (zC [6] [_] Z (qI (qK Z Z fun w' hw=>?_))))))))))))))))))
  simp only [Int.toNat_natCast,Int.toNat_zero,Int.toNat_one] at *
  exact ⟨ret_b (moves_not hse hkl (by first | exact move_len (by assumption) | exact move_head (by assumption) (by assumption) | exact move_low (by omega) | exact move_high hz (by omega))).symm,hw.below⟩
 replace h18:=zR h18;refine yY Z (zC [7] [_] Z (zF (zB (zA 1 Z (zD Z (jE Z yD Z) (zA 2 Z (zH (zC [6] [_] Z (qI (qK Z Z fun w' hw=>?_))))))))))
 exact ⟨ret_b (moves_end hse (fun i hi=>hall i (by omega))).symm,hw.below⟩
set_option maxHeartbeats 400000 in
theorem l5Moves_ok (a b:St) (s:List UInt8) (w:World) (ha:a.Fine) (hb:b.Fine) (hs:s.length≤1048576) :
    Calls Tryd.prog 39 [vS a,vS b,str s].toArray w fun en w'=>∃ v,en=.returned v∧Below w.heap.size w w'∧NewRowZ w.heap.size 9 w' v (.bool (movesB a.n b.n s)) (movesL s).length (strs (movesL s)):=by
 refine fnStart (n:=61) (e:=[(0,vS a),(1,vS b),(2,str s)]) Tryd.func39 Z Z Z Z Ends.both ?_
 have ha1:=ha.lo
 have ha8:=ha.hi
 have hb1:=hb.lo
 have hb8:=hb.hi;refine zF (qD (yT (v:=vS a) Z Z Z Z Z fun p3 hp3=>?_))
 show Ll _ _ (Own _ _ [_]) _ _ ((3,pt_ p3)::_) _ _ _;refine yT (v:=vS b) Z Z Z Z Z fun p4 hp4=>?_
 show Ll _ _ (Own _ _ [_,_]) _ _ ((4,pt_ p4)::_) _ _ _;refine qQ 2 Z (zL (zC [2,3,4] [_,_,_] Z (zF (zF (zB (zA 1 Z (zD Z (jR Z Z Z) (zH (zC [2,3,4,13] [_,_,_,_] Z (yA (b:=s==([])) Z (fun h13=>?_) (fun h13=>?_)))))))))))
 ·
  refine zF (qD (yS (xs:=[]) (vs:=[]) xZ Z Z Z Z Z Z (by decide) Z fun p14 hp14=>(qQ 2 Z (zL (zC [6,7] [_,_] Z (qI (Kt.end2 Z Z Z fun w' hw=>?_)))))))
  have hse:s=[]:=by simpa using h13
  subst hse
  exact ⟨_,rfl,hw.below,hw.newRowZ (i:=0) (n:=0) (vs:=strs (movesL [])) rfl rfl (Nat.le_refl 0) rfl⟩
 have hse:¬ s=[]:=by simpa using h13
 refine qR (zC [2,3,4] [_,_,_] Z (zF (qD (qQ 1 Z (xQ (xs:=[.tmp 15,.const (.int .u8 32)]) (m:=(cutL s).length) (vs:=strs (cutL s)) (el:=9) (size:=1) Z Z Z Z Tryd.call72 Z (fun w1 hw1=>l15Cut_ok s w1 (by omega)) fun p16 cap16 cur16 hp16 hcp16 hlp16 htp16=>(qQ 1 Z (zL (zC [3,4,8] [_,_,_] Z (zF (zF (zB (zA 1 Z (zH (zC [3,4,8,9] [_,_,_,_] Z (qT (xF (σ:=Nat) (fun k=>k≤(cutL s).length∧∀ i:Nat,i<k→moveB a.n b.n ((cutL s).getD i [])=true) (fun k=>[(3,pt_ p3),(4,pt_ p4),(8,sl_ p16 ((cutL s).length) cap16),(9,i6_ (k:Int))]) (fun k=>Own w.heap.size w [bk_ p16 cur16 9,bk_ p4 #[i6_ b.n,str b.set,str b.rel] 24,bk_ p3 #[i6_ a.n,str a.set,str a.rel] 24]) (fun k=>(cutL s).length - k) (0) ⟨by omega,fun i hi=>absurd hi (by omega)⟩ (Sub.sel [3,4,8,9] Z) (fun _ h=>h) ?_))))))))))))))))
 rintro k ⟨hk,hall⟩;refine zF (zF (zB (zA 2 Z (zD Z (jE Z yD Z) (zA 1 Z (zH (zC [3,4,8,9,20] [_,_,_,_,_] Z (yA (b:=decide ((k:Int)<((cutL s).length:Int))) Z (fun h20=>?_) (fun h20=>?_)))))))))
 ·
  replace h20:=zV h20
  have hkl:k<(cutL s).length:=by omega
  have hml:=(cut_len s)
  have hby:=UInt8.toNat_lt (((cutL s).getD (k:Int).toNat []).getD (1:Int).toNat 0);refine qR (zC [3,4,8,9] [_,_,_,_] Z (zF (qT (zF (zB (zA 2 Z (zD (v:=pf_ p16 ((k:Int).toNat)) Z (qW (by rw [Nat.zero_add]) (yK (i:=(k:Int)) Z yD zQ Z Z (by omega) (by omega))) (zD (v:=str ((cutL s).getD ((k:Int).toNat) [])) Z (xN 0 Z qG Z Z (cur_at (by simpa using htp16) (strs_at (c:=cutL s) (off:=(k:Int).toNat) (by first | (simp;done) | (simp;omega) | omega)))) (zA 1 Z (zH (zC [3,4,8,9,10] [_,_,_,_,_] Z (zF (zF (zB (zA 1 Z (zD (v:=i6_ ((((cutL s).getD ((k:Int).toNat) []).length:Int))) Z (xK Z qA Z) (zA 2 Z (yF fun b30 hg30=>?_))))))))))))))))))
  cases b30
  ·
   replace hg30:=not_false hg30
   replace hg30:=zV hg30;refine zA 1 Z (zD (v:=.int .u8 (((((cutL s).getD ((k:Int).toNat) []).getD (0:Int).toNat 0).toNat:Int))) Z (qW (v':=.int .u8 ((((cutL s).getD ((k:Int).toNat) []).getD (0:Int).toNat 0).toNat:Int)) Z (yB (i:=(0:Int)) Z qA Z Z (by decide) (by omega))) (zA 2 Z (yF fun b34 hg34=>?_)))
   cases b34
   ·
    replace hg34:=not_false hg34
    replace hg34:=zV hg34;refine zE Z (zE Z (zE Z (zA 2 Z (zH (zC [3,4,8,9,10,39] [_,_,_,_,_,_] Z (jQ Z (qR (zC [3,4,8,9,10] [_,_,_,_,_] Z (zF (zB (zD Z (zN Z zI Z zY Z Z) (zD Z (zS 2 Z qF Z Z Z) (zA 1 Z (zH (zC [3,4,8,9,10,11] [_,_,_,_,_,_] Z (zF (zF (zB (zA 1 Z (zD (v:=.int .u8 (((((cutL s).getD ((k:Int).toNat) []).getD (0:Int).toNat 0).toNat:Int))) Z (qW (v':=.int .u8 ((((cutL s).getD ((k:Int).toNat) []).getD (0:Int).toNat 0).toNat:Int)) Z (yB (i:=(0:Int)) Z qA Z Z (by decide) (by omega))) (zA 1 Z (zH (zC [3,4,8,9,10,11,45] [_,_,_,_,_,_,_] Z (Wk.join (σ:=Int) (fun z=>z=(if ((((cutL s).getD (k:Int).toNat []).getD (0:Int).toNat 0).toNat:Int)=98 then b.n else a.n)) (fun z=>[(3,pt_ p3),(4,pt_ p4),(8,sl_ p16 ((cutL s).length) cap16),(9,i6_ (k:Int)),(10,str ((cutL s).getD ((k:Int).toNat) [])),(11,i6_ z)]) (fun z=>Own w.heap.size w [bk_ p16 cur16 9,bk_ p4 #[i6_ b.n,str b.set,str b.rel] 24,bk_ p3 #[i6_ a.n,str a.set,str a.rel] 24]) ?_ ?_))))))))))))))))))))))))
    ·
     refine xI Z (fun h45=>?_) (fun h45=>?_)
     ·
      refine zB (zD Z (zN Z zI Z zY Z Z) (zD Z (zS 1 Z qF Z Z Z) (zA 1 Z (zH (qX (b.n) (by first | (exfalso;omega) | rw [if_pos (by assumption)] | rw [if_neg (by assumption)]) (Sub.sel [3,4,8,9,10,11] Z) (fun _ h=>h))))))
     refine qR (qX (a.n) (by first | (exfalso;omega) | rw [if_pos (by assumption)] | rw [if_neg (by assumption)]) (Sub.sel [3,4,8,9,10,11] Z) (fun _ h=>h))
    rintro z hz;refine zC [3,4,8,9,10,11] [_,_,_,_,_,_] Z (zF (zB (zA 1 Z (zD (v:=.int .u8 (((((cutL s).getD ((k:Int).toNat) []).getD (1:Int).toNat 0).toNat:Int))) Z (qW (v':=.int .u8 ((((cutL s).getD ((k:Int).toNat) []).getD (1:Int).toNat 0).toNat:Int)) Z (yB (i:=(1:Int)) Z qA Z Z (by decide) (by omega))) (zD (v:=i6_ (((((cutL s).getD ((k:Int).toNat) []).getD (1:Int).toNat 0).toNat:Int))) Z (xR .i64 Z yO xD Z (IntWalk.i64_in _ (by have:=UInt8.toNat_lt (((cutL s).getD ((k:Int).toNat) []).getD (1:Int).toNat 0);omega))) (zD Z (xO Z Z Z (by omega) (by omega)) (zA 1 Z (zD Z (xO Z Z Z (by omega) (by omega)) (zD (v:=bo_ (inB ((((((cutL s).getD ((k:Int).toNat) []).getD (1:Int).toNat 0).toNat:Int)) - (48:Int)) 0 (z - (1:Int)))) Z (qH Z Tryd.call54 Z zZ (fun w1 hw1=>l1In_ok ((((((cutL s).getD ((k:Int).toNat) []).getD (1:Int).toNat 0).toNat:Int)) - (48:Int)) 0 (z - (1:Int)) w1 )) (zA 1 Z (zH (zC [3,4,8,9,55] [_,_,_,_,_] Z (yA (b:=!(inB ((((((cutL s).getD ((k:Int).toNat) []).getD (1:Int).toNat 0).toNat:Int)) - (48:Int)) 0 (z - (1:Int)))) Z (fun h55=>?_) (fun h55=>?_))))))))))))))
    ·
     replace h55:=not_true h55;refine zF (zB (zA 3 Z (zH (zC [6,7] [_,_] Z (qI (Kt.end2 Z Z Z fun w' hw=>?_))))))
     have hml2:movesL s=cutL s:=if_neg hse
     have hmb:movesB a.n b.n s=false:=by
      simp only [Int.toNat_natCast,Int.toNat_zero,Int.toNat_one] at *;refine moves_not hse hkl ?_
      first | exact move_len (by assumption) | exact move_head (by assumption) (by assumption) | (by_cases h9:((((cutL s).getD k []).getD 1 0).toNat:Int)<48 <;> first | exact move_low h9 | exact move_high hz (by unfold inB at h55;simp only [Bool.and_eq_false_iff,decide_eq_false_iff_not] at h55;omega))
     exact ⟨_,rfl,hw.below,by rw [hmb,hml2];exact hw.newRowZ (i:=0) rfl hcp16 hlp16 (by simpa using (by simpa using htp16))⟩
    replace h55:=not_false h55
    have hin:(0:Int)≤((((cutL s).getD (k:Int).toNat []).getD (1:Int).toNat 0).toNat:Int) - 48∧((((cutL s).getD (k:Int).toNat []).getD (1:Int).toNat 0).toNat:Int) - 48≤z - 1:=by unfold inB at h55;simpa using h55
    refine qR (zC [3,4,8,9] [_,_,_,_] Z (zB (zA 1 Z (zD Z (qV Z Z Z (by omega) (by omega)) (zA 1 Z (zH (qZ (k+1) ⟨by omega,fun i hi=>(Nat.lt_succ_iff_lt_or_eq.1 hi).elim (hall i) (fun e=>by subst e;simp only [Int.toNat_natCast,Int.toNat_zero,Int.toNat_one] at *;exact move_yes (by assumption) (by first | exact .inl (by assumption) | exact .inr (by assumption)) hz (by omega) (by omega))⟩ (by omega) (Sub.sel [3,4,8,9] Z) (fun _ h=>h))))))))
   replace hg34:=not_true hg34
   replace hg34:=zR hg34;refine zA 1 Z (zD (v:=.int .u8 (((((cutL s).getD ((k:Int).toNat) []).getD (0:Int).toNat 0).toNat:Int))) Z (qW (v':=.int .u8 ((((cutL s).getD ((k:Int).toNat) []).getD (0:Int).toNat 0).toNat:Int)) Z (yB (i:=(0:Int)) Z qA Z Z (by decide) (by omega))) (zA 3 Z (zH (zC [3,4,8,9,10,39] [_,_,_,_,_,_] Z (yA (b:=!(decide ((((((cutL s).getD ((k:Int).toNat) []).getD (0:Int).toNat 0).toNat:Int))=(98:Int)))) Z (fun h39=>?_) (fun h39=>?_))))))
   ·
    replace h39:=not_true h39
    replace h39:=zR h39;refine zF (zB (zA 3 Z (zH (zC [6,7] [_,_] Z (qI (Kt.end2 Z Z Z fun w' hw=>?_))))))
    have hml2:movesL s=cutL s:=if_neg hse
    have hmb:movesB a.n b.n s=false:=by
     simp only [Int.toNat_natCast,Int.toNat_zero,Int.toNat_one] at *;refine moves_not hse hkl ?_
     first | exact move_len (by assumption) | exact move_head (by assumption) (by assumption) | (by_cases h9:((((cutL s).getD k []).getD 1 0).toNat:Int)<48 <;> first | exact move_low h9 | exact move_high hz (by unfold inB at h55;simp only [Bool.and_eq_false_iff,decide_eq_false_iff_not] at h55;omega))
    exact ⟨_,rfl,hw.below,by rw [hmb,hml2];exact hw.newRowZ (i:=0) rfl hcp16 hlp16 (by simpa using (by simpa using htp16))⟩
   replace h39:=not_false h39
   replace h39:=zV h39;refine qR (zC [3,4,8,9,10] [_,_,_,_,_] Z (zF (zB (zD Z (zN Z zI Z zY Z Z) (zD Z (zS 2 Z qF Z Z Z) (zA 1 Z (zH (zC [3,4,8,9,10,11] [_,_,_,_,_,_] Z (zF (zF (zB (zA 1 Z (zD (v:=.int .u8 (((((cutL s).getD ((k:Int).toNat) []).getD (0:Int).toNat 0).toNat:Int))) Z (qW (v':=.int .u8 ((((cutL s).getD ((k:Int).toNat) []).getD (0:Int).toNat 0).toNat:Int)) Z (yB (i:=(0:Int)) Z qA Z Z (by decide) (by omega))) (zA 1 Z (zH (zC [3,4,8,9,10,11,45] [_,_,_,_,_,_,_] Z (Wk.join (σ:=Int) (fun z=>z=(if ((((cutL s).getD (k:Int).toNat []).getD (0:Int).toNat 0).toNat:Int)=98 then b.n else a.n)) (fun z=>[(3,pt_ p3),(4,pt_ p4),(8,sl_ p16 ((cutL s).length) cap16),(9,i6_ (k:Int)),(10,str ((cutL s).getD ((k:Int).toNat) [])),(11,i6_ z)]) (fun z=>Own w.heap.size w [bk_ p16 cur16 9,bk_ p4 #[i6_ b.n,str b.set,str b.rel] 24,bk_ p3 #[i6_ a.n,str a.set,str a.rel] 24]) ?_ ?_)))))))))))))))))
   ·
    refine xI Z (fun h45_1=>?_) (fun h45_1=>?_)
    ·
     refine zB (zD Z (zN Z zI Z zY Z Z) (zD Z (zS 1 Z qF Z Z Z) (zA 1 Z (zH (qX (b.n) (by first | (exfalso;omega) | rw [if_pos (by assumption)] | rw [if_neg (by assumption)]) (Sub.sel [3,4,8,9,10,11] Z) (fun _ h=>h))))))
    refine qR (qX (a.n) (by first | (exfalso;omega) | rw [if_pos (by assumption)] | rw [if_neg (by assumption)]) (Sub.sel [3,4,8,9,10,11] Z) (fun _ h=>h))
   rintro z hz;refine zC [3,4,8,9,10,11] [_,_,_,_,_,_] Z (zF (zB (zA 1 Z (zD (v:=.int .u8 (((((cutL s).getD ((k:Int).toNat) []).getD (1:Int).toNat 0).toNat:Int))) Z (qW (v':=.int .u8 ((((cutL s).getD ((k:Int).toNat) []).getD (1:Int).toNat 0).toNat:Int)) Z (yB (i:=(1:Int)) Z qA Z Z (by decide) (by omega))) (zD (v:=i6_ (((((cutL s).getD ((k:Int).toNat) []).getD (1:Int).toNat 0).toNat:Int))) Z (xR .i64 Z yO xD Z (IntWalk.i64_in _ (by have:=UInt8.toNat_lt (((cutL s).getD ((k:Int).toNat) []).getD (1:Int).toNat 0);omega))) (zD Z (xO Z Z Z (by omega) (by omega)) (zA 1 Z (zD Z (xO Z Z Z (by omega) (by omega)) (zD (v:=bo_ (inB ((((((cutL s).getD ((k:Int).toNat) []).getD (1:Int).toNat 0).toNat:Int)) - (48:Int)) 0 (z - (1:Int)))) Z (qH Z Tryd.call54 Z zZ (fun w1 hw1=>l1In_ok ((((((cutL s).getD ((k:Int).toNat) []).getD (1:Int).toNat 0).toNat:Int)) - (48:Int)) 0 (z - (1:Int)) w1 )) (zA 1 Z (zH (zC [3,4,8,9,55] [_,_,_,_,_] Z (yA (b:=!(inB ((((((cutL s).getD ((k:Int).toNat) []).getD (1:Int).toNat 0).toNat:Int)) - (48:Int)) 0 (z - (1:Int)))) Z (fun h55_1=>?_) (fun h55_1=>?_))))))))))))))
   ·
    replace h55_1:=not_true h55_1;refine zF (zB (zA 3 Z (zH (zC [6,7] [_,_] Z (qI (Kt.end2 Z Z Z fun w' hw=>?_))))))
    have hml2:movesL s=cutL s:=if_neg hse
    have hmb:movesB a.n b.n s=false:=by
     simp only [Int.toNat_natCast,Int.toNat_zero,Int.toNat_one] at *;refine moves_not hse hkl ?_
     first | exact move_len (by assumption) | exact move_head (by assumption) (by assumption) | (by_cases h9:((((cutL s).getD k []).getD 1 0).toNat:Int)<48 <;> first | exact move_low h9 | exact move_high hz (by unfold inB at h55_1;simp only [Bool.and_eq_false_iff,decide_eq_false_iff_not] at h55_1;omega))
    exact ⟨_,rfl,hw.below,by rw [hmb,hml2];exact hw.newRowZ (i:=0) rfl hcp16 hlp16 (by simpa using (by simpa using htp16))⟩
   replace h55_1:=not_false h55_1
   have hin:(0:Int)≤((((cutL s).getD (k:Int).toNat []).getD (1:Int).toNat 0).toNat:Int) - 48∧((((cutL s).getD (k:Int).toNat []).getD (1:Int).toNat 0).toNat:Int) - 48≤z - 1:=by unfold inB at h55_1;simpa using h55_1
   refine qR (zC [3,4,8,9] [_,_,_,_] Z (zB (zA 1 Z (zD Z (qV Z Z Z (by omega) (by omega)) (zA 1 Z (zH (qZ (k+1) ⟨by omega,fun i hi=>(Nat.lt_succ_iff_lt_or_eq.1 hi).elim (hall i) (fun e=>by subst e;simp only [Int.toNat_natCast,Int.toNat_zero,Int.toNat_one] at *;exact move_yes (by assumption) (by first | exact .inl (by assumption) | exact .inr (by assumption)) hz (by omega) (by omega))⟩ (by omega) (Sub.sel [3,4,8,9] Z) (fun _ h=>h))))))))
  replace hg30:=not_true hg30
  replace hg30:=zR hg30;refine zE Z (zE Z (zE Z (zE Z (zE Z (zE Z (zE Z (zE Z (zA 1 Z (zH (zC [3,4,8,9,10,39] [_,_,_,_,_,_] Z (jB Z (zF (zB (zA 3 Z (zH (zC [6,7] [_,_] Z (qI (Kt.end2 Z Z Z fun w' hw=>?_))))))))))))))))))
  have hml2:movesL s=cutL s:=if_neg hse
  have hmb:movesB a.n b.n s=false:=by
   simp only [Int.toNat_natCast,Int.toNat_zero,Int.toNat_one] at *;refine moves_not hse hkl ?_
   first | exact move_len (by assumption) | exact move_head (by assumption) (by assumption) | (by_cases h9:((((cutL s).getD k []).getD 1 0).toNat:Int)<48 <;> first | exact move_low h9 | exact move_high hz (by unfold inB at h55_1;simp only [Bool.and_eq_false_iff,decide_eq_false_iff_not] at h55_1;omega))
  exact ⟨_,rfl,hw.below,by rw [hmb,hml2];exact hw.newRowZ (i:=0) rfl hcp16 hlp16 (by simpa using (by simpa using htp16))⟩
 replace h20:=zR h20;refine yY Z (zC [8] [_] Z (zF (zB (zA 2 Z (zD Z (jE Z yD Z) (zA 3 Z (zH (zC [6,7] [_,_] Z (qI (Kt.end2 Z Z Z fun w' hw=>?_))))))))))
 have hml2:movesL s=cutL s:=if_neg hse
 have hmb:=moves_end hse (fun i hi=>hall i (by omega))
 exact ⟨_,rfl,hw.below,by rw [hmb,hml2];exact hw.newRowZ (i:=0) rfl hcp16 hlp16 (by simpa using (by simpa using htp16))⟩
set_option maxHeartbeats 400000 in
theorem l5Best_ok (a b:St) (xs ys:List Int) (va vb:Value) (w:World) (ha:a.Fine) (hb:b.Fine) (hva:Ints w va xs) (hvb:Ints w vb ys) (hA:a.Els xs) (hB:b.Els ys) (hlen:xs.length=ys.length) (h4:xs.length≤4) (r:Int) (h1:1≤r) (h3:r≤3) (x:Int) (hx:a.El x) :
    Calls Tryd.prog 40 [vS a,va,vS b,vb,i6_ r,i6_ x].toArray w fun en w'=>en=.returned (.int .i64 (repI (bestO (r - 1).toNat a xs b ys x)))∧Below w.heap.size w w':=by
 refine fnStart (n:=43) (e:=[(0,vS a),(1,va),(2,vS b),(3,vb),(4,i6_ r),(5,i6_ x)]) Tryd.func40 Z Z Z Z Ends.both ?_
 have hn8:=hb.hi
 have hn1:=hb.lo
 have hm8:=ha.hi
 have hm1:=ha.lo;refine zF (qD (yT (v:=vS a) Z Z Z Z Z fun p6 hp6=>?_))
 show Ll _ _ (Own _ _ [_]) _ _ ((6,pt_ p6)::_) _ _ _;refine yT (v:=vS b) Z Z Z Z Z fun p8 hp8=>?_
 show Ll _ _ (Own _ _ [_,_]) _ _ ((8,pt_ p8)::_) _ _ _;refine qQ 1 Z (zL (zC [1,3,4,5,6,8] [_,_,_,_,_,_] Z (zF (zB (zD Z (zU (cs:=#[i6_ a.n,str a.set,str a.rel]) 1 Z zP Z Z zJ) (zA 1 Z (zD Z (zU (cs:=#[i6_ b.n,str b.set,str b.rel]) 0 Z zP Z Z zJ) (zA 3 Z (zD (v:=i6_ (repI (rep (goB ((r - 1).toNat)) a xs b ys x))) Z (qH Z Tryd.call73 Z zZ (fun w1 hw1=>l5Reply_at r h1 h3 a b xs ys va vb w1 ha hb (Row.own hva hw1) (Row.own hvb hw1) hA hB (by first | (simp;done) | (simp;omega) | omega) (by first | (simp;done) | (simp;omega) | omega) x hx)) (zA 1 Z (zH (zC [1,3,5,6,8,13] [_,_,_,_,_,_] Z (zF (zF (zB (zA 1 Z (zH (zC [1,3,5,6,8,13,14] [_,_,_,_,_,_,_] Z (qT (xF (σ:=Nat) (fun k=>(k:Int)≤b.n∧∀ i:Nat,i<k→stillB a xs b ys x (i:Int)=false) (fun k=>[(1,va),(3,vb),(5,i6_ x),(6,pt_ p6),(8,pt_ p8),(13,i6_ (repI (rep (goB ((r - 1).toNat)) a xs b ys x))),(14,i6_ (k:Int))]) (fun k=>Own w.heap.size w [bk_ p8 #[i6_ b.n,str b.set,str b.rel] 24,bk_ p6 #[i6_ a.n,str a.set,str a.rel] 24]) (fun k=>(b.n - k).toNat) (0) ⟨by omega,fun i hi=>absurd hi (by omega)⟩ (Sub.sel [1,3,5,6,8,13,14] Z) (fun _ h=>h) ?_))))))))))))))))))))
 rintro k ⟨hk,hall⟩;refine zF (zF (zB (zA 3 Z (yF fun b24 hg24=>?_))))
 cases b24
 ·
  replace hg24:=zR hg24;refine zE Z (zE Z (zE Z (zE Z (zA 1 Z (zH (zC [1,3,5,6,8,13,14,29] [_,_,_,_,_,_,_,_] Z (jQ Z (yY Z (zC [13] [_] Z (zF (zB (zA 2 Z (zH (zC [12] [_] Z (qI (qK Z Z fun w' hw=>?_))))))))))))))))
  first | exact ⟨ret_i (best_rep (by assumption)).symm,hw.below⟩ | exact ⟨ret_i (by rw [best_none hRn (fun i hi=>hall i (by omega)),hRn]),hw.below⟩
 replace hg24:=zV hg24
 have hRn:=rep_none hg24;refine zA 1 Z (zD Z (zN Z zI Z zY Z Z) (zD Z (zS 0 Z qF Z Z Z) (zA 2 Z (zH (zC [1,3,5,6,8,13,14,29] [_,_,_,_,_,_,_,_] Z (yA (b:=decide ((k:Int)<b.n)) Z (fun h29=>?_) (fun h29=>?_)))))))
 ·
  replace h29:=zV h29
  have hy:b.El (k:Int):=⟨by omega,by omega⟩;refine qR (zC [1,3,5,6,8,13,14] [_,_,_,_,_,_,_] Z (zF (qT (zF (Wk.regionO [(0,true),(1,true),(2,true),(4,true),(5,true),(6,true),(3,false),(7,false),(8,false)] yJ (fun _ h=>h.drawn) (by kernel_rfl) (xE Z Z Z Z Z (zU (cs:=#[i6_ a.n,str a.set,str a.rel]) 1 Z zP Z Z zJ) (fun _ h=>h) (xT 2 Z (fun _ h=>h) (xE Z Z Z Z Z (zU (cs:=#[i6_ b.n,str b.set,str b.rel]) 0 Z zP Z Z zJ) (fun _ h=>h) (xT 2 Z (fun _ h=>h) (yZ Z (xQ (xs:=[.tmp 33,.tmp 34]) (m:=(xs++[x]).length) (vs:=ints (xs++[x])) (el:=3) (size:=1) Z Z Z Z jC Z (fun w1 hw1=>l4With_ok va xs x w1 (Row.own hva hw1) (by omega)) fun p35 cap35 cur35 hp35 hcp35 hlp35 htp35=>(zL (yP (fun _ h=>h.tail) ?_)))))))))))));refine yZ Z (xQ (xs:=[.tmp 37,.tmp 38]) (m:=(ys++[(k:Int)]).length) (vs:=ints (ys++[(k:Int)])) (el:=3) (size:=1) Z Z Z Z jC Z (fun w1 hw1=>l4With_ok vb ys (k:Int) w1 (Row.own hvb hw1) (by omega)) fun p39 cap39 cur39 hp39 hcp39 hlp39 htp39=>(zL (yP (fun _ h=>h.tail.tail) ?_)));refine yZ Z (qC (v:=bo_ (stillB a xs b ys x (k:Int))) Z (qH Z Tryd.call74 Z zZ (fun w1 hw1=>known_b (still_more hlen) (fits_ok a b (xs++[x]) (ys++[(k:Int)]) (sl_ p35 ((xs++[x]).length) cap35) (sl_ p39 ((ys++[(k:Int)]).length) cap39) xs.length w1 ha hb (yH hw1 (i:=1) Z (by simpa using htp35) (by simp) hlp35) (yH hw1 (i:=0) Z (by simpa using htp39) (by simp) hlp39) (els_more hA hx) (els_more hB hy) (by simp) (by simp [hlen]) (by omega)))) (zL (yP (fun _ h=>h.tail.tail) ?_)));refine Ld.nil (zC [1,3,5,6,8,13,14,40] [_,_,_,_,_,_,_,_] Z (yA (b:=stillB a xs b ys x (k:Int)) Z (fun h40=>?_) (fun h40=>?_)))
  ·
   refine zF (zB (zA 2 Z (zH (zC [12] [_] Z (qI (qK Z Z fun w' hw=>?_))))))
   exact ⟨ret_i (by rw [best_at hRn (by omega) hall (by simpa using h40)];rfl),hw.below⟩
  refine qR (zC [1,3,5,6,8,13,14] [_,_,_,_,_,_,_] Z (zB (zA 1 Z (zD Z (qV Z Z Z (by omega) (by omega)) (zA 1 Z (zH (qZ (k+1) ⟨by omega,fun i hi=>(Nat.lt_succ_iff_lt_or_eq.1 hi).elim (hall i) (fun e=>by subst e;simpa using h40)⟩ (by omega) (Sub.sel [1,3,5,6,8,13,14] Z) (fun _ h=>h.tail.tail))))))))
 replace h29:=zR h29;refine yY Z (zC [13] [_] Z (zF (zB (zA 2 Z (zH (zC [12] [_] Z (qI (qK Z Z fun w' hw=>?_))))))))
 first | exact ⟨ret_i (best_rep (by assumption)).symm,hw.below⟩ | exact ⟨ret_i (by rw [best_none hRn (fun i hi=>hall i (by omega)),hRn]),hw.below⟩
set_option maxHeartbeats 400000 in
theorem playReply_ok (a b:St) (xs ys:List Int) (va vb:Value) (w:World) (ha:a.Fine) (hb:b.Fine) (hva:Ints w va xs) (hvb:Ints w vb ys) (hA:a.Els xs) (hB:b.Els ys) (hlen:xs.length=ys.length) (h4:xs.length≤4) (r:Int) (h1:1≤r) (h3:r≤3) (x:Int) (hx:a.El x) :
    Calls Tryd.prog 44 [vS a,va,vS b,vb,i6_ r,i6_ x].toArray w fun en w'=>en=.returned (.tuple #[.int .i64 (((bestO (r - 1).toNat a xs b ys x).getD 0:Nat):Int),.bool (bestO (r - 1).toNat a xs b ys x).isSome])∧Below w.heap.size w w':=by
 refine fnStart (n:=43) (e:=[(0,vS a),(1,va),(2,vS b),(3,vb),(4,i6_ r),(5,i6_ x)]) Tryd.func44 Z Z Z Z Ends.both ?_
 have hn8:=hb.hi
 have hn1:=hb.lo
 have hm8:=ha.hi
 have hm1:=ha.lo;refine zF (qD (yT (v:=vS a) Z Z Z Z Z fun p6 hp6=>?_))
 show Ll _ _ (Own _ _ [_]) _ _ ((6,pt_ p6)::_) _ _ _;refine yT (v:=vS b) Z Z Z Z Z fun p8 hp8=>?_
 show Ll _ _ (Own _ _ [_,_]) _ _ ((8,pt_ p8)::_) _ _ _;refine qQ 2 Z (zL (zC [1,3,4,5,6,8] [_,_,_,_,_,_] Z (zF (zF (zB (zD Z (zU (cs:=#[i6_ a.n,str a.set,str a.rel]) 1 Z zP Z Z zJ) (zA 1 Z (zD Z (zU (cs:=#[i6_ b.n,str b.set,str b.rel]) 0 Z zP Z Z zJ) (zA 3 Z (zD (v:=.tuple #[i6_ ((((rep (goB (r - 1).toNat) a xs b ys x).getD 0:Nat):Int)),bo_ ((rep (goB (r - 1).toNat) a xs b ys x).isSome)]) Z (qH Z Tryd.call78 Z zZ (fun w1 hw1=>reply_to r h1 a b xs ys va vb w1 ha hb (Row.own hva hw1) (Row.own hvb hw1) hA hB (by first | (simp;done) | (simp;omega) | omega) (by first | (simp;done) | (simp;omega) | omega) x hx)) (zA 1 Z (zD (v:=i6_ ((((rep (goB (r - 1).toNat) a xs b ys x).getD 0:Nat):Int))) Z (xA Z Z Z) (zD (v:=bo_ ((rep (goB (r - 1).toNat) a xs b ys x).isSome)) Z (xA Z Z Z) (zA 2 Z (zH (zC [1,3,5,6,8,14,15] [_,_,_,_,_,_,_] Z (zF (zB (zA 1 Z (zH (zC [1,3,5,6,8,14,27] [_,_,_,_,_,_,_] Z (yA (b:=(rep (goB (r - 1).toNat) a xs b ys x).isSome) Z (fun h27=>?_) (fun h27=>?_)))))))))))))))))))))))
 ·
  obtain ⟨z,hz⟩:=Option.isSome_iff_exists.1 h27
  have hbz:=best_some hz;refine zF (zB (zA 3 Z (zH (zC [12,13] [_,_] Z (qI (Kt.end2 Z Z Z fun w' hw=>?_))))))
  exact ⟨by rw [hbz,hz];rfl,hw.below⟩
 have hRn:rep (goB (r - 1).toNat) a xs b ys x=none:=by
  cases e:rep (goB (r - 1).toNat) a xs b ys x with
  | none=>rfl
  | some y=>rw [e] at h27;cases h27
 refine qR (zC [1,3,5,6,8] [_,_,_,_,_] Z (zF (zF (zB (zD Z (zN Z zI Z zY Z Z) (zD Z (zS 0 Z qF Z Z Z) (zA 1 Z (zH (zC [1,3,5,6,8,30,31] [_,_,_,_,_,_,_] Z (qT (xF (σ:=Nat) (fun k=>(k:Int)≤b.n∧∀ i:Nat,i<k→stillB a xs b ys x (i:Int)=false) (fun k=>[(1,va),(3,vb),(5,i6_ x),(6,pt_ p6),(8,pt_ p8),(30,i6_ b.n),(31,i6_ (k:Int))]) (fun k=>Own w.heap.size w [bk_ p8 #[i6_ b.n,str b.set,str b.rel] 24,bk_ p6 #[i6_ a.n,str a.set,str a.rel] 24]) (fun k=>(b.n - k).toNat) (0) ⟨by omega,fun i hi=>absurd hi (by omega)⟩ (Sub.sel [1,3,5,6,8,30,31] Z) (fun _ h=>h) ?_)))))))))))
 rintro k ⟨hk,hall⟩;refine zF (zB (zA 1 Z (zH (zC [1,3,5,6,8,30,31,32] [_,_,_,_,_,_,_,_] Z (zF (yA (b:=decide ((k:Int)<b.n)) Z (fun h32=>?_) (fun h32=>?_)))))))
 ·
  replace h32:=zV h32
  have hy:b.El (k:Int):=⟨by omega,by omega⟩;refine qR (zC [1,3,5,6,8,30,31] [_,_,_,_,_,_,_] Z (zF (qT (zF (zB (zA 2 Z (zH (zC [1,3,5,6,8,16,30,31] [_,_,_,_,_,_,_,_] Z (zF (zB (zD Z (zU (cs:=#[i6_ a.n,str a.set,str a.rel]) 1 Z zP Z Z zJ) (zA 1 Z (zD Z (zU (cs:=#[i6_ b.n,str b.set,str b.rel]) 0 Z zP Z Z zJ) (zA 3 Z (zD (v:=bo_ (stillB a xs b ys x (k:Int))) Z (qH Z Tryd.call79 Z zZ (fun w1 hw1=>stillSame_ok a b xs ys va vb x (k:Int) w1 (ha) (hb) (Row.own hva hw1) (Row.own hvb hw1) (hA) (hB) (by first | (simp;done) | (simp;omega) | omega) (by first | (simp;done) | (simp;omega) | omega) (by first | assumption | exact St.Els.at (by assumption) (by omega) (by omega)) (by first | assumption | exact St.Els.at (by assumption) (by omega) (by omega)))) (zH (zC [1,3,5,6,8,16,30,31,40] [_,_,_,_,_,_,_,_,_] Z (yA (b:=stillB a xs b ys x (k:Int)) Z (fun h40=>?_) (fun h40=>?_)))))))))))))))))))
  ·
   refine zF (zB (zA 3 Z (zH (zC [12,13] [_,_] Z (qI (Kt.end2 Z Z Z fun w' hw=>?_))))))
   exact ⟨by rw [best_at hRn (by omega) hall (by simpa using h40)];rfl,hw.below⟩
  refine qR (zC [1,3,5,6,8,30,31] [_,_,_,_,_,_,_] Z (zB (zD Z (qV Z Z Z (by omega) (by omega)) (zA 1 Z (zH (qZ (k+1) ⟨by omega,fun i hi=>(Nat.lt_succ_iff_lt_or_eq.1 hi).elim (hall i) (fun e=>by subst e;simpa using h40)⟩ (by omega) (Sub.sel [1,3,5,6,8,30,31] Z) (fun _ h=>h)))))))
 replace h32:=zR h32;refine yY Z (zC [] [] Z (zF (zB (zA 2 Z (zH (zC [12,13] [_,_] Z (qI (Kt.end2 Z Z Z fun w' hw=>?_))))))))
 exact ⟨by rw [best_none hRn (fun i hi=>hall i (by omega))];rfl,hw.below⟩
end Go.Proofs.YteccfipfimbdgaaDoor
namespace Go.Proofs.YteccfipfimbdgaaDoor
open Go.ChangeShapes Go.WideShapes Go.ChangeAt Go.RowKit Go.Wk
def whiteL:List Int:=[9,13,1,32,133,101,160,5760,5600,8192,8202,1,8232,8233,1,8239,8287,48,12288,12288,1]
noncomputable def laidWorldP (os:Os):World :=
 let N:=(World.settled Tryd.prog os).heap.size
 let w0:=World.holding Tryd.prog os ⟨#[.cells (whiteL.map fun z=>Value.int .u16 z).toArray 177,.cells #[.slice (some ⟨N,0,none⟩) 7 7,.slice none 0 0,.int .i64 2] 174],#[],[]⟩
 { w0 with heap:=(((w0.heap.modify 3 (lay (flat2 Go.Pinned.utf8First))).modify 4 (lay (flat2 Rows.laid_unicode_utf8_acceptRanges))).modify 0 (lay (flat2 Rows.laid_strings_asciiSpace))).modify 1 (lay [.pointer (some ⟨N+1,0,none⟩)]) }
set_option maxRecDepth 100000 in
theorem laid_metP (os:Os) (args:Array Value):laidMet Tryd.prog Rows.fnExactPlayGameRow.laid ((laidWorldP os).forCall (fun _ _=>0) ⟨#[],args,[]⟩).memory :=
 laidMet_of_run3 10 (by kernel_rfl) (by kernel_rfl) (by kernel_rfl)
theorem tab_cells:(Rows.laid_strings_asciiSpace:DataW Unit)=Lib.tabData .u8 Lib.asciiSpaceTab:=by kernel_rfl
theorem gs_named : Tryd.prog.globalNamed "strings.asciiSpace" = some 0 := by kernel_rfl
theorem gs_type:(Tryd.prog.globals[0]?).map (·.type)=some 101:=by kernel_rfl
theorem gs_cells5:Tryd.prog.cellsOf 5=1:=by kernel_rfl
theorem gs_cells:Tryd.prog.cellsOf 101=256:=by kernel_rfl
theorem gw_start {W:World} (hL:laidMetH Tryd.prog Rows.fnExactPlayGameRow.laid W) (hsh:W.ShapedOpen Tryd.prog):GW W.heap.size W:=by
  obtain ⟨m,hm⟩:=cell_of_shapedOpen_int (P:=Tryd.prog) (g:=2) (t:=3) (zero:=#[.int .i64 0]) hsh (of_decide_eq_true (by kernel_rfl)) (by kernel_rfl) rfl (by kernel_rfl) (by kernel_rfl) Tryd.underlying3
  have hL':laidMet Tryd.prog Rows.fnExactPlayGameRow.laid W:=hL
  obtain ⟨ps,⟨g1,t1,c1,f1,p1,q1,_,_,_,_,⟨g2,t2,c2,f2,p2,q2,_,_,_,_,⟨g,t,cs,fuel,p,q,hg,ht,hvar,hd,_,_⟩,_⟩,_⟩,_⟩:=hL'
  obtain rfl:=Option.some.inj (gs_named.symm.trans hg)
  obtain rfl:=Option.some.inj (gs_type.symm.trans ht)
  have h2:2<W.heap.size:=by
    rcases Nat.lt_or_ge 2 W.heap.size with h | h
    · exact h
    · rw [World.cell?,Array.getElem?_eq_none h] at hm;cases hm
  refine ⟨⟨h2,m,hm⟩,⟨0,by omega,gs_named⟩,?_⟩
  unfold Lib.TabIs
  rw [hvar,← Lib.cells_of_tab (zs:=Lib.asciiSpaceTab) (k:=.u8) Tryd.underlying101 Tryd.underlying5 gs_cells5 gs_cells (by rw [← tab_cells];exact hd)]
end Go.Proofs.YteccfipfimbdgaaDoor
namespace Go.Wk
open Go.RowKit Go.ChangeShapes Go.WideShapes Go.ChangeAt
theorem open_B {H:Type} {enc:TypeId×Value→H} {P:Program} {W:World} {r:Reach} {b0:Nat} {t e:TypeId} {v:Value} {d:DataW H} {p:List MemPlace} (ht:P.underlying t=some (.slice e)) (he:P.underlying e=some (.int .u8)) (hc:P.cellsOf e=1)
    (hv:Value.okWide P W r b0 t v) (h:DataW.Trod enc P W 0 (fun _=>true) true t v d p) :
    ∃ L:List Int,Row W v (u8s L)∧Bytes8 L∧L.length≤9223372036854775807:=by
  obtain ⟨a0,len,cap,rfl⟩:=okWide_slice ht hv
  obtain ⟨fuel,hf⟩:=h
  rcases open_ints ht he hc hf with ⟨h1,_⟩ | ⟨a,len',cap',zs,h1,_,hl,hm,hz,_,hcell,hwf⟩
  · simp only [Value.cells,List.cons.injEq,and_true,Value.slice.injEq] at h1
    obtain ⟨rfl,rfl,rfl⟩:=h1
    exact ⟨[],⟨none,0,rfl,Nat.le_refl 0,fun _=>rfl,fun ad h=>by cases h⟩,fun x hx=>(by cases hx),by simp⟩
  · simp only [Value.cells,List.cons.injEq,and_true,Value.slice.injEq] at h1
    obtain ⟨rfl,rfl,rfl⟩:=h1
    simp only [if_true] at hz
    have hspot:a.spot=none:=by
      simp only [Value.okWide,ht,Cell.okWide,Cell.ok] at hv
      exact hv.2.2.2.1
    refine ⟨zs.take len,⟨some a,cap,by simp [hz,Nat.min_eq_left hl],by simp [hz];omega,(fun h=>by cases h),fun ad had=>?_⟩,fun x hx=>?_,by simp;unfold maxLen at hm;omega⟩
    · injection had with had
      subst had
      refine ⟨hspot,fun j u hj=>?_⟩
      obtain ⟨b,off,sp⟩:=a
      simp only at hspot
      subst hspot
      have hj':j<(zs.take len).length:=by
        rcases Nat.lt_or_ge j (zs.take len).length with h | h
        · exact h
        · rw [List.getElem?_eq_none (by simpa using h)] at hj;cases hj
      have hjz:j<zs.length:=by rw [List.length_take] at hj';omega
      have h2:=hcell j hjz
      rw [add_plain] at h2
      rw [h2]
      simp only [u8s,List.getElem?_map,List.getElem?_eq_getElem hj',Option.map_some,List.getElem_take] at hj
      rw [← hj,List.getD_eq_getElem?_getD,List.getElem?_eq_getElem hjz]
      rfl
    · have:=hwf x (List.mem_of_mem_take hx)
      simp only [Lit.wf,Bool.and_eq_true,IntKind.min,IntKind.max,IntKind.signed,IntKind.bits] at this
      simpa using this
end Go.Wk
