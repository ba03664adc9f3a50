/-
  FnFewVariables: all that its proof names (part 3)
-/
import Derived.Test.YtefiibghfgfdnaaGreatDoorKFnFewVariablesb
import Derived.Shelf.Strings.SlTrimAscii
import Derived.Shelf.Strings.Trim
import Derived.Test.YtefiibghfgfdnaaGreatDoorProg
import Derived.Test.YtefiibghfgfdnaaGreatDoorKFnFewVariablesa
namespace Go.Wk
open Go.RowKit
theorem Turns.swap {a b:St} {k:Nat} {n:Int} (h:Turns a b k n):Turns b a k n:=by
  rcases h with ⟨m,e,h5,h6⟩ | ⟨e,h5⟩
  · exact .inl ⟨m,e,fun h=>h5 (pW_comm _ _ _ _ _ rfl h),fun i hi=>pW_comm _ _ _ _ _ rfl (h6 i hi)⟩
  · exact .inr ⟨e,fun i=>pW_comm _ _ _ _ _ rfl (h5 i)⟩
def atQ (os ys:List Int):List Int:=ys.map fun y=>if y<0 then -1 else os.getD y.toNat 0
@[simp] theorem atQ_len (os ys:List Int):(atQ os ys).length=ys.length:=by simp [atQ]
end Go.Wk
namespace Go.Wk
open Go.RowKit
theorem app_at1 {l m:List Int} {i:Nat} (h:i<l.length):(l++m).getD i 0=l.getD i 0:=by
 rw [getD_at (by rw [List.length_append];omega),getD_at h,List.getElem_append_left h]
theorem few_game {f:List UInt8} {a b:St} {xs ys:List Int} (h:sepB f a xs b ys=true) (hc:countsV f=false) {w:Nat} (hw:xs.length≤w) (hv:∀ i:Nat,i<4→(∃ c∈f,c.toNat=97+i)→i<w) {n:Nat} (hn:rankI f≤(n:Int)) :
  ¬ pW n a (xs++bes (w - xs.length)) b (ys++bes (w - xs.length)):=fun hp=>by
 obtain ⟨p,e,hl,c,c',v,v'⟩:=sep_parts h
 have hr:rankF p≤n:=by unfold rankI at hn;rw [e] at hn;dsimp only at hn;omega
 have hpl:plainB p=true:=by unfold countsV at hc;rw [e] at hc;simpa using hc
 have hf:f=fT p:=by have:=parse_text _ (Nat.le_refl _) (formO_parse e).2;rwa [List.append_nil] at this
 have hwf:=formO_wf e
 have hall:∀ i:Nat,i<4→(allB p).testBit i=true→i<(xs++bes (w - xs.length)).length:=fun i hi ht=>by
  have:=hv i hi (by rw [hf];exact all_letter hwf ht)
  rw [List.length_append,bes_len];omega
 have hon:OnPeb (xs++bes (w - xs.length)) (ys++bes (w - xs.length)) (frB p) (envL xs) (envL ys):=fun i _ ht=>by
  have hi:=bit_under c.2.2.2 ht
  rw [app_at1 hi,app_at1 (show i<ys.length by omega),envL_at hi,envL_at (show i<ys.length by omega)]
  exact ⟨(c.2.2.1 _ (by rw [getD_at hi];exact List.getElem_mem _)).1,rfl,rfl⟩
 have:=peb_ev hwf hpl hr (by rw [List.length_append,List.length_append,hl]) hp (envL_len c.2.1) (envL_len c'.2.1) hall hon
 rw [v,v'] at this;cases this
theorem few_law {f:List UInt8} {a b:St} {xs ys:List Int} (h:sepB f a xs b ys=true) (hc:countsV f=false) {w:Nat} (hw:xs.length≤w) (hv:∀ i:Nat,i<4→(∃ c∈f,c.toNat=97+i)→i<w) :
    pebWinB a (xs++bes (w - xs.length)) b (ys++bes (w - xs.length)) (rankI f)=false∧pebEverB a (xs++bes (w - xs.length)) b (ys++bes (w - xs.length))=false:=by
  obtain ⟨p,e,-⟩:=sep_parts h
  have h0:=rankI_nn e
  have hg:=few_game h hc hw hv (n:=(rankI f).toNat) (by omega)
  constructor
  · cases q:pebWinB a (xs++bes (w - xs.length)) b (ys++bes (w - xs.length)) (rankI f) with
    | false=>rfl
    | true =>
      have q':=q
      unfold pebWinB inB at q'
      simp only [Bool.and_eq_true,decide_eq_true_eq] at q'
      exact absurd ((pebWin_at q'.1.1 q'.1.2.1 q'.1.2.2).1 q) hg
  · cases q:pebEverB a (xs++bes (w - xs.length)) b (ys++bes (w - xs.length)) with
    | false=>rfl
    | true=>exact absurd ((pebEver_at (ever_ready q)).1 q _) hg
theorem max_nat (X v:Nat):(if ((v:Int)+(1:Int)) > (X:Int) then ((v:Int)+(1:Int)) else (X:Int))=((max X (v+1):Nat):Int):=by split <;> omega
theorem letter_at {f:List UInt8} {n m:Nat} {P:Prop} (h:∀ i:Nat,i<m→(f.getD i 0).toNat=n→P) (hm:m=f.length):(∃ c∈f,c.toNat=n)→P:=fun ⟨c,hc,e⟩=>by
 obtain ⟨i,hi,rfl⟩:=List.getElem_of_mem hc
 exact h i (by omega) (by rw [getD_at hi];exact e)
def rotA (n m:Nat) (i:Nat):Nat:=(i+m) % n
def rotL (n m:Nat):Nat→List Int
 | 0=>[]
 | k+1=>rotL n m k++[((rotA n m k:Nat):Int)]
@[simp] theorem rotL_len (n m:Nat):∀ k,(rotL n m k).length=k
 | 0=>rfl
 | k+1=>by simp [rotL,rotL_len n m k]
end Go.Wk
namespace Go.Wk
open Go.RowKit
def drawN (d:Int):Nat:=2 ^ d.toNat
theorem drawN_pos (d:Int):1≤drawN d:=Nat.one_le_two_pow
theorem drawN_step (d:Int):drawN d=2*drawN (d - 1)∨d≤0:=by
  by_cases h:d≤0
  · exact .inr h
  · refine .inl ?_
    unfold drawN
    rw [show d.toNat=(d - 1).toNat+1 by omega,Nat.pow_succ,Nat.mul_comm]
theorem drawN_le {d:Int} (h:d≤4):drawN d≤16:=by
 have:drawN d≤2 ^ 4:=Nat.pow_le_pow_right (by decide) (by omega)
 simpa using this
theorem len_of {v:List UInt8} {l:List (List UInt8)} (h:v∈l) {a b:Nat} (hl:l.all (fun x=>decide (a≤x.length)&&decide (x.length≤b))=true):a≤v.length∧v.length≤b:=by
 have:=List.all_eq_true.1 hl v h
 simpa using this
end Go.Wk
namespace Go.Proofs
open Go.Shelf
def Tryz.lays160_ren:Go.Shelf.Ren:=⟨fun | 160=>143 | 232=>165 | 231=>164 | 227=>166 | 234=>168 | 233=>167 | 236=>170 | 235=>169 | 228=>178 | 271=>181 | 151=>180 | 197=>179 | 120=>187 | 152=>186 | 260=>185 | 137=>141 | 119=>189 | 224=>183 | 225=>182 | 217=>163 | 266=>177 | n=>n,fun | 9=>9 | 4=>4 | 3=>3 | 5=>5 | 117=>173 | 116=>172 | 0=>0 | 124=>176 | 21=>21 | 105=>180 | 46=>120 | 119=>187 | 139=>190 | 138=>189 | n=>n,fun | 3=>1 | 4=>2 | n=>n⟩
theorem Tryz.lays160:Go.Proofs.Lays.n160 Tryz.prog Tryz.lays160_ren:={
 mixed:=by kernel_rfl
 f119:=Tryz.func189.trans (congrArg some (by kernel_rfl))
 f120:=Tryz.func187.trans (congrArg some (by kernel_rfl))
 f137:=Tryz.func141.trans (congrArg some (by kernel_rfl))
 f151:=Tryz.func180.trans (congrArg some (by kernel_rfl))
 f152:=Tryz.func186.trans (congrArg some (by kernel_rfl))
 f160:=Tryz.func143.trans (congrArg some (by kernel_rfl))
 f197:=Tryz.func179.trans (congrArg some (by kernel_rfl))
 f217:=Tryz.func163.trans (congrArg some (by kernel_rfl))
 f224:=Tryz.func183.trans (congrArg some (by kernel_rfl))
 f225:=Tryz.func182.trans (congrArg some (by kernel_rfl))
 f227:=Tryz.func166.trans (congrArg some (by kernel_rfl))
 f228:=Tryz.func178.trans (congrArg some (by kernel_rfl))
 f231:=Tryz.func164.trans (congrArg some (by kernel_rfl))
 f232:=Tryz.func165.trans (congrArg some (by kernel_rfl))
 f233:=Tryz.func167.trans (congrArg some (by kernel_rfl))
 f234:=Tryz.func168.trans (congrArg some (by kernel_rfl))
 f235:=Tryz.func169.trans (congrArg some (by kernel_rfl))
 f236:=Tryz.func170.trans (congrArg some (by kernel_rfl))
 f260:=Tryz.func185.trans (congrArg some (by kernel_rfl))
 f266:=Tryz.func177.trans (congrArg some (by kernel_rfl))
 f271:=Tryz.func181.trans (congrArg some (by kernel_rfl))
 t0:=Tryz.underlying0
 a0:=Tryz.isAgg0
 z0:=Tryz.sizeOf0
 v0:=Tryz.zeroValue0
 t3:=Tryz.underlying3
 a3:=Tryz.isAgg3
 z3:=Tryz.sizeOf3
 v3:=Tryz.zeroValue3
 t4:=Tryz.underlying4
 a4:=Tryz.isAgg4
 z4:=Tryz.sizeOf4
 v4:=Tryz.zeroValue4
 t5:=Tryz.underlying5
 a5:=Tryz.isAgg5
 z5:=Tryz.sizeOf5
 v5:=Tryz.zeroValue5
 t9:=Tryz.underlying9
 a9:=Tryz.isAgg9
 z9:=Tryz.sizeOf9
 v9:=Tryz.zeroValue9
 t21:=Tryz.underlying21
 a21:=Tryz.isAgg21
 z21:=Tryz.sizeOf21
 v21:=Tryz.zeroValue21
 t46:=Tryz.underlying120
 a46:=Tryz.isAgg120
 z46:=Tryz.sizeOf120
 v46:=Tryz.zeroValue120
 t105:=Tryz.underlying180
 a105:=Tryz.isAgg180
 z105:=Tryz.sizeOf180
 v105:=Tryz.zeroValue180
 t116:=Tryz.underlying172
 a116:=Tryz.isAgg172
 z116:=Tryz.sizeOf172
 t117:=Tryz.underlying173
 a117:=Tryz.isAgg173
 z117:=Tryz.sizeOf173
 v117:=Tryz.zeroValue173
 t119:=Tryz.underlying187
 a119:=Tryz.isAgg187
 z119:=Tryz.sizeOf187
 t124:=Tryz.underlying176
 a124:=Tryz.isAgg176
 z124:=Tryz.sizeOf176
 v124:=Tryz.zeroValue176
 t138:=Tryz.underlying189
 a138:=Tryz.isAgg189
 z138:=Tryz.sizeOf189
 v138:=Tryz.zeroValue189
 t139:=Tryz.underlying190
 a139:=Tryz.isAgg190
 z139:=Tryz.sizeOf190
 v139:=Tryz.zeroValue190
 g3:=by kernel_rfl
 g4:=by kernel_rfl }
end Go.Proofs
namespace Go.Proofs.YtefiibghfgfdnaaGreatDoor
open Go.RowKit Go.Wk
theorem Base.mixed:Tryz.prog.follows .mixedOrders=true:=by kernel_rfl
theorem Base.elem22:Elem Tryz.prog 22 5 1:=⟨Tryz.underlying22,Tryz.t5,_,by kernel_rfl,rfl,rfl,by decide,rfl,by decide⟩
theorem Base.elem25:Elem Tryz.prog 25 3 1:=⟨Tryz.underlying25,Tryz.t3,_,by kernel_rfl,rfl,rfl,by decide,rfl,by decide⟩
theorem Base.elem48:Elem Tryz.prog 48 9 1:=⟨Tryz.underlying48,Tryz.t9,_,by kernel_rfl,rfl,rfl,by decide,rfl,by decide⟩
theorem Base.elem65:Elem Tryz.prog 65 61 1:=⟨Tryz.underlying65,Tryz.t61,_,by kernel_rfl,rfl,rfl,by decide,rfl,by decide⟩
theorem Base.elem79:Elem Tryz.prog 79 4 1:=⟨Tryz.underlying79,Tryz.t4,_,by kernel_rfl,rfl,rfl,by decide,rfl,by decide⟩
theorem Base.elem98:Elem Tryz.prog 98 163 1:=⟨Tryz.underlying98,Tryz.t163,_,by kernel_rfl,rfl,rfl,by decide,rfl,by decide⟩
theorem Base.elem163:Elem Tryz.prog 163 165 2:=⟨Tryz.underlying163,Tryz.t165,_,by kernel_rfl,rfl,rfl,by decide,rfl,by decide⟩
theorem trim_ok (s:List UInt8) (w:World) (hs:s.length≤1048576) :
  Calls Tryz.prog 143 [str s,str [48,49]].toArray w fun en w'=>en=.returned (str (Lib.trimS s [48,49]))∧Below w.heap.size w w' :=
 Any.strings_Trim_laid Tryz.lays160 (by kernel_rfl) ⟨⟨s⟩⟩ ⟨⟨[48,49]⟩⟩ w (by show s.length≤9223372036854775807;omega) (by decide) (ascii_of_all (by decide))
end Go.Proofs.YtefiibghfgfdnaaGreatDoor
namespace Go.Proofs.YtefiibghfgfdnaaGreatDoor
abbrev yC := @Base.mixed
abbrev yI := @Base.elem25
abbrev xW := @Base.elem79
abbrev jI := @Base.elem22
abbrev jR := @Base.elem48
abbrev kA := @Base.elem163
abbrev kG := @Base.elem65
end Go.Proofs.YtefiibghfgfdnaaGreatDoor
namespace Go.Proofs.YtefiibghfgfdnaaGreatDoor
open Go.RowKit Go.Wk
set_option linter.unusedSimpArgs false
set_option maxHeartbeats 400000 in
theorem l1In_ok (n lo hi:Int) (w:World) :
    Calls Tryz.prog 80 [i6_ n,i6_ lo,i6_ hi].toArray w fun en w'=>en=.returned (.bool (inB n lo hi))∧Below w.heap.size w w':=by
 refine fnStart (n:=15) (e:=[(0,i6_ n),(1,i6_ lo),(2,i6_ hi)]) Tryz.func80 Z Z Z Z Ends.both (zF (zB (zC 1 Z (zH (zD [0,1,2] [_,_,_] Z (zF (zB (zC 4 Z (xD fun b10 hg10=>?_)))))))))
 cases b10
 ·
  replace hg10:=zT hg10;refine zM Z (zM Z (zM Z (zC 2 Z (zH (zD [6] [_] Z (qM (qQ Z Z fun w' hw=>?_)))))))
  exact ⟨ret_b (by first | rfl | (simp_all [inB];done) | (simp_all [inB];omega)),hw.below⟩
 replace hg10:=zV hg10;refine zC 5 Z (zH (zD [6] [_] Z (qM (qQ Z Z fun w' hw=>?_))))
 exact ⟨ret_b (by first | rfl | (simp_all [inB];done) | (simp_all [inB];omega)),hw.below⟩
set_option maxHeartbeats 400000 in
theorem l1Bits_ok (s:List UInt8) (n:Int) (w:World) (hs:s.length≤1048576) :
    Calls Tryz.prog 100 [str s,i6_ n].toArray w fun en w'=>en=.returned (.bool (bitsB s n))∧Below w.heap.size w w':=by
 refine fnStart (n:=26) (e:=[(0,str s),(1,i6_ n)]) Tryz.func100 Z Z Z Z Ends.both (zF (zB (zC 1 Z (zH (zD [0,1] [_,_] Z (zF (zF (zB (zC 1 Z (zH (zD [0,1,5] [_,_,_] Z (qW (xM (σ:=Nat) (fun k=>k≤s.length∧(s.take k).all isBit=true) (fun k=>[(0,str s),(1,i6_ n),(5,i6_ (k:Int))]) (fun k=>Own w.heap.size w []) (fun k=>s.length - k) (0) ⟨by omega,rfl⟩ (Sub.sel [0,1,5] Z) (fun _ h=>h) ?_)))))))))))))
 rintro k ⟨hk,hall⟩;refine zF (zF (zB (zC 2 Z (zE (v:=i6_ (s.length:Int)) Z (jS Z qV Z) (zC 1 Z (zH (zD [0,1,5,9] [_,_,_,_] Z (yQ Z (fun h9=>?_) (fun h9=>?_)))))))))
 ·
  refine qR (zD [0,1,5] [_,_,_] Z (zF (qW (zF (zB (zC 2 Z (zE (v:=.int .u8 (((s.getD ((k:Int).toNat) 0).toNat:Int))) Z (xE Z qV Z Z (by omega) (by omega)) (zC 2 Z (xD fun b16 hg16=>?_)))))))))
  cases b16
  ·
   replace hg16:=not_false hg16
   replace hg16:=zV hg16;refine zM Z (zM Z (zM Z (zM Z (zC 1 Z (zH (zD [0,1,5,21] [_,_,_,_] Z (jN Z (qR (zD [0,1,5] [_,_,_] Z (zB (zC 1 Z (zE Z (qT Z Z Z (by omega) (by omega)) (zC 1 Z (zH (yL (k+1) ⟨by omega,all_take (by omega) hall (by unfold isBit;simp_all)⟩ (by omega) (Sub.sel [0,1,5] Z) (fun _ h=>h))))))))))))))))
  replace hg16:=not_true hg16
  replace hg16:=zT hg16;refine zC 2 Z (zE (v:=.int .u8 (((s.getD ((k:Int).toNat) 0).toNat:Int))) Z (xE Z qV Z Z (by omega) (by omega)) (zC 2 Z (zH (zD [0,1,5,21] [_,_,_,_] Z (yF (b:=!(decide ((((s.getD ((k:Int).toNat) 0).toNat:Int))=(49:Int)))) Z (fun h21=>?_) (fun h21=>?_))))))
  ·
   replace h21:=not_true h21
   replace h21:=zT h21;refine zF (zB (zC 1 Z (zH (zD [4] [_] Z (qM (qQ Z Z fun w' hw=>?_))))))
   exact ⟨ret_b (by unfold bitsB;rw [all_false (k:=k) (by omega) (by unfold isBit;simp_all)];rfl),hw.below⟩
  replace h21:=not_false h21
  replace h21:=zV h21;refine qR (zD [0,1,5] [_,_,_] Z (zB (zC 1 Z (zE Z (qT Z Z Z (by omega) (by omega)) (zC 1 Z (zH (yL (k+1) ⟨by omega,all_take (by omega) hall (by unfold isBit;simp_all)⟩ (by omega) (Sub.sel [0,1,5] Z) (fun _ h=>h))))))))
 refine yY Z (zD [0,1] [_,_] Z (zF (zB (zC 1 Z (zE (v:=i6_ (s.length:Int)) Z (jS Z qV Z) (zC 3 Z (zH (zD [4] [_] Z (qM (qQ Z Z fun w' hw=>?_))))))))))
 exact ⟨ret_b (by unfold bitsB;rw [show s.all isBit=true from by rw [← List.take_of_length_le (show s.length≤k by omega)];exact hall];rfl),hw.below⟩
set_option maxHeartbeats 400000 in
theorem sValid_ok (a:St) (w:World) (ha:a.Small) :
    Calls Tryz.prog 51 [vS a].toArray w fun en w'=>en=.returned (.bool (validB a))∧Below w.heap.size w w':=by
 refine fnStart (n:=23) (e:=[(0,vS a)]) Tryz.func51 Z Z Z Z Ends.both ?_
 have h1:=ha.set
 have h2:=ha.rel;refine zF (qI (xK (v:=vS a) Z Z Z Z Z fun p1 hp1=>?_))
 show Ll _ _ (Own _ _ [_]) _ _ ((1,pt_ p1)::_) _ _ _;refine qL 1 Z (zI (zD [1] [_] Z (zF (zB (zE Z (zG Z zY Z zJ Z Z) (zE Z (zS 0 Z zU Z Z Z) (zE (v:=bo_ (inB a.n 1 8)) Z (qK Z Tryz.call80 Z qC (fun w1 hw1=>l1In_ok a.n 1 8 w1 )) (zC 1 Z (xD fun b6 hg6=>?_)))))))))
 cases b6
 ·
  refine zM Z (zM Z (zM Z (zM Z (zM Z (zC 2 Z (zM Z (zM Z (zM Z (zM Z (zM Z (zM Z (zM Z (zM Z (zC 2 Z (zH (zD [2] [_] Z (qM (qQ Z Z fun w' hw=>?_))))))))))))))))))
  exact ⟨ret_b (by first | (simp [validB, *];done) | (simp [validB, *];omega)),hw.below⟩
 have hn:1≤a.n∧a.n≤8:=by unfold inB at hg6;simpa using hg6
 have hq:=sq_le hn.1 hn.2;refine zE Z (zG Z zY Z qO Z Z) (zE Z (zS 0 Z yH Z Z Z) (zE Z (zG Z zY Z zJ Z Z) (zE Z (zS 0 Z zU Z Z Z) (zE (v:=bo_ (bitsB a.set a.n)) Z (qK Z Tryz.call100 Z qC (fun w1 hw1=>l1Bits_ok a.set a.n w1 (by omega))) (zC 2 Z (xD fun b13 hg13=>?_))))))
 cases b13
 ·
  refine zM Z (zM Z (zM Z (zM Z (zM Z (zM Z (zM Z (zM Z (zC 2 Z (zH (zD [2] [_] Z (qM (qQ Z Z fun w' hw=>?_))))))))))))
  exact ⟨ret_b (by first | (simp [validB, *];done) | (simp [validB, *];omega)),hw.below⟩
 refine zE Z (zG Z zY Z qO Z Z) (zE Z (zS 0 Z yH Z Z Z) (zE Z (zG Z zY Z zJ Z Z) (zE Z (zS 0 Z zU Z Z Z) (zE Z (zG Z zY Z zJ Z Z) (zE Z (zS 0 Z zU Z Z Z) (zE Z (uI Z Z Z (by omega) (by omega)) (zE (v:=bo_ (bitsB a.rel (a.n*a.n))) Z (qK Z Tryz.call100 Z qC (fun w1 hw1=>l1Bits_ok a.rel (a.n*a.n) w1 (by omega))) (zC 2 Z (zH (zD [2] [_] Z (qM (qQ Z Z fun w' hw=>?_))))))))))))
 exact ⟨ret_b (by first | (simp [validB, *];done) | (simp [validB, *];omega)),hw.below⟩
set_option maxHeartbeats 400000 in
theorem l1Set_ok (a:St) (x:Int) (w:World) (ha:a.Fine) (hx:a.El x) :
    Calls Tryz.prog 153 [vS a,i6_ x].toArray w fun en w'=>en=.returned (.bool (a.inSet x))∧Below w.heap.size w w':=by
 refine fnStart (n:=10) (e:=[(0,vS a),(1,i6_ x)]) Tryz.func153 Z Z Z Z Ends.both ?_
 have hs:=ha.set
 obtain ⟨h0,h1⟩:=hx;refine zF (qI (xK (v:=vS a) Z Z Z Z Z fun p2 hp2=>?_))
 show Ll _ _ (Own _ _ [_]) _ _ ((2,pt_ p2)::_) _ _ _;refine qL 1 Z (zI (zD [1,2] [_,_] Z (zF (zB (zE Z (zG Z zY Z qO Z Z) (zE Z (zS 0 Z yH Z Z Z) (zC 1 Z (zE (v:=.int .u8 (((a.set.getD ((x).toNat) 0).toNat:Int))) Z (xE Z qV Z Z (by omega) (by omega)) (zC 2 Z (zH (zD [4] [_] Z (qM (qQ Z Z fun w' hw=>?_)))))))))))))
 exact ⟨ret_b (by first | rfl | (simp_all;done) | (simp_all;omega)),hw.below⟩
set_option maxHeartbeats 400000 in
theorem l1Rel_ok (a:St) (x y:Int) (w:World) (ha:a.Fine) (hx:a.El x) (hy:a.El y) :
    Calls Tryz.prog 154 [vS a,i6_ x,i6_ y].toArray w fun en w'=>en=.returned (.bool (a.inRel x y))∧Below w.heap.size w w':=by
 refine fnStart (n:=17) (e:=[(0,vS a),(1,i6_ x),(2,i6_ y)]) Tryz.func154 Z Z Z Z Ends.both ?_
 obtain ⟨k0,k1,k2,k3,k4⟩:=ha.relLt hx hy;refine zF (qI (xK (v:=vS a) Z Z Z Z Z fun p3 hp3=>?_))
 show Ll _ _ (Own _ _ [_]) _ _ ((3,pt_ p3)::_) _ _ _;refine qL 1 Z (zI (zD [1,2,3] [_,_,_] Z (zF (zB (zE Z (zG Z zY Z qO Z Z) (zE Z (zS 0 Z yH Z Z Z) (zC 1 Z (zE Z (zG Z zY Z zJ Z Z) (zE Z (zS 0 Z zU Z Z Z) (zE Z (uI Z Z Z (by omega) (by omega)) (zC 1 Z (zE Z (qT Z Z Z (by omega) (by omega)) (zE (v:=.int .u8 (((a.rel.getD (((x*a.n)+y).toNat) 0).toNat:Int))) Z (xE Z qV Z Z (by omega) (by omega)) (zC 2 Z (zH (zD [6] [_] Z (qM (qQ Z Z fun w' hw=>?_))))))))))))))))))
 exact ⟨ret_b (by first | rfl | (simp_all;done) | (simp_all;omega)),hw.below⟩
set_option maxHeartbeats 400000 in
theorem areBits_ok (s:List UInt8) (n:Int) (w:World) (hs:s.length≤1048576) :
    Calls Tryz.prog 99 [str s,i6_ n].toArray w fun en w'=>en=.returned (.bool (bitsB s n))∧Below w.heap.size w w':=by
 refine fnStart (n:=14) (e:=[(0,str s),(1,i6_ n)]) Tryz.func99 Z Z Z Z Ends.both (zF (zB (zC 1 Z (zH (zD [0,1] [_,_] Z (zF (zB (zC 1 Z (zE (v:=i6_ (s.length:Int)) Z (jS Z qV Z) (zC 3 Z (xD fun b9 hg9=>?_)))))))))))
 cases b9
 ·
  replace hg9:=zT hg9;refine zM Z (zM Z (zM Z (zC 2 Z (zH (zD [4] [_] Z (qM (qQ Z Z fun w' hw=>?_)))))))
  exact ⟨ret_b (by unfold bitsB;simp [*]),hw.below⟩
 replace hg9:=zV hg9;refine zC 1 Z (zE (v:=str (Lib.trimS s [48,49])) Z (qK Z Tryz.call143 Z qC (fun w1 hw1=>trim_ok s w1 (by omega))) (zE Z (OpQ.seql Z Z Z) (zC 2 Z (zH (zD [4] [_] Z (qM (qQ Z Z fun w' hw=>?_)))))))
 exact ⟨ret_b (by unfold bitsB;rw [trim_nil];simp [*]),hw.below⟩
set_option maxHeartbeats 400000 in
theorem isStructure_ok (a:St) (w:World) (ha:a.Small) :
    Calls Tryz.prog 50 [vS a].toArray w fun en w'=>en=.returned (.bool (validB a))∧Below w.heap.size w w':=by
 refine fnStart (n:=28) (e:=[(0,vS a)]) Tryz.func50 Z Z Z Z Ends.both ?_
 have h1:=ha.set
 have h2:=ha.rel;refine zF (qI (xK (v:=vS a) Z Z Z Z Z fun p1 hp1=>?_))
 show Ll _ _ (Own _ _ [_]) _ _ ((1,pt_ p1)::_) _ _ _;refine qL 1 Z (zI (zD [1] [_] Z (zF (zB (zE Z (zG Z zY Z zJ Z Z) (zE Z (zS 0 Z zU Z Z Z) (zC 2 Z (xD fun b6 hg6=>?_))))))))
 cases b6
 ·
  replace hg6:=zT hg6;refine zM Z (zM Z (zM Z (zC 2 Z (zM Z (zM Z (zM Z (zM Z (zM Z (zC 2 Z (zM Z (zM Z (zM Z (zM Z (zM Z (zM Z (zM Z (zM Z (zC 2 Z (zH (zD [2] [_] Z (qM (qQ Z Z fun w' hw=>?_))))))))))))))))))))))
  exact ⟨ret_b (by first | (simp [validB,inB, *];done) | (simp [validB,inB, *];omega)),hw.below⟩
 replace hg6:=zV hg6;refine zE Z (zG Z zY Z zJ Z Z) (zE Z (zS 0 Z zU Z Z Z) (zC 3 Z (xD fun b11 hg11=>?_)))
 cases b11
 ·
  replace hg11:=zT hg11;refine zM Z (zM Z (zM Z (zM Z (zM Z (zC 2 Z (zM Z (zM Z (zM Z (zM Z (zM Z (zM Z (zM Z (zM Z (zC 2 Z (zH (zD [2] [_] Z (qM (qQ Z Z fun w' hw=>?_))))))))))))))))))
  exact ⟨ret_b (by first | (simp [validB,inB, *];done) | (simp [validB,inB, *];omega)),hw.below⟩
 replace hg11:=zV hg11
 have hq:=sq_le hg6 hg11;refine zE Z (zG Z zY Z qO Z Z) (zE Z (zS 0 Z yH Z Z Z) (zE Z (zG Z zY Z zJ Z Z) (zE Z (zS 0 Z zU Z Z Z) (zE (v:=bo_ (bitsB a.set a.n)) Z (qK Z Tryz.call99 Z qC (fun w1 hw1=>areBits_ok a.set a.n w1 (by omega))) (zC 2 Z (xD fun b18 hg18=>?_))))))
 cases b18
 ·
  refine zM Z (zM Z (zM Z (zM Z (zM Z (zM Z (zM Z (zM Z (zC 2 Z (zH (zD [2] [_] Z (qM (qQ Z Z fun w' hw=>?_))))))))))))
  exact ⟨ret_b (by first | (simp [validB,inB, *];done) | (simp [validB,inB, *];omega)),hw.below⟩
 refine zE Z (zG Z zY Z qO Z Z) (zE Z (zS 0 Z yH Z Z Z) (zE Z (zG Z zY Z zJ Z Z) (zE Z (zS 0 Z zU Z Z Z) (zE Z (zG Z zY Z zJ Z Z) (zE Z (zS 0 Z zU Z Z Z) (zE Z (uI Z Z Z (by omega) (by omega)) (zE (v:=bo_ (bitsB a.rel (a.n*a.n))) Z (qK Z Tryz.call99 Z qC (fun w1 hw1=>areBits_ok a.rel (a.n*a.n) w1 (by omega))) (zC 2 Z (zH (zD [2] [_] Z (qM (qQ Z Z fun w' hw=>?_))))))))))))
 exact ⟨ret_b (by first | (simp [validB,inB, *];done) | (simp [validB,inB, *];omega)),hw.below⟩
set_option maxHeartbeats 400000 in
theorem inSet_ok (a:St) (x:Int) (w:World) (ha:a.Fine) (hx:a.El x) :
    Calls Tryz.prog 90 [vS a,i6_ x].toArray w fun en w'=>en=.returned (.bool (a.inSet x))∧Below w.heap.size w w':=by
 refine fnStart (n:=10) (e:=[(0,vS a),(1,i6_ x)]) Tryz.func90 Z Z Z Z Ends.both ?_
 have hs:=ha.set
 obtain ⟨h0,h1⟩:=hx;refine zF (qI (xK (v:=vS a) Z Z Z Z Z fun p2 hp2=>?_))
 show Ll _ _ (Own _ _ [_]) _ _ ((2,pt_ p2)::_) _ _ _;refine qL 1 Z (zI (zD [1,2] [_,_] Z (zF (zB (zE Z (zG Z zY Z qO Z Z) (zE Z (zS 0 Z yH Z Z Z) (zC 1 Z (zE (v:=.int .u8 (((a.set.getD ((x).toNat) 0).toNat:Int))) Z (xE Z qV Z Z (by omega) (by omega)) (zC 2 Z (zH (zD [4] [_] Z (qM (qQ Z Z fun w' hw=>?_)))))))))))))
 exact ⟨ret_b (by first | rfl | (simp_all;done) | (simp_all;omega)),hw.below⟩
set_option maxHeartbeats 400000 in
theorem inRel_ok (a:St) (x y:Int) (w:World) (ha:a.Fine) (hx:a.El x) (hy:a.El y) :
    Calls Tryz.prog 91 [vS a,i6_ x,i6_ y].toArray w fun en w'=>en=.returned (.bool (a.inRel x y))∧Below w.heap.size w w':=by
 refine fnStart (n:=17) (e:=[(0,vS a),(1,i6_ x),(2,i6_ y)]) Tryz.func91 Z Z Z Z Ends.both ?_
 obtain ⟨k0,k1,k2,k3,k4⟩:=ha.relLt hx hy;refine zF (qI (xK (v:=vS a) Z Z Z Z Z fun p3 hp3=>?_))
 show Ll _ _ (Own _ _ [_]) _ _ ((3,pt_ p3)::_) _ _ _;refine qL 1 Z (zI (zD [1,2,3] [_,_,_] Z (zF (zB (zE Z (zG Z zY Z qO Z Z) (zE Z (zS 0 Z yH Z Z Z) (zC 1 Z (zE Z (zG Z zY Z zJ Z Z) (zE Z (zS 0 Z zU Z Z Z) (zE Z (uI Z Z Z (by omega) (by omega)) (zC 1 Z (zE Z (qT Z Z Z (by omega) (by omega)) (zE (v:=.int .u8 (((a.rel.getD (((x*a.n)+y).toNat) 0).toNat:Int))) Z (xE Z qV Z Z (by omega) (by omega)) (zC 2 Z (zH (zD [6] [_] Z (qM (qQ Z Z fun w' hw=>?_))))))))))))))))))
 exact ⟨ret_b (by first | rfl | (simp_all;done) | (simp_all;omega)),hw.below⟩
set_option maxHeartbeats 400000 in
theorem noEl_ok (a:St) (g T:Nat) (x:Int) (w:World) (hg:w.heap[g]?=some (.cells #[.int .i64 a.n,str a.set,str a.rel] T (0,0))) :
    Calls Tryz.prog 138 [i6_ x,.pointer (some ⟨g,0,none⟩)].toArray w fun en w'=>en=.returned (.bool (!elB a x))∧Below w.heap.size w w':=by
 refine fnStart (n:=12) (e:=[(0,i6_ x),(1,.pointer (some ⟨g,0,none⟩))]) Tryz.func138 Z Z Z Z Ends.both (zF (zB (zC 1 Z (zH (zD [0,1] [_,_] Z (zF (zB (zC 3 Z (xD fun b6 hg6=>?_)))))))))
 cases b6
 ·
  replace hg6:=zT hg6;refine zC 1 Z (zE Z (zG Z zY Z zJ Z Z) (zE (v:=i6_ a.n) Z (qN Z zU Z (fun w1 hw1=>at_box hg hw1 0 Z)) (zC 3 Z (zH (zD [3] [_] Z (qM (qQ Z Z fun w' hw=>?_)))))))
  exact ⟨ret_b (by first | exact el_neg (by assumption) | exact el_geq (by assumption)),hw.below⟩
 replace hg6:=zV hg6;refine zM Z (zM Z (zM Z (zM Z (zC 2 Z (zH (zD [3] [_] Z (qM (qQ Z Z fun w' hw=>?_))))))))
 exact ⟨ret_b (by first | exact el_neg (by assumption) | exact el_geq (by assumption)),hw.below⟩
set_option maxHeartbeats 400000 in
theorem indexFunc_ok (va:Value) (xs:List Int) (w:World) (hva:Ints w va xs) (hs:xs.length≤140737488355328) (F:FuncId) (caps:Array Value) (q:Int→Bool) (hF:∀ args w,(callFunc F args).run Tryz.prog w=.ok (.enter F args) w) (hq:∀ w1,Below w.heap.size w w1→∀ x,Calls Tryz.prog F (#[.int .i64 x]++caps) w1 fun en w'=>en=.returned (.bool (q x))∧Below w1.heap.size w1 w') :
    Calls Tryz.prog 160 [va,.func (.func F) #[] caps].toArray w fun en w'=>en=.returned (.int .i64 (idxI xs q))∧Below w.heap.size w w':=by
 refine fnStart (n:=19) (e:=[(0,va),(1,.func (.func F) #[] caps)]) Tryz.func160 Z Z Z Z Ends.both (zF (zB (zC 1 Z (zH (zD [0,1] [_,_] Z (zF (zF (zB (zC 1 Z (zE (v:=i6_ (xs.length:Int)) Z (yP Z zX Z (ints_length _) (fun w1 hw1=>Row.own hva hw1)) (zC 1 Z (zH (zD [0,1,7,8] [_,_,_,_] Z (qW (xM (σ:=Nat) (fun k=>k≤xs.length∧∀ i:Nat,i<k→q (xs.getD i 0)=false) (fun k=>[(0,va),(1,.func (.func F) #[] caps),(7,i6_ (xs.length:Int)),(8,i6_ (k:Int))]) (fun k=>Own w.heap.size w []) (fun k=>xs.length - k) (0) ⟨by omega,fun i hi=>absurd hi (by omega)⟩ (Sub.sel [0,1,7,8] Z) (fun _ h=>h) ?_)))))))))))))))
 rintro k ⟨hk,hall⟩;refine zF (zB (zC 1 Z (zH (zD [0,1,7,8,9] [_,_,_,_,_] Z (zF (yQ Z (fun h9=>?_) (fun h9=>?_)))))))
 ·
  refine qR (zD [0,1,7,8] [_,_,_,_] Z (zF (qW (zF (zB (zC 2 Z (zH (zD [0,1,5,7,8] [_,_,_,_,_] Z (zF (zB (zC 3 Z (zE (v:=.pointer (some (sAt va (k:Int)))) Z (yO Z zX zJ Z Z (by omega) (by rw [ints_length];omega) (fun w1 hw1=>Row.own hva hw1)) (zE (v:=i6_ (xs.getD ((k:Int).toNat) 0)) Z (qN Z zU Z (fun w1 hw1=>Ints.cell (Row.own hva hw1) (by omega) (by omega))) (zE (v:=bo_ (q (xs.getD ((k:Int).toNat) 0))) Z (OpQ.callFn Z Z hF Z qC (fun w1 hw1=>hq w1 hw1.below (xs.getD ((k:Int).toNat) 0))) (zH (zD [0,1,5,7,8,16] [_,_,_,_,_,_] Z (yF (b:=q (xs.getD ((k:Int).toNat) 0)) Z (fun h16=>?_) (fun h16=>?_))))))))))))))))))
  ·
   refine zF (zB (zC 2 Z (zH (zD [4] [_] Z (qM (qQ Z Z fun w' hw=>?_))))))
   exact ⟨ret_i (idxI_at (by omega) hall (by simpa using h16)).symm,hw.below⟩
  refine qR (zD [0,1,7,8] [_,_,_,_] Z (zB (zE Z (qT Z Z Z (by omega) (by omega)) (zC 1 Z (zH (yL (k+1) ⟨by omega,fun i hi=>(Nat.lt_succ_iff_lt_or_eq.1 hi).elim (hall i) (fun e=>by subst e;simpa using h16)⟩ (by omega) (Sub.sel [0,1,7,8] Z) (fun _ h=>h)))))))
 refine yY Z (zD [] [] Z (zF (zB (zC 1 Z (zH (zD [4] [_] Z (qM (qQ Z Z fun w' hw=>?_))))))))
 exact ⟨ret_i (idxI_none (fun i hi=>hall i (by omega))).symm,hw.below⟩
set_option maxHeartbeats 400000 in
theorem containsFunc_ok (va:Value) (xs:List Int) (w:World) (hva:Ints w va xs) (hs:xs.length≤140737488355328) (F:FuncId) (caps:Array Value) (q:Int→Bool) (hF:∀ args w,(callFunc F args).run Tryz.prog w=.ok (.enter F args) w) (hq:∀ w1,Below w.heap.size w w1→∀ x,Calls Tryz.prog F (#[.int .i64 x]++caps) w1 fun en w'=>en=.returned (.bool (q x))∧Below w1.heap.size w1 w') :
    Calls Tryz.prog 137 [va,.func (.func F) #[] caps].toArray w fun en w'=>en=.returned (.bool (xs.any q))∧Below w.heap.size w w':=by
 refine fnStart (n:=9) (e:=[(0,va),(1,.func (.func F) #[] caps)]) Tryz.func137 Z Z Z Z Ends.both (zF (zB (zC 1 Z (zH (zD [0,1] [_,_] Z (zF (zB (zC 2 Z (zE (v:=i6_ (idxI xs q)) Z (qK Z Tryz.call160 Z qC (fun w1 hw1=>indexFunc_ok va xs w1 (Row.own hva hw1) hs F caps q hF (fun w2 hb x=>hq w2 (hw1.below.trans (hb.mono hw1.base)) x))) (zC 2 Z (zH (zD [4] [_] Z (qM (qQ Z Z fun w' hw=>?_))))))))))))))
 exact ⟨ret_b (idxI_any xs q),hw.below⟩
set_option maxHeartbeats 400000 in
theorem stillSame_ok (a b:St) (xs ys:List Int) (va vb:Value) (x y:Int) (w:World) (ha:a.Fine) (hb:b.Fine) (hva:Ints w va xs) (hvb:Ints w vb ys) (hA:a.Els xs) (hB:b.Els ys) (hlen:xs.length=ys.length) (hsmall:xs.length≤1000000) (hx:a.El x) (hy:b.El y) :
    Calls Tryz.prog 43 [vS a,va,vS b,vb,i6_ x,i6_ y].toArray w fun en w'=>en=.returned (.bool (stillB a xs b ys x y))∧Below w.heap.size w w':=by
 refine fnStart (n:=75) (e:=[(0,vS a),(1,va),(2,vS b),(3,vb),(4,i6_ x),(5,i6_ y)]) Tryz.func43 Z Z Z Z Ends.both ?_
 have hT:=stillB_true (a:=a) (b:=b) (x:=x) (y:=y) hlen;refine zF (qI (xK (v:=vS a) Z Z Z Z Z fun p6 hp6=>?_))
 show Ll _ _ (Own _ _ [_]) _ _ ((6,pt_ p6)::_) _ _ _;refine xK (v:=vS b) Z Z Z Z Z fun p8 hp8=>?_
 show Ll _ _ (Own _ _ [_,_]) _ _ ((8,pt_ p8)::_) _ _ _;refine qL 1 Z (zI (zD [1,3,4,5,6,8] [_,_,_,_,_,_] Z (zF (zF (xY yC (fun _ h=>h.drawn) (by kernel_rfl) (zE Z (qF (cs:=#[i6_ a.n,str a.set,str a.rel]) 1 Z zZ Z Z zQ) (zC 1 Z (zE (v:=bo_ (a.inSet x)) Z (qK Z Tryz.call90 Z qC (fun w1 hw1=>inSet_ok a x w1 ha (by first | assumption | exact St.Els.at (by assumption) (by omega) (by omega)))) (zE Z (qF (cs:=#[i6_ b.n,str b.set,str b.rel]) 0 Z zZ Z Z zQ) (zC 1 Z (zE (v:=bo_ (b.inSet y)) Z (qK Z Tryz.call90 Z qC (fun w1 hw1=>inSet_ok b y w1 hb (by first | assumption | exact St.Els.at (by assumption) (by omega) (by omega)))) (zE Z (OpQ.bne Z xJ Z Z) (zC 1 Z (xD fun b23 hg23=>?_))))))))))))))
 cases b23
 ·
  refine zE Z (qF (cs:=#[i6_ a.n,str a.set,str a.rel]) 1 Z zZ Z Z zQ) (zC 2 Z (zE (v:=bo_ (a.inRel x x)) Z (qK Z Tryz.call91 Z qC (fun w1 hw1=>inRel_ok a x x w1 ha (by first | assumption | exact St.Els.at (by assumption) (by omega) (by omega)) (by first | assumption | exact St.Els.at (by assumption) (by omega) (by omega)))) (zE Z (qF (cs:=#[i6_ b.n,str b.set,str b.rel]) 0 Z zZ Z Z zQ) (zC 2 Z (zE (v:=bo_ (b.inRel y y)) Z (qK Z Tryz.call91 Z qC (fun w1 hw1=>inRel_ok b y y w1 hb (by first | assumption | exact St.Els.at (by assumption) (by omega) (by omega)) (by first | assumption | exact St.Els.at (by assumption) (by omega) (by omega)))) (zE Z (OpQ.bne Z xJ Z Z) (zC 1 Z (zH (zD [1,3,4,5,6,8,33] [_,_,_,_,_,_,_] Z (yF (b:=(a.inRel x x) != (b.inRel y y)) Z (fun h33=>?_) (fun h33=>?_)))))))))))
  ·
   refine zF (zB (zC 1 Z (zH (zD [12] [_] Z (qM (qQ Z Z fun w' hw=>?_))))))
   have hf:stillB a xs b ys x y=false:=by
    cases hs:stillB a xs b ys x y with
    | false=>rfl
    | true=>obtain ⟨e1,e2,e3⟩:=hT.1 hs;simp_all
   exact ⟨by rw [hf],hw.below⟩
  refine qR (zD [1,3,4,5,6,8] [_,_,_,_,_,_] Z (zF (zF (zB (zC 1 Z (zE (v:=i6_ (xs.length:Int)) Z (yP Z zX Z (ints_length _) (fun w1 hw1=>Row.own hva hw1)) (zC 1 Z (zH (zD [3,4,5,6,8,34,35,36] [_,_,_,_,_,_,_,_] Z (qW (xM (σ:=Nat) (fun k=>k≤xs.length∧∀ i:Nat,i<k→pairOk a b x y (xs.getD i 0) (ys.getD i 0)=true) (fun k=>[(3,vb),(4,i6_ x),(5,i6_ y),(6,pt_ p6),(8,pt_ p8),(34,va),(35,i6_ (xs.length:Int)),(36,i6_ (k:Int))]) (fun k=>Own w.heap.size w [bk_ p8 #[i6_ b.n,str b.set,str b.rel] 24,bk_ p6 #[i6_ a.n,str a.set,str a.rel] 24]) (fun k=>xs.length - k) (0) ⟨by omega,fun i hi=>absurd hi (by omega)⟩ (Sub.sel [3,4,5,6,8,34,35,36] Z) (fun _ h=>h) ?_)))))))))))
  rintro k ⟨hk,hall⟩;refine zF (zB (zC 1 Z (zH (zD [3,4,5,6,8,34,35,36,37] [_,_,_,_,_,_,_,_,_] Z (zF (yQ Z (fun h37=>?_) (fun h37=>?_)))))))
  ·
   refine qR (zD [3,4,5,6,8,34,35,36] [_,_,_,_,_,_,_,_] Z (zF (qW (zF (zB (zC 1 Z (zE (v:=.pointer (some (sAt va (k:Int)))) Z (yO Z zX zJ Z Z (by omega) (by rw [ints_length];omega) (fun w1 hw1=>Row.own hva hw1)) (zE (v:=i6_ (xs.getD ((k:Int).toNat) 0)) Z (qN Z zU Z (fun w1 hw1=>Ints.cell (Row.own hva hw1) (by omega) (by omega))) (zC 2 Z (zH (zD [3,4,5,6,8,13,14,34,35,36] [_,_,_,_,_,_,_,_,_,_] Z (zF (zB (zC 2 Z (zE (v:=.pointer (some (sAt vb (k:Int)))) Z (yO Z zX zJ Z Z (by omega) (by rw [ints_length];omega) (fun w1 hw1=>Row.own hvb hw1)) (zE (v:=i6_ (ys.getD ((k:Int).toNat) 0)) Z (qN Z zU Z (fun w1 hw1=>Ints.cell (Row.own hvb hw1) (by omega) (by omega))) (zC 1 Z (zH (zD [3,4,5,6,8,14,15,34,35,36] [_,_,_,_,_,_,_,_,_,_] Z (zF (xY yC (fun _ h=>h.drawn) (by kernel_rfl) (zC 6 Z (zE Z (OpQ.bne Z xJ Z Z) (zC 1 Z (xD fun b52 hg52=>?_)))))))))))))))))))))))))
   cases b52
   ·
    refine zE Z (qF (cs:=#[i6_ a.n,str a.set,str a.rel]) 1 Z zZ Z Z zQ) (zC 2 Z (zE (v:=bo_ (a.inRel (xs.getD ((k:Int).toNat) 0) x)) Z (qK Z Tryz.call91 Z qC (fun w1 hw1=>inRel_ok a (xs.getD ((k:Int).toNat) 0) x w1 ha (by first | assumption | exact St.Els.at (by assumption) (by omega) (by omega)) (by first | assumption | exact St.Els.at (by assumption) (by omega) (by omega)))) (zE Z (qF (cs:=#[i6_ b.n,str b.set,str b.rel]) 0 Z zZ Z Z zQ) (zC 2 Z (zE (v:=bo_ (b.inRel (ys.getD ((k:Int).toNat) 0) y)) Z (qK Z Tryz.call91 Z qC (fun w1 hw1=>inRel_ok b (ys.getD ((k:Int).toNat) 0) y w1 hb (by first | assumption | exact St.Els.at (by assumption) (by omega) (by omega)) (by first | assumption | exact St.Els.at (by assumption) (by omega) (by omega)))) (zE Z (OpQ.bne Z xJ Z Z) (zC 2 Z (xD fun b63 hg63=>?_))))))))
    cases b63
    ·
     refine zE Z (qF (cs:=#[i6_ a.n,str a.set,str a.rel]) 1 Z zZ Z Z zQ) (zC 2 Z (zE (v:=bo_ (a.inRel x (xs.getD ((k:Int).toNat) 0))) Z (qK Z Tryz.call91 Z qC (fun w1 hw1=>inRel_ok a x (xs.getD ((k:Int).toNat) 0) w1 ha (by first | assumption | exact St.Els.at (by assumption) (by omega) (by omega)) (by first | assumption | exact St.Els.at (by assumption) (by omega) (by omega)))) (zE Z (qF (cs:=#[i6_ b.n,str b.set,str b.rel]) 0 Z zZ Z Z zQ) (zC 2 Z (zE (v:=bo_ (b.inRel y (ys.getD ((k:Int).toNat) 0))) Z (qK Z Tryz.call91 Z qC (fun w1 hw1=>inRel_ok b y (ys.getD ((k:Int).toNat) 0) w1 hb (by first | assumption | exact St.Els.at (by assumption) (by omega) (by omega)) (by first | assumption | exact St.Els.at (by assumption) (by omega) (by omega)))) (zE Z (OpQ.bne Z xJ Z Z) (zC 1 Z (zH (zD [3,4,5,6,8,34,35,36,73] [_,_,_,_,_,_,_,_,_] Z (yF (b:=(a.inRel x (xs.getD ((k:Int).toNat) 0)) != (b.inRel y (ys.getD ((k:Int).toNat) 0))) Z (fun h73=>?_) (fun h73=>?_)))))))))))
     ·
      refine zF (zB (zC 1 Z (zH (zD [12] [_] Z (qM (qQ Z Z fun w' hw=>?_))))))
      have hf:stillB a xs b ys x y=false:=by
       cases hs:stillB a xs b ys x y with
       | false=>rfl
       | true =>
        obtain ⟨e1,e2,e3⟩:=hT.1 hs
        obtain ⟨e4,e5,e6⟩:=pairOk_true.1 (e3 k (by omega))
        simp only [Int.toNat_natCast] at *
        simp_all
      exact ⟨by rw [hf],hw.below⟩
     refine qR (zD [3,4,5,6,8,34,35,36] [_,_,_,_,_,_,_,_] Z (zB (zE Z (qT Z Z Z (by omega) (by omega)) (zC 1 Z (zH (yL (k+1) ⟨by omega,fun i hi=>(Nat.lt_succ_iff_lt_or_eq.1 hi).elim (hall i) (fun e=>by subst e;exact pairOk_true.2 ⟨by simpa using hg52,by simpa using hg63,by simpa using h73⟩)⟩ (by omega) (Sub.sel [3,4,5,6,8,34,35,36] Z) (fun _ h=>h)))))))
    refine zM Z (zM Z (zM Z (zM Z (zM Z (zM Z (zM Z (zM Z (zM Z (zC 1 Z (zH (zD [3,4,5,6,8,34,35,36,73] [_,_,_,_,_,_,_,_,_] Z (yW Z (zF (zB (zC 1 Z (zH (zD [12] [_] Z (qM (qQ Z Z fun w' hw=>?_)))))))))))))))))))
    have hf:stillB a xs b ys x y=false:=by
     cases hs:stillB a xs b ys x y with
     | false=>rfl
     | true =>
      obtain ⟨e1,e2,e3⟩:=hT.1 hs
      obtain ⟨e4,e5,e6⟩:=pairOk_true.1 (e3 k (by omega))
      simp only [Int.toNat_natCast] at *
      simp_all
    exact ⟨by rw [hf],hw.below⟩
   refine zM Z (zM Z (zM Z (zM Z (zM Z (zM Z (zM Z (zM Z (zM Z (zC 2 Z (zM Z (zM Z (zM Z (zM Z (zM Z (zM Z (zM Z (zM Z (zM Z (zC 1 Z (zH (zD [3,4,5,6,8,34,35,36,73] [_,_,_,_,_,_,_,_,_] Z (yW Z (zF (zB (zC 1 Z (zH (zD [12] [_] Z (qM (qQ Z Z fun w' hw=>?_)))))))))))))))))))))))))))))
   have hf:stillB a xs b ys x y=false:=by
    cases hs:stillB a xs b ys x y with
    | false=>rfl
    | true =>
     obtain ⟨e1,e2,e3⟩:=hT.1 hs
     obtain ⟨e4,e5,e6⟩:=pairOk_true.1 (e3 k (by omega))
     simp only [Int.toNat_natCast] at *
     simp_all
   exact ⟨by rw [hf],hw.below⟩
  refine yY Z (zD [] [] Z (zF (zB (zC 1 Z (zH (zD [12] [_] Z (qM (qQ Z Z fun w' hw=>?_))))))))
  exact ⟨by rw [hT.2 ⟨bne_false ‹_›,bne_false ‹_›,fun i hi=>hall i (by omega)⟩],hw.below⟩
 refine zM Z (zM Z (zM Z (zM Z (zM Z (zM Z (zM Z (zM Z (zM Z (zC 1 Z (zH (zD [1,3,4,5,6,8,33] [_,_,_,_,_,_,_] Z (yW Z (zF (zB (zC 1 Z (zH (zD [12] [_] Z (qM (qQ Z Z fun w' hw=>?_)))))))))))))))))))
 have hf:stillB a xs b ys x y=false:=by
  cases hs:stillB a xs b ys x y with
  | false=>rfl
  | true=>obtain ⟨e1,e2,e3⟩:=hT.1 hs;simp_all
 exact ⟨by rw [hf],hw.below⟩
set_option maxHeartbeats 400000 in
theorem sameWay_ok (a b:St) (xs ys:List Int) (va vb:Value) (w:World) (ha:a.Fine) (hb:b.Fine) (hva:Ints w va xs) (hvb:Ints w vb ys) (hA:a.Els xs) (hB:b.Els ys) (hlen:xs.length=ys.length) (hsmall:xs.length≤1000000) :
    Calls Tryz.prog 71 [vS a,va,vS b,vb].toArray w fun en w'=>en=.returned (.bool (sameB a xs b ys))∧Below w.heap.size w w':=by
 refine fnStart (n:=34) (e:=[(0,vS a),(1,va),(2,vS b),(3,vb)]) Tryz.func71 Z Z Z Z Ends.both (zF (qI (xK (v:=vS a) Z Z Z Z Z fun p4 hp4=>?_)))
 show Ll _ _ (Own _ _ [_]) _ _ ((4,pt_ p4)::_) _ _ _;refine xK (v:=vS b) Z Z Z Z Z fun p6 hp6=>?_
 show Ll _ _ (Own _ _ [_,_]) _ _ ((6,pt_ p6)::_) _ _ _;refine qL 1 Z (zI (zD [1,3,4,6] [_,_,_,_] Z (zF (zF (zB (zC 1 Z (zE (v:=i6_ (xs.length:Int)) Z (yP Z zX Z (ints_length _) (fun w1 hw1=>Row.own hva hw1)) (zC 1 Z (zH (zD [1,3,4,6,11,12] [_,_,_,_,_,_] Z (qW (xM (σ:=Nat) (fun k=>k≤xs.length∧∀ i:Nat,i<k→stillAt a xs b ys i=true) (fun k=>[(1,va),(3,vb),(4,pt_ p4),(6,pt_ p6),(11,i6_ (xs.length:Int)),(12,i6_ (k:Int))]) (fun k=>Own w.heap.size w [bk_ p6 #[i6_ b.n,str b.set,str b.rel] 24,bk_ p4 #[i6_ a.n,str a.set,str a.rel] 24]) (fun k=>xs.length - k) (0) ⟨by omega,fun i hi=>absurd hi (by omega)⟩ (Sub.sel [1,3,4,6,11,12] Z) (fun _ h=>h) ?_))))))))))))
 rintro k ⟨hk,hall⟩;refine zF (zB (zC 1 Z (zH (zD [1,3,4,6,11,12,13] [_,_,_,_,_,_,_] Z (zF (yQ Z (fun h13=>?_) (fun h13=>?_)))))))
 ·
  refine qR (zD [1,3,4,6,11,12] [_,_,_,_,_,_] Z (zF (qW (zF (zB (zC 2 Z (zH (zD [1,3,4,6,9,11,12] [_,_,_,_,_,_,_] Z (zF (xY yC (fun _ h=>h.drawn) (by kernel_rfl) (zE Z (qF (cs:=#[i6_ a.n,str a.set,str a.rel]) 1 Z zZ Z Z zQ) (zC 2 Z (zE (v:=sTake va k) Z (uW (i:=(k:Int)) Z zX zJ Z Z (by omega) (by rw [ints_length];omega) (fun w1 hw1=>Row.own hva hw1)) (zE Z (qF (cs:=#[i6_ b.n,str b.set,str b.rel]) 0 Z zZ Z Z zQ) (zC 2 Z (zE (v:=sTake vb k) Z (uW (i:=(k:Int)) Z zX zJ Z Z (by omega) (by rw [ints_length];omega) (fun w1 hw1=>Row.own hvb hw1)) (zC 2 Z (zE (v:=.pointer (some (sAt va (k:Int)))) Z (yO Z zX zJ Z Z (by omega) (by rw [ints_length];omega) (fun w1 hw1=>Row.own hva hw1)) (zE (v:=i6_ (xs.getD ((k:Int).toNat) 0)) Z (qN Z zU Z (fun w1 hw1=>Ints.cell (Row.own hva hw1) (by omega) (by omega))) (zC 2 Z (zE (v:=.pointer (some (sAt vb (k:Int)))) Z (yO Z zX zJ Z Z (by omega) (by rw [ints_length];omega) (fun w1 hw1=>Row.own hvb hw1)) (zE (v:=i6_ (ys.getD ((k:Int).toNat) 0)) Z (qN Z zU Z (fun w1 hw1=>Ints.cell (Row.own hvb hw1) (by omega) (by omega))) (zE (v:=bo_ (stillB a (xs.take k) b (ys.take k) (xs.getD ((k:Int).toNat) 0) (ys.getD ((k:Int).toNat) 0))) Z (qK Z Tryz.call43 Z qC (fun w1 hw1=>stillSame_ok a b (xs.take k) (ys.take k) (sTake va k) (sTake vb k) (xs.getD ((k:Int).toNat) 0) (ys.getD ((k:Int).toNat) 0) w1 (ha) (hb) (Ints.take (Row.own hva hw1) k (by omega)) (Ints.take (Row.own hvb hw1) k (by omega)) (hA.take _) (hB.take _) (by first | (simp;done) | (simp;omega) | omega) (by first | (simp;done) | (simp;omega) | omega) (by first | assumption | exact St.Els.at (by assumption) (by omega) (by omega)) (by first | assumption | exact St.Els.at (by assumption) (by omega) (by omega)))) (zC 1 Z (zH (zD [1,3,4,6,11,12,32] [_,_,_,_,_,_,_] Z (yF (b:=!(stillB a (xs.take k) b (ys.take k) (xs.getD ((k:Int).toNat) 0) (ys.getD ((k:Int).toNat) 0))) Z (fun h32=>?_) (fun h32=>?_))))))))))))))))))))))))))))
  ·
   replace h32:=not_true h32;refine zF (zB (zC 1 Z (zH (zD [8] [_] Z (qM (qQ Z Z fun w' hw=>?_))))))
   exact ⟨ret_b (sameB_false (k:=k) (by omega) (by simpa [stillAt] using h32)).symm,hw.below⟩
  replace h32:=not_false h32;refine qR (zD [1,3,4,6,11,12] [_,_,_,_,_,_] Z (zB (zE Z (qT Z Z Z (by omega) (by omega)) (zC 1 Z (zH (yL (k+1) ⟨by omega,fun i hi=>(Nat.lt_succ_iff_lt_or_eq.1 hi).elim (hall i) (fun e=>by subst e;simpa [stillAt] using h32)⟩ (by omega) (Sub.sel [1,3,4,6,11,12] Z) (fun _ h=>h)))))))
 refine yY Z (zD [] [] Z (zF (zB (zC 1 Z (zH (zD [8] [_] Z (qM (qQ Z Z fun w' hw=>?_))))))))
 exact ⟨ret_b (sameB_true (k:=k) (by omega) hall).symm,hw.below⟩
end Go.Proofs.YtefiibghfgfdnaaGreatDoor
namespace Go.Proofs.YtefiibghfgfdnaaGreatDoor
open Go.RowKit Go.Wk
set_option linter.unusedSimpArgs false
set_option maxHeartbeats 400000 in
theorem bitD_ok (b:Bool) (w:World) :
    Calls Tryz.prog 152 [bo_ b].toArray w fun en w'=>en=.returned (str (if b then [49] else [48]))∧Below w.heap.size w w':=by
 refine fnStart (n:=4) (e:=[(0,bo_ b)]) Tryz.func152 Z Z Z Z Ends.both (zF (zB (zE (v:=str ([])) Z (jC Z Z) (zH (zD [0] [_] Z (zF (zF (zB (zC 1 Z (zH (zD [3] [_] Z (yF (b:=b) Z (fun h3=>?_) (fun h3=>?_)))))))))))))
 ·
  refine zF (zB (zE (v:=str ([49])) Z (jC Z Z) (zH (zD [2] [_] Z (qM (qQ Z Z fun w' hw=>?_))))))
  exact ⟨by rw [‹b=_›];rfl,hw.below⟩
 refine qR (zD [] [] Z (zF (zB (zE (v:=str ([48])) Z (jC Z Z) (zH (zD [2] [_] Z (qM (qQ Z Z fun w' hw=>?_))))))))
 exact ⟨by rw [‹b=_›];rfl,hw.below⟩
set_option maxHeartbeats 400000 in
theorem pick_ok (B:Nat) (w0:World) (hs:List (Nat×Obj)) (rp p:Nat) (bv:Value) (L:List Int) (n:Int) (w:World) (hb:∀ w,Own B w0 hs w→Row w bv (u8s L)) (hL8:Bytes8 L) (hL:L.length≤2000) (hp:p≤1000000) (hw:Own B w0 ((rp,.cells #[bv,.int .i64 (p:Int)] 88 (0,0))::hs) w) :
    Calls Tryz.prog 35 [pt_ rp,i6_ n].toArray w fun en w'=>∃ k:Int,∃ p':Nat,en=.returned (i6_ k)∧(0≤k∧(1≤n→k<n)∧p'=p+1)∧Own B w0 (((rp,.cells #[bv,.int .i64 (p':Int)] 88 (0,0))::hs)) w':=by
 refine fnStartC (Own B w0 ((rp,.cells #[bv,.int .i64 (p:Int)] 88 (0,0))::hs)) (n:=99) (e:=[(0,pt_ rp),(1,i6_ n)]) Tryz.func35 Z Z Z Z Ends.both hw (zF (zB (zC 1 Z (zH (zD [0,1] [_,_] Z (zF (qI (qL 2 Z (zO (v:=pt_ rp) Z (zP Z Z) (zO Z (zG Z jT Z zJ Z Z) (zO Z (zS 0 Z zU Z Z Z) (zO Z (qT Z Z Z (by omega) (by omega)) (zO (v:=pt_ rp) Z (zP Z Z) (zO Z (zG Z jT Z zJ Z Z) (qU (v:=i6_ ((p:Int)+(1:Int))) (hs':=(bk_ rp #[bv,i6_ ((p:Int)+(1:Int))] 88::hs)) 0 Z Z Z Z Z Z zJ Z (by simp) Z (zI (zD [0,1] [_,_] Z (zF (zF (zB (zC 3 Z (xD fun b17 hg17=>?_))))))))))))))))))))))
 cases b17
 ·
  replace hg17:=zT hg17;refine zC 1 Z (zE (v:=pt_ rp) Z (zP Z Z) (zE Z (zG Z jT Z yS Z Z) (zE Z (zS 0 Z xS Z Z Z) (zE (v:=i6_ (L.length:Int)) Z (yP Z xB Z (u8s_length _) (fun w1 hw1=>hb _ (qG (f:=[_]) hw1))) (zC 2 Z (zH (zD [0,1,24] [_,_,_] Z (yF (b:=decide ((L.length:Int)=(0:Int))) Z (fun h24=>?_) (fun h24=>?_)))))))))
  ·
   replace h24:=zV h24;refine zF (zB (zC 1 Z (zH (zD [4] [_] Z (qM (qQ Z Z fun w' hw=>?_))))))
   exact ⟨0,p+1,rfl,⟨Int.le_refl 0,fun _=>by omega,rfl⟩,hw⟩
  replace h24:=zT h24
  have hlp:0<L.length:=by omega
  refine qR (zD [0,1] [_,_] Z (zF (zB (zC 1 Z (zE (v:=pt_ rp) Z (zP Z Z) (zE Z (zG Z jT Z zJ Z Z) (zE Z (zS 0 Z zU Z Z Z) (zE (v:=i6_ (p:Int)) Z (yA (by congr 1;omega) (jV Z Z Z (by omega) (by omega))) (zC 1 Z (zH (zD [0,1,5] [_,_,_] Z (zF (zF (zB (zC 2 Z (zE (v:=pt_ rp) Z (zP Z Z) (zE Z (zG Z jT Z yS Z Z) (zE Z (zS 0 Z xS Z Z Z) (zE (v:=i6_ (L.length:Int)) Z (yP Z xB Z (u8s_length _) (fun w1 hw1=>hb _ (qG (f:=[_]) hw1))) (zC 1 Z (zH (zD [0,1,5,36] [_,_,_,_] Z (yF (b:=decide ((p:Int)<(L.length:Int))) Z (fun h36=>?_) (fun h36=>?_))))))))))))))))))))))))
  ·
   replace h36:=zV h36
   have hb0:=hL8.at (i:=(p:Int).toNat) (by omega);refine zF (zB (zC 1 Z (zE (v:=pt_ rp) Z (zP Z Z) (zE Z (zG Z jT Z yS Z Z) (zE Z (zS 0 Z xS Z Z Z) (zC 1 Z (zE (v:=.pointer (some (sAt bv (p:Int)))) Z (yO Z xB jA Z Z (by omega) (by rw [u8s_length];omega) (fun w1 hw1=>hb _ (qG (f:=[_]) hw1))) (zE (v:=.int .u8 (L.getD ((p:Int).toNat) 0)) Z (qN Z jE Z (fun w1 hw1=>u8s_cell (hb _ (qG (f:=[_]) hw1)) (by omega) (by omega))) (zE (v:=i6_ (L.getD ((p:Int).toNat) 0)) Z (jX .i64 Z jH xF Z (IntWalk.i64_in _ (by omega))) (zC 1 Z (zE (v:=i6_ ((L.getD ((p:Int).toNat) 0) % n)) Z (OpQ.rem Z Z Z (by omega) (by omega)) (zC 1 Z (zH (zD [4] [_] Z (qM (qQ Z Z fun w' hw=>?_))))))))))))))))
   exact ⟨_,p+1,rfl,⟨Int.emod_nonneg _ (by omega),fun _=>Int.emod_lt_of_pos _ (by omega),rfl⟩,hw⟩
  replace h36:=zT h36
  have hm1:=Int.emod_nonneg (p:Int) (b:=(L.length:Int)) (by omega)
  have hm2:=Int.emod_lt_of_pos (p:Int) (b:=(L.length:Int)) (by omega)
  have hm3:=Int.emod_nonneg ((p:Int)*(7:Int)+(3:Int)) (b:=(L.length:Int)) (by omega)
  have hm4:=Int.emod_lt_of_pos ((p:Int)*(7:Int)+(3:Int)) (b:=(L.length:Int)) (by omega)
  have hd1:=Int.ediv_nonneg (a:=(p:Int)) (b:=(L.length:Int)) (by omega) (by omega)
  have hd2:=Int.ediv_le_self (L.length:Int) (show (0:Int)≤(p:Int) by omega)
  have hb1:=hL8.at (i:=((p:Int) % (L.length:Int)).toNat) (by omega)
  have hb2:=hL8.at (i:=(((p:Int)*(7:Int)+(3:Int)) % (L.length:Int)).toNat) (by omega);refine qR (zD [0,1,5] [_,_,_] Z (zF (xY yC (fun _ h=>h.drawn) (by kernel_rfl) (zC 1 Z (zE (v:=pt_ rp) Z (zP Z Z) (zE Z (zG Z jT Z yS Z Z) (zE Z (zS 0 Z xS Z Z Z) (zC 2 Z (zE (v:=pt_ rp) Z (zP Z Z) (zE Z (zG Z jT Z yS Z Z) (zE Z (zS 0 Z xS Z Z Z) (zE (v:=i6_ (L.length:Int)) Z (yP Z xB Z (u8s_length _) (fun w1 hw1=>hb _ (qG (f:=[_]) hw1))) (zE (v:=i6_ ((p:Int) % (L.length:Int))) Z (OpQ.rem Z Z Z (by omega) (by omega)) (zE (v:=.pointer (some (sAt bv ((p:Int) % (L.length:Int))))) Z (yO Z xB jA Z Z (by omega) (by rw [u8s_length];omega) (fun w1 hw1=>hb _ (qG (f:=[_]) hw1))) (zE (v:=.int .u8 (L.getD (((p:Int) % (L.length:Int)).toNat) 0)) Z (qN Z jE Z (fun w1 hw1=>u8s_cell (hb _ (qG (f:=[_]) hw1)) (by omega) (by omega))) (zE (v:=i6_ (L.getD (((p:Int) % (L.length:Int)).toNat) 0)) Z (jX .i64 Z jH xF Z (IntWalk.i64_in _ (by omega))) (zE Z (uI Z Z Z (by omega) (by omega)) (zC 1 Z ?_))))))))))))))))));refine zE (v:=pt_ rp) Z (zP Z Z) (zE Z (zG Z jT Z yS Z Z) (zE Z (zS 0 Z xS Z Z Z) (zC 1 Z (zE Z (uI Z Z Z (by omega) (by omega)) (zE Z (qT Z Z Z (by omega) (by omega)) (zC 1 Z (zE (v:=pt_ rp) Z (zP Z Z) (zE Z (zG Z jT Z yS Z Z) (zE Z (zS 0 Z xS Z Z Z) (zE (v:=i6_ (L.length:Int)) Z (yP Z xB Z (u8s_length _) (fun w1 hw1=>hb _ (qG (f:=[_]) hw1))) (zE (v:=i6_ ((((p:Int)*(7:Int))+(3:Int)) % (L.length:Int))) Z (OpQ.rem Z Z Z (by omega) (by omega)) (zE (v:=.pointer (some (sAt bv ((((p:Int)*(7:Int))+(3:Int)) % (L.length:Int))))) Z (yO Z xB jA Z Z (by omega) (by rw [u8s_length];omega) (fun w1 hw1=>hb _ (qG (f:=[_]) hw1))) (zE (v:=.int .u8 (L.getD (((((p:Int)*(7:Int))+(3:Int)) % (L.length:Int)).toNat) 0)) Z (qN Z jE Z (fun w1 hw1=>u8s_cell (hb _ (qG (f:=[_]) hw1)) (by omega) (by omega))) (zE (v:=i6_ (L.getD (((((p:Int)*(7:Int))+(3:Int)) % (L.length:Int)).toNat) 0)) Z (jX .i64 Z jH xF Z (IntWalk.i64_in _ (by omega))) (zE Z (uI Z Z Z (by omega) (by omega)) (zE Z (qT Z Z Z (by omega) (by omega)) (zC 1 Z (zE Z (uI Z Z Z (by omega) (by omega)) (zE Z (qT Z Z Z (by omega) (by omega)) (zC 2 Z (zE (v:=pt_ rp) Z (zP Z Z) (zE Z (zG Z jT Z yS Z Z) (zE Z (zS 0 Z xS Z Z Z) (zE (v:=i6_ (L.length:Int)) Z (yP Z xB Z (u8s_length _) (fun w1 hw1=>hb _ (qG (f:=[_]) hw1))) (zE (v:=i6_ ((p:Int) / (L.length:Int))) Z (OpQ.quo Z Z Z (by omega) (by omega) (by omega)) (zE Z (uI Z Z Z (by omega) (by omega)) (zE Z (qT Z Z Z (by omega) (by omega)) (zC 1 Z (zH (zD [1,6] [_,_] Z (zF (zB (zC 2 Z (zE (v:=i6_ ((((((L.getD (((p:Int) % (L.length:Int)).toNat) 0)*(131:Int))+((L.getD (((((p:Int)*(7:Int))+(3:Int)) % (L.length:Int)).toNat) 0)*(1117:Int)))+((p:Int)*(29:Int)))+(((p:Int) / (L.length:Int))*(53:Int))) / (64:Int))) Z (OpQ.quo Z Z Z (by omega) (by omega) (by decide)) (zE (v:=i6_ (bits .xor .i64 (((((L.getD (((p:Int) % (L.length:Int)).toNat) 0)*(131:Int))+((L.getD (((((p:Int)*(7:Int))+(3:Int)) % (L.length:Int)).toNat) 0)*(1117:Int)))+((p:Int)*(29:Int)))+(((p:Int) / (L.length:Int))*(53:Int))) ((((((L.getD (((p:Int) % (L.length:Int)).toNat) 0)*(131:Int))+((L.getD (((((p:Int)*(7:Int))+(3:Int)) % (L.length:Int)).toNat) 0)*(1117:Int)))+((p:Int)*(29:Int)))+(((p:Int) / (L.length:Int))*(53:Int))) / (64:Int)))) Z (OpQ.xor Z Z Z) (zC 1 Z (zH (zD [1,6] [_,_] Z (zF (zB ?_))))))))))))))))))))))))))))))))))))))))
  have hx0:0≤bits .xor .i64 (((((L.getD (((p:Int) % (L.length:Int)).toNat) 0)*(131:Int))+((L.getD (((((p:Int)*(7:Int))+(3:Int)) % (L.length:Int)).toNat) 0)*(1117:Int)))+((p:Int)*(29:Int)))+(((p:Int) / (L.length:Int))*(53:Int))) ((((((L.getD (((p:Int) % (L.length:Int)).toNat) 0)*(131:Int))+((L.getD (((((p:Int)*(7:Int))+(3:Int)) % (L.length:Int)).toNat) 0)*(1117:Int)))+((p:Int)*(29:Int)))+(((p:Int) / (L.length:Int))*(53:Int))) / (64:Int)):=xor_pos (by omega) (by omega) (Int.ediv_nonneg (by omega) (by decide)) (by omega);refine zC 2 Z (zE (v:=i6_ ((bits .xor .i64 (((((L.getD (((p:Int) % (L.length:Int)).toNat) 0)*(131:Int))+((L.getD (((((p:Int)*(7:Int))+(3:Int)) % (L.length:Int)).toNat) 0)*(1117:Int)))+((p:Int)*(29:Int)))+(((p:Int) / (L.length:Int))*(53:Int))) ((((((L.getD (((p:Int) % (L.length:Int)).toNat) 0)*(131:Int))+((L.getD (((((p:Int)*(7:Int))+(3:Int)) % (L.length:Int)).toNat) 0)*(1117:Int)))+((p:Int)*(29:Int)))+(((p:Int) / (L.length:Int))*(53:Int))) / (64:Int))) % n)) Z (OpQ.rem Z Z Z hx0 (by omega)) (zC 1 Z (zH (zD [4] [_] Z (qM (qQ Z Z fun w' hw=>?_))))))
  exact ⟨_,p+1,rfl,⟨Int.emod_nonneg _ (by omega),fun _=>Int.emod_lt_of_pos _ (by omega),rfl⟩,hw⟩
 replace hg17:=zV hg17;refine zM Z (zM Z (zM Z (zM Z (zM Z (zM Z (zC 1 Z (zH (zD [0,1,24] [_,_,_] Z (yW Z (zF (zB (zC 1 Z (zH (zD [4] [_] Z (qM (qQ Z Z fun w' hw=>?_))))))))))))))))
 exact ⟨0,p+1,rfl,⟨Int.le_refl 0,fun _=>by omega,rfl⟩,hw⟩
set_option maxHeartbeats 400000 in
theorem num_ok (B:Nat) (w0:World) (hs:List (Nat×Obj)) (rp p:Nat) (bv:Value) (L:List Int) (va:Value) (xs:List Int) (w:World) (hb:∀ w,Own B w0 hs w→Row w bv (u8s L)) (hL8:Bytes8 L) (hL:L.length≤2000) (hva:∀ w,Own B w0 hs w→Ints w va xs) (hne:0<xs.length) (hp:p≤1000000) (hw:Own B w0 ((rp,.cells #[bv,.int .i64 (p:Int)] 88 (0,0))::hs) w) :
    Calls Tryz.prog 70 [pt_ rp,va].toArray w fun en w'=>∃ v:Int,∃ p':Nat,en=.returned (i6_ v)∧(v∈xs∧p'=p+1)∧Own B w0 (((rp,.cells #[bv,.int .i64 (p':Int)] 88 (0,0))::hs)) w':=by
 refine fnStartC (Own B w0 ((rp,.cells #[bv,.int .i64 (p:Int)] 88 (0,0))::hs)) (n:=12) (e:=[(0,pt_ rp),(1,va)]) Tryz.func70 Z Z Z Z Ends.both hw (zF (zB (zC 1 Z (zH (zD [0,1] [_,_] Z (zF (qI (qL 3 Z (zO (v:=i6_ (xs.length:Int)) Z (yP Z zX Z (ints_length _) (fun w1 hw1=>hva _ (qG (f:=[_]) hw1))) (yT (rp:=rp) (RT:=88) (p:=p) (bv:=bv) (hs:=hs) (ok:=fun (k:Int) p'=>0≤k∧(1≤(xs.length:Int)→k<(xs.length:Int))∧p'=p+1) (v:=fun (k:Int)=>i6_ k) (new:=fun (k:Int)=>[]) (xs:=[.tmp 6,.tmp 8]) (vs:=[pt_ rp,i6_ (xs.length:Int)]) ([]:List (Nat×Obj)) Z Z Z Z jQ Z (fun w1 hw1=>(pick_ok B w0 (([]:List (Nat×Obj))++hs) rp p bv L (xs.length:Int) w1 (fun w2 hw2=>hb w2 (qG (f:=([]:List (Nat×Obj))) hw2)) hL8 hL (by omega) hw1).mono fun en w' ⟨k',p',h1,h2,h3⟩=>⟨k',p',h1,h2,h3⟩) fun k9 p_9 hKp_9=>?_))))))))))
 show Ll _ _ (Own _ _ (_::hs)) _ _ ((9,i6_ k9)::_) _ _ _
 obtain ⟨h0k9,h1k9,hep_9⟩:=hKp_9
 try have hltk9:=h1k9 (by first | omega | (split <;> omega) | decide);refine zO (v:=.pointer (some (sAt va k9))) Z (yO Z zX zJ Z Z (by omega) (by rw [ints_length];omega) (fun w1 hw1=>hva _ (qG (f:=[_]) hw1))) (zO (v:=i6_ (xs.getD ((k9).toNat) 0)) Z (qN Z zU Z (fun w1 hw1=>Ints.cell (hva _ (qG (f:=[_]) hw1)) (by omega) (by omega))) (qL 1 Z (zI (zD [4] [_] Z (qM (qQ Z Z fun w' hw=>?_))))))
 exact ⟨_,p_9,rfl,⟨by rw [getD_at (by omega)];exact List.getElem_mem _,hep_9⟩,hw⟩
set_option maxHeartbeats 400000 in
theorem of_ok (B:Nat) (w0:World) (hs:List (Nat×Obj)) (rp p:Nat) (bv:Value) (L:List Int) (va:Value) (xs:List (List UInt8)) (w:World) (hb:∀ w,Own B w0 hs w→Row w bv (u8s L)) (hL8:Bytes8 L) (hL:L.length≤2000) (hva:∀ w,Own B w0 hs w→Strs w va xs) (hne:0<xs.length) (hp:p≤1000000) (hw:Own B w0 ((rp,.cells #[bv,.int .i64 (p:Int)] 88 (0,0))::hs) w) :
    Calls Tryz.prog 56 [pt_ rp,va].toArray w fun en w'=>∃ v:List UInt8,∃ p':Nat,en=.returned (str v)∧(v∈xs∧p'=p+1)∧Own B w0 (((rp,.cells #[bv,.int .i64 (p':Int)] 88 (0,0))::hs)) w':=by
 refine fnStartC (Own B w0 ((rp,.cells #[bv,.int .i64 (p:Int)] 88 (0,0))::hs)) (n:=12) (e:=[(0,pt_ rp),(1,va)]) Tryz.func56 Z Z Z Z Ends.both hw (zF (zB (zE (v:=str ([])) Z (jC Z Z) (zH (zD [0,1] [_,_] Z (zF (qI (qL 3 Z (zO (v:=i6_ (xs.length:Int)) Z (yP Z xQ Z (strs_length _) (fun w1 hw1=>hva _ (qG (f:=[_]) hw1))) (yT (rp:=rp) (RT:=88) (p:=p) (bv:=bv) (hs:=hs) (ok:=fun (k:Int) p'=>0≤k∧(1≤(xs.length:Int)→k<(xs.length:Int))∧p'=p+1) (v:=fun (k:Int)=>i6_ k) (new:=fun (k:Int)=>[]) (xs:=[.tmp 6,.tmp 8]) (vs:=[pt_ rp,i6_ (xs.length:Int)]) ([]:List (Nat×Obj)) Z Z Z Z jQ Z (fun w1 hw1=>(pick_ok B w0 (([]:List (Nat×Obj))++hs) rp p bv L (xs.length:Int) w1 (fun w2 hw2=>hb w2 (qG (f:=([]:List (Nat×Obj))) hw2)) hL8 hL (by omega) hw1).mono fun en w' ⟨k',p',h1,h2,h3⟩=>⟨k',p',h1,h2,h3⟩) fun k9 p_9 hKp_9=>?_))))))))))
 show Ll _ _ (Own _ _ (_::hs)) _ _ ((9,i6_ k9)::_) _ _ _
 obtain ⟨h0k9,h1k9,hep_9⟩:=hKp_9
 try have hltk9:=h1k9 (by first | omega | (split <;> omega) | decide);refine zO (v:=.pointer (some (sAt va k9))) Z (yO Z xQ qO Z Z (by omega) (by rw [strs_length];omega) (fun w1 hw1=>hva _ (qG (f:=[_]) hw1))) (zO (v:=str (xs.getD ((k9).toNat) [])) Z (qN Z yH Z (fun w1 hw1=>Strs.cell (hva _ (qG (f:=[_]) hw1)) (by omega) (by omega))) (qL 1 Z (zI (zD [4] [_] Z (qM (qQ Z Z fun w' hw=>?_))))))
 exact ⟨_,p_9,rfl,⟨by rw [getD_at (by omega)];exact List.getElem_mem _,hep_9⟩,hw⟩
set_option maxHeartbeats 400000 in
theorem many_ok (s:List UInt8) (w:World) (n:Int) (hn0:0≤n) (hn:n≤100) (hs1:s.length=1) :
    Calls Tryz.prog 117 [str s,i6_ n].toArray w fun en w'=>∃ t:List UInt8,en=.returned (str t)∧(t.length≤40000)∧Below w.heap.size w w':=by
 refine fnStart (n:=20) (e:=[(0,str s),(1,i6_ n)]) Tryz.func117 Z Z Z Z Ends.both (zF (zB (zE (v:=str ([])) Z (jC Z Z) (zH (zD [0,1] [_,_] Z (zF (zB (zE (v:=str ([])) Z (jC Z Z) (zH (zD [0,1,5] [_,_,_] Z (zF (qW (xM (σ:=Nat×List UInt8×List UInt8×Int) (fun ⟨i,t,u,m⟩=>(0≤m∧m≤100)∧m.toNat*2 ^ i≤100∧u.length=2 ^ i∧t.length≤2 ^ i∧i≤7) (fun ⟨i,t,u,m⟩=>[(0,str u),(1,i6_ m),(5,str t)]) (fun ⟨i,t,u,m⟩=>Own w.heap.size w []) (fun ⟨i,t,u,m⟩=>m.toNat) (0,[],s,n) ⟨by omega,by omega,hs1,by simp,by omega⟩ (Sub.sel [0,1,5] Z) (fun _ h=>h) ?_)))))))))))))
 rintro ⟨i,t,u,m⟩ ⟨⟨hm0,hm9⟩,hm1,hu,ht,hi⟩
 dsimp only;refine zF (zF (zB (zC 2 Z (zH (zD [0,1,5,7] [_,_,_,_] Z (yF (b:=decide ((0:Int)<m)) Z (fun h7=>?_) (fun h7=>?_)))))))
 ·
  replace h7:=zV h7
  have h128:2 ^ i≤128:=Nat.le_trans (Nat.pow_le_pow_right (by decide) hi) (by decide);refine qR (zD [0,1,5] [_,_,_] Z (qW (zF (zF (zB (zC 1 Z (zE (v:=i6_ (m % (2:Int))) Z (OpQ.rem Z Z Z (by omega) (by decide)) (zC 1 Z (zH (zD [0,1,5,10] [_,_,_,_] Z (yQ Z (fun h10=>?_) (fun h10=>?_))))))))))))
  ·
   refine zB (zC 2 Z (zE Z (yJ Z Z Z (by first | omega | (simp only [zN,qB,qD];omega))) (zC 1 Z (zH (zD [0,1,5] [_,_,_] Z (zF (zB (zC 2 Z (zE Z (yJ Z Z Z (by first | omega | (simp only [zN,qB,qD];omega))) (zC 1 Z (zH (zD [0,1,5] [_,_,_] Z (zB (zC 1 Z (zE (v:=i6_ (m / (2:Int))) Z (OpQ.quo Z Z Z (by omega) (by omega) (by decide)) (zC 1 Z (zH (yL (i+1,t++u,u++u,m / (2:Int)) ⟨by dsimp only;omega,many_half hm0 hm1,by rw [zN,hu,Nat.pow_succ];omega,by dsimp only;(try rw [zN]);rw [Nat.pow_succ];omega,many_more hm1 (by omega)⟩ (by dsimp only;omega) (Sub.sel [0,1,5] Z) (fun _ h=>h)))))))))))))))))))
  refine qR (zD [0,1,5] [_,_,_] Z (zF (zB (zC 2 Z (zE Z (yJ Z Z Z (by first | omega | (simp only [zN,qB,qD];omega))) (zC 1 Z (zH (zD [0,1,5] [_,_,_] Z (zB (zC 1 Z (zE (v:=i6_ (m / (2:Int))) Z (OpQ.quo Z Z Z (by omega) (by omega) (by decide)) (zC 1 Z (zH (yL (i+1,t,u++u,m / (2:Int)) ⟨by dsimp only;omega,many_half hm0 hm1,by rw [zN,hu,Nat.pow_succ];omega,by dsimp only;(try rw [zN]);rw [Nat.pow_succ];omega,many_more hm1 (by omega)⟩ (by dsimp only;omega) (Sub.sel [0,1,5] Z) (fun _ h=>h)))))))))))))))
 replace h7:=zT h7;refine yY Z (zD [5] [_] Z (zF (zB (zC 2 Z (zH (zD [4] [_] Z (qM (qQ Z Z fun w' hw=>?_))))))))
 exact ⟨t,rfl,Nat.le_trans ht (Nat.le_trans (Nat.pow_le_pow_right (by decide) hi) (by decide)),hw.below⟩
end Go.Proofs.YtefiibghfgfdnaaGreatDoor
namespace Go.Proofs.YtefiibghfgfdnaaGreatDoor
open Go.RowKit Go.Wk
set_option linter.unusedSimpArgs false
set_option maxHeartbeats 400000 in
theorem areElements_ok (a:St) (va:Value) (xs:List Int) (w:World) (hva:Ints w va xs) (hs:xs.length≤140737488355328) :
    Calls Tryz.prog 92 [vS a,va].toArray w fun en w'=>en=.returned (.bool (xs.all (elB a)))∧Below w.heap.size w w':=by
 refine fnStart (n:=9) (e:=[(0,vS a),(1,va)]) Tryz.func92 Z Z Z Z Ends.both (zF (qI (xK (v:=vS a) Z Z Z Z Z fun p2 hp2=>?_)))
 show Ll _ _ (Own _ _ [_]) _ _ ((2,pt_ p2)::_) _ _ _;refine qL 1 Z (zI (zD [1,2] [_,_] Z (zF (zB (zC 1 Z (zE (v:=.func (.func 138) #[] #[pt_ p2]) Z (OpQ.func' (cap:=[.tmp 2]) Z Z) (zE (v:=bo_ (xs.any fun x=>!elB a x)) Z (qK Z Tryz.call137 Z qC (fun w1 hw1=>containsFunc_ok va xs w1 (Row.own hva hw1) hs 138 #[.pointer (some ⟨p2,0,none⟩)] (fun x=>!elB a x) Tryz.call138 (fun w2 hb x=>noEl_ok a p2 _ x w2 ((hw1.stable _ _ hb).has 0 _ _ Z).2))) (zC 2 Z (zH (zD [4] [_] Z (qM (qQ Z Z fun w' hw=>?_))))))))))))
 exact ⟨ret_b (not_any_elB a xs),hw.below⟩
set_option maxHeartbeats 400000 in
theorem l4List_ok (a:St) (va:Value) (xs:List Int) (w:World) (hsa:a.Small) (hva:Ints w va xs) (hs:xs.length≤140737488355328) (hn : -9223372036854775808≤a.n) (hn1:a.n≤9223372036854775807) :
    Calls Tryz.prog 127 [vS a,va].toArray w fun en w'=>en=.returned (.bool (listB a xs))∧Below w.heap.size w w':=by
 refine fnStart (n:=28) (e:=[(0,vS a),(1,va)]) Tryz.func127 Z Z Z Z Ends.both (zF (qI (xK (v:=vS a) Z Z Z Z Z fun p2 hp2=>?_)))
 show Ll _ _ (Own _ _ [_]) _ _ ((2,pt_ p2)::_) _ _ _;refine qL 1 Z (zI (zD [1,2] [_,_] Z (zF (zF (zB (zC 1 Z (zH (zD [1,2,5] [_,_,_] Z (qW (xM (σ:=Nat) (fun k=>k≤xs.length∧∀ i:Nat,i<k→inB (xs.getD i 0) 0 (pred64 a.n)=true) (fun k=>[(1,va),(2,pt_ p2),(5,i6_ (k:Int))]) (fun k=>Own w.heap.size w [bk_ p2 #[i6_ a.n,str a.set,str a.rel] 24]) (fun k=>xs.length - k) (0) ⟨by omega,fun i hi=>absurd hi (by omega)⟩ (Sub.sel [1,2,5] Z) (fun _ h=>h) ?_))))))))))
 rintro k ⟨hk,hall⟩;refine zF (zF (zB (zC 2 Z (zE (v:=i6_ (xs.length:Int)) Z (yP Z zX Z (ints_length _) (fun w1 hw1=>Row.own hva hw1)) (zC 1 Z (zH (zD [1,2,5,9] [_,_,_,_] Z (yQ Z (fun h9=>?_) (fun h9=>?_)))))))))
 ·
  refine qR (zD [1,2,5] [_,_,_] Z (zF (qW (zF (xY yC (fun _ h=>h.drawn) (by kernel_rfl) (zC 2 Z (zE (v:=.pointer (some (sAt va (k:Int)))) Z (yO Z zX zJ Z Z (by omega) (by rw [ints_length];omega) (fun w1 hw1=>Row.own hva hw1)) (zE (v:=i6_ (xs.getD ((k:Int).toNat) 0)) Z (qN Z zU Z (fun w1 hw1=>Ints.cell (Row.own hva hw1) (by omega) (by omega))) (zE Z (zG Z zY Z zJ Z Z) (zE Z (zS 0 Z zU Z Z Z) (zE (v:=i6_ (pred64 a.n)) Z (OpQ.pred Z Z Z (by omega) (by omega)) (zE (v:=bo_ (inB (xs.getD ((k:Int).toNat) 0) 0 (pred64 a.n))) Z (qK Z Tryz.call80 Z qC (fun w1 hw1=>l1In_ok (xs.getD ((k:Int).toNat) 0) 0 (pred64 a.n) w1 )) (zC 1 Z (zH (zD [1,2,5,20] [_,_,_,_] Z (yF (b:=!(inB (xs.getD ((k:Int).toNat) 0) 0 (pred64 a.n))) Z (fun h20=>?_) (fun h20=>?_)))))))))))))))))
  ·
   replace h20:=not_true h20;refine zF (zB (zC 1 Z (zH (zD [4] [_] Z (qM (qQ Z Z fun w' hw=>?_))))))
   exact ⟨ret_b (list_no (i:=k) (by omega) (by simpa using h20)).symm,hw.below⟩
  replace h20:=not_false h20;refine qR (zD [1,2,5] [_,_,_] Z (zB (zC 1 Z (zE Z (qT Z Z Z (by omega) (by omega)) (zC 1 Z (zH (yL (k+1) ⟨by omega,fun i hi=>(Nat.lt_succ_iff_lt_or_eq.1 hi).elim (hall i) (fun e=>by subst e;simpa using h20)⟩ (by omega) (Sub.sel [1,2,5] Z) (fun _ h=>h))))))))
 refine yY Z (zD [1,2] [_,_] Z (zF (zB (zE Z (qF (cs:=#[i6_ a.n,str a.set,str a.rel]) 0 Z zZ Z Z zQ) (zE (v:=bo_ (validB a)) Z (qK Z Tryz.call51 Z qC (fun w1 hw1=>sValid_ok a w1 hsa)) (zC 1 Z (xD fun b23 hg23=>?_)))))))
 cases b23
 ·
  refine zM Z (zM Z (zM Z (zC 2 Z (zH (zD [4] [_] Z (qM (qQ Z Z fun w' hw=>?_)))))))
  exact ⟨ret_b (by rw [list_yes (fun i hi=>hall i (by omega))];simp [*]),hw.below⟩
 refine zC 1 Z (zE (v:=i6_ (xs.length:Int)) Z (yP Z zX Z (ints_length _) (fun w1 hw1=>Row.own hva hw1)) (zC 3 Z (zH (zD [4] [_] Z (qM (qQ Z Z fun w' hw=>?_))))))
 exact ⟨ret_b (by rw [list_yes (fun i hi=>hall i (by omega))];simp [*]),hw.below⟩
set_option maxHeartbeats 400000 in
theorem l4Lists_ok (a b:St) (xs ys:List Int) (va vb:Value) (w:World) (hsa:a.Small) (hsb:b.Small) (hva:Ints w va xs) (hvb:Ints w vb ys) (hs1:xs.length≤140737488355328) (hs2:ys.length≤140737488355328) (loa : -9223372036854775808≤a.n) (hia:a.n≤9223372036854775807) (lob : -9223372036854775808≤b.n) (hib:b.n≤9223372036854775807) :
    Calls Tryz.prog 79 [vS a,va,vS b,vb].toArray w fun en w'=>en=.returned (.bool (listsB a xs b ys))∧Below w.heap.size w w':=by
 refine fnStart (n:=24) (e:=[(0,vS a),(1,va),(2,vS b),(3,vb)]) Tryz.func79 Z Z Z Z Ends.both (zF (qI (xK (v:=vS a) Z Z Z Z Z fun p4 hp4=>?_)))
 show Ll _ _ (Own _ _ [_]) _ _ ((4,pt_ p4)::_) _ _ _;refine xK (v:=vS b) Z Z Z Z Z fun p6 hp6=>?_
 show Ll _ _ (Own _ _ [_,_]) _ _ ((6,pt_ p6)::_) _ _ _;refine qL 1 Z (zI (zD [1,3,4,6] [_,_,_,_] Z (zF (zB (zE Z (qF (cs:=#[i6_ a.n,str a.set,str a.rel]) 1 Z zZ Z Z zQ) (zC 1 Z (zE (v:=bo_ (listB a xs)) Z (qK Z Tryz.call127 Z qC (fun w1 hw1=>l4List_ok a va xs w1 hsa (Row.own hva hw1) (by first | (simp;done) | (simp;omega) | omega) loa hia)) (zC 1 Z (xD fun b12 hg12=>?_)))))))))
 cases b12
 ·
  refine zM Z (zM Z (zM Z (zC 2 Z (zM Z (zM Z (zM Z (zM Z (zM Z (zC 2 Z (zH (zD [8] [_] Z (qM (qQ Z Z fun w' hw=>?_)))))))))))))
  exact ⟨ret_b (by unfold listsB;simp [*]),hw.below⟩
 refine zE Z (qF (cs:=#[i6_ b.n,str b.set,str b.rel]) 0 Z zZ Z Z zQ) (zC 1 Z (zE (v:=bo_ (listB b ys)) Z (qK Z Tryz.call127 Z qC (fun w1 hw1=>l4List_ok b vb ys w1 hsb (Row.own hvb hw1) (by first | (simp;done) | (simp;omega) | omega) lob hib)) (zC 2 Z (xD fun b17 hg17=>?_))))
 cases b17
 ·
  refine zM Z (zM Z (zM Z (zM Z (zM Z (zC 2 Z (zH (zD [8] [_] Z (qM (qQ Z Z fun w' hw=>?_)))))))))
  exact ⟨ret_b (by unfold listsB;simp [*]),hw.below⟩
 refine zC 1 Z (zE (v:=i6_ (xs.length:Int)) Z (yP Z zX Z (ints_length _) (fun w1 hw1=>Row.own hva hw1)) (zC 1 Z (zE (v:=i6_ (ys.length:Int)) Z (yP Z zX Z (ints_length _) (fun w1 hw1=>Row.own hvb hw1)) (zC 3 Z (zH (zD [8] [_] Z (qM (qQ Z Z fun w' hw=>?_))))))))
 exact ⟨ret_b (by unfold listsB;simp [*]),hw.below⟩
set_option maxHeartbeats 400000 in
theorem fits_ok (a b:St) (xs ys:List Int) (va vb:Value) (m:Nat) (w:World) (ha:a.Fine) (hb:b.Fine) (hva:Ints w va xs) (hvb:Ints w vb ys) (hA:a.Els xs) (hB:b.Els ys) (hm:xs.length=m+1) (hm2:ys.length=m+1) (hsmall:m≤1000000) :
    Calls Tryz.prog 132 [vS a,va,vS b,vb].toArray w fun en w'=>en=.returned (.bool (stillAt a xs b ys m))∧Below w.heap.size w w':=by
 refine fnStart (n:=97) (e:=[(0,vS a),(1,va),(2,vS b),(3,vb)]) Tryz.func132 Z Z Z Z Ends.both ?_
 have hT:=fits_true (a:=a) (b:=b) hm hm2;refine zF (qI (xK (v:=vS a) Z Z Z Z Z fun p4 hp4=>?_))
 show Ll _ _ (Own _ _ [_]) _ _ ((4,pt_ p4)::_) _ _ _;refine xK (v:=vS b) Z Z Z Z Z fun p6 hp6=>?_
 show Ll _ _ (Own _ _ [_,_]) _ _ ((6,pt_ p6)::_) _ _ _;refine qL 1 Z (zI (zD [1,3,4,6] [_,_,_,_] Z (zF (zB (zC 1 Z (zE (v:=i6_ ((m+1):Int)) Z (yP Z zX Z ((ints_length _).trans hm) (fun w1 hw1=>Row.own hva hw1)) (zE (v:=i6_ (m:Int)) Z (yA (by simp) (jV Z Z Z (by omega) (by omega))) (zC 1 Z (zH (zD [1,3,4,6,9] [_,_,_,_,_] Z (zF (zF (xY yC (fun _ h=>h.drawn) (by kernel_rfl) (zE Z (qF (cs:=#[i6_ a.n,str a.set,str a.rel]) 1 Z zZ Z Z zQ) (zC 2 Z (zE (v:=.pointer (some (sAt va (m:Int)))) Z (yO Z zX zJ Z Z (by omega) (by rw [ints_length];omega) (fun w1 hw1=>Row.own hva hw1)) (zE (v:=i6_ (xs.getD ((m:Int).toNat) 0)) Z (qN Z zU Z (fun w1 hw1=>Ints.cell (Row.own hva hw1) (by omega) (by omega))) (zE (v:=bo_ (a.inSet (xs.getD ((m:Int).toNat) 0))) Z (qK Z Tryz.call153 Z qC (fun w1 hw1=>l1Set_ok a (xs.getD ((m:Int).toNat) 0) w1 ha (by first | assumption | exact St.Els.at (by assumption) (by omega) (by omega)))) (zE Z (qF (cs:=#[i6_ b.n,str b.set,str b.rel]) 0 Z zZ Z Z zQ) (zC 2 Z (zE (v:=.pointer (some (sAt vb (m:Int)))) Z (yO Z zX zJ Z Z (by omega) (by rw [ints_length];omega) (fun w1 hw1=>Row.own hvb hw1)) (zE (v:=i6_ (ys.getD ((m:Int).toNat) 0)) Z (qN Z zU Z (fun w1 hw1=>Ints.cell (Row.own hvb hw1) (by omega) (by omega))) (zE (v:=bo_ (b.inSet (ys.getD ((m:Int).toNat) 0))) Z (qK Z Tryz.call153 Z qC (fun w1 hw1=>l1Set_ok b (ys.getD ((m:Int).toNat) 0) w1 hb (by first | assumption | exact St.Els.at (by assumption) (by omega) (by omega)))) (zE Z (OpQ.bne Z xJ Z Z) (zH (zD [1,3,4,6,9,26] [_,_,_,_,_,_] Z (yF (b:=(a.inSet (xs.getD ((m:Int).toNat) 0)) != (b.inSet (ys.getD ((m:Int).toNat) 0))) Z (fun h26=>?_) (fun h26=>?_))))))))))))))))))))))))))))
 ·
  refine zF (zB (zC 1 Z (zH (zD [8] [_] Z (qM (qQ Z Z fun w' hw=>?_))))))
  have hf:stillAt a xs b ys m=false:=by
   cases hs:stillAt a xs b ys m with
   | false=>rfl
   | true =>
    obtain ⟨e1,e3⟩:=hT.1 hs
    simp_all
  exact ⟨ret_b hf.symm,hw.below⟩
 refine qR (zD [1,3,4,6,9] [_,_,_,_,_] Z (zF (zF (zB (zC 1 Z (zH (zD [1,3,4,6,9,10] [_,_,_,_,_,_] Z (qW (xM (σ:=Nat) (fun k=>k≤m+1∧∀ i:Nat,i<k→pairOk a b (xs.getD m 0) (ys.getD m 0) (xs.getD i 0) (ys.getD i 0)=true) (fun k=>[(1,va),(3,vb),(4,pt_ p4),(6,pt_ p6),(9,i6_ (m:Int)),(10,i6_ (k:Int))]) (fun k=>Own w.heap.size w [bk_ p6 #[i6_ b.n,str b.set,str b.rel] 24,bk_ p4 #[i6_ a.n,str a.set,str a.rel] 24]) (fun k=>m+1 - k) (0) ⟨by omega,fun i hi=>absurd hi (by omega)⟩ (Sub.sel [1,3,4,6,9,10] Z) (fun _ h=>h) ?_)))))))))
 rintro k ⟨hk,hall⟩;refine zF (zF (zB (zC 3 Z (zH (zD [1,3,4,6,9,10,29] [_,_,_,_,_,_,_] Z (yQ Z (fun h29=>?_) (fun h29=>?_)))))))
 ·
  refine qR (zD [1,3,4,6,9,10] [_,_,_,_,_,_] Z (zF (qW (zF (xY yC (fun _ h=>h.drawn) (by kernel_rfl) (zC 2 Z (zE (v:=.pointer (some (sAt va (k:Int)))) Z (yO Z zX zJ Z Z (by omega) (by rw [ints_length];omega) (fun w1 hw1=>Row.own hva hw1)) (zE (v:=i6_ (xs.getD ((k:Int).toNat) 0)) Z (qN Z zU Z (fun w1 hw1=>Ints.cell (Row.own hva hw1) (by omega) (by omega))) (zC 2 Z (zE (v:=.pointer (some (sAt va (m:Int)))) Z (yO Z zX zJ Z Z (by omega) (by rw [ints_length];omega) (fun w1 hw1=>Row.own hva hw1)) (zE (v:=i6_ (xs.getD ((m:Int).toNat) 0)) Z (qN Z zU Z (fun w1 hw1=>Ints.cell (Row.own hva hw1) (by omega) (by omega))) (zC 3 Z (zE (v:=.pointer (some (sAt vb (k:Int)))) Z (yO Z zX zJ Z Z (by omega) (by rw [ints_length];omega) (fun w1 hw1=>Row.own hvb hw1)) (zE (v:=i6_ (ys.getD ((k:Int).toNat) 0)) Z (qN Z zU Z (fun w1 hw1=>Ints.cell (Row.own hvb hw1) (by omega) (by omega))) (zC 2 Z (zE (v:=.pointer (some (sAt vb (m:Int)))) Z (yO Z zX zJ Z Z (by omega) (by rw [ints_length];omega) (fun w1 hw1=>Row.own hvb hw1)) (zE (v:=i6_ (ys.getD ((m:Int).toNat) 0)) Z (qN Z zU Z (fun w1 hw1=>Ints.cell (Row.own hvb hw1) (by omega) (by omega))) (zC 1 Z (zE Z (OpQ.bne Z xJ Z Z) (zC 1 Z (xD fun b51 hg51=>?_)))))))))))))))))))))
  cases b51
  ·
   refine zE Z (qF (cs:=#[i6_ a.n,str a.set,str a.rel]) 1 Z zZ Z Z zQ) (zC 2 Z (zE (v:=.pointer (some (sAt va (k:Int)))) Z (yO Z zX zJ Z Z (by omega) (by rw [ints_length];omega) (fun w1 hw1=>Row.own hva hw1)) (zE (v:=i6_ (xs.getD ((k:Int).toNat) 0)) Z (qN Z zU Z (fun w1 hw1=>Ints.cell (Row.own hva hw1) (by omega) (by omega))) (zC 2 Z (zE (v:=.pointer (some (sAt va (m:Int)))) Z (yO Z zX zJ Z Z (by omega) (by rw [ints_length];omega) (fun w1 hw1=>Row.own hva hw1)) (zE (v:=i6_ (xs.getD ((m:Int).toNat) 0)) Z (qN Z zU Z (fun w1 hw1=>Ints.cell (Row.own hva hw1) (by omega) (by omega))) (zE (v:=bo_ (a.inRel (xs.getD ((k:Int).toNat) 0) (xs.getD ((m:Int).toNat) 0))) Z (qK Z vE Z qC (fun w1 hw1=>l1Rel_ok a (xs.getD ((k:Int).toNat) 0) (xs.getD ((m:Int).toNat) 0) w1 ha (by first | assumption | exact St.Els.at (by assumption) (by omega) (by omega)) (by first | assumption | exact St.Els.at (by assumption) (by omega) (by omega)))) (zE Z (qF (cs:=#[i6_ b.n,str b.set,str b.rel]) 0 Z zZ Z Z zQ) (zC 2 Z (zE (v:=.pointer (some (sAt vb (k:Int)))) Z (yO Z zX zJ Z Z (by omega) (by rw [ints_length];omega) (fun w1 hw1=>Row.own hvb hw1)) (zE (v:=i6_ (ys.getD ((k:Int).toNat) 0)) Z (qN Z zU Z (fun w1 hw1=>Ints.cell (Row.own hvb hw1) (by omega) (by omega))) (zC 2 Z (zE (v:=.pointer (some (sAt vb (m:Int)))) Z (yO Z zX zJ Z Z (by omega) (by rw [ints_length];omega) (fun w1 hw1=>Row.own hvb hw1)) (zE (v:=i6_ (ys.getD ((m:Int).toNat) 0)) Z (qN Z zU Z (fun w1 hw1=>Ints.cell (Row.own hvb hw1) (by omega) (by omega))) (zE (v:=bo_ (b.inRel (ys.getD ((k:Int).toNat) 0) (ys.getD ((m:Int).toNat) 0))) Z (qK Z vE Z qC (fun w1 hw1=>l1Rel_ok b (ys.getD ((k:Int).toNat) 0) (ys.getD ((m:Int).toNat) 0) w1 hb (by first | assumption | exact St.Els.at (by assumption) (by omega) (by omega)) (by first | assumption | exact St.Els.at (by assumption) (by omega) (by omega)))) (zE Z (OpQ.bne Z xJ Z Z) (zC 2 Z (xD fun b74 hg74=>?_))))))))))))))))))
   cases b74
   ·
    refine zE Z (qF (cs:=#[i6_ a.n,str a.set,str a.rel]) 1 Z zZ Z Z zQ) (zC 2 Z (zE (v:=.pointer (some (sAt va (m:Int)))) Z (yO Z zX zJ Z Z (by omega) (by rw [ints_length];omega) (fun w1 hw1=>Row.own hva hw1)) (zE (v:=i6_ (xs.getD ((m:Int).toNat) 0)) Z (qN Z zU Z (fun w1 hw1=>Ints.cell (Row.own hva hw1) (by omega) (by omega))) (zC 2 Z (zE (v:=.pointer (some (sAt va (k:Int)))) Z (yO Z zX zJ Z Z (by omega) (by rw [ints_length];omega) (fun w1 hw1=>Row.own hva hw1)) (zE (v:=i6_ (xs.getD ((k:Int).toNat) 0)) Z (qN Z zU Z (fun w1 hw1=>Ints.cell (Row.own hva hw1) (by omega) (by omega))) (zE (v:=bo_ (a.inRel (xs.getD ((m:Int).toNat) 0) (xs.getD ((k:Int).toNat) 0))) Z (qK Z vE Z qC (fun w1 hw1=>l1Rel_ok a (xs.getD ((m:Int).toNat) 0) (xs.getD ((k:Int).toNat) 0) w1 ha (by first | assumption | exact St.Els.at (by assumption) (by omega) (by omega)) (by first | assumption | exact St.Els.at (by assumption) (by omega) (by omega)))) (zE Z (qF (cs:=#[i6_ b.n,str b.set,str b.rel]) 0 Z zZ Z Z zQ) (zC 2 Z (zE (v:=.pointer (some (sAt vb (m:Int)))) Z (yO Z zX zJ Z Z (by omega) (by rw [ints_length];omega) (fun w1 hw1=>Row.own hvb hw1)) (zE (v:=i6_ (ys.getD ((m:Int).toNat) 0)) Z (qN Z zU Z (fun w1 hw1=>Ints.cell (Row.own hvb hw1) (by omega) (by omega))) (zC 2 Z (zE (v:=.pointer (some (sAt vb (k:Int)))) Z (yO Z zX zJ Z Z (by omega) (by rw [ints_length];omega) (fun w1 hw1=>Row.own hvb hw1)) (zE (v:=i6_ (ys.getD ((k:Int).toNat) 0)) Z (qN Z zU Z (fun w1 hw1=>Ints.cell (Row.own hvb hw1) (by omega) (by omega))) (zE (v:=bo_ (b.inRel (ys.getD ((m:Int).toNat) 0) (ys.getD ((k:Int).toNat) 0))) Z (qK Z vE Z qC (fun w1 hw1=>l1Rel_ok b (ys.getD ((m:Int).toNat) 0) (ys.getD ((k:Int).toNat) 0) w1 hb (by first | assumption | exact St.Els.at (by assumption) (by omega) (by omega)) (by first | assumption | exact St.Els.at (by assumption) (by omega) (by omega)))) (zE Z (OpQ.bne Z xJ Z Z) (zC 1 Z (zH (zD [1,3,4,6,9,10,96] [_,_,_,_,_,_,_] Z (yF (b:=(a.inRel (xs.getD ((m:Int).toNat) 0) (xs.getD ((k:Int).toNat) 0)) != (b.inRel (ys.getD ((m:Int).toNat) 0) (ys.getD ((k:Int).toNat) 0))) Z (fun h96=>?_) (fun h96=>?_)))))))))))))))))))))
    ·
     refine zF (zB (zC 1 Z (zH (zD [8] [_] Z (qM (qQ Z Z fun w' hw=>?_))))))
     have hf:stillAt a xs b ys m=false:=by
      cases hs:stillAt a xs b ys m with
      | false=>rfl
      | true =>
       obtain ⟨e1,e3⟩:=hT.1 hs
       obtain ⟨e4,e5,e6⟩:=pairOk_true.1 (e3 k (by omega))
       simp only [Int.toNat_natCast] at *
       simp_all
     exact ⟨ret_b hf.symm,hw.below⟩
    refine qR (zD [1,3,4,6,9,10] [_,_,_,_,_,_] Z (zB (zC 1 Z (zE Z (qT Z Z Z (by omega) (by omega)) (zC 1 Z (zH (yL (k+1) ⟨by omega,fun i hi=>(Nat.lt_succ_iff_lt_or_eq.1 hi).elim (hall i) (fun e=>by subst e;exact pairOk_true.2 ⟨by simpa using hg51,by simpa using hg74,by simpa using h96⟩)⟩ (by omega) (Sub.sel [1,3,4,6,9,10] Z) (fun _ h=>h))))))))
   refine zM Z (zM Z (zM Z (zM Z (zM Z (zM Z (zM Z (zM Z (zM Z (zM Z (zM Z (zM Z (zM Z (zM Z (zM Z (zM Z (zM Z (zM Z (zM Z (zM Z (zM Z (zC 1 Z (zH (zD [1,3,4,6,9,10,96] [_,_,_,_,_,_,_] Z (yW Z (zF (zB (zC 1 Z (zH (zD [8] [_] Z (qM (qQ Z Z fun w' hw=>?_)))))))))))))))))))))))))))))))
   have hf:stillAt a xs b ys m=false:=by
    cases hs:stillAt a xs b ys m with
    | false=>rfl
    | true =>
     obtain ⟨e1,e3⟩:=hT.1 hs
     obtain ⟨e4,e5,e6⟩:=pairOk_true.1 (e3 k (by omega))
     simp only [Int.toNat_natCast] at *
     simp_all
   exact ⟨ret_b hf.symm,hw.below⟩
  refine zM Z (zM Z (zM Z (zM Z (zM Z (zM Z (zM Z (zM Z (zM Z (zM Z (zM Z (zM Z ?_)))))))))));refine zM Z (zM Z (zM Z (zM Z (zM Z (zM Z (zM Z (zM Z (zM Z (zC 2 Z (zM Z (zM Z (zM Z (zM Z (zM Z (zM Z (zM Z (zM Z (zM Z (zM Z (zM Z (zM Z (zM Z (zM Z (zM Z (zM Z (zM Z (zM Z (zM Z (zM Z (zM Z (zC 1 Z (zH (zD [1,3,4,6,9,10,96] [_,_,_,_,_,_,_] Z (yW Z (zF (zB (zC 1 Z (zH (zD [8] [_] Z (qM (qQ Z Z fun w' hw=>?_)))))))))))))))))))))))))))))))))))))))))
  have hf:stillAt a xs b ys m=false:=by
   cases hs:stillAt a xs b ys m with
   | false=>rfl
   | true =>
    obtain ⟨e1,e3⟩:=hT.1 hs
    obtain ⟨e4,e5,e6⟩:=pairOk_true.1 (e3 k (by omega))
    simp only [Int.toNat_natCast] at *
    simp_all
  exact ⟨ret_b hf.symm,hw.below⟩
 refine yY Z (zD [] [] Z (zF (zB (zC 1 Z (zH (zD [8] [_] Z (qM (qQ Z Z fun w' hw=>?_))))))))
 exact ⟨ret_b (hT.2 ⟨bne_false ‹_›,fun i hi=>hall i (by omega)⟩).symm,hw.below⟩
set_option maxHeartbeats 400000 in
theorem l4Partial_ok (a b:St) (xs ys:List Int) (va vb:Value) (w:World) (ha:a.Fine) (hb:b.Fine) (hva:Ints w va xs) (hvb:Ints w vb ys) (hA:a.Els xs) (hB:b.Els ys) (hlen:xs.length=ys.length) (hsmall:xs.length≤1000000) :
    Calls Tryz.prog 83 [vS a,va,vS b,vb].toArray w fun en w'=>en=.returned (.bool (sameB a xs b ys))∧Below w.heap.size w w':=by
 refine fnStart (n:=26) (e:=[(0,vS a),(1,va),(2,vS b),(3,vb)]) Tryz.func83 Z Z Z Z Ends.both (zF (qI (xK (v:=vS a) Z Z Z Z Z fun p4 hp4=>?_)))
 show Ll _ _ (Own _ _ [_]) _ _ ((4,pt_ p4)::_) _ _ _;refine xK (v:=vS b) Z Z Z Z Z fun p6 hp6=>?_
 show Ll _ _ (Own _ _ [_,_]) _ _ ((6,pt_ p6)::_) _ _ _;refine qL 1 Z (zI (zD [1,3,4,6] [_,_,_,_] Z (zF (zF (zB (zC 1 Z (zH (zD [1,3,4,6,9] [_,_,_,_,_] Z (qW (xM (σ:=Nat) (fun k=>k≤xs.length∧∀ i:Nat,i<k→stillAt a xs b ys i=true) (fun k=>[(1,va),(3,vb),(4,pt_ p4),(6,pt_ p6),(9,i6_ ((k:Int)+1))]) (fun k=>Own w.heap.size w [bk_ p6 #[i6_ b.n,str b.set,str b.rel] 24,bk_ p4 #[i6_ a.n,str a.set,str a.rel] 24]) (fun k=>xs.length - k) (0) ⟨by omega,fun i hi=>absurd hi (by omega)⟩ (Sub.cons Z (Sub.cons Z (Sub.cons Z (Sub.cons Z (Sub.cons (by simp [List.lookup]) Sub.nil))))) (fun _ h=>h) ?_))))))))))
 rintro k ⟨hk,hall⟩;refine zF (zF (zB (zC 2 Z (zE (v:=i6_ (xs.length:Int)) Z (yP Z zX Z (ints_length _) (fun w1 hw1=>Row.own hva hw1)) (zC 1 Z (zH (zD [1,3,4,6,9,13] [_,_,_,_,_,_] Z (yQ Z (fun h13=>?_) (fun h13=>?_)))))))))
 ·
  refine qR (zD [1,3,4,6,9] [_,_,_,_,_] Z (zF (qW (zF (xY yC (fun _ h=>h.drawn) (by kernel_rfl) (zE Z (qF (cs:=#[i6_ a.n,str a.set,str a.rel]) 1 Z zZ Z Z zQ) (zC 1 Z (zE (v:=i6_ ((k+1:Nat):Int)) Z (yA (by simp) (OpQ.move Z Z)) (zE (v:=sTake va (k+1)) Z (uW (i:=((k+1:Nat):Int)) Z zX zJ Z Z (by omega) (by rw [ints_length];omega) (fun w1 hw1=>Row.own hva hw1)) (zE Z (qF (cs:=#[i6_ b.n,str b.set,str b.rel]) 0 Z zZ Z Z zQ) (zC 1 Z (zE (v:=i6_ ((k+1:Nat):Int)) Z (yA (by simp) (OpQ.move Z Z)) (zE (v:=sTake vb (k+1)) Z (uW (i:=((k+1:Nat):Int)) Z zX zJ Z Z (by omega) (by rw [ints_length];omega) (fun w1 hw1=>Row.own hvb hw1)) (zE (v:=bo_ (stillAt a xs b ys k)) Z (qK Z Tryz.call132 Z qC (fun w1 hw1=>known_b (stillAt_take (by omega)) (fits_ok a b (xs.take (k+1)) (ys.take (k+1)) (sTake va (k+1)) (sTake vb (k+1)) k w1 ha hb (Ints.take (Row.own hva hw1) (k+1) (by omega)) (Ints.take (Row.own hvb hw1) (k+1) (by omega)) (hA.take _) (hB.take _) (by simp;omega) (by simp;omega) (by omega)))) (zC 1 Z (zH (zD [1,3,4,6,9,25] [_,_,_,_,_,_] Z (yF (b:=!(stillAt a xs b ys k)) Z (fun h25=>?_) (fun h25=>?_)))))))))))))))))))
  ·
   replace h25:=not_true h25;refine zF (zB (zC 1 Z (zH (zD [8] [_] Z (qM (qQ Z Z fun w' hw=>?_))))))
   exact ⟨ret_b (sameB_false (k:=k) (by omega) (by simpa using h25)).symm,hw.below⟩
  replace h25:=not_false h25;refine qR (zD [1,3,4,6,9] [_,_,_,_,_] Z (zB (zC 1 Z (zE Z (qT Z Z Z (by omega) (by omega)) (zC 1 Z (zH (yL (k+1) ⟨by omega,fun i hi=>(Nat.lt_succ_iff_lt_or_eq.1 hi).elim (hall i) (fun e=>by subst e;simpa using h25)⟩ (by omega) (Sub.cons Z (Sub.cons Z (Sub.cons Z (Sub.cons Z (Sub.cons (by simp [List.lookup]) Sub.nil))))) (fun _ h=>h))))))))
 refine yY Z (zD [] [] Z (zF (zB (zC 1 Z (zH (zD [8] [_] Z (qM (qQ Z Z fun w' hw=>?_))))))))
 exact ⟨ret_b (sameB_true (k:=k) (by omega) hall).symm,hw.below⟩
end Go.Proofs.YtefiibghfgfdnaaGreatDoor
namespace Go.Proofs.YtefiibghfgfdnaaGreatDoor
open Go.RowKit Go.Wk
set_option linter.unusedSimpArgs false
set_option maxHeartbeats 400000 in
theorem l3Atom_ok (b:Bool) (s:List UInt8) (w:World) (hs:s.length≤1048576) :
    Calls Tryz.prog 159 [bo_ b,str s].toArray w fun en w'=>en=.returned (str (signS b s))∧Below w.heap.size w w':=by
 refine fnStart (n:=9) (e:=[(0,bo_ b),(1,str s)]) Tryz.func159 Z Z Z Z Ends.both (zF (zB (zE (v:=str ([])) Z (jC Z Z) (zH (zD [0,1] [_,_] Z (zF (zF (zB (zC 1 Z (zH (zD [1,5] [_,_] Z (yF (b:=b) Z (fun h5=>?_) (fun h5=>?_)))))))))))))
 ·
  refine zF (zB (zC 2 Z (zH (zD [4] [_] Z (qM (qQ Z Z fun w' hw=>?_))))))
  exact ⟨by rw [‹b=_›];rfl,hw.below⟩
 refine qR (zD [1] [_] Z (zF (zB (zC 1 Z (zE Z (yJ Z Z Z (by first | omega | (simp only [zN,qB,qD];omega))) (zC 1 Z (zH (zD [4] [_] Z (qM (qQ Z Z fun w' hw=>?_))))))))))
 exact ⟨by rw [‹b=_›];rfl,hw.below⟩
set_option maxHeartbeats 400000 in
theorem l3Facts_ok (a:St) (va:Value) (xs:List Int) (m:Nat) (fs:List (List UInt8)) (w:World) (ha:a.Fine) (hva:Ints w va xs) (hA:a.Els xs) (hm:xs.length=m+1) (hm4:m<4) (hfs:(factL a xs m).map signed=fs) :
    Calls Tryz.prog 133 [vS a,va].toArray w fun en w'=>∃ v,en=.returned v∧Below w.heap.size w w'∧NewRow w.heap.size 9 1 w' v fs.length (strs fs):=by
 refine fnStart (n:=99) (e:=[(0,vS a),(1,va)]) Tryz.func133 Z Z Z Z Ends.both ?_
 have hnm:=nameS_length hm4;refine zF (qI (xK (v:=vS a) Z Z Z Z Z fun p2 hp2=>?_))
 show Ll _ _ (Own _ _ [_]) _ _ ((2,pt_ p2)::_) _ _ _;refine qL 1 Z (zI (zD [1,2] [_,_] Z (zF (zB (zC 1 Z (zE (v:=i6_ ((m+1):Int)) Z (yP Z zX Z ((ints_length _).trans hm) (fun w1 hw1=>Row.own hva hw1)) (zE (v:=i6_ (m:Int)) Z (yA (by simp) (jV Z Z Z (by omega) (by omega))) (zC 1 Z (zH (zD [1,2,5] [_,_,_] Z (zF (zB (zC 2 Z (zE Z (qT Z Z Z (by omega) (by omega)) (zE (v:=str (nameS m)) Z (yA (congrArg str (slice_name m)) (xO Z qS Z Z Z (by omega) (by omega) (by first | omega | (simp;omega)))) (zC 1 Z (zH (zD [1,2,5,6] [_,_,_,_] Z (zF (Wk.regionO [(0,true),(1,true),(2,true),(3,true),(4,true),(6,true),(7,true),(9,true),(10,true),(11,true),(12,true),(13,true),(14,true),(15,true),(16,true),(17,true),(19,true),(20,true),(21,true),(22,true),(5,false),(8,false),(18,false),(23,false),(24,false),(25,true)] yC (fun _ h=>h.drawn) (by kernel_rfl) (yE Z Z Z Z Z (qF (cs:=#[i6_ a.n,str a.set,str a.rel]) 0 Z zZ Z Z zQ) (fun _ h=>h) (yR 2 Z (fun _ h=>h) (yE (v:=.pointer (some (sAt va (m:Int)))) Z Z Z Z Z (yO Z zX zJ Z Z (by omega) (by rw [ints_length];omega) (fun w1 hw1=>Row.own hva hw1)) (fun _ h=>h) (yE (v:=i6_ (xs.getD ((m:Int).toNat) 0)) Z Z Z Z Z (qN Z zU Z (fun w1 hw1=>Ints.cell (Row.own hva hw1) (by omega) (by omega))) (fun _ h=>h) (yR 1 Z (fun _ h=>h) (yE Z Z Z Z Z (yJ Z Z Z (by first | omega | (simp only [zN,qB,qD];omega))) (fun _ h=>h) (yE Z Z Z Z Z (qF (cs:=#[i6_ a.n,str a.set,str a.rel]) 0 Z zZ Z Z zQ) (fun _ h=>h) (yR 2 Z (fun _ h=>h) (yE (v:=.pointer (some (sAt va (m:Int)))) Z Z Z Z Z (yO Z zX zJ Z Z (by omega) (by rw [ints_length];omega) (fun w1 hw1=>Row.own hva hw1)) (fun _ h=>h) (yE (v:=i6_ (xs.getD ((m:Int).toNat) 0)) Z Z Z Z Z (qN Z zU Z (fun w1 hw1=>Ints.cell (Row.own hva hw1) (by omega) (by omega))) (fun _ h=>h) (yR 2 Z (fun _ h=>h) (yE (v:=.pointer (some (sAt va (m:Int)))) Z Z Z Z Z (yO Z zX zJ Z Z (by omega) (by rw [ints_length];omega) (fun w1 hw1=>Row.own hva hw1)) (fun _ h=>h) (yE (v:=i6_ (xs.getD ((m:Int).toNat) 0)) Z Z Z Z Z (qN Z zU Z (fun w1 hw1=>Ints.cell (Row.own hva hw1) (by omega) (by omega))) (fun _ h=>h) (yR 1 Z (fun _ h=>h) (yE Z Z Z Z Z (yJ Z Z Z (by first | omega | (simp only [zN,qB,qD];omega))) (fun _ h=>h) (yR 1 Z (fun _ h=>h) (yE Z Z Z Z Z (yJ Z Z Z (by first | omega | (simp only [zN,qB,qD];omega))) (fun _ h=>h) (yK Z (zO (v:=bo_ (a.inSet (xs.getD ((m:Int).toNat) 0))) Z (qK Z Tryz.call153 Z qC (fun w1 hw1=>l1Set_ok a (xs.getD ((m:Int).toNat) 0) w1 ha (by first | assumption | exact St.Els.at (by assumption) (by omega) (by omega)))) (zI (yB (fun _ h=>h) ?_)))))))))))))))))))))))))))))))))))))))))
 refine yK Z (zO (v:=str (signS (a.inSet (xs.getD ((m:Int).toNat) 0)) (([80])++(nameS m)))) Z (qK Z Tryz.call159 Z qC (fun w1 hw1=>l3Atom_ok (a.inSet (xs.getD ((m:Int).toNat) 0)) (([80])++(nameS m)) w1 (by simp [nameS_length, *]))) (zI (yB (fun _ h=>h) ?_)));refine yK Z (zO (v:=bo_ (a.inRel (xs.getD ((m:Int).toNat) 0) (xs.getD ((m:Int).toNat) 0))) Z (qK Z vE Z qC (fun w1 hw1=>l1Rel_ok a (xs.getD ((m:Int).toNat) 0) (xs.getD ((m:Int).toNat) 0) w1 ha (by first | assumption | exact St.Els.at (by assumption) (by omega) (by omega)) (by first | assumption | exact St.Els.at (by assumption) (by omega) (by omega)))) (zI (yB (fun _ h=>h) ?_)));refine yK Z (zO (v:=str (signS (a.inRel (xs.getD ((m:Int).toNat) 0) (xs.getD ((m:Int).toNat) 0)) ((([69])++(nameS m))++(nameS m)))) Z (qK Z Tryz.call159 Z qC (fun w1 hw1=>l3Atom_ok (a.inRel (xs.getD ((m:Int).toNat) 0) (xs.getD ((m:Int).toNat) 0)) ((([69])++(nameS m))++(nameS m)) w1 (by simp [nameS_length, *]))) (zI (yB (fun _ h=>h) ?_)));refine yK Z (yN (xs:=[.tmp 25,.tmp 40]) (vs:=[str (signS (a.inSet (xs.getD ((m:Int).toNat) 0)) (([80])++(nameS m))),str (signS (a.inRel (xs.getD ((m:Int).toNat) 0) (xs.getD ((m:Int).toNat) 0)) ((([69])++(nameS m))++(nameS m)))]) jR Z Z Z Z Z Z (by decide) Z fun p41 hp41=>(zI (yB (fun _ h=>h.tail) ?_)));refine yR 1 Z (fun _ h=>h.tail) (vG (zD [1,2,5,6,7] [_,_,_,_,_] Z (zF (zF (zB (zC 1 Z (zH (zD [1,2,5,6,7,8] [_,_,_,_,_,_] Z (qW (xM (σ:=Nat×Nat×Nat×Array Value) (fun ⟨k,g,c,cur⟩=>(k≤m)∧w.heap.size≤g∧cur.size=c*1∧((headL a xs m++moreL a xs m k).map signed).length≤c∧cur.toList.take (((headL a xs m++moreL a xs m k).map signed).length*1)=strs ((headL a xs m++moreL a xs m k).map signed)) (fun ⟨k,g,c,cur⟩=>[(1,va),(2,pt_ p2),(5,i6_ (m:Int)),(6,str (nameS m)),(7,sl_ g (((headL a xs m++moreL a xs m k).map signed).length) c),(8,i6_ (k:Int))]) (fun ⟨k,g,c,cur⟩=>Own w.heap.size w [bk_ g cur 9,bk_ p2 #[i6_ a.n,str a.set,str a.rel] 24]) (fun ⟨k,g,c,cur⟩=>m - k) ((0,p41,2,#[str (signS (a.inSet (xs.getD (m:Int).toNat 0)) ([80]++nameS m)),str (signS (a.inRel (xs.getD (m:Int).toNat 0) (xs.getD (m:Int).toNat 0)) (([69]++nameS m)++nameS m))])) ⟨by omega,hp41,rfl,Nat.le_refl 2,rfl⟩ (Sub.sel [1,2,5,6,7,8] Z) (fun _ h=>h) ?_))))))))))
 rintro ⟨k,g,c,cur⟩ ⟨hk,hg,hc,hl,ht⟩
 dsimp only;refine zF (zF (zB (zC 3 Z (zH (zD [1,2,5,6,7,8,44] [_,_,_,_,_,_,_] Z (yF (b:=decide ((k:Int)<(m:Int))) Z (fun h44=>?_) (fun h44=>?_)))))))
 ·
  replace h44:=zV h44
  have hnk:(nameS k).length=1:=nameS_length (by omega);refine qR (zD [1,2,5,6,7,8] [_,_,_,_,_,_] Z (zF (qW (zF (zB (zC 2 Z ?_))))));refine zE Z (qT Z Z Z (by omega) (by omega)) (zE (v:=str (nameS k)) Z (yA (congrArg str (slice_name k)) (xO Z qS Z Z Z (by omega) (by omega) (by first | omega | (simp;omega)))) (zC 1 Z (zH (zD [1,2,5,6,7,8,9] [_,_,_,_,_,_,_] Z (xV (S:=Own w.heap.size w [bk_ p2 #[i6_ a.n,str a.set,str a.rel] 24]) [(0,true),(1,true),(2,true),(3,true),(4,true),(5,true),(6,true),(7,true),(8,true),(9,true),(10,true),(11,true),(12,true),(13,true),(15,true),(16,true),(17,true),(18,true),(19,true),(20,true),(21,true),(22,true),(23,true),(25,true),(26,true),(27,true),(28,true),(30,true),(31,true),(32,true),(33,true),(34,true),(35,true),(36,true),(37,true),(38,true),(40,true),(41,true),(42,true),(43,true),(14,false),(24,false),(29,false),(39,false),(44,false),(45,false),(46,false),(47,true)] yC (fun _ h=>h.drawn) (by kernel_rfl) (yR 3 Z (fun _ h=>h.tail) (yE (v:=.pointer (some (sAt va (k:Int)))) Z Z Z Z Z (yO Z zX zJ Z Z (by omega) (by rw [ints_length];omega) (fun w1 hw1=>Row.own hva hw1)) (fun _ h=>h.tail) (yE (v:=i6_ (xs.getD ((k:Int).toNat) 0)) Z Z Z Z Z (qN Z zU Z (fun w1 hw1=>Ints.cell (Row.own hva hw1) (by omega) (by omega))) (fun _ h=>h.tail) (yR 2 Z (fun _ h=>h.tail) (yE (v:=.pointer (some (sAt va (m:Int)))) Z Z Z Z Z (yO Z zX zJ Z Z (by omega) (by rw [ints_length];omega) (fun w1 hw1=>Row.own hva hw1)) (fun _ h=>h.tail) (yE (v:=i6_ (xs.getD ((m:Int).toNat) 0)) Z Z Z Z Z (qN Z zU Z (fun w1 hw1=>Ints.cell (Row.own hva hw1) (by omega) (by omega))) (fun _ h=>h.tail) (yR 2 Z (fun _ h=>h.tail) (yE Z Z Z Z Z (yJ Z Z Z (by first | omega | (simp only [zN,qB,qD];omega))) (fun _ h=>h.tail) (yR 1 Z (fun _ h=>h.tail) (yE Z Z Z Z Z (yJ Z Z Z (by first | omega | (simp only [zN,qB,qD];omega))) (fun _ h=>h.tail) (yE Z Z Z Z Z (qF (cs:=#[i6_ a.n,str a.set,str a.rel]) 0 Z zZ Z Z zQ) (fun _ h=>h.tail) (yR 2 Z (fun _ h=>h.tail) (yE (v:=.pointer (some (sAt va (k:Int)))) Z Z Z Z Z (yO Z zX zJ Z Z (by omega) (by rw [ints_length];omega) (fun w1 hw1=>Row.own hva hw1)) (fun _ h=>h.tail) (yE (v:=i6_ (xs.getD ((k:Int).toNat) 0)) Z Z Z Z Z (qN Z zU Z (fun w1 hw1=>Ints.cell (Row.own hva hw1) (by omega) (by omega))) (fun _ h=>h.tail) (yR 2 Z (fun _ h=>h.tail) (yE (v:=.pointer (some (sAt va (m:Int)))) Z Z Z Z Z (yO Z zX zJ Z Z (by omega) (by rw [ints_length];omega) (fun w1 hw1=>Row.own hva hw1)) (fun _ h=>h.tail) (yE (v:=i6_ (xs.getD ((m:Int).toNat) 0)) Z Z Z Z Z (qN Z zU Z (fun w1 hw1=>Ints.cell (Row.own hva hw1) (by omega) (by omega))) (fun _ h=>h.tail) (yR 1 Z (fun _ h=>h.tail) (yE Z Z Z Z Z (yJ Z Z Z (by first | omega | (simp only [zN,qB,qD];omega))) (fun _ h=>h.tail) (yR 1 Z (fun _ h=>h.tail) (yE Z Z Z Z Z (yJ Z Z Z (by first | omega | (simp only [zN,qB,qD];omega))) (fun _ h=>h.tail) (yE Z Z Z Z Z (qF (cs:=#[i6_ a.n,str a.set,str a.rel]) 0 Z zZ Z Z zQ) (fun _ h=>h.tail) (yR 2 Z (fun _ h=>h.tail) (yE (v:=.pointer (some (sAt va (m:Int)))) Z Z Z Z Z (yO Z zX zJ Z Z (by omega) (by rw [ints_length];omega) (fun w1 hw1=>Row.own hva hw1)) (fun _ h=>h.tail) (yE (v:=i6_ (xs.getD ((m:Int).toNat) 0)) Z Z Z Z Z (qN Z zU Z (fun w1 hw1=>Ints.cell (Row.own hva hw1) (by omega) (by omega))) (fun _ h=>h.tail) (yR 2 Z (fun _ h=>h.tail) (yE (v:=.pointer (some (sAt va (k:Int)))) Z Z Z Z Z (yO Z zX zJ Z Z (by omega) (by rw [ints_length];omega) (fun w1 hw1=>Row.own hva hw1)) (fun _ h=>h.tail) (yE (v:=i6_ (xs.getD ((k:Int).toNat) 0)) Z Z Z Z Z (qN Z zU Z (fun w1 hw1=>Ints.cell (Row.own hva hw1) (by omega) (by omega))) (fun _ h=>h.tail) (yR 1 Z (fun _ h=>h.tail) (yE Z Z Z Z Z (yJ Z Z Z (by first | omega | (simp only [zN,qB,qD];omega))) (fun _ h=>h.tail) (yR 1 Z (fun _ h=>h.tail) (yE Z Z Z Z Z (yJ Z Z Z (by first | omega | (simp only [zN,qB,qD];omega))) (fun _ h=>h.tail) (yK Z (zO (v:=str (signS (decide ((xs.getD ((k:Int).toNat) 0)=(xs.getD ((m:Int).toNat) 0))) ((([61])++(nameS k))++(nameS m)))) Z (qK Z Tryz.call159 Z qC (fun w1 hw1=>l3Atom_ok (decide ((xs.getD ((k:Int).toNat) 0)=(xs.getD ((m:Int).toNat) 0))) ((([61])++(nameS k))++(nameS m)) w1 (by simp [nameS_length, *]))) (zI (yB (fun _ h=>h.tail) ?_)))))))))))))))))))))))))))))))))))))))))
  refine yK Z (zO (v:=bo_ (a.inRel (xs.getD ((k:Int).toNat) 0) (xs.getD ((m:Int).toNat) 0))) Z (qK Z vE Z qC (fun w1 hw1=>l1Rel_ok a (xs.getD ((k:Int).toNat) 0) (xs.getD ((m:Int).toNat) 0) w1 ha (by first | assumption | exact St.Els.at (by assumption) (by omega) (by omega)) (by first | assumption | exact St.Els.at (by assumption) (by omega) (by omega)))) (zI (yB (fun _ h=>h.tail) ?_)));refine yK Z (zO (v:=str (signS (a.inRel (xs.getD ((k:Int).toNat) 0) (xs.getD ((m:Int).toNat) 0)) ((([69])++(nameS k))++(nameS m)))) Z (qK Z Tryz.call159 Z qC (fun w1 hw1=>l3Atom_ok (a.inRel (xs.getD ((k:Int).toNat) 0) (xs.getD ((m:Int).toNat) 0)) ((([69])++(nameS k))++(nameS m)) w1 (by simp [nameS_length, *]))) (zI (yB (fun _ h=>h.tail) ?_)));refine yK Z (zO (v:=bo_ (a.inRel (xs.getD ((m:Int).toNat) 0) (xs.getD ((k:Int).toNat) 0))) Z (qK Z vE Z qC (fun w1 hw1=>l1Rel_ok a (xs.getD ((m:Int).toNat) 0) (xs.getD ((k:Int).toNat) 0) w1 ha (by first | assumption | exact St.Els.at (by assumption) (by omega) (by omega)) (by first | assumption | exact St.Els.at (by assumption) (by omega) (by omega)))) (zI (yB (fun _ h=>h.tail) ?_)));refine yK Z (zO (v:=str (signS (a.inRel (xs.getD ((m:Int).toNat) 0) (xs.getD ((k:Int).toNat) 0)) ((([69])++(nameS m))++(nameS k)))) Z (qK Z Tryz.call159 Z qC (fun w1 hw1=>l3Atom_ok (a.inRel (xs.getD ((m:Int).toNat) 0) (xs.getD ((k:Int).toNat) 0)) ((([69])++(nameS m))++(nameS k)) w1 (by simp [nameS_length, *]))) (zI (yB (fun _ h=>h.tail) ?_)));refine yK Z (yN (xs:=[.tmp 65,.tmp 80,.tmp 95]) (vs:=[str (signS (decide ((xs.getD ((k:Int).toNat) 0)=(xs.getD ((m:Int).toNat) 0))) ((([61])++(nameS k))++(nameS m))),str (signS (a.inRel (xs.getD ((k:Int).toNat) 0) (xs.getD ((m:Int).toNat) 0)) ((([69])++(nameS k))++(nameS m))),str (signS (a.inRel (xs.getD ((m:Int).toNat) 0) (xs.getD ((k:Int).toNat) 0)) ((([69])++(nameS m))++(nameS k)))]) jR Z Z Z Z Z Z (by decide) Z fun p96 hp96=>(zI (yB (fun _ h=>h.tail.tail) ?_)));refine yK Z (Ll.appendStrs (xs:=(headL a xs m++moreL a xs m k).map signed) (ys:=([signS (decide ((xs.getD ((k:Int).toNat) 0)=(xs.getD ((m:Int).toNat) 0))) ((([61])++(nameS k))++(nameS m)),signS (a.inRel (xs.getD ((k:Int).toNat) 0) (xs.getD ((m:Int).toNat) 0)) ((([69])++(nameS k))++(nameS m)),signS (a.inRel (xs.getD ((m:Int).toNat) 0) (xs.getD ((k:Int).toNat) 0)) ((([69])++(nameS m))++(nameS k))]:List (List UInt8))) jR 1 Z Z Z Z Z Z Z hc hl (by simpa using ht) (fun w1 hw1=>(yX hw1 (i:=0) Z (n:=3) (cap:=3) (vs:=strs ([signS (decide ((xs.getD ((k:Int).toNat) 0)=(xs.getD ((m:Int).toNat) 0))) ((([61])++(nameS k))++(nameS m)),signS (a.inRel (xs.getD ((k:Int).toNat) 0) (xs.getD ((m:Int).toNat) 0)) ((([69])++(nameS k))++(nameS m)),signS (a.inRel (xs.getD ((m:Int).toNat) 0) (xs.getD ((k:Int).toNat) 0)) ((([69])++(nameS m))++(nameS k))]:List (List UInt8))) Z Z (by decide))) ((((headL a xs m++moreL a xs m k).map signed)++(([signS (decide ((xs.getD ((k:Int).toNat) 0)=(xs.getD ((m:Int).toNat) 0))) ((([61])++(nameS k))++(nameS m)),signS (a.inRel (xs.getD ((k:Int).toNat) 0) (xs.getD ((m:Int).toNat) 0)) ((([69])++(nameS k))++(nameS m)),signS (a.inRel (xs.getD ((m:Int).toNat) 0) (xs.getD ((k:Int).toNat) 0)) ((([69])++(nameS m))++(nameS k))]:List (List UInt8)))).length) (by first | (simp;done) | (simp;omega)) (by first | (simp;done) | (simp;omega) | omega) fun p97 cap97 cur97 hp97 hcp97 hlp97 htp97=>?_)
  show Ll _ _ (Own _ _ [_,_,_]) _ _ ((97,sl_ p97 (((((headL a xs m++moreL a xs m k).map signed)++(([signS (decide ((xs.getD ((k:Int).toNat) 0)=(xs.getD ((m:Int).toNat) 0))) ((([61])++(nameS k))++(nameS m)),signS (a.inRel (xs.getD ((k:Int).toNat) 0) (xs.getD ((m:Int).toNat) 0)) ((([69])++(nameS k))++(nameS m)),signS (a.inRel (xs.getD ((m:Int).toNat) 0) (xs.getD ((k:Int).toNat) 0)) ((([69])++(nameS m))++(nameS k))]:List (List UInt8)))).length)) cap97)::_) _ _ _;refine zI (yB (fun _ h=>h.tail.tail) ?_);refine yR 1 Z (fun _ h=>h.tail.tail) (vG (zD [1,2,5,6,7,8] [_,_,_,_,_,_] Z (zB (zC 1 Z (zE Z (qT Z Z Z (by omega) (by omega)) (zC 1 Z (zH (yL (k+1,p97,cap97,cur97) ⟨(by omega),(by omega),hcp97,(by rw [more_step];exact hlp97),(by rw [more_step];exact htp97)⟩ (by omega) (Sub.cons Z (Sub.cons Z (Sub.cons Z (Sub.cons Z (Sub.cons (by rw [more_step];rfl) (Sub.sel [8] Z)))))) (fun _ h=>h.tail)))))))))
 replace h44:=zT h44;refine yY Z (zD [7] [_] Z (zF (zB (zC 2 Z (zH (zD [4] [_] Z (qM (qQ Z Z fun w' hw=>?_))))))))
 obtain rfl:k=m:=by omega
 subst hfs
 exact ⟨_,rfl,hw.below,hw.newRow (i:=0) (n:=_) rfl hc hl ht⟩
set_option maxHeartbeats 400000 in
theorem l4Seen_ok (va:Value) (l:List (List UInt8)) (s:List UInt8) (w:World) (hva:Strs w va l) (hs:l.length≤100000) :
    Calls Tryz.prog 136 [va,str s].toArray w fun en w'=>en=.returned (.int .i64 (seenI l s))∧Below w.heap.size w w':=by
 refine fnStart (n:=19) (e:=[(0,va),(1,str s)]) Tryz.func136 Z Z Z Z Ends.both (zF (zB (zC 1 Z (zH (zD [0,1] [_,_] Z (zF (zF (zB (zC 1 Z (zH (zD [0,1,5] [_,_,_] Z (qW (xM (σ:=Nat) (fun k=>k≤l.length∧∀ i:Nat,i<k→(l.getD i []==s)=false) (fun k=>[(0,va),(1,str s),(5,i6_ (k:Int))]) (fun k=>Own w.heap.size w []) (fun k=>l.length - k) (0) ⟨by omega,fun i hi=>absurd hi (by omega)⟩ (Sub.sel [0,1,5] Z) (fun _ h=>h) ?_)))))))))))))
 rintro k ⟨hk,hall⟩;refine zF (zF (zB (zC 2 Z (zE (v:=i6_ (l.length:Int)) Z (yP Z xQ Z (strs_length _) (fun w1 hw1=>Row.own hva hw1)) (zC 1 Z (zH (zD [0,1,5,9] [_,_,_,_] Z (yQ Z (fun h9=>?_) (fun h9=>?_)))))))))
 ·
  refine qR (zD [0,1,5] [_,_,_] Z (zF (qW (zF (zB (zC 2 Z (zE (v:=.pointer (some (sAt va (k:Int)))) Z (yO Z xQ qO Z Z (by omega) (by rw [strs_length];omega) (fun w1 hw1=>Row.own hva hw1)) (zE (v:=str (l.getD ((k:Int).toNat) [])) Z (qN Z yH Z (fun w1 hw1=>Strs.cell (Row.own hva hw1) (by omega) (by omega))) (zC 1 Z (zE Z (OpQ.seql Z Z Z) (zH (zD [0,1,5,17] [_,_,_,_] Z (yF (b:=(l.getD ((k:Int).toNat) [])==s) Z (fun h17=>?_) (fun h17=>?_))))))))))))))
  ·
   refine zF (zB (zC 2 Z (zH (zD [4] [_] Z (qM (qQ Z Z fun w' hw=>?_))))))
   exact ⟨ret_i (seenI_at (k:=k) (by omega) hall (by simpa using h17)).symm,hw.below⟩
  refine qR (zD [0,1,5] [_,_,_] Z (zB (zC 1 Z (zE Z (qT Z Z Z (by omega) (by omega)) (zC 1 Z (zH (yL (k+1) ⟨by omega,fun i hi=>(Nat.lt_succ_iff_lt_or_eq.1 hi).elim (hall i) (fun e=>by subst e;simpa using h17)⟩ (by omega) (Sub.sel [0,1,5] Z) (fun _ h=>h))))))))
 refine yY Z (zD [] [] Z (zF (zB (zC 1 Z (zH (zD [4] [_] Z (qM (qQ Z Z fun w' hw=>?_))))))))
 exact ⟨ret_i (seenI_no (fun i hi=>hall i (by omega))).symm,hw.below⟩
end Go.Proofs.YtefiibghfgfdnaaGreatDoor
namespace Go.Proofs.YtefiibghfgfdnaaGreatDoor
open Go.RowKit Go.Wk
set_option linter.unusedSimpArgs false
set_option maxHeartbeats 400000 in
theorem l15Find_ok (s:List UInt8) (c:Int) (w:World) (hs:s.length≤1048576) :
    Calls Tryz.prog 135 [str s,.int .u8 c].toArray w fun en w'=>en=.returned (.int .i64 (findS s c))∧Below w.heap.size w w':=by
 refine fnStart (n:=18) (e:=[(0,str s),(1,.int .u8 c)]) Tryz.func135 Z Z Z Z Ends.both (zF (zB (zC 1 Z (zH (zD [0,1] [_,_] Z (zF (zF (zB (zC 1 Z (zH (zD [0,1,5] [_,_,_] Z (qW (xM (σ:=Nat) (fun k=>k≤s.length∧∀ i:Nat,i<k→¬ ((s.getD i 0).toNat:Int)=c) (fun k=>[(0,str s),(1,.int .u8 c),(5,i6_ (k:Int))]) (fun k=>Own w.heap.size w []) (fun k=>s.length - k) (0) ⟨by omega,fun i hi=>absurd hi (by omega)⟩ (Sub.sel [0,1,5] Z) (fun _ h=>h) ?_)))))))))))))
 rintro k ⟨hk,hall⟩;refine zF (zF (zB (zC 2 Z (zE (v:=i6_ (s.length:Int)) Z (jS Z qV Z) (zC 1 Z (zH (zD [0,1,5,9] [_,_,_,_] Z (yQ Z (fun h9=>?_) (fun h9=>?_)))))))))
 ·
  refine qR (zD [0,1,5] [_,_,_] Z (zF (qW (zF (zB (zC 2 Z (zE (v:=.int .u8 (((s.getD ((k:Int).toNat) 0).toNat:Int))) Z (xE Z qV Z Z (by omega) (by omega)) (zC 2 Z (zH (zD [0,1,5,16] [_,_,_,_] Z (yQ Z (fun h16=>?_) (fun h16=>?_))))))))))))
  ·
   refine zF (zB (zC 2 Z (zH (zD [4] [_] Z (qM (qQ Z Z fun w' hw=>?_))))))
   exact ⟨ret_i (findS_at (by omega) hall h16).symm,hw.below⟩
  refine qR (zD [0,1,5] [_,_,_] Z (zB (zC 1 Z (zE Z (qT Z Z Z (by omega) (by omega)) (zC 1 Z (zH (yL (k+1) ⟨by omega,fun i hi=>(Nat.lt_succ_iff_lt_or_eq.1 hi).elim (hall i) (fun e=>by subst e;exact h16)⟩ (by omega) (Sub.sel [0,1,5] Z) (fun _ h=>h))))))))
 refine yY Z (zD [] [] Z (zF (zB (zC 1 Z (zH (zD [4] [_] Z (qM (qQ Z Z fun w' hw=>?_))))))))
 exact ⟨ret_i (findS_none (fun i hi=>hall i (by omega))).symm,hw.below⟩
set_option maxHeartbeats 400000 in
theorem l2JoinM_ok (op:List UInt8) (l:List (List UInt8)) (vl:Value) (M:Nat) (w:World) (hvl:Strs w vl l) (hl:∀ s∈l,s.length≤M) (hM:M≤100000) (hop:op.length=1) (hn:l.length≤1000) (h0:l.length ≠ 0) :
    Calls Tryz.prog 87 [str op,vl].toArray w fun en w'=>en=.returned (str (joinN op l))∧Below w.heap.size w w':=by
 refine fnStart (n:=39) (e:=[(0,str op),(1,vl)]) Tryz.func87 Z Z Z Z Ends.both (zF (zB (zE (v:=str ([])) Z (jC Z Z) (zH (zD [0,1] [_,_] Z (zF (zF (zB (zC 1 Z (zE (v:=i6_ (l.length:Int)) Z (yP Z xQ Z (strs_length _) (fun w1 hw1=>Row.own hvl hw1)) (zC 1 Z (zH (zD [0,1,9] [_,_,_] Z (yF (b:=decide ((l.length:Int)=(0:Int))) Z (fun h9=>?_) (fun h9=>?_)))))))))))))))
 ·
  replace h9:=zV h9
  omega
 replace h9:=zT h9;refine qR (zD [0,1] [_,_] Z (zF (zB (zE (v:=str ([])) Z (jC Z Z) (zH (zD [0,1,5] [_,_,_] Z (zF (zF (zB (zC 1 Z (zH (zD [0,1,5,6] [_,_,_,_] Z (qW (xM (σ:=Nat) (fun k=>k≤l.length) (fun k=>[(0,str op),(1,vl),(5,str (specJ op l k)),(6,i6_ (k:Int))]) (fun k=>Own w.heap.size w []) (fun k=>l.length - k) (0) (by omega) (Sub.cons Z (Sub.cons Z (Sub.cons (by rw [specJ_zero (by omega)];rfl) (Sub.sel [6] Z)))) (fun _ h=>h) ?_))))))))))))))
 rintro k hk;refine zF (zF (zB (zC 2 Z (zE (v:=i6_ (l.length:Int)) Z (yP Z xQ Z (strs_length _) (fun w1 hw1=>Row.own hvl hw1)) (zC 1 Z (zH (zD [0,1,5,6,21] [_,_,_,_,_] Z (yF (b:=decide ((k:Int)<(l.length:Int))) Z (fun h21=>?_) (fun h21=>?_)))))))))
 ·
  replace h21:=zV h21
  have hg8:=getM_len hl k
  have hp:=specJ_lenM (op:=op) (by omega) hl k
  have hm1:=mulM (M:=M) (k:=k) (n:=1000) hM (by omega) (by omega)
  have hm2:=mulM (M:=M) (k:=l.length) (n:=1000) hM hn (by omega);refine qR (zD [0,1,5,6] [_,_,_,_] Z (zF (qW (zF (zF (zB (zC 1 Z (zE Z (qT Z Z Z (by omega) (by omega)) (zC 1 Z (zE (v:=i6_ (l.length:Int)) Z (yP Z xQ Z (strs_length _) (fun w1 hw1=>Row.own hvl hw1)) (zC 1 Z (zH (zD [0,1,5,6,28] [_,_,_,_,_] Z (yQ Z (fun h28=>?_) (fun h28=>?_)))))))))))))))
  ·
   refine zB (zC 2 Z (zE Z (yJ Z Z Z (by first | omega | (simp only [zN,Int.toNat_natCast] at *;omega))) (zC 1 Z (zH (zD [0,1,5,6] [_,_,_,_] Z (zB (zC 3 Z (zE (v:=.pointer (some (sAt vl (k:Int)))) Z (yO Z xQ qO Z Z (by omega) (by rw [strs_length];omega) (fun w1 hw1=>Row.own hvl hw1)) (zE (v:=str (l.getD ((k:Int).toNat) [])) Z (qN Z yH Z (fun w1 hw1=>Strs.cell (Row.own hvl hw1) (by omega) (by omega))) (zE Z (yJ Z Z Z (by first | omega | (simp only [zN,Int.toNat_natCast] at *;omega))) (zC 1 Z (zH (zD [0,1,5,6] [_,_,_,_] Z (zB (zC 1 Z (zE Z (qT Z Z Z (by omega) (by omega)) (zC 1 Z (zH (yL (k+1) (by omega) (by omega) (Sub.cons Z (Sub.cons Z (Sub.cons (by first | (rw [specJ_more (by omega)];rfl) | (rw [specJ_last (by omega) (by omega)];rfl)) (Sub.sel [6] Z)))) (fun _ h=>h))))))))))))))))))))
  refine qR (zD [0,1,5,6] [_,_,_,_] Z (zB (zC 3 Z (zE (v:=.pointer (some (sAt vl (k:Int)))) Z (yO Z xQ qO Z Z (by omega) (by rw [strs_length];omega) (fun w1 hw1=>Row.own hvl hw1)) (zE (v:=str (l.getD ((k:Int).toNat) [])) Z (qN Z yH Z (fun w1 hw1=>Strs.cell (Row.own hvl hw1) (by omega) (by omega))) (zE Z (yJ Z Z Z (by first | omega | (simp only [zN,Int.toNat_natCast] at *;omega))) (zC 1 Z (zH (zD [0,1,5,6] [_,_,_,_] Z (zB (zC 1 Z (zE Z (qT Z Z Z (by omega) (by omega)) (zC 1 Z (zH (yL (k+1) (by omega) (by omega) (Sub.cons Z (Sub.cons Z (Sub.cons (by first | (rw [specJ_more (by omega)];rfl) | (rw [specJ_last (by omega) (by omega)];rfl)) (Sub.sel [6] Z)))) (fun _ h=>h))))))))))))))))
 replace h21:=zT h21;refine yY Z (zD [5] [_] Z (zF (zB (zC 2 Z (zH (zD [4] [_] Z (qM (qQ Z Z fun w' hw=>?_))))))))
 exact ⟨ret_s (specJ_end' (by omega)),hw.below⟩
set_option maxHeartbeats 400000 in
theorem l6Each_ok (vl:Value) (l:List (List UInt8)) (w:World) (hvl:Strs w vl l) (hn:l.length≤1000) :
    Calls Tryz.prog 88 [vl].toArray w fun en w'=>∃ v,en=.returned v∧Below w.heap.size w w'∧NewRow w.heap.size 9 1 w' v (dedup l).length (strs (dedup l)):=by
 refine fnStart (n:=27) (e:=[(0,vl)]) Tryz.func88 Z Z Z Z Ends.both (zF (zB (zC 1 Z (zH (zD [0] [_] Z (zF (qI (yN (xs:=[]) (vs:=[]) jR Z Z Z Z Z Z (by decide) Z fun p5 hp5=>(qL 1 Z (zI (zD [0,3] [_,_] Z (zF (zF (zB (zC 1 Z (zH (zD [0,3,4] [_,_,_] Z (qW (xM (σ:=Nat×Nat×Nat×Array Value) (fun ⟨k,g,c,cur⟩=>k≤l.length∧cur.size=c*1∧(dedup (l.take k)).length≤c∧cur.toList.take (dedup (l.take k)).length=strs (dedup (l.take k))) (fun ⟨k,g,c,cur⟩=>[(0,vl),(3,sl_ g ((dedup (l.take k)).length) c),(4,i6_ (k:Int))]) (fun ⟨k,g,c,cur⟩=>Own w.heap.size w [bk_ g cur 9]) (fun ⟨k,g,c,cur⟩=>l.length - k) (0,p5,0,#[]) ⟨by omega,rfl,Nat.le_refl 0,rfl⟩ (Sub.sel [0,3,4] Z) (fun _ h=>h) ?_)))))))))))))))))))
 rintro ⟨k,g,c,cur⟩ ⟨hk,hc,hl,ht⟩
 dsimp only
 have hdl:=dedup_take l k;refine zF (zF (zB (zC 2 Z (zE (v:=i6_ (l.length:Int)) Z (yP Z xQ Z (strs_length _) (fun w1 hw1=>Row.own hvl hw1)) (zC 1 Z (zH (zD [0,3,4,9] [_,_,_,_] Z (yQ Z (fun h9=>?_) (fun h9=>?_)))))))))
 ·
  refine qR (zD [0,3,4] [_,_,_] Z (zF (qW (zF (zB (zC 3 Z (zE (v:=.pointer (some (sAt vl (k:Int)))) Z (yO Z xQ qO Z Z (by omega) (by rw [strs_length];omega) (fun w1 hw1=>Row.own hvl hw1)) (zE (v:=str (l.getD ((k:Int).toNat) [])) Z (qN Z yH Z (fun w1 hw1=>Strs.cell (Row.own hvl hw1) (by omega) (by omega))) (zE (v:=i6_ (seenI (dedup (l.take k)) (l.getD ((k:Int).toNat) []))) Z (qK Z Tryz.call136 Z qC (fun w1 hw1=>l4Seen_ok (sl_ g ((dedup (l.take k)).length) c) (dedup (l.take k)) (l.getD ((k:Int).toNat) []) w1 (yX hw1 (i:=0) Z (by simpa using ht) (by simp) hl) (by omega))) (zC 1 Z (zH (zD [0,3,4,18] [_,_,_,_] Z (yF (b:=decide ((seenI (dedup (l.take k)) (l.getD ((k:Int).toNat) []))<(0:Int))) Z (fun h18=>?_) (fun h18=>?_))))))))))))))
  ·
   replace h18:=zV h18
   have hE:=dedup_new (l:=l) (k:=k) (by omega) (seenI_neg.1 h18);refine qI (qL 3 Z (zO (v:=.pointer (some (sAt vl (k:Int)))) Z (yO Z xQ qO Z Z (by omega) (by rw [strs_length];omega) (fun w1 hw1=>Row.own hvl hw1)) (zO (v:=str (l.getD ((k:Int).toNat) [])) Z (qN Z yH Z (fun w1 hw1=>Strs.cell (Row.own hvl hw1) (by omega) (by omega))) (yN (xs:=[.tmp 23]) (vs:=[str (l.getD ((k:Int).toNat) [])]) jR Z Z Z Z Z Z (by decide) Z fun p24 hp24=>(Ll.appendStrs (xs:=dedup (l.take k)) (ys:=([l.getD ((k:Int).toNat) []]:List (List UInt8))) jR 1 Z Z Z Z Z Z Z hc hl (by simpa using ht) (fun w1 hw1=>(yX hw1 (i:=0) Z (n:=1) (cap:=1) (vs:=strs ([l.getD ((k:Int).toNat) []]:List (List UInt8))) Z Z (by decide))) (((dedup (l.take k))++(([l.getD ((k:Int).toNat) []]:List (List UInt8)))).length) (by first | (simp;done) | (simp;omega)) (by first | (simp;done) | (simp;omega) | omega) fun p25 cap25 cur25 hp25 hcp25 hlp25 htp25=>?_)))))
   show Ll _ _ (Own _ _ [_,_]) _ _ ((25,sl_ p25 ((((dedup (l.take k))++(([l.getD ((k:Int).toNat) []]:List (List UInt8)))).length)) cap25)::_) _ _ _;refine qL 1 Z (zI (zD [0,3,4] [_,_,_] Z (zB (zC 1 Z (zE Z (qT Z Z Z (by omega) (by omega)) (zC 1 Z (zH (yL (k+1,p25,cap25,cur25) ⟨by omega,by simpa using hcp25,by rw [hE];exact hlp25,by rw [hE];simpa using htp25⟩ (by omega) (Sub.cons Z (Sub.cons (by rw [hE];rfl) (Sub.sel [4] Z))) (fun _ h=>h.tail)))))))))
  replace h18:=zT h18
  have hE:=dedup_old (l:=l) (k:=k) (by omega) (Classical.byContradiction fun e=>h18 (seenI_neg.2 e));refine qR (zD [0,3,4] [_,_,_] Z (zB (zC 1 Z (zE Z (qT Z Z Z (by omega) (by omega)) (zC 1 Z (zH (yL (k+1,g,c,cur) ⟨by omega,hc,by rw [hE];exact hl,by rw [hE];exact ht⟩ (by omega) (Sub.cons Z (Sub.cons (by rw [hE];rfl) (Sub.sel [4] Z))) (fun _ h=>h))))))))
 refine yY Z (zD [3] [_] Z (zF (zB (zC 2 Z (zH (zD [2] [_] Z (qM (qQ Z Z fun w' hw=>?_))))))))
 have e:l.take k=l:=List.take_of_length_le (by omega)
 rw [e] at hl ht;refine ⟨_,rfl,hw.below,?_⟩
 rw [e]
 exact hw.newRow (i:=0) rfl hc hl (by simpa using ht)
end Go.Proofs.YtefiibghfgfdnaaGreatDoor
namespace Go.Proofs.YtefiibghfgfdnaaGreatDoor
open Go.RowKit Go.Wk
set_option linter.unusedSimpArgs false
set_option maxHeartbeats 400000 in
theorem l2Var_ok (f:List UInt8) (i:Int) (w:World) :
    Calls Tryz.prog 146 [str f,i6_ i].toArray w fun en w'=>en=.returned (.int .i64 (varI f i))∧Below w.heap.size w w':=by
 refine fnStart (n:=17) (e:=[(0,str f),(1,i6_ i)]) Tryz.func146 Z Z Z Z Ends.both (zF (zB (zC 1 Z (zH (zD [0,1] [_,_] Z (zF (zF (zB (zC 3 Z (xD fun b7 hg7=>?_))))))))))
 cases b7
 ·
  replace hg7:=zT hg7;refine zC 2 Z (zE (v:=i6_ (f.length:Int)) Z (jS Z qV Z) (zC 2 Z (zH (zD [0,1,12] [_,_,_] Z (yQ Z (fun h12=>?_) (fun h12=>?_))))))
  ·
   refine zF (zB (zC 1 Z (zH (zD [4] [_] Z (qM (qQ Z Z fun w' hw=>?_))))))
   exact ⟨ret_i (varI_out (by first | exact .inl (by omega) | exact .inr (by omega))).symm,hw.below⟩
  refine qR (zD [0,1] [_,_] Z (zF (zB (zC 2 Z (zE (v:=.int .u8 (((f.getD ((i).toNat) 0).toNat:Int))) Z (xE Z qV Z Z (by omega) (by omega)) (zE (v:=i6_ (findS ([97,98,99,100]) (((f.getD ((i).toNat) 0).toNat:Int)))) Z (qK Z Tryz.call135 Z qC (fun w1 hw1=>l15Find_ok ([97,98,99,100]) (((f.getD ((i).toNat) 0).toNat:Int)) w1 (by first | decide | omega))) (zC 1 Z (zH (zD [4] [_] Z (qM (qQ Z Z fun w' hw=>?_)))))))))))
  exact ⟨ret_i (varI_find (by omega) (by omega)),hw.below⟩
 replace hg7:=zV hg7;refine zM Z (zM Z (zM Z (zM Z (zC 1 Z (zH (zD [0,1,12] [_,_,_] Z (yW Z (zF (zB (zC 1 Z (zH (zD [4] [_] Z (qM (qQ Z Z fun w' hw=>?_))))))))))))))
 exact ⟨ret_i (varI_out (by first | exact .inl (by omega) | exact .inr (by omega))).symm,hw.below⟩
theorem l2Var_at (f:List UInt8) (i:Int) (k:Nat) (w:World) (hi:i=(k:Int)) (hl:k<f.length) (hv:isV (f.getD k 0)=true):Calls Tryz.prog 146 #[str f,.int .i64 i] w fun en w'=>en=.returned (.int .i64 (vI (f.getD k 0):Int))∧Below w.heap.size w w' :=
  (l2Var_ok f i w).mono fun en w' ⟨h1,h2⟩=>⟨by rw [h1,hi,(varI_nat hl hv).1],h2⟩
set_option maxHeartbeats 400000 in
theorem l2End_step (f:List UInt8) (i:Int) (w:World) (hf:f.length≤1048576) (ih:∀ (j:Int) (w:World),endM f j<endM f i→Calls Tryz.prog 145 #[str f,.int .i64 j] w fun en w'=>en=.returned (.int .i64 (endI f j))∧Below w.heap.size w w') :
    Calls Tryz.prog 145 [str f,i6_ i].toArray w fun en w'=>en=.returned (.int .i64 (endI f i))∧Below w.heap.size w w':=by
 refine fnStart (n:=77) (e:=[(0,str f),(1,i6_ i)]) Tryz.func145 Z Z Z Z Ends.both (zF (zB (zC 1 Z (zH (zD [0,1] [_,_] Z (zF (zF (zB (zC 3 Z (xD fun b7 hg7=>?_))))))))))
 cases b7
 ·
  replace hg7:=zT hg7;refine zC 2 Z (zE (v:=i6_ (f.length:Int)) Z (jS Z qV Z) (zC 2 Z (zH (zD [0,1,12] [_,_,_] Z (yQ Z (fun h12=>?_) (fun h12=>?_))))))
  ·
   refine zF (zB (zC 1 Z (zH (zD [4] [_] Z (qM (qQ Z Z fun w' hw=>?_))))))
   exact ⟨ret_i (by first | exact (endI_neg (by omega)).symm | exact (endI_out (by omega)).symm | (refine Eq.trans ?_ (endI_case (f:=f) (i:=i) (by omega) (by omega)).symm;unfold endC chI;repeat (first | rw [if_pos (by omega)] | rw [if_neg (by omega)]))),hw.below⟩
  refine qR (zD [0,1] [_,_] Z (zF (zF (zB (zC 2 Z (zE (v:=.int .u8 (((f.getD ((i).toNat) 0).toNat:Int))) Z (xE Z qV Z Z (by omega) (by omega)) (zH (zD [0,1,15] [_,_,_] Z (qW (zF (zF (zB (zC 2 Z (zH (zD [0,1,15,16] [_,_,_,_] Z (yQ Z (fun h16=>?_) (fun h16=>?_)))))))))))))))))
  ·
   refine qR (zD [0,1,15,16] [_,_,_,_] Z (yW (congrArg (fun b=>some (Value.bool b)) (decide_eq_true h16)) (zF (zB (zC 1 Z (zE Z (qT Z Z Z (by omega) (by omega)) (zC 1 Z (zH (zD [4] [_] Z (qM (qQ Z Z fun w' hw=>?_)))))))))))
   exact ⟨ret_i (by first | exact (endI_neg (by omega)).symm | exact (endI_out (by omega)).symm | (refine Eq.trans ?_ (endI_case (f:=f) (i:=i) (by omega) (by omega)).symm;unfold endC chI;repeat (first | rw [if_pos (by omega)] | rw [if_neg (by omega)]))),hw.below⟩
  refine zB (zC 2 Z (zH (zD [0,1,15,16] [_,_,_,_] Z (yQ Z (fun h16_1=>?_) (fun h16_1=>?_)))))
  ·
   refine zF (zB (zC 1 Z (zE Z (qT Z Z Z (by omega) (by omega)) (zC 1 Z (zH (zD [4] [_] Z (qM (qQ Z Z fun w' hw=>?_))))))))
   exact ⟨ret_i (by first | exact (endI_neg (by omega)).symm | exact (endI_out (by omega)).symm | (refine Eq.trans ?_ (endI_case (f:=f) (i:=i) (by omega) (by omega)).symm;unfold endC chI;repeat (first | rw [if_pos (by omega)] | rw [if_neg (by omega)]))),hw.below⟩
  refine zF (zB (zC 2 Z (zH (zD [0,1,15,21] [_,_,_,_] Z (yQ Z (fun h21=>?_) (fun h21=>?_))))))
  ·
   refine zF (zF (zB (zC 2 Z (zE Z (qT Z Z Z (by omega) (by omega)) (zE (v:=i6_ (varI f (i+(1:Int)))) Z (qK Z jL Z qC (fun w1 hw1=>l2Var_ok f (i+(1:Int)) w1 )) (zC 1 Z (zH (zD [1,27] [_,_] Z (yQ Z (fun h27=>?_) (fun h27=>?_))))))))))
   ·
    refine zF (zB (zC 1 Z (zH (zD [4] [_] Z (qM (qQ Z Z fun w' hw=>?_))))))
    exact ⟨ret_i (by first | exact (endI_neg (by omega)).symm | exact (endI_out (by omega)).symm | (refine Eq.trans ?_ (endI_case (f:=f) (i:=i) (by omega) (by omega)).symm;unfold endC chI;repeat (first | rw [if_pos (by omega)] | rw [if_neg (by omega)]))),hw.below⟩
   refine qR (zD [1] [_] Z (zF (zB (zC 1 Z (zE Z (qT Z Z Z (by omega) (by omega)) (zC 1 Z (zH (zD [4] [_] Z (qM (qQ Z Z fun w' hw=>?_))))))))))
   exact ⟨ret_i (by first | exact (endI_neg (by omega)).symm | exact (endI_out (by omega)).symm | (refine Eq.trans ?_ (endI_case (f:=f) (i:=i) (by omega) (by omega)).symm;unfold endC chI;repeat (first | rw [if_pos (by omega)] | rw [if_neg (by omega)]))),hw.below⟩
  refine zF (zF (zB (zC 2 Z (zH (zD [0,1,15,30] [_,_,_,_] Z (yQ Z (fun h30=>?_) (fun h30=>?_)))))))
  ·
   refine qR (zD [0,1,15,30] [_,_,_,_] Z (yW (congrArg (fun b=>some (Value.bool b)) (decide_eq_true h30)) (zF (zF (zB (zC 2 Z (zE Z (qT Z Z Z (by omega) (by omega)) (zE (v:=i6_ (varI f (i+(1:Int)))) Z (qK Z jL Z qC (fun w1 hw1=>l2Var_ok f (i+(1:Int)) w1 )) (zC 2 Z (xD fun b38 hg38=>?_))))))))))
   cases b38
   ·
    replace hg38:=zT hg38;refine zC 2 Z (zE Z (qT Z Z Z (by omega) (by omega)) (zE (v:=i6_ (varI f (i+(2:Int)))) Z (qK Z jL Z qC (fun w1 hw1=>l2Var_ok f (i+(2:Int)) w1 )) (zC 2 Z (zH (zD [1,44] [_,_] Z (yQ Z (fun h44=>?_) (fun h44=>?_)))))))
    ·
     refine zF (zB (zC 1 Z (zH (zD [4] [_] Z (qM (qQ Z Z fun w' hw=>?_))))))
     exact ⟨ret_i (by first | exact (endI_neg (by omega)).symm | exact (endI_out (by omega)).symm | (refine Eq.trans ?_ (endI_case (f:=f) (i:=i) (by omega) (by omega)).symm;unfold endC chI;repeat (first | rw [if_pos (by omega)] | rw [if_neg (by omega)]))),hw.below⟩
    refine qR (zD [1] [_] Z (zF (zB (zC 1 Z (zE Z (qT Z Z Z (by omega) (by omega)) (zC 1 Z (zH (zD [4] [_] Z (qM (qQ Z Z fun w' hw=>?_))))))))))
    exact ⟨ret_i (by first | exact (endI_neg (by omega)).symm | exact (endI_out (by omega)).symm | (refine Eq.trans ?_ (endI_case (f:=f) (i:=i) (by omega) (by omega)).symm;unfold endC chI;repeat (first | rw [if_pos (by omega)] | rw [if_neg (by omega)]))),hw.below⟩
   replace hg38:=zV hg38;refine zM Z (zM Z (zM Z (zM Z (zM Z (zC 1 Z (zH (zD [1,44] [_,_] Z (yW Z (zF (zB (zC 1 Z (zH (zD [4] [_] Z (qM (qQ Z Z fun w' hw=>?_)))))))))))))))
   exact ⟨ret_i (by first | exact (endI_neg (by omega)).symm | exact (endI_out (by omega)).symm | (refine Eq.trans ?_ (endI_case (f:=f) (i:=i) (by omega) (by omega)).symm;unfold endC chI;repeat (first | rw [if_pos (by omega)] | rw [if_neg (by omega)]))),hw.below⟩
  refine zB (zC 2 Z (zH (zD [0,1,15,30] [_,_,_,_] Z (yQ Z (fun h30_1=>?_) (fun h30_1=>?_)))))
  ·
   refine zF (zF (zB (zC 2 Z (zE Z (qT Z Z Z (by omega) (by omega)) (zE (v:=i6_ (varI f (i+(1:Int)))) Z (qK Z jL Z qC (fun w1 hw1=>l2Var_ok f (i+(1:Int)) w1 )) (zC 2 Z (xD fun b38 hg38_1=>?_)))))))
   cases b38
   ·
    replace hg38_1:=zT hg38_1;refine zC 2 Z (zE Z (qT Z Z Z (by omega) (by omega)) (zE (v:=i6_ (varI f (i+(2:Int)))) Z (qK Z jL Z qC (fun w1 hw1=>l2Var_ok f (i+(2:Int)) w1 )) (zC 2 Z (zH (zD [1,44] [_,_] Z (yQ Z (fun h44_1=>?_) (fun h44_1=>?_)))))))
    ·
     refine zF (zB (zC 1 Z (zH (zD [4] [_] Z (qM (qQ Z Z fun w' hw=>?_))))))
     exact ⟨ret_i (by first | exact (endI_neg (by omega)).symm | exact (endI_out (by omega)).symm | (refine Eq.trans ?_ (endI_case (f:=f) (i:=i) (by omega) (by omega)).symm;unfold endC chI;repeat (first | rw [if_pos (by omega)] | rw [if_neg (by omega)]))),hw.below⟩
    refine qR (zD [1] [_] Z (zF (zB (zC 1 Z (zE Z (qT Z Z Z (by omega) (by omega)) (zC 1 Z (zH (zD [4] [_] Z (qM (qQ Z Z fun w' hw=>?_))))))))))
    exact ⟨ret_i (by first | exact (endI_neg (by omega)).symm | exact (endI_out (by omega)).symm | (refine Eq.trans ?_ (endI_case (f:=f) (i:=i) (by omega) (by omega)).symm;unfold endC chI;repeat (first | rw [if_pos (by omega)] | rw [if_neg (by omega)]))),hw.below⟩
   replace hg38_1:=zV hg38_1;refine zM Z (zM Z (zM Z (zM Z (zM Z (zC 1 Z (zH (zD [1,44] [_,_] Z (yW Z (zF (zB (zC 1 Z (zH (zD [4] [_] Z (qM (qQ Z Z fun w' hw=>?_)))))))))))))))
   exact ⟨ret_i (by first | exact (endI_neg (by omega)).symm | exact (endI_out (by omega)).symm | (refine Eq.trans ?_ (endI_case (f:=f) (i:=i) (by omega) (by omega)).symm;unfold endC chI;repeat (first | rw [if_pos (by omega)] | rw [if_neg (by omega)]))),hw.below⟩
  refine zF (zB (zC 2 Z (zH (zD [0,1,15,47] [_,_,_,_] Z (yQ Z (fun h47=>?_) (fun h47=>?_))))))
  ·
   refine zF (zB (zC 2 Z (zE Z (qT Z Z Z (by omega) (by omega)) (zE (v:=i6_ (endI f (i+(1:Int)))) Z (qK Z vA Z qC (fun w1 hw1=>ih (i+(1:Int)) w1 (endM_lt (by omega) (by first | exact .inl (by omega) | exact .inr (by omega) | exact endI_gt (by omega))))) (zC 1 Z (zH (zD [4] [_] Z (qM (qQ Z Z fun w' hw=>?_)))))))))
   exact ⟨ret_i (by first | exact (endI_neg (by omega)).symm | exact (endI_out (by omega)).symm | (refine Eq.trans ?_ (endI_case (f:=f) (i:=i) (by omega) (by omega)).symm;unfold endC chI;repeat (first | rw [if_pos (by omega)] | rw [if_neg (by omega)]))),hw.below⟩
  refine zF (zF (zB (zC 2 Z (zH (zD [0,1,15,53] [_,_,_,_] Z (yQ Z (fun h53=>?_) (fun h53=>?_)))))))
  ·
   refine qR (zD [0,1,15,53] [_,_,_,_] Z (yW (congrArg (fun b=>some (Value.bool b)) (decide_eq_true h53)) (zF (zB (zC 3 Z (zE Z (qT Z Z Z (by omega) (by omega)) (zE (v:=i6_ (endI f (i+(1:Int)))) Z (qK Z vA Z qC (fun w1 hw1=>ih (i+(1:Int)) w1 (endM_lt (by omega) (by first | exact .inl (by omega) | exact .inr (by omega) | exact endI_gt (by omega))))) (zE (v:=i6_ (endI f (endI f (i+(1:Int))))) Z (qK Z vA Z qC (fun w1 hw1=>ih (endI f (i+(1:Int))) w1 (endM_lt (by omega) (by first | exact .inl (by omega) | exact .inr (by omega) | exact endI_gt (by omega))))) (zC 1 Z (zH (zD [4] [_] Z (qM (qQ Z Z fun w' hw=>?_)))))))))))))
   exact ⟨ret_i (by first | exact (endI_neg (by omega)).symm | exact (endI_out (by omega)).symm | (refine Eq.trans ?_ (endI_case (f:=f) (i:=i) (by omega) (by omega)).symm;unfold endC chI;repeat (first | rw [if_pos (by omega)] | rw [if_neg (by omega)]))),hw.below⟩
  refine zB (zC 2 Z (zH (zD [0,1,15,53] [_,_,_,_] Z (yQ Z (fun h53_1=>?_) (fun h53_1=>?_)))))
  ·
   refine zF (zB (zC 3 Z (zE Z (qT Z Z Z (by omega) (by omega)) (zE (v:=i6_ (endI f (i+(1:Int)))) Z (qK Z vA Z qC (fun w1 hw1=>ih (i+(1:Int)) w1 (endM_lt (by omega) (by first | exact .inl (by omega) | exact .inr (by omega) | exact endI_gt (by omega))))) (zE (v:=i6_ (endI f (endI f (i+(1:Int))))) Z (qK Z vA Z qC (fun w1 hw1=>ih (endI f (i+(1:Int))) w1 (endM_lt (by omega) (by first | exact .inl (by omega) | exact .inr (by omega) | exact endI_gt (by omega))))) (zC 1 Z (zH (zD [4] [_] Z (qM (qQ Z Z fun w' hw=>?_))))))))))
   exact ⟨ret_i (by first | exact (endI_neg (by omega)).symm | exact (endI_out (by omega)).symm | (refine Eq.trans ?_ (endI_case (f:=f) (i:=i) (by omega) (by omega)).symm;unfold endC chI;repeat (first | rw [if_pos (by omega)] | rw [if_neg (by omega)]))),hw.below⟩
  refine zF (zF (zB (zC 2 Z (zH (zD [0,1,15,62] [_,_,_,_] Z (yQ Z (fun h62=>?_) (fun h62=>?_)))))))
  ·
   refine qR (zD [0,1,62] [_,_,_] Z (yW (congrArg (fun b=>some (Value.bool b)) (decide_eq_true h62)) (zF (zF (zB (zC 2 Z (zE Z (qT Z Z Z (by omega) (by omega)) (zE (v:=i6_ (varI f (i+(1:Int)))) Z (qK Z jL Z qC (fun w1 hw1=>l2Var_ok f (i+(1:Int)) w1 )) (zC 1 Z (zH (zD [0,1,72] [_,_,_] Z (yQ Z (fun h72=>?_) (fun h72=>?_)))))))))))))
   ·
    refine zF (zB (zC 1 Z (zH (zD [4] [_] Z (qM (qQ Z Z fun w' hw=>?_))))))
    exact ⟨ret_i (by first | exact (endI_neg (by omega)).symm | exact (endI_out (by omega)).symm | (refine Eq.trans ?_ (endI_case (f:=f) (i:=i) (by omega) (by omega)).symm;unfold endC chI;repeat (first | rw [if_pos (by omega)] | rw [if_neg (by omega)]))),hw.below⟩
   refine qR (zD [0,1] [_,_] Z (zF (zB (zC 2 Z (zE Z (qT Z Z Z (by omega) (by omega)) (zE (v:=i6_ (endI f (i+(2:Int)))) Z (qK Z vA Z qC (fun w1 hw1=>ih (i+(2:Int)) w1 (endM_lt (by omega) (by first | exact .inl (by omega) | exact .inr (by omega) | exact endI_gt (by omega))))) (zC 1 Z (zH (zD [4] [_] Z (qM (qQ Z Z fun w' hw=>?_)))))))))))
   exact ⟨ret_i (by first | exact (endI_neg (by omega)).symm | exact (endI_out (by omega)).symm | (refine Eq.trans ?_ (endI_case (f:=f) (i:=i) (by omega) (by omega)).symm;unfold endC chI;repeat (first | rw [if_pos (by omega)] | rw [if_neg (by omega)]))),hw.below⟩
  refine zF (zB (zC 2 Z (zH (zD [0,1,15,62] [_,_,_,_] Z (yQ Z (fun h62_1=>?_) (fun h62_1=>?_))))))
  ·
   refine qR (zD [0,1,62] [_,_,_] Z (yW (congrArg (fun b=>some (Value.bool b)) (decide_eq_true h62_1)) (zF (zF (zB (zC 2 Z (zE Z (qT Z Z Z (by omega) (by omega)) (zE (v:=i6_ (varI f (i+(1:Int)))) Z (qK Z jL Z qC (fun w1 hw1=>l2Var_ok f (i+(1:Int)) w1 )) (zC 1 Z (zH (zD [0,1,72] [_,_,_] Z (yQ Z (fun h72_1=>?_) (fun h72_1=>?_)))))))))))))
   ·
    refine zF (zB (zC 1 Z (zH (zD [4] [_] Z (qM (qQ Z Z fun w' hw=>?_))))))
    exact ⟨ret_i (by first | exact (endI_neg (by omega)).symm | exact (endI_out (by omega)).symm | (refine Eq.trans ?_ (endI_case (f:=f) (i:=i) (by omega) (by omega)).symm;unfold endC chI;repeat (first | rw [if_pos (by omega)] | rw [if_neg (by omega)]))),hw.below⟩
   refine qR (zD [0,1] [_,_] Z (zF (zB (zC 2 Z (zE Z (qT Z Z Z (by omega) (by omega)) (zE (v:=i6_ (endI f (i+(2:Int)))) Z (qK Z vA Z qC (fun w1 hw1=>ih (i+(2:Int)) w1 (endM_lt (by omega) (by first | exact .inl (by omega) | exact .inr (by omega) | exact endI_gt (by omega))))) (zC 1 Z (zH (zD [4] [_] Z (qM (qQ Z Z fun w' hw=>?_)))))))))))
   exact ⟨ret_i (by first | exact (endI_neg (by omega)).symm | exact (endI_out (by omega)).symm | (refine Eq.trans ?_ (endI_case (f:=f) (i:=i) (by omega) (by omega)).symm;unfold endC chI;repeat (first | rw [if_pos (by omega)] | rw [if_neg (by omega)]))),hw.below⟩
  refine zF (zB (zC 2 Z (zH (zD [0,1,15,62] [_,_,_,_] Z (yQ Z (fun h62_2=>?_) (fun h62_2=>?_))))))
  ·
   refine qR (zD [0,1,62] [_,_,_] Z (yW (congrArg (fun b=>some (Value.bool b)) (decide_eq_true h62_2)) (zF (zF (zB (zC 2 Z (zE Z (qT Z Z Z (by omega) (by omega)) (zE (v:=i6_ (varI f (i+(1:Int)))) Z (qK Z jL Z qC (fun w1 hw1=>l2Var_ok f (i+(1:Int)) w1 )) (zC 1 Z (zH (zD [0,1,72] [_,_,_] Z (yQ Z (fun h72_2=>?_) (fun h72_2=>?_)))))))))))))
   ·
    refine zF (zB (zC 1 Z (zH (zD [4] [_] Z (qM (qQ Z Z fun w' hw=>?_))))))
    exact ⟨ret_i (by first | exact (endI_neg (by omega)).symm | exact (endI_out (by omega)).symm | (refine Eq.trans ?_ (endI_case (f:=f) (i:=i) (by omega) (by omega)).symm;unfold endC chI;repeat (first | rw [if_pos (by omega)] | rw [if_neg (by omega)]))),hw.below⟩
   refine qR (zD [0,1] [_,_] Z (zF (zB (zC 2 Z (zE Z (qT Z Z Z (by omega) (by omega)) (zE (v:=i6_ (endI f (i+(2:Int)))) Z (qK Z vA Z qC (fun w1 hw1=>ih (i+(2:Int)) w1 (endM_lt (by omega) (by first | exact .inl (by omega) | exact .inr (by omega) | exact endI_gt (by omega))))) (zC 1 Z (zH (zD [4] [_] Z (qM (qQ Z Z fun w' hw=>?_)))))))))))
   exact ⟨ret_i (by first | exact (endI_neg (by omega)).symm | exact (endI_out (by omega)).symm | (refine Eq.trans ?_ (endI_case (f:=f) (i:=i) (by omega) (by omega)).symm;unfold endC chI;repeat (first | rw [if_pos (by omega)] | rw [if_neg (by omega)]))),hw.below⟩
  refine zF (zB (zC 2 Z (zH (zD [0,1,15,62] [_,_,_,_] Z (yQ Z (fun h62_3=>?_) (fun h62_3=>?_))))))
  ·
   refine qR (zD [0,1,62] [_,_,_] Z (yW (congrArg (fun b=>some (Value.bool b)) (decide_eq_true h62_3)) (zF (zF (zB (zC 2 Z (zE Z (qT Z Z Z (by omega) (by omega)) (zE (v:=i6_ (varI f (i+(1:Int)))) Z (qK Z jL Z qC (fun w1 hw1=>l2Var_ok f (i+(1:Int)) w1 )) (zC 1 Z (zH (zD [0,1,72] [_,_,_] Z (yQ Z (fun h72_3=>?_) (fun h72_3=>?_)))))))))))))
   ·
    refine zF (zB (zC 1 Z (zH (zD [4] [_] Z (qM (qQ Z Z fun w' hw=>?_))))))
    exact ⟨ret_i (by first | exact (endI_neg (by omega)).symm | exact (endI_out (by omega)).symm | (refine Eq.trans ?_ (endI_case (f:=f) (i:=i) (by omega) (by omega)).symm;unfold endC chI;repeat (first | rw [if_pos (by omega)] | rw [if_neg (by omega)]))),hw.below⟩
   refine qR (zD [0,1] [_,_] Z (zF (zB (zC 2 Z (zE Z (qT Z Z Z (by omega) (by omega)) (zE (v:=i6_ (endI f (i+(2:Int)))) Z (qK Z vA Z qC (fun w1 hw1=>ih (i+(2:Int)) w1 (endM_lt (by omega) (by first | exact .inl (by omega) | exact .inr (by omega) | exact endI_gt (by omega))))) (zC 1 Z (zH (zD [4] [_] Z (qM (qQ Z Z fun w' hw=>?_)))))))))))
   exact ⟨ret_i (by first | exact (endI_neg (by omega)).symm | exact (endI_out (by omega)).symm | (refine Eq.trans ?_ (endI_case (f:=f) (i:=i) (by omega) (by omega)).symm;unfold endC chI;repeat (first | rw [if_pos (by omega)] | rw [if_neg (by omega)]))),hw.below⟩
  refine zB (zC 2 Z (zH (zD [0,1,62] [_,_,_] Z (yQ Z (fun h62_4=>?_) (fun h62_4=>?_)))))
  ·
   refine zF (zF (zB (zC 2 Z (zE Z (qT Z Z Z (by omega) (by omega)) (zE (v:=i6_ (varI f (i+(1:Int)))) Z (qK Z jL Z qC (fun w1 hw1=>l2Var_ok f (i+(1:Int)) w1 )) (zC 1 Z (zH (zD [0,1,72] [_,_,_] Z (yQ Z (fun h72_4=>?_) (fun h72_4=>?_))))))))))
   ·
    refine zF (zB (zC 1 Z (zH (zD [4] [_] Z (qM (qQ Z Z fun w' hw=>?_))))))
    exact ⟨ret_i (by first | exact (endI_neg (by omega)).symm | exact (endI_out (by omega)).symm | (refine Eq.trans ?_ (endI_case (f:=f) (i:=i) (by omega) (by omega)).symm;unfold endC chI;repeat (first | rw [if_pos (by omega)] | rw [if_neg (by omega)]))),hw.below⟩
   refine qR (zD [0,1] [_,_] Z (zF (zB (zC 2 Z (zE Z (qT Z Z Z (by omega) (by omega)) (zE (v:=i6_ (endI f (i+(2:Int)))) Z (qK Z vA Z qC (fun w1 hw1=>ih (i+(2:Int)) w1 (endM_lt (by omega) (by first | exact .inl (by omega) | exact .inr (by omega) | exact endI_gt (by omega))))) (zC 1 Z (zH (zD [4] [_] Z (qM (qQ Z Z fun w' hw=>?_)))))))))))
   exact ⟨ret_i (by first | exact (endI_neg (by omega)).symm | exact (endI_out (by omega)).symm | (refine Eq.trans ?_ (endI_case (f:=f) (i:=i) (by omega) (by omega)).symm;unfold endC chI;repeat (first | rw [if_pos (by omega)] | rw [if_neg (by omega)]))),hw.below⟩
  refine qR (zD [] [] Z (zF (zB (zC 1 Z (zH (zD [4] [_] Z (qM (qQ Z Z fun w' hw=>?_))))))))
  exact ⟨ret_i (by first | exact (endI_neg (by omega)).symm | exact (endI_out (by omega)).symm | (refine Eq.trans ?_ (endI_case (f:=f) (i:=i) (by omega) (by omega)).symm;unfold endC chI;repeat (first | rw [if_pos (by omega)] | rw [if_neg (by omega)]))),hw.below⟩
 replace hg7:=zV hg7;refine zM Z (zM Z (zM Z (zM Z (zC 1 Z (zH (zD [0,1,12] [_,_,_] Z (yW Z (zF (zB (zC 1 Z (zH (zD [4] [_] Z (qM (qQ Z Z fun w' hw=>?_))))))))))))))
 exact ⟨ret_i (by first | exact (endI_neg (by omega)).symm | exact (endI_out (by omega)).symm | (refine Eq.trans ?_ (endI_case (f:=f) (i:=i) (by omega) (by omega)).symm;unfold endC chI;repeat (first | rw [if_pos (by omega)] | rw [if_neg (by omega)]))),hw.below⟩
theorem l2End_ok (f:List UInt8) (i:Int) (w:World) (hf:f.length≤1048576):Calls Tryz.prog 145 #[str f,.int .i64 i] w fun en w'=>en=.returned (.int .i64 (endI f i))∧Below w.heap.size w w':=by
  have key:∀ (m:Nat) (i:Int) (w:World),endM f i≤m→Calls Tryz.prog 145 #[str f,.int .i64 i] w fun en w'=>en=.returned (.int .i64 (endI f i))∧Below w.heap.size w w':=fun m=>by
    induction m with
    | zero=>exact fun i w hm=>l2End_step f i w hf fun j w h5=>absurd h5 (by omega)
    | succ m ihm=>exact fun i w hm=>l2End_step f i w hf fun j w h5=>ihm j w (by omega)
  exact key _ i w (Nat.le_refl _)
set_option maxHeartbeats 400000 in
theorem l2Quant_ok (c:UInt8) (w:World) :
    Calls Tryz.prog 147 [.int .u8 (c.toNat:Int)].toArray w fun en w'=>en=.returned (.bool (decide (quI (c.toNat:Int))))∧Below w.heap.size w w':=by
 refine fnStart (n:=6) (e:=[(0,.int .u8 (c.toNat:Int))]) Tryz.func147 Z Z Z Z Ends.both (zF (zB (zC 1 Z (zH (zD [0] [_] Z (zF (zB (zC 1 Z (zE (v:=i6_ (findS ([65,83,50,51,52]) (c.toNat:Int))) Z (qK Z Tryz.call135 Z qC (fun w1 hw1=>l15Find_ok ([65,83,50,51,52]) (c.toNat:Int) w1 (by first | decide | omega))) (zC 2 Z (zH (zD [2] [_] Z (qM (qQ Z Z fun w' hw=>?_))))))))))))))
 exact ⟨ret_b (find_quant c),hw.below⟩
set_option maxHeartbeats 400000 in
theorem l2Free_step (f:List UInt8) (n:Nat) (p:Fm) (e:Nat) (w:World) (hf:f.length≤1048576) (hP:Pa f n p e) (ih:∀ (i:Int) (k:Nat) (p:Fm) (e:Nat) (w:World),i=(k:Int)→n<k→Pa f k p e→Calls Tryz.prog 106 #[str f,.int .i64 i] w fun en w'=>en=.returned (.tuple #[.int .i64 (frB p:Int),.int .i64 (e:Int)])∧Below w.heap.size w w') :
    Calls Tryz.prog 106 [str f,i6_ (n:Int)].toArray w fun en w'=>en=.returned (.tuple #[.int .i64 (frB p:Int),.int .i64 (e:Int)])∧Below w.heap.size w w':=by
 refine fnStart (n:=113) (e:=[(0,str f),(1,i6_ (n:Int))]) Tryz.func106 Z Z Z Z Ends.both ?_
 have hn:=hP.lt
 have hne:=hP.2;refine zF (zB (zC 2 Z (zH (zD [0,1] [_,_] Z (zF (qW (zF (zB (zC 2 Z (zE (v:=.int .u8 (((f.getD ((n:Int).toNat) 0).toNat:Int))) Z (xE Z qV Z Z (by omega) (by omega)) (zC 2 Z (xD fun b17 hg17=>?_))))))))))))
 cases b17
 ·
  replace hg17:=zT hg17;refine zC 2 Z (zE (v:=.int .u8 (((f.getD ((n:Int).toNat) 0).toNat:Int))) Z (xE Z qV Z Z (by omega) (by omega)) (zC 3 Z (zH (zD [0,1,12] [_,_,_] Z (yQ Z (fun h12=>?_) (fun h12=>?_))))))
  ·
   refine zF (zB (zC 1 Z (zE Z (qT Z Z Z (by omega) (by omega)) (zC 2 Z (zH (zD [4,5] [_,_] Z (qM (xL Z Z Z fun w' hw=>?_))))))))
   obtain ⟨rfl,rfl⟩:=hP.i0 (by omega)
   exact ⟨rfl,hw.below⟩
  refine zF (zB (zC 2 Z (zE (v:=.int .u8 (((f.getD ((n:Int).toNat) 0).toNat:Int))) Z (xE Z qV Z Z (by omega) (by omega)) (zC 2 Z (zH (zD [0,1,25] [_,_,_] Z (yF (b:=decide ((((f.getD ((n:Int).toNat) 0).toNat:Int))=(80:Int))) Z (fun h25=>?_) (fun h25=>?_))))))))
  ·
   replace h25:=zV h25
   obtain ⟨hl1,hv1,rfl,rfl⟩:=hP.i1 (by omega)
   have hw1:=(vI_lt hv1).1
   have hb1:=bit_lt hw1;refine zF (zB (zC 2 Z (zE Z (qT Z Z Z (by omega) (by omega)) (zE (v:=i6_ ((vI (f.getD (n+1) 0):Int))) Z (qK Z jL Z qC (fun w1 hw1=>l2Var_at f ((n:Int)+(1:Int)) (n+1) w1 (by omega) hl1 hv1)) (zE (v:=.int .u64 ((vI (f.getD (n+1) 0):Int))) Z (jX .u64 Z xF vX Z (IntWalk.u64_in _ (by omega))) (zE (v:=i6_ (((1*2 ^ (vI (f.getD (n+1) 0)):Nat):Int))) Z (uF (a:=1) (b:=vI (f.getD (n+1) 0)) Z Z Z (by omega) (by omega)) (zC 1 Z (zE Z (qT Z Z Z (by omega) (by omega)) (zC 2 Z (zH (zD [4,5] [_,_] Z (qM (xL Z Z Z fun w' hw=>?_)))))))))))))
   exact ⟨by rw [fre1 80] <;> rfl,hw.below⟩
  replace h25:=zT h25;refine zF (zB (zC 2 Z (zE (v:=.int .u8 (((f.getD ((n:Int).toNat) 0).toNat:Int))) Z (xE Z qV Z Z (by omega) (by omega)) (zC 2 Z (xD fun b43 hg43=>?_)))))
  cases b43
  ·
   replace hg43:=zT hg43;refine zC 2 Z (zE (v:=.int .u8 (((f.getD ((n:Int).toNat) 0).toNat:Int))) Z (xE Z qV Z Z (by omega) (by omega)) (zC 3 Z (zH (zD [0,1,38] [_,_,_] Z (yF (b:=decide ((((f.getD ((n:Int).toNat) 0).toNat:Int))=(69:Int))) Z (fun h38=>?_) (fun h38=>?_))))))
   ·
    replace h38:=zV h38
    obtain ⟨hl2,hv1,hv2,rfl,rfl⟩:=hP.i2 (by omega)
    have hl1:n+1<f.length:=by omega
    have hw1:=(vI_lt hv1).1
    have hw2:=(vI_lt hv2).1
    have hb1:=bit_lt hw1
    have hb2:=bit_lt hw2;refine zF (zB (zC 2 Z (zE Z (qT Z Z Z (by omega) (by omega)) (zE (v:=i6_ ((vI (f.getD (n+1) 0):Int))) Z (qK Z jL Z qC (fun w1 hw1=>l2Var_at f ((n:Int)+(1:Int)) (n+1) w1 (by omega) hl1 hv1)) (zE (v:=.int .u64 ((vI (f.getD (n+1) 0):Int))) Z (jX .u64 Z xF vX Z (IntWalk.u64_in _ (by omega))) (zE (v:=i6_ (((1*2 ^ (vI (f.getD (n+1) 0)):Nat):Int))) Z (uF (a:=1) (b:=vI (f.getD (n+1) 0)) Z Z Z (by omega) (by omega)) (zC 2 Z (zE Z (qT Z Z Z (by omega) (by omega)) (zE (v:=i6_ ((vI (f.getD (n+2) 0):Int))) Z (qK Z jL Z qC (fun w1 hw1=>l2Var_at f ((n:Int)+(2:Int)) (n+2) w1 (by omega) hl2 hv2)) (zE (v:=.int .u64 ((vI (f.getD (n+2) 0):Int))) Z (jX .u64 Z xF vX Z (IntWalk.u64_in _ (by omega))) (zE (v:=i6_ (((1*2 ^ (vI (f.getD (n+2) 0)):Nat):Int))) Z (uF (a:=1) (b:=vI (f.getD (n+2) 0)) Z Z Z (by omega) (by omega)) (zE (v:=i6_ ((((1*2 ^ (vI (f.getD (n+1) 0))) ||| (1*2 ^ (vI (f.getD (n+2) 0))):Nat):Int))) Z (jK (a:=1*2 ^ (vI (f.getD (n+1) 0))) (b:=1*2 ^ (vI (f.getD (n+2) 0))) Z Z Z (by omega) (by omega)) (zC 1 Z (zE Z (qT Z Z Z (by omega) (by omega)) (zC 2 Z (zH (zD [4,5] [_,_] Z (qM (xL Z Z Z fun w' hw=>?_)))))))))))))))))))
    exact ⟨by rw [fre2 (f.getD n 0)] <;> rfl,hw.below⟩
   replace h38:=zT h38;refine zF (zB (zC 2 Z (zE (v:=.int .u8 (((f.getD ((n:Int).toNat) 0).toNat:Int))) Z (xE Z qV Z Z (by omega) (by omega)) (zC 2 Z (zH (zD [0,1,64] [_,_,_] Z (yF (b:=decide ((((f.getD ((n:Int).toNat) 0).toNat:Int))=(33:Int))) Z (fun h64=>?_) (fun h64=>?_))))))))
   ·
    replace h64:=zV h64
    obtain ⟨q,hq,rfl⟩:=hP.i3 (by omega);refine zF (zB (zC 2 Z (zE Z (qT Z Z Z (by omega) (by omega)) (zE (v:=.tuple #[i6_ (frB q:Int),i6_ (e:Int)]) Z (qK Z Tryz.call106 Z qC (fun w1 hw1=>ih ((n:Int)+(1:Int)) (n+1) q e w1 (by omega) (by omega) hq)) (zE (v:=i6_ (frB q:Int)) Z (yD Z Z Z) (zE (v:=i6_ (e:Int)) Z (yD Z Z Z) (zC 2 Z (zH (zD [4,5] [_,_] Z (qM (xL Z Z Z fun w' hw=>?_)))))))))))
    exact ⟨rfl,hw.below⟩
   replace h64:=zT h64;refine zF (zB (zC 2 Z (zE (v:=.int .u8 (((f.getD ((n:Int).toNat) 0).toNat:Int))) Z (xE Z qV Z Z (by omega) (by omega)) (zE (v:=bo_ (decide (quI (((f.getD ((n:Int).toNat) 0).toNat:Int))))) Z (qK Z Tryz.call147 Z qC (fun w1 hw1=>l2Quant_ok (f.getD ((n:Int).toNat) 0) w1)) (zC 1 Z (zH (zD [0,1,75] [_,_,_] Z (yF (b:=decide (quI (((f.getD ((n:Int).toNat) 0).toNat:Int)))) Z (fun h75=>?_) (fun h75=>?_)))))))))
   ·
    replace h75:=zV h75
    obtain ⟨hl1,hv1,q,hq,rfl⟩:=hP.i5 (by assumption)
    have hw1:=(vI_lt hv1).1
    have hb1:=bit_lt hw1
    have hf1:=frB_lt hq.wf;refine zF (zB (zC 2 Z (zE Z (qT Z Z Z (by omega) (by omega)) (zE (v:=.tuple #[i6_ (frB q:Int),i6_ (e:Int)]) Z (qK Z Tryz.call106 Z qC (fun w1 hw1=>ih ((n:Int)+(2:Int)) (n+2) q e w1 (by omega) (by omega) hq)) (zC 1 Z (zE (v:=i6_ (frB q:Int)) Z (yD Z Z Z) (zE (v:=i6_ (e:Int)) Z (yD Z Z Z) (zC 2 Z (zH (zD [0,1,6,7] [_,_,_,_] Z (zF (zB (zC 3 Z (zE Z (qT Z Z Z (by omega) (by omega)) (zE (v:=i6_ ((vI (f.getD (n+1) 0):Int))) Z (qK Z jL Z qC (fun w1 hw1=>l2Var_at f ((n:Int)+(1:Int)) (n+1) w1 (by omega) hl1 hv1)) (zE (v:=.int .u64 ((vI (f.getD (n+1) 0):Int))) Z (jX .u64 Z xF vX Z (IntWalk.u64_in _ (by omega))) (zE (v:=i6_ (((1*2 ^ (vI (f.getD (n+1) 0)):Nat):Int))) Z (uF (a:=1) (b:=vI (f.getD (n+1) 0)) Z Z Z (by omega) (by omega)) (zE (v:=i6_ ((((frB q) &&& (15 ^^^ (1*2 ^ (vI (f.getD (n+1) 0)))):Nat):Int))) Z (uQ (a:=frB q) (b:=1*2 ^ (vI (f.getD (n+1) 0))) Z Z Z (by omega) (by omega)) (zC 3 Z (zH (zD [4,5] [_,_] Z (qM (xL Z Z Z fun w' hw=>?_)))))))))))))))))))))))
    exact ⟨by rw [freq (f.getD n 0)] <;> rfl,hw.below⟩
   replace h75:=zT h75
   unfold quI at h75
   obtain ⟨q,m,q2,hq,hq2,rfl⟩:=hP.i4 (by have:=hP.io;omega)
   have hqm:=hq.2
   have hf1:=frB_lt hq.wf
   have hf2:=frB_lt hq2.wf;refine qR (zD [0,1] [_,_] Z (zF (zB (zC 2 Z (zE Z (qT Z Z Z (by omega) (by omega)) (zE (v:=.tuple #[i6_ (frB q:Int),i6_ (m:Int)]) Z (qK Z Tryz.call106 Z qC (fun w1 hw1=>ih ((n:Int)+(1:Int)) (n+1) q m w1 (by omega) (by omega) hq)) (zC 1 Z (zE (v:=i6_ (frB q:Int)) Z (yD Z Z Z) (zE (v:=i6_ (m:Int)) Z (yD Z Z Z) (zC 2 Z (zH (zD [0,8,9] [_,_,_] Z (zF (zB (zC 2 Z (zE (v:=.tuple #[i6_ (frB q2:Int),i6_ (e:Int)]) Z (qK Z Tryz.call106 Z qC (fun w1 hw1=>ih (m:Int) m q2 e w1 (by omega) (by omega) hq2)) (zC 1 Z (zE (v:=i6_ (frB q2:Int)) Z (yD Z Z Z) (zE (v:=i6_ (e:Int)) Z (yD Z Z Z) (zC 2 Z (zH (zD [8,10,11] [_,_,_] Z (zF (zB (zC 2 Z (zE (v:=i6_ ((((frB q) ||| (frB q2):Nat):Int))) Z (jK (a:=frB q) (b:=frB q2) Z Z Z (by omega) (by omega)) (zC 3 Z (zH (zD [4,5] [_,_] Z (qM (xL Z Z Z fun w' hw=>?_)))))))))))))))))))))))))))))))
   exact ⟨rfl,hw.below⟩
  replace hg43:=zV hg43
  obtain ⟨hl2,hv1,hv2,rfl,rfl⟩:=hP.i2 (by omega)
  have hl1:n+1<f.length:=by omega
  have hw1:=(vI_lt hv1).1
  have hw2:=(vI_lt hv2).1
  have hb1:=bit_lt hw1
  have hb2:=bit_lt hw2;refine zM Z (zM Z (zM Z (zM Z (zC 2 Z (zH (zD [0,1,38] [_,_,_] Z (yW Z (zF (zB (zC 2 Z (zE Z (qT Z Z Z (by omega) (by omega)) (zE (v:=i6_ ((vI (f.getD (n+1) 0):Int))) Z (qK Z jL Z qC (fun w1 hw1=>l2Var_at f ((n:Int)+(1:Int)) (n+1) w1 (by omega) hl1 hv1)) (zE (v:=.int .u64 ((vI (f.getD (n+1) 0):Int))) Z (jX .u64 Z xF vX Z (IntWalk.u64_in _ (by omega))) (zE (v:=i6_ (((1*2 ^ (vI (f.getD (n+1) 0)):Nat):Int))) Z (uF (a:=1) (b:=vI (f.getD (n+1) 0)) Z Z Z (by omega) (by omega)) (zC 2 Z (zE Z (qT Z Z Z (by omega) (by omega)) (zE (v:=i6_ ((vI (f.getD (n+2) 0):Int))) Z (qK Z jL Z qC (fun w1 hw1=>l2Var_at f ((n:Int)+(2:Int)) (n+2) w1 (by omega) hl2 hv2)) (zE (v:=.int .u64 ((vI (f.getD (n+2) 0):Int))) Z (jX .u64 Z xF vX Z (IntWalk.u64_in _ (by omega))) (zE (v:=i6_ (((1*2 ^ (vI (f.getD (n+2) 0)):Nat):Int))) Z (uF (a:=1) (b:=vI (f.getD (n+2) 0)) Z Z Z (by omega) (by omega)) (zE (v:=i6_ ((((1*2 ^ (vI (f.getD (n+1) 0))) ||| (1*2 ^ (vI (f.getD (n+2) 0))):Nat):Int))) Z (jK (a:=1*2 ^ (vI (f.getD (n+1) 0))) (b:=1*2 ^ (vI (f.getD (n+2) 0))) Z Z Z (by omega) (by omega)) (zC 1 Z (zE Z (qT Z Z Z (by omega) (by omega)) (zC 2 Z (zH (zD [4,5] [_,_] Z (qM (xL Z Z Z fun w' hw=>?_)))))))))))))))))))))))))))
  exact ⟨by rw [fre2 (f.getD n 0)] <;> rfl,hw.below⟩
 replace hg17:=zV hg17;refine zM Z (zM Z (zM Z (zM Z (zC 2 Z (zH (zD [0,1,12] [_,_,_] Z (yW Z (zF (zB (zC 1 Z (zE Z (qT Z Z Z (by omega) (by omega)) (zC 2 Z (zH (zD [4,5] [_,_] Z (qM (xL Z Z Z fun w' hw=>?_))))))))))))))))
 obtain ⟨rfl,rfl⟩:=hP.i0 (by omega)
 exact ⟨rfl,hw.below⟩
theorem l2Free_ok (f:List UInt8) (i:Int) (n:Nat) (p:Fm) (e:Nat) (w:World) (hf:f.length≤1048576) (hi:i=(n:Int)) (hP:Pa f n p e):Calls Tryz.prog 106 #[str f,.int .i64 i] w fun en w'=>en=.returned (.tuple #[.int .i64 (frB p:Int),.int .i64 (e:Int)])∧Below w.heap.size w w':=by
  have key:∀ (m n:Nat) (p:Fm) (e:Nat) (w:World),f.length - n≤m→Pa f n p e→Calls Tryz.prog 106 #[str f,.int .i64 (n:Int)] w fun en w'=>en=.returned (.tuple #[.int .i64 (frB p:Int),.int .i64 (e:Int)])∧Below w.heap.size w w':=fun m=>by
    induction m with
    | zero=>exact fun n p e w hm hP=>absurd hP.lt (by omega)
    | succ m ihm=>exact fun n p e w hm hP=>l2Free_step f n p e w hf hP fun i k p e w h1 h2 h3=>by subst h1;exact ihm k p e w (by have:=h3.lt;omega) h3
  subst hi;exact key _ n p e w (Nat.le_refl _) hP
set_option maxHeartbeats 1600000 in
theorem l2Holds_step (a:St) (f:List UInt8) (n:Nat) (p:Fm) (e:Nat) (en4:List Int) (w:World) (hf:f.length≤1048576) (ha:a.Fine) (_hsa:a.Small) (hP:Pa f n p e) (hE:EnvA a en4) (ih:∀ (i:Int) (k:Nat) (p:Fm) (e:Nat) (en4:List Int) (w:World),i=(k:Int)→n<k→Pa f k p e→EnvA a en4→Calls Tryz.prog 148 #[vS a,str f,.int .i64 i,.agg (ints en4).toArray] w fun en w'=>en=.returned (.tuple #[.bool (ev a p en4),.int .i64 (e:Int)])∧Below w.heap.size w w') :
    Calls Tryz.prog 148 [vS a,str f,i6_ (n:Int),.agg ((ints en4).toArray)].toArray w fun en w'=>en=.returned (.tuple #[.bool (ev a p en4),.int .i64 (e:Int)])∧Below w.heap.size w w':=by
 refine fnStart (n:=182) (e:=[(0,vS a),(1,str f),(2,i6_ (n:Int)),(3,.agg ((ints en4).toArray))]) Tryz.func148 Z Z Z Z Ends.both ?_
 have hn:=hP.lt
 have hne:=hP.2
 have hE4:=hE.1
 have hcn:((f.getD (n:Int).toNat 0).toNat:Int)=((f.getD n 0).toNat:Int):=rfl;refine zF (qI (xK (v:=vS a) Z Z Z Z Z fun p4 hp4=>?_))
 show Ll _ _ (Own _ _ [_]) _ _ ((4,pt_ p4)::_) _ _ _;refine xK (v:=.agg ((ints en4).toArray)) Z Z Z Z Z fun p7 hp7=>?_
 show Ll _ _ (Own _ _ [_,_]) _ _ ((7,pt_ p7)::_) _ _ _;refine qL 2 Z (zI (zD [1,2,4,7] [_,_,_,_] Z (zF (zF (zB (zC 2 Z (zE (v:=.int .u8 (((f.getD ((n:Int).toNat) 0).toNat:Int))) Z (xE Z qV Z Z (by omega) (by omega)) (zH (zD [1,2,4,7,21] [_,_,_,_,_] Z (qW (zF (zF (zB (zC 2 Z (zH (zD [1,2,4,7,21,22] [_,_,_,_,_,_] Z (yQ Z (fun h22=>?_) (fun h22=>?_))))))))))))))))))
 ·
  refine qR (zD [1,2,4,7,21,22] [_,_,_,_,_,_] Z (yW (congrArg (fun b=>some (Value.bool b)) (decide_eq_true h22)) (zF (zB (zC 2 Z (zE (v:=.int .u8 (((f.getD ((n:Int).toNat) 0).toNat:Int))) Z (xE Z qV Z Z (by omega) (by omega)) (zC 2 Z (zE Z (qT Z Z Z (by omega) (by omega)) (zC 2 Z (zH (zD [8,9] [_,_] Z (qM (xL Z Z Z fun w' hw=>?_)))))))))))))
  obtain ⟨rfl,rfl⟩:=hP.i0 (by omega)
  exact ⟨congrArg (fun b=>Ending.returned (.tuple #[.bool b,_])) (ev_tf (by omega)),hw.below⟩
 refine zB (zC 2 Z (zH (zD [1,2,4,7,21,22] [_,_,_,_,_,_] Z (yQ Z (fun h22_1=>?_) (fun h22_1=>?_)))))
 ·
  refine zF (zB (zC 2 Z (zE (v:=.int .u8 (((f.getD ((n:Int).toNat) 0).toNat:Int))) Z (xE Z qV Z Z (by omega) (by omega)) (zC 2 Z (zE Z (qT Z Z Z (by omega) (by omega)) (zC 2 Z (zH (zD [8,9] [_,_] Z (qM (xL Z Z Z fun w' hw=>?_))))))))))
  obtain ⟨rfl,rfl⟩:=hP.i0 (by omega)
  exact ⟨congrArg (fun b=>Ending.returned (.tuple #[.bool b,_])) (ev_tf (by omega)),hw.below⟩
 refine zF (zB (zC 2 Z (zH (zD [1,2,4,7,21,31] [_,_,_,_,_,_] Z (yF (b:=decide ((((f.getD ((n:Int).toNat) 0).toNat:Int))=(80:Int))) Z (fun h31=>?_) (fun h31=>?_))))))
 ·
  replace h31:=zV h31
  obtain ⟨hl1,hv1,rfl,rfl⟩:=hP.i1 (by omega)
  have hw1:=(vI_lt hv1).1
  have hx1:=hE.at hw1;refine zF (xY yC (fun _ h=>h.drawn) (by kernel_rfl) (zE Z (qF (cs:=#[i6_ a.n,str a.set,str a.rel]) 1 Z zZ Z Z zQ) (zC 2 Z (zE Z (qT Z Z Z (by omega) (by omega)) (zE (v:=i6_ ((vI (f.getD (n+1) 0):Int))) Z (qK Z jL Z qC (fun w1 hw1=>l2Var_at f ((n:Int)+(1:Int)) (n+1) w1 (by omega) hl1 hv1)) (zE (v:=pf_ p7 ((vI (f.getD (n+1) 0)))) Z (yA (v':=pf_ p7 ((vI (f.getD (n+1) 0)))) (by first | rfl | (congr 3;omega)) (uM (i:=(vI (f.getD (n+1) 0):Int)) Z vO zJ Z Z (by omega) (by omega))) (zE (v:=i6_ (en4.getD ((vI (f.getD (n+1) 0))) 0)) Z (xT 0 Z zU Z Z (Go.Wk.ints_at (by first | (simp;done) | (simp;omega) | omega))) (zE (v:=bo_ (a.inSet (en4.getD ((vI (f.getD (n+1) 0))) 0))) Z (qK Z Tryz.call153 Z qC (fun w1 hw1=>l1Set_ok a (en4.getD ((vI (f.getD (n+1) 0))) 0) w1 ha (by first | assumption | exact St.Els.at (by assumption) (by omega) (by omega)))) (zC 1 Z (zE Z (qT Z Z Z (by omega) (by omega)) (zC 2 Z (zH (zD [8,9] [_,_] Z (qM (xL Z Z Z fun w' hw=>?_)))))))))))))))
  exact ⟨rfl,hw.below⟩
 replace h31:=zT h31;refine zF (zB (zC 2 Z (zH (zD [1,2,4,7,21,43] [_,_,_,_,_,_] Z (yF (b:=decide ((((f.getD ((n:Int).toNat) 0).toNat:Int))=(61:Int))) Z (fun h43=>?_) (fun h43=>?_))))))
 ·
  replace h43:=zV h43
  obtain ⟨hl2,hv1,hv2,rfl,rfl⟩:=hP.i2 (by omega)
  have hl1:n+1<f.length:=by omega
  have hw1:=(vI_lt hv1).1
  have hw2:=(vI_lt hv2).1
  have hx1:=hE.at hw1
  have hx2:=hE.at hw2;refine zF (xY yC (fun _ h=>h.drawn) (by kernel_rfl) (zC 2 Z (zE Z (qT Z Z Z (by omega) (by omega)) (zE (v:=i6_ ((vI (f.getD (n+1) 0):Int))) Z (qK Z jL Z qC (fun w1 hw1=>l2Var_at f ((n:Int)+(1:Int)) (n+1) w1 (by omega) hl1 hv1)) (zE (v:=pf_ p7 ((vI (f.getD (n+1) 0)))) Z (yA (v':=pf_ p7 ((vI (f.getD (n+1) 0)))) (by first | rfl | (congr 3;omega)) (uM (i:=(vI (f.getD (n+1) 0):Int)) Z vO zJ Z Z (by omega) (by omega))) (zE (v:=i6_ (en4.getD ((vI (f.getD (n+1) 0))) 0)) Z (xT 0 Z zU Z Z (Go.Wk.ints_at (by first | (simp;done) | (simp;omega) | omega))) (zC 2 Z (zE Z (qT Z Z Z (by omega) (by omega)) (zE (v:=i6_ ((vI (f.getD (n+2) 0):Int))) Z (qK Z jL Z qC (fun w1 hw1=>l2Var_at f ((n:Int)+(2:Int)) (n+2) w1 (by omega) hl2 hv2)) (zE (v:=pf_ p7 ((vI (f.getD (n+2) 0)))) Z (yA (v':=pf_ p7 ((vI (f.getD (n+2) 0)))) (by first | rfl | (congr 3;omega)) (uM (i:=(vI (f.getD (n+2) 0):Int)) Z vO zJ Z Z (by omega) (by omega))) (zE (v:=i6_ (en4.getD ((vI (f.getD (n+2) 0))) 0)) Z (xT 0 Z zU Z Z (Go.Wk.ints_at (by first | (simp;done) | (simp;omega) | omega))) (zC 2 Z (zE Z (qT Z Z Z (by omega) (by omega)) (zC 2 Z (zH (zD [8,9] [_,_] Z (qM (xL Z Z Z fun w' hw=>?_))))))))))))))))))
  exact ⟨congrArg (fun b=>Ending.returned (.tuple #[.bool b,_])) (ev_eq (by assumption)),hw.below⟩
 replace h43:=zT h43;refine zF (zB (zC 2 Z (zH (zD [1,2,4,7,21,60] [_,_,_,_,_,_] Z (yF (b:=decide ((((f.getD ((n:Int).toNat) 0).toNat:Int))=(69:Int))) Z (fun h60=>?_) (fun h60=>?_))))))
 ·
  replace h60:=zV h60
  obtain ⟨hl2,hv1,hv2,rfl,rfl⟩:=hP.i2 (by omega)
  have hl1:n+1<f.length:=by omega
  have hw1:=(vI_lt hv1).1
  have hw2:=(vI_lt hv2).1
  have hx1:=hE.at hw1
  have hx2:=hE.at hw2;refine zF (xY yC (fun _ h=>h.drawn) (by kernel_rfl) (zE Z (qF (cs:=#[i6_ a.n,str a.set,str a.rel]) 1 Z zZ Z Z zQ) (zC 2 Z (zE Z (qT Z Z Z (by omega) (by omega)) (zE (v:=i6_ ((vI (f.getD (n+1) 0):Int))) Z (qK Z jL Z qC (fun w1 hw1=>l2Var_at f ((n:Int)+(1:Int)) (n+1) w1 (by omega) hl1 hv1)) (zE (v:=pf_ p7 ((vI (f.getD (n+1) 0)))) Z (yA (v':=pf_ p7 ((vI (f.getD (n+1) 0)))) (by first | rfl | (congr 3;omega)) (uM (i:=(vI (f.getD (n+1) 0):Int)) Z vO zJ Z Z (by omega) (by omega))) (zE (v:=i6_ (en4.getD ((vI (f.getD (n+1) 0))) 0)) Z (xT 0 Z zU Z Z (Go.Wk.ints_at (by first | (simp;done) | (simp;omega) | omega))) (zC 2 Z (zE Z (qT Z Z Z (by omega) (by omega)) (zE (v:=i6_ ((vI (f.getD (n+2) 0):Int))) Z (qK Z jL Z qC (fun w1 hw1=>l2Var_at f ((n:Int)+(2:Int)) (n+2) w1 (by omega) hl2 hv2)) (zE (v:=pf_ p7 ((vI (f.getD (n+2) 0)))) Z (yA (v':=pf_ p7 ((vI (f.getD (n+2) 0)))) (by first | rfl | (congr 3;omega)) (uM (i:=(vI (f.getD (n+2) 0):Int)) Z vO zJ Z Z (by omega) (by omega))) (zE (v:=i6_ (en4.getD ((vI (f.getD (n+2) 0))) 0)) Z (xT 0 Z zU Z Z (Go.Wk.ints_at (by first | (simp;done) | (simp;omega) | omega))) (zE (v:=bo_ (a.inRel (en4.getD ((vI (f.getD (n+1) 0))) 0) (en4.getD ((vI (f.getD (n+2) 0))) 0))) Z (qK Z vE Z qC (fun w1 hw1=>l1Rel_ok a (en4.getD ((vI (f.getD (n+1) 0))) 0) (en4.getD ((vI (f.getD (n+2) 0))) 0) w1 ha (by first | assumption | exact St.Els.at (by assumption) (by omega) (by omega)) (by first | assumption | exact St.Els.at (by assumption) (by omega) (by omega)))) (zC 1 Z (zE Z (qT Z Z Z (by omega) (by omega)) (zC 2 Z (zH (zD [8,9] [_,_] Z (qM (xL Z Z Z fun w' hw=>?_))))))))))))))))))))
  exact ⟨congrArg (fun b=>Ending.returned (.tuple #[.bool b,_])) (ev_rel (by assumption)),hw.below⟩
 replace h60:=zT h60;refine zF (zB (zC 2 Z (zH (zD [1,2,4,7,21,78] [_,_,_,_,_,_] Z (yF (b:=decide ((((f.getD ((n:Int).toNat) 0).toNat:Int))=(33:Int))) Z (fun h78=>?_) (fun h78=>?_))))))
 ·
  replace h78:=zV h78
  obtain ⟨q,hq,rfl⟩:=hP.i3 (by omega);refine zF (zB (zE Z (qF (cs:=#[i6_ a.n,str a.set,str a.rel]) 1 Z zZ Z Z zQ) (zC 2 Z (zE Z (qT Z Z Z (by omega) (by omega)) (zE Z (qF (cs:=(ints en4).toArray) 0 Z uR Z Z (by intro w;rw [show (ints en4).toArray.size=4 from by simp [hE.1]];exact uJ w)) (zE (v:=.tuple #[bo_ (ev a q en4),i6_ (e:Int)]) Z (qK Z Tryz.call148 Z qC (fun w1 hw1=>ih ((n:Int)+(1:Int)) (n+1) q e en4 w1 (by omega) (by omega) hq hE)) (zC 1 Z (zE (v:=bo_ (ev a q en4)) Z (yD Z Z Z) (zE (v:=i6_ (e:Int)) Z (yD Z Z Z) (zC 2 Z (zH (zD [10,11] [_,_] Z (zF (zB (zC 5 Z (zH (zD [8,9] [_,_] Z (qM (xL Z Z Z fun w' hw=>?_)))))))))))))))))))
  exact ⟨rfl,hw.below⟩
 replace h78:=zT h78;refine zF (zF (zB (zC 2 Z (zH (zD [1,2,4,7,21,92] [_,_,_,_,_,_] Z (yF (b:=decide ((((f.getD ((n:Int).toNat) 0).toNat:Int))=(38:Int))) Z (fun h92=>?_) (fun h92=>?_)))))))
 ·
  replace h92:=zV h92
  obtain ⟨q,m,q2,hq,hq2,rfl⟩:=hP.i4 (by omega)
  have hqm:=hq.2
  have hqm2:=hq2.2;refine qR (zD [1,2,4,7,92] [_,_,_,_,_] Z (yW (congrArg (fun b=>some (Value.bool b)) (decide_eq_true h92)) (zF (zB (zE Z (qF (cs:=#[i6_ a.n,str a.set,str a.rel]) 1 Z zZ Z Z zQ) (zC 2 Z (zE Z (qT Z Z Z (by omega) (by omega)) (zE Z (qF (cs:=(ints en4).toArray) 0 Z uR Z Z (by intro w;rw [show (ints en4).toArray.size=4 from by simp [hE.1]];exact uJ w)) (zE (v:=.tuple #[bo_ (ev a q en4),i6_ (m:Int)]) Z (qK Z Tryz.call148 Z qC (fun w1 hw1=>ih ((n:Int)+(1:Int)) (n+1) q m en4 w1 (by omega) (by omega) hq hE)) (zC 1 Z (zE (v:=bo_ (ev a q en4)) Z (yD Z Z Z) (zE (v:=i6_ (m:Int)) Z (yD Z Z Z) (zC 2 Z (zH (zD [1,2,4,7,12,13] [_,_,_,_,_,_] Z (zF (zF (zB (zC 3 Z (zE (v:=.int .u8 (((f.getD ((n:Int).toNat) 0).toNat:Int))) Z (xE Z qV Z Z (by omega) (by omega)) (zC 1 Z (zE Z (OpQ.beq Z xJ Z Z) (zH (zD [1,4,7,12,13,109] [_,_,_,_,_,_] Z (yF (b:=(ev a q en4)==(decide ((((f.getD ((n:Int).toNat) 0).toNat:Int))=(124:Int)))) Z (fun h109=>?_) (fun h109=>?_))))))))))))))))))))))))))
  ·
   have hb109:=h109;refine zF (zB (zC 3 Z (zE (v:=i6_ (e:Int)) Z (yA (by rw [hq2.endI]) (qK Z vA Z qC (fun w1 hw1=>l2End_ok f (m:Int) w1 hf))) (zC 2 Z (zH (zD [8,9] [_,_] Z (qM (xL Z Z Z fun w' hw=>?_))))))))
   exact ⟨congrArg (fun b=>Ending.returned (.tuple #[.bool b,_])) (two_short (by omega) hb109),hw.below⟩
  have hb109:=h109;refine qR (zD [1,4,7,13] [_,_,_,_] Z (zF (zB (zE Z (qF (cs:=#[i6_ a.n,str a.set,str a.rel]) 1 Z zZ Z Z zQ) (zC 2 Z (zE Z (qF (cs:=(ints en4).toArray) 0 Z uR Z Z (by intro w;rw [show (ints en4).toArray.size=4 from by simp [hE.1]];exact uJ w)) (zE (v:=.tuple #[bo_ (ev a q2 en4),i6_ (e:Int)]) Z (qK Z Tryz.call148 Z qC (fun w1 hw1=>ih (m:Int) m q2 e en4 w1 (by omega) (by omega) hq2 hE)) (zE (v:=bo_ (ev a q2 en4)) Z (yD Z Z Z) (zE (v:=i6_ (e:Int)) Z (yD Z Z Z) (zC 2 Z (zH (zD [8,9] [_,_] Z (qM (xL Z Z Z fun w' hw=>?_))))))))))))))
  exact ⟨congrArg (fun b=>Ending.returned (.tuple #[.bool b,_])) (two_long (by omega) hb109),hw.below⟩
 replace h92:=zT h92;refine zB (zC 2 Z (zH (zD [1,2,4,7,92] [_,_,_,_,_] Z (yF (b:=decide ((((f.getD ((n:Int).toNat) 0).toNat:Int))=(124:Int))) Z (fun h92_1=>?_) (fun h92_1=>?_)))))
 ·
  replace h92_1:=zV h92_1
  obtain ⟨q,m,q2,hq,hq2,rfl⟩:=hP.i4 (by omega)
  have hqm:=hq.2
  have hqm2:=hq2.2;refine zF (zB (zE Z (qF (cs:=#[i6_ a.n,str a.set,str a.rel]) 1 Z zZ Z Z zQ) (zC 2 Z (zE Z (qT Z Z Z (by omega) (by omega)) (zE Z (qF (cs:=(ints en4).toArray) 0 Z uR Z Z (by intro w;rw [show (ints en4).toArray.size=4 from by simp [hE.1]];exact uJ w)) (zE (v:=.tuple #[bo_ (ev a q en4),i6_ (m:Int)]) Z (qK Z Tryz.call148 Z qC (fun w1 hw1=>ih ((n:Int)+(1:Int)) (n+1) q m en4 w1 (by omega) (by omega) hq hE)) (zC 1 Z (zE (v:=bo_ (ev a q en4)) Z (yD Z Z Z) (zE (v:=i6_ (m:Int)) Z (yD Z Z Z) (zC 2 Z (zH (zD [1,2,4,7,12,13] [_,_,_,_,_,_] Z (zF (zF (zB (zC 3 Z (zE (v:=.int .u8 (((f.getD ((n:Int).toNat) 0).toNat:Int))) Z (xE Z qV Z Z (by omega) (by omega)) (zC 1 Z (zE Z (OpQ.beq Z xJ Z Z) (zH (zD [1,4,7,12,13,109] [_,_,_,_,_,_] Z (yF (b:=(ev a q en4)==(decide ((((f.getD ((n:Int).toNat) 0).toNat:Int))=(124:Int)))) Z (fun h109_1=>?_) (fun h109_1=>?_)))))))))))))))))))))))
  ·
   have hb109:=h109_1;refine zF (zB (zC 3 Z (zE (v:=i6_ (e:Int)) Z (yA (by rw [hq2.endI]) (qK Z vA Z qC (fun w1 hw1=>l2End_ok f (m:Int) w1 hf))) (zC 2 Z (zH (zD [8,9] [_,_] Z (qM (xL Z Z Z fun w' hw=>?_))))))))
   exact ⟨congrArg (fun b=>Ending.returned (.tuple #[.bool b,_])) (two_short (by omega) hb109),hw.below⟩
  have hb109:=h109_1;refine qR (zD [1,4,7,13] [_,_,_,_] Z (zF (zB (zE Z (qF (cs:=#[i6_ a.n,str a.set,str a.rel]) 1 Z zZ Z Z zQ) (zC 2 Z (zE Z (qF (cs:=(ints en4).toArray) 0 Z uR Z Z (by intro w;rw [show (ints en4).toArray.size=4 from by simp [hE.1]];exact uJ w)) (zE (v:=.tuple #[bo_ (ev a q2 en4),i6_ (e:Int)]) Z (qK Z Tryz.call148 Z qC (fun w1 hw1=>ih (m:Int) m q2 e en4 w1 (by omega) (by omega) hq2 hE)) (zE (v:=bo_ (ev a q2 en4)) Z (yD Z Z Z) (zE (v:=i6_ (e:Int)) Z (yD Z Z Z) (zC 2 Z (zH (zD [8,9] [_,_] Z (qM (xL Z Z Z fun w' hw=>?_))))))))))))))
  exact ⟨congrArg (fun b=>Ending.returned (.tuple #[.bool b,_])) (two_long (by omega) hb109),hw.below⟩
 replace h92_1:=zT h92_1
 have hqu:quI ((f.getD (n:Int).toNat 0).toNat:Int):=by have:=hP.io;unfold quI;omega
 obtain ⟨hl1,hv1,q,hq,rfl⟩:=hP.i5 hqu
 have hw1:=(vI_lt hv1).1
 have hqm:=hq.2
 have hm8:=ha.hi
 have hm1:=ha.lo;refine qR (zD [1,2,4,7] [_,_,_,_] Z (zF (zB (zC 1 Z (zH (zD [1,2,4,7,14] [_,_,_,_,_] Z (zF (zF (zB (zC 2 Z (zE (v:=.int .u8 (((f.getD ((n:Int).toNat) 0).toNat:Int))) Z (xE Z qV Z Z (by omega) (by omega)) (zH (zD [1,2,4,7,14,123] [_,_,_,_,_,_] Z (vB (σ:=Unit) (fun _=>True) (fun _=>[(1,str f),(2,i6_ (n:Int)),(4,pt_ p4),(7,pt_ p7),(14,i6_ (need (f.getD n 0) a.n.toNat:Int))]) (fun _=>Own w.heap.size w [bk_ p7 ((ints en4).toArray) 117,bk_ p4 #[i6_ a.n,str a.set,str a.rel] 24]) ?_ ?_))))))))))))))
 ·
  refine qW (zF (zB (zC 2 Z (zH (zD [1,2,4,7,14,123,124] [_,_,_,_,_,_,_] Z (yQ Z (fun h124=>?_) (fun h124=>?_)))))))
  ·
   refine zB (zE Z (zG Z zY Z zJ Z Z) (zE Z (zS 1 Z zU Z Z Z) (zC 1 Z (zH (qX () trivial (Sub.cons Z (Sub.cons Z (Sub.cons Z (Sub.cons Z (Sub.cons (by rw [show ((need (f.getD n 0) a.n.toNat:Nat):Int)=_ from need65 (by assumption) (by omega)];rfl) Sub.nil))))) (fun _ h=>h))))))
  refine zF (zF (zB (zC 2 Z (zH (zD [1,2,4,7,14,123,128] [_,_,_,_,_,_,_] Z (yQ Z (fun h128=>?_) (fun h128=>?_)))))))
  ·
   refine qR (zD [1,2,4,7,14,128] [_,_,_,_,_,_] Z (yW (congrArg (fun b=>some (Value.bool b)) (decide_eq_true h128)) (zB (zC 2 Z (zE (v:=.int .u8 (((f.getD ((n:Int).toNat) 0).toNat:Int))) Z (xE Z qV Z Z (by omega) (by omega)) (zE (v:=i6_ (((f.getD ((n:Int).toNat) 0).toNat:Int))) Z (jX .i64 Z jH xF Z (IntWalk.i64_in _ (by have:=UInt8.toNat_lt (f.getD ((n:Int).toNat) 0);omega))) (zE Z (jV Z Z Z (by omega) (by omega)) (zC 1 Z (zH (qX () trivial (Sub.cons Z (Sub.cons Z (Sub.cons Z (Sub.cons Z (Sub.cons (by rw [show ((need (f.getD n 0) a.n.toNat:Nat):Int)=_ from need234 (by omega)];rfl) Sub.nil))))) (fun _ h=>h)))))))))))
  refine zF (zB (zC 2 Z (zH (zD [1,2,4,7,14,123,128] [_,_,_,_,_,_,_] Z (yQ Z (fun h128_1=>?_) (fun h128_1=>?_))))))
  ·
   refine qR (zD [1,2,4,7,14,128] [_,_,_,_,_,_] Z (yW (congrArg (fun b=>some (Value.bool b)) (decide_eq_true h128_1)) (zB (zC 2 Z (zE (v:=.int .u8 (((f.getD ((n:Int).toNat) 0).toNat:Int))) Z (xE Z qV Z Z (by omega) (by omega)) (zE (v:=i6_ (((f.getD ((n:Int).toNat) 0).toNat:Int))) Z (jX .i64 Z jH xF Z (IntWalk.i64_in _ (by have:=UInt8.toNat_lt (f.getD ((n:Int).toNat) 0);omega))) (zE Z (jV Z Z Z (by omega) (by omega)) (zC 1 Z (zH (qX () trivial (Sub.cons Z (Sub.cons Z (Sub.cons Z (Sub.cons Z (Sub.cons (by rw [show ((need (f.getD n 0) a.n.toNat:Nat):Int)=_ from need234 (by omega)];rfl) Sub.nil))))) (fun _ h=>h)))))))))))
  refine zB (zC 2 Z (zH (zD [1,2,4,7,14,128] [_,_,_,_,_,_] Z (yQ Z (fun h128_2=>?_) (fun h128_2=>?_)))))
  ·
   refine zB (zC 2 Z (zE (v:=.int .u8 (((f.getD ((n:Int).toNat) 0).toNat:Int))) Z (xE Z qV Z Z (by omega) (by omega)) (zE (v:=i6_ (((f.getD ((n:Int).toNat) 0).toNat:Int))) Z (jX .i64 Z jH xF Z (IntWalk.i64_in _ (by have:=UInt8.toNat_lt (f.getD ((n:Int).toNat) 0);omega))) (zE Z (jV Z Z Z (by omega) (by omega)) (zC 1 Z (zH (qX () trivial (Sub.cons Z (Sub.cons Z (Sub.cons Z (Sub.cons Z (Sub.cons (by rw [show ((need (f.getD n 0) a.n.toNat:Nat):Int)=_ from need234 (by omega)];rfl) Sub.nil))))) (fun _ h=>h))))))))
  refine qR (qX () trivial (Sub.cons Z (Sub.cons Z (Sub.cons Z (Sub.cons Z (Sub.cons (by rw [show ((need (f.getD n 0) a.n.toNat:Nat):Int)=_ from need83 (by have:=hqu;unfold quI at this;omega)];rfl) Sub.nil))))) (fun _ h=>h))
 rintro _ hj;refine zD [1,2,4,7,14] [_,_,_,_,_] Z (zF (zB (zC 1 Z (zH (zD [1,2,4,7,14,15] [_,_,_,_,_,_] Z (zF (zF (zB (zC 1 Z (zH (zD [1,2,4,7,14,15,16] [_,_,_,_,_,_,_] Z (qW (xM (σ:=Nat×List Int) (fun ⟨x,E⟩=>(x:Int)≤a.n∧E.length=4∧∀ z:Int,E.set (vI (f.getD (n+1) 0)) z=en4.set (vI (f.getD (n+1) 0)) z) (fun ⟨x,E⟩=>[(1,str f),(2,i6_ (n:Int)),(4,pt_ p4),(7,pt_ p7),(14,i6_ (need (f.getD n 0) a.n.toNat:Int)),(15,i6_ ((cntT (evC a (f.getD (n+1) 0) q en4) x:Int))),(16,i6_ (x:Int))]) (fun ⟨x,E⟩=>Own w.heap.size w [bk_ p7 ((ints E).toArray) 117,bk_ p4 #[i6_ a.n,str a.set,str a.rel] 24]) (fun ⟨x,E⟩=>(a.n - x).toNat) (0,en4) ⟨by omega,hE.1,fun _=>rfl⟩ (Sub.cons Z (Sub.cons Z (Sub.cons Z (Sub.cons Z (Sub.cons Z (Sub.cons (by rfl) (Sub.sel [16] Z))))))) (fun _ h=>h) ?_)))))))))))))
 rintro ⟨x,E⟩ ⟨hx,hEl,hEs⟩
 dsimp only
 have hcx:=cntT_le (evC a (f.getD (n+1) 0) q en4) x;refine zF (zF (zB (zC 1 Z (zE Z (zG Z zY Z zJ Z Z) (zE Z (zS 1 Z zU Z Z Z) (zC 2 Z (xD fun b141 hg141=>?_)))))))
 cases b141
 ·
  replace hg141:=zT hg141;refine zM Z (zM Z (zM Z (zC 1 Z (zH (zD [1,2,4,7,14,15,16,145] [_,_,_,_,_,_,_,_] Z (jN Z (yY Z (zD [1,2,14,15] [_,_,_,_] Z (zF (zB (zC 5 Z (zE Z (qT Z Z Z (by omega) (by omega)) (zE (v:=i6_ (e:Int)) Z (yA (by rw [show (n:Int)+2=((n+2:Nat):Int) from rfl,hq.endI]) (qK Z vA Z qC (fun w1 hw1=>l2End_ok f ((n:Int)+(2:Int)) w1 hf))) (zC 2 Z (zH (zD [8,9] [_,_] Z (qM (xL Z Z Z fun w' hw=>?_))))))))))))))))))
  exact ⟨by exact congrArg (fun b=>Ending.returned (.tuple #[.bool b,_])) (ev_quant (c:=f.getD n 0) hqu (quant_end (x:=x) (by omega) (by omega))),hw.below⟩
 replace hg141:=zV hg141;refine zC 4 Z (zH (zD [1,2,4,7,14,15,16,145] [_,_,_,_,_,_,_,_] Z (yQ Z (fun h145=>?_) (fun h145=>?_))))
 ·
  refine qR (zD [1,2,4,7,14,15,16] [_,_,_,_,_,_,_] Z (zF (qW (zF (qI (qL 2 Z (zO Z (qT Z Z Z (by omega) (by omega)) (zO (v:=i6_ ((vI (f.getD (n+1) 0):Int))) Z (qK Z jL Z qC (fun w1 hw1=>l2Var_at f ((n:Int)+(1:Int)) (n+1) w1 (by omega) hl1 hv1)) (qL 1 Z (zO (v:=pf_ p7 ((vI (f.getD (n+1) 0)))) Z (yA (v':=pf_ p7 ((vI (f.getD (n+1) 0)))) (by first | rfl | (congr 3;omega)) (uM (i:=(vI (f.getD (n+1) 0):Int)) Z vO zJ Z Z (by omega) (by omega))) (qU (v:=i6_ (x:Int)) (hs':=[bk_ p7 ((ints (E.set ((vI (f.getD (n+1) 0))) (x:Int))).toArray) 117,_]) 0 Z Z Z Z Z Z zJ Z (by rw [List.size_toArray,ints_length];omega) (by first | (rw [ints_set];rfl) | (simp only [Nat.zero_add];rw [ints_set];rfl)) (zI (zD [1,2,4,7,14,15,16] [_,_,_,_,_,_,_] Z (zF (zB (zE Z (qF (cs:=#[i6_ a.n,str a.set,str a.rel]) 1 Z zZ Z Z zQ) (zC 2 Z (zE Z (qT Z Z Z (by omega) (by omega)) (zE Z (qF (cs:=(ints (E.set ((vI (f.getD (n+1) 0))) (x:Int))).toArray) 0 Z uR Z Z (by intro w;rw [show (ints (E.set ((vI (f.getD (n+1) 0))) (x:Int))).toArray.size=4 from by simp [hEl]];exact uJ w)) (zE (v:=.tuple #[bo_ (ev a q ((E.set ((vI (f.getD (n+1) 0))) (x:Int)))),i6_ (e:Int)]) Z (qK Z Tryz.call148 Z qC (fun w1 hw1=>ih ((n:Int)+(2:Int)) (n+2) q e ((E.set ((vI (f.getD (n+1) 0))) (x:Int))) w1 (by omega) (by omega) hq (by rw [hEs];exact hE.set ⟨by omega,by omega⟩))) (zC 1 Z (zE (v:=bo_ (ev a q ((E.set ((vI (f.getD (n+1) 0))) (x:Int))))) Z (yD Z Z Z) (zE (v:=i6_ (e:Int)) Z (yD Z Z Z) (zC 2 Z (zH (zD [1,2,4,7,14,15,16,17] [_,_,_,_,_,_,_,_] Z (zF (zF (zB (zC 1 Z (zH (zD [1,2,4,7,14,15,16,163] [_,_,_,_,_,_,_,_] Z (yF (b:=ev a q ((E.set ((vI (f.getD (n+1) 0))) (x:Int)))) Z (fun h163=>?_) (fun h163=>?_))))))))))))))))))))))))))))))))))
  ·
   have hF:evC a (f.getD (n+1) 0) q en4 x=true:=evC_of hEs h163
   have hcs:=cnt_yes hF;refine zB (zC 1 Z (zE Z (qT Z Z Z (by omega) (by omega)) (zC 1 Z (zH (zD [1,2,4,7,14,15,16] [_,_,_,_,_,_,_] Z (zF (zB (zC 1 Z (zE Z (zG Z zY Z zJ Z Z) (zE Z (zS 1 Z zU Z Z Z) (zE Z (qT Z Z Z (by omega) (by omega)) (zC 1 Z (zE Z (jV Z Z Z (by omega) (by omega)) (zE Z (jV Z Z Z (by omega) (by omega)) (zC 2 Z (zH (zD [1,2,4,7,14,15,16,174] [_,_,_,_,_,_,_,_] Z (yQ Z (fun h174=>?_) (fun h174=>?_)))))))))))))))))))
   ·
    refine yY Z (zD [1,2,14,15] [_,_,_,_] Z (zF (zB (zC 5 Z (zE Z (qT Z Z Z (by omega) (by omega)) (zE (v:=i6_ (e:Int)) Z (yA (by rw [show (n:Int)+2=((n+2:Nat):Int) from rfl,hq.endI]) (qK Z vA Z qC (fun w1 hw1=>l2End_ok f ((n:Int)+(2:Int)) w1 hf))) (zC 2 Z (zH (zD [8,9] [_,_] Z (qM (xL Z Z Z fun w' hw=>?_)))))))))))
    exact ⟨by rw [hcs];exact congrArg (fun b=>Ending.returned (.tuple #[.bool b,_])) (ev_quant (c:=f.getD n 0) hqu (quant_end (x:=(x+1)) (by omega) (by omega))),hw.below⟩
   refine qR (zD [1,2,4,7,14,15,16] [_,_,_,_,_,_,_] Z (zB (zC 1 Z (zE Z (qT Z Z Z (by omega) (by omega)) (zC 1 Z (zH (yL ((x+1,E.set ((vI (f.getD (n+1) 0))) (x:Int))) ⟨by omega,by simp [hEl],fun z=>by dsimp only;rw [List.set_set];exact hEs z⟩ (by omega) (Sub.cons Z (Sub.cons Z (Sub.cons Z (Sub.cons Z (Sub.cons Z (Sub.cons (by rw [← hcs];rfl) (Sub.sel [16] Z))))))) (fun _ h=>h))))))))
  have hF:evC a (f.getD (n+1) 0) q en4 x=false:=evC_of hEs (by simpa using h163)
  have hcs:=cnt_no hF;refine qR (zD [1,2,4,7,14,15,16] [_,_,_,_,_,_,_] Z (zF (zB (zC 1 Z (zE Z (zG Z zY Z zJ Z Z) (zE Z (zS 1 Z zU Z Z Z) (zE Z (qT Z Z Z (by omega) (by omega)) (zC 1 Z (zE Z (jV Z Z Z (by omega) (by omega)) (zE Z (jV Z Z Z (by omega) (by omega)) (zC 2 Z (zH (zD [1,2,4,7,14,15,16,174] [_,_,_,_,_,_,_,_] Z (yQ Z (fun h174_1=>?_) (fun h174_1=>?_)))))))))))))))
  ·
   refine yY Z (zD [1,2,14,15] [_,_,_,_] Z (zF (zB (zC 5 Z (zE Z (qT Z Z Z (by omega) (by omega)) (zE (v:=i6_ (e:Int)) Z (yA (by rw [show (n:Int)+2=((n+2:Nat):Int) from rfl,hq.endI]) (qK Z vA Z qC (fun w1 hw1=>l2End_ok f ((n:Int)+(2:Int)) w1 hf))) (zC 2 Z (zH (zD [8,9] [_,_] Z (qM (xL Z Z Z fun w' hw=>?_)))))))))))
   exact ⟨by rw [← hcs];exact congrArg (fun b=>Ending.returned (.tuple #[.bool b,_])) (ev_quant (c:=f.getD n 0) hqu (quant_end (x:=(x+1)) (by omega) (by omega))),hw.below⟩
  refine qR (zD [1,2,4,7,14,15,16] [_,_,_,_,_,_,_] Z (zB (zC 1 Z (zE Z (qT Z Z Z (by omega) (by omega)) (zC 1 Z (zH (yL ((x+1,E.set ((vI (f.getD (n+1) 0))) (x:Int))) ⟨by omega,by simp [hEl],fun z=>by dsimp only;rw [List.set_set];exact hEs z⟩ (by omega) (Sub.cons Z (Sub.cons Z (Sub.cons Z (Sub.cons Z (Sub.cons Z (Sub.cons (by rw [hcs];rfl) (Sub.sel [16] Z))))))) (fun _ h=>h))))))))
 refine yY Z (zD [1,2,14,15] [_,_,_,_] Z (zF (zB (zC 5 Z (zE Z (qT Z Z Z (by omega) (by omega)) (zE (v:=i6_ (e:Int)) Z (yA (by rw [show (n:Int)+2=((n+2:Nat):Int) from rfl,hq.endI]) (qK Z vA Z qC (fun w1 hw1=>l2End_ok f ((n:Int)+(2:Int)) w1 hf))) (zC 2 Z (zH (zD [8,9] [_,_] Z (qM (xL Z Z Z fun w' hw=>?_)))))))))))
 exact ⟨by exact congrArg (fun b=>Ending.returned (.tuple #[.bool b,_])) (ev_quant (c:=f.getD n 0) hqu (quant_end (x:=x) (by omega) (by omega))),hw.below⟩
theorem l2Holds_ok (a:St) (f:List UInt8) (i:Int) (n:Nat) (p:Fm) (e:Nat) (en4:List Int) (w:World) (hf:f.length≤1048576) (hi:i=(n:Int)) (ha:a.Fine) (hsa:a.Small) (hP:Pa f n p e) (hE:EnvA a en4):Calls Tryz.prog 148 #[vS a,str f,.int .i64 i,.agg (ints en4).toArray] w fun en w'=>en=.returned (.tuple #[.bool (ev a p en4),.int .i64 (e:Int)])∧Below w.heap.size w w':=by
  have key:∀ (m n:Nat) (p:Fm) (e:Nat) (en4:List Int) (w:World),f.length - n≤m→Pa f n p e→EnvA a en4→Calls Tryz.prog 148 #[vS a,str f,.int .i64 (n:Int),.agg (ints en4).toArray] w fun en w'=>en=.returned (.tuple #[.bool (ev a p en4),.int .i64 (e:Int)])∧Below w.heap.size w w':=fun m=>by
    induction m with
    | zero=>exact fun n p e en4 w hm hP hE=>absurd hP.lt (by omega)
    | succ m ihm=>exact fun n p e en4 w hm hP hE=>l2Holds_step a f n p e en4 w hf ha hsa hP hE fun i k p e en4 w h1 h2 h3 h4=>by subst h1;exact ihm k p e en4 w (by have:=h3.lt;omega) h3 h4
  subst hi;exact key _ n p e en4 w (Nat.le_refl _) hP hE
set_option maxHeartbeats 400000 in
theorem sFValid_ok (f:List UInt8) (w:World) (hf:f.length≤1048576) :
    Calls Tryz.prog 105 [str f].toArray w fun en w'=>en=.returned (.bool (formO f).isSome)∧Below w.heap.size w w':=by
 refine fnStart (n:=13) (e:=[(0,str f)]) Tryz.func105 Z Z Z Z Ends.both (zF (zB (zC 1 Z (zH (zD [0] [_] Z (zF (zB (zC 1 Z (zE (v:=i6_ (f.length:Int)) Z (jS Z qV Z) (zC 2 Z (xD fun b6 hg6=>?_)))))))))))
 cases b6
 ·
  replace hg6:=zT hg6;refine zM Z (zM Z (zM Z (zM Z (zM Z (zC 2 Z (zH (zD [2] [_] Z (qM (qQ Z Z fun w' hw=>?_)))))))))
  exact ⟨ret_b (by first | (rw [formO_some,decide_eq_true (show (f.length:Int)≤4000 by omega),Bool.true_and]) | (rw [formO_some,decide_eq_false (show ¬ (f.length:Int)≤4000 by omega)];rfl)),hw.below⟩
 replace hg6:=zV hg6;refine zC 1 Z (zE (v:=i6_ (endI f 0)) Z (qK Z vA Z qC (fun w1 hw1=>l2End_ok f 0 w1 hf)) (zC 1 Z (zE (v:=i6_ (f.length:Int)) Z (jS Z qV Z) (zC 3 Z (zH (zD [2] [_] Z (qM (qQ Z Z fun w' hw=>?_))))))))
 exact ⟨ret_b (by first | (rw [formO_some,decide_eq_true (show (f.length:Int)≤4000 by omega),Bool.true_and]) | (rw [formO_some,decide_eq_false (show ¬ (f.length:Int)≤4000 by omega)];rfl)),hw.below⟩
set_option maxHeartbeats 400000 in
theorem l2True_ok (a:St) (f:List UInt8) (p:Fm) (en4:List Int) (w:World) (hf:f.length≤1048576) (ha:a.Fine) (hsa:a.Small) (hP:Pa f 0 p f.length) (hE:EnvA a en4) :
    Calls Tryz.prog 107 [vS a,str f,.agg ((ints en4).toArray)].toArray w fun en w'=>en=.returned (.bool (ev a p en4))∧Below w.heap.size w w':=by
 refine fnStart (n:=17) (e:=[(0,vS a),(1,str f),(2,.agg ((ints en4).toArray))]) Tryz.func107 Z Z Z Z Ends.both (zF (qI (xK (v:=vS a) Z Z Z Z Z fun p3 hp3=>?_)))
 show Ll _ _ (Own _ _ [_]) _ _ ((3,pt_ p3)::_) _ _ _;refine xK (v:=.agg ((ints en4).toArray)) Z Z Z Z Z fun p5 hp5=>?_
 show Ll _ _ (Own _ _ [_,_]) _ _ ((5,pt_ p5)::_) _ _ _;refine qL 1 Z (zI (zD [1,3,5] [_,_,_] Z (zF (zB (zE Z (qF (cs:=#[i6_ a.n,str a.set,str a.rel]) 1 Z zZ Z Z zQ) (zC 1 Z (zE Z (qF (cs:=(ints en4).toArray) 0 Z uR Z Z (by intro w;rw [show (ints en4).toArray.size=4 from by simp [hE.1]];exact uJ w)) (zE (v:=.tuple #[bo_ (ev a p en4),i6_ (f.length:Int)]) Z (qK Z Tryz.call148 Z qC (fun w1 hw1=>l2Holds_ok a f 0 0 p f.length en4 w1 hf (by omega) ha hsa hP hE)) (zC 1 Z (zE (v:=bo_ (ev a p en4)) Z (yD Z Z Z) (zE (v:=i6_ (f.length:Int)) Z (yD Z Z Z) (zC 2 Z (zH (zD [7] [_] Z (zF (zB (zC 2 Z (zH (zD [6] [_] Z (qM (qQ Z Z fun w' hw=>?_)))))))))))))))))))))
 exact ⟨rfl,hw.below⟩
set_option maxHeartbeats 400000 in
theorem sHolds_ok (a:St) (f:List UInt8) (va:Value) (xs:List Int) (w:World) (hsa:a.Small) (hf:f.length≤1048576) (hva:Ints w va xs) :
    Calls Tryz.prog 57 [vS a,str f,va].toArray w fun en w'=>en=.returned (.tuple #[.bool (holdV a f xs),.bool (holdK a f xs)])∧Below w.heap.size w w':=by
 refine fnStart (n:=62) (e:=[(0,vS a),(1,str f),(2,va)]) Tryz.func57 Z Z Z Z Ends.both (zF (qI (xK (v:=vS a) Z Z Z Z Z fun p3 hp3=>?_)))
 show Ll _ _ (Own _ _ [_]) _ _ ((3,pt_ p3)::_) _ _ _;refine qL 2 Z (zI (zD [1,2,3] [_,_,_] Z (zF (qI (zO (v:=.agg #[i6_ 0,i6_ 0,i6_ 0,i6_ 0]) Z (uL (xs:=[]) (vs:=[]) Z Z (by kernel_rfl)) (jU Z Z Z Z Tryz.zeroValue117 fun p8 hp8=>?_))))))
 show Ll _ _ (Own _ _ [bk_ p8 #[i6_ 0,i6_ 0,i6_ 0,i6_ 0] 117,_]) _ _ ((8,pt_ p8)::_) _ _ _;refine yV (cs':=#[i6_ 0,i6_ 0,i6_ 0,i6_ 0]) (hs':=[bk_ p8 #[i6_ 0,i6_ 0,i6_ 0,i6_ 0] 117,_]) 0 Z Z Z Z Z (by kernel_rfl:_=some Tryz.t117) Z Z Z Z Z (zI (zD [1,2,3,8] [_,_,_,_] Z (zF (zF (zB (zE Z (qF (cs:=#[i6_ a.n,str a.set,str a.rel]) 1 Z zZ Z Z zQ) (zE (v:=bo_ (validB a)) Z (qK Z Tryz.call51 Z qC (fun w1 hw1=>sValid_ok a w1 hsa)) (zC 2 Z (xD fun b16 hg16=>?_)))))))))
 cases b16
 ·
  replace hg16:=not_false hg16;refine zC 1 Z (zE (v:=bo_ ((formO f).isSome)) Z (qK Z Tryz.call105 Z qC (fun w1 hw1=>sFValid_ok f w1 hf)) (zC 3 Z (xD fun b21 hg21=>?_)))
  cases b21
  ·
   replace hg21:=not_false hg21;refine zC 1 Z (zE (v:=i6_ (xs.length:Int)) Z (yP Z zX Z (ints_length _) (fun w1 hw1=>Row.own hva hw1)) (zC 2 Z (zH (zD [1,2,3,8,25] [_,_,_,_,_] Z (yF (b:=decide ((4:Int)<(xs.length:Int))) Z (fun h25=>?_) (fun h25=>?_))))))
   ·
    replace h25:=zV h25;refine zF (zB (zC 2 Z (zH (zD [6,7] [_,_] Z (qM (xL Z Z Z fun w' hw=>?_))))));refine ⟨?_,hw.below⟩
    have hO:holdO a f xs=none:=holdO_none fun p' hp' hc=>?_
    · rw [(hold_no hO).1,(hold_no hO).2]
    obtain ⟨c1,c2,c3,c4⟩:=hc
    first | omega | exact hxn (c3 _ hxm) | (obtain rfl:p=p':=Option.some.inj (hp.symm.trans hp');omega) | (simp_all;done)
   replace h25:=zT h25
   have hv:validB a=true:=by simp_all
   have ha:=validB_fine hv
   have hm8:=ha.hi
   have hm1:=ha.lo
   obtain ⟨p,hp⟩:=Option.isSome_iff_exists.1 (show (formO f).isSome=true by simp_all)
   have hP:=formO_pa hp
   have hl4:xs.length≤4:=by omega
   refine qR (zD [1,2,3,8] [_,_,_,_] Z (zF (zF (zB (zC 1 Z (zH (zD [1,2,3,8,9] [_,_,_,_,_] Z (qW (xM (σ:=Nat) (fun k=>k≤xs.length∧∀ x∈xs.take k,a.El x) (fun k=>[(1,str f),(2,va),(3,pt_ p3),(8,pt_ p8),(9,i6_ (k:Int))]) (fun k=>Own w.heap.size w [bk_ p8 ((ints (envP xs k)).toArray) 117,bk_ p3 #[i6_ a.n,str a.set,str a.rel] 24]) (fun k=>xs.length - k) (0) ⟨Nat.zero_le _,by simp⟩ (Sub.sel [1,2,3,8,9] Z) (fun _ h=>by rw [envP_zero];exact h) ?_)))))))))
   rintro k ⟨hk,hxk⟩;refine zF (zF (zB (zC 2 Z (zE (v:=i6_ (xs.length:Int)) Z (yP Z zX Z (ints_length _) (fun w1 hw1=>Row.own hva hw1)) (zC 1 Z (zH (zD [1,2,3,8,9,29] [_,_,_,_,_,_] Z (yF (b:=decide ((k:Int)<(xs.length:Int))) Z (fun h29=>?_) (fun h29=>?_)))))))))
   ·
    replace h29:=zV h29;refine qR (zD [1,2,3,8,9] [_,_,_,_,_] Z (zF (qW (zF (zF (xY yC (fun _ h=>h.drawn) (by kernel_rfl) (zC 2 Z (zE (v:=.pointer (some (sAt va (k:Int)))) Z (yO Z zX zJ Z Z (by omega) (by rw [ints_length];omega) (fun w1 hw1=>Row.own hva hw1)) (zE (v:=i6_ (xs.getD ((k:Int).toNat) 0)) Z (qN Z zU Z (fun w1 hw1=>Ints.cell (Row.own hva hw1) (by omega) (by omega))) (zE Z (zG Z zY Z zJ Z Z) (zE Z (zS 1 Z zU Z Z Z) (zE Z (jV Z Z Z (by omega) (by omega)) (zE (v:=bo_ (inB (xs.getD ((k:Int).toNat) 0) 0 (a.n - (1:Int)))) Z (qK Z Tryz.call80 Z qC (fun w1 hw1=>l1In_ok (xs.getD ((k:Int).toNat) 0) 0 (a.n - (1:Int)) w1 )) (zC 1 Z (zH (zD [1,2,3,8,9,40] [_,_,_,_,_,_] Z (yF (b:=!(inB (xs.getD ((k:Int).toNat) 0) 0 (a.n - (1:Int)))) Z (fun h40=>?_) (fun h40=>?_))))))))))))))))))
    ·
     replace h40:=not_true h40
     have hxm:xs.getD k 0∈xs:=by rw [getD_at (by omega)];exact List.getElem_mem _
     have hxn:¬ a.El (xs.getD k 0):=fun e=>by have h9:=in_el.2 e;simp_all
     refine zF (zB (zC 2 Z (zH (zD [6,7] [_,_] Z (qM (xL Z Z Z fun w' hw=>?_))))));refine ⟨?_,hw.below⟩
     have hO:holdO a f xs=none:=holdO_none fun p' hp' hc=>?_
     · rw [(hold_no hO).1,(hold_no hO).2]
     obtain ⟨c1,c2,c3,c4⟩:=hc
     first | omega | exact hxn (c3 _ hxm) | (obtain rfl:p=p':=Option.some.inj (hp.symm.trans hp');omega) | (simp_all;done)
    replace h40:=not_false h40
    have hxe:a.El (xs.getD k 0):=in_el.1 (by simpa using h40);refine qR (zD [1,2,3,8,9] [_,_,_,_,_] Z (qI (qL 3 Z (zO (v:=.pointer (some (sAt va (k:Int)))) Z (yO Z zX zJ Z Z (by omega) (by rw [ints_length];omega) (fun w1 hw1=>Row.own hva hw1)) (zO (v:=i6_ (xs.getD ((k:Int).toNat) 0)) Z (qN Z zU Z (fun w1 hw1=>Ints.cell (Row.own hva hw1) (by omega) (by omega))) (zO (v:=pf_ p8 k) Z (yA (v':=pf_ p8 k) (by first | rfl | (congr 3;omega)) (uM (i:=(k:Int)) Z vO zJ Z Z (by omega) (by omega))) (qU (v:=i6_ (xs.getD ((k:Int).toNat) 0)) (hs':=[bk_ p8 ((ints ((envP xs k).set k (xs.getD ((k:Int).toNat) 0))).toArray) 117,_]) 0 Z Z Z Z Z Z zJ Z (by rw [List.size_toArray,ints_length,envP_len (by omega) (by omega)];omega) (by first | (rw [ints_set];rfl) | (simp only [Nat.zero_add];rw [ints_set];rfl)) (zI (zD [1,2,3,8,9] [_,_,_,_,_] Z (zB (zC 1 Z (zE Z (qT Z Z Z (by omega) (by omega)) (zC 1 Z (zH (yL (k+1) ⟨by omega,els_take (by omega) hxk hxe⟩ (by omega) (Sub.sel [1,2,3,8,9] Z) (fun _ h=>by rw [← envP_set (by omega) (by omega)];exact h))))))))))))))))
   replace h29:=zT h29
   have hkl:k=xs.length:=by omega
   have hxA:∀ x∈xs,a.El x:=by rw [hkl,List.take_length] at hxk;exact hxk
   have hEv:EnvA a (envP xs k):=by rw [hkl,envP_all];exact envL_ok hm1 hl4 hxA
   have hEl:=hEv.1;refine yY Z (zD [1,2,3,8] [_,_,_,_] Z (zF (zB (zC 1 Z (zE (v:=.tuple #[i6_ (frB p:Int),i6_ (f.length:Int)]) Z (qK Z Tryz.call106 Z qC (fun w1 hw1=>l2Free_ok f 0 0 p f.length w1 hf (by omega) hP)) (zC 1 Z (zE (v:=i6_ (frB p:Int)) Z (yD Z Z Z) (zE (v:=i6_ (f.length:Int)) Z (yD Z Z Z) (zC 2 Z (zH (zD [1,2,3,8,10] [_,_,_,_,_] Z (zF (zF (zB (zC 2 Z (zE (v:=i6_ (xs.length:Int)) Z (yP Z zX Z (ints_length _) (fun w1 hw1=>Row.own hva hw1)) (zE (v:=.int .u64 (xs.length:Int)) Z (jX .u64 Z xF vX Z (IntWalk.u64_in _ (by omega))) (zE (v:=i6_ ((((frB p) / 2 ^ xs.length:Nat):Int))) Z (OpQ.shr (a:=frB p) (b:=xs.length) Z Z Z (by omega)) (zC 1 Z (zH (zD [1,3,8,57] [_,_,_,_] Z (yF (b:=!(decide (((((frB p) / 2 ^ xs.length:Nat):Int))=(0:Int)))) Z (fun h57=>?_) (fun h57=>?_)))))))))))))))))))))))
   ·
    replace h57:=not_true h57
    replace h57:=zT h57;refine zF (zB (zC 2 Z (zH (zD [6,7] [_,_] Z (qM (xL Z Z Z fun w' hw=>?_))))));refine ⟨?_,hw.below⟩
    have hO:holdO a f xs=none:=holdO_none fun p' hp' hc=>?_
    · rw [(hold_no hO).1,(hold_no hO).2]
    obtain ⟨c1,c2,c3,c4⟩:=hc
    first | omega | exact hxn (c3 _ hxm) | (obtain rfl:p=p':=Option.some.inj (hp.symm.trans hp');omega) | (simp_all;done)
   replace h57:=not_false h57
   replace h57:=zV h57;refine qR (zD [1,3,8] [_,_,_] Z (zF (zB (zE Z (qF (cs:=#[i6_ a.n,str a.set,str a.rel]) 1 Z zZ Z Z zQ) (zC 1 Z (zE Z (qF (cs:=(ints (envP xs k)).toArray) 0 Z uR Z Z (by intro w;rw [show (ints (envP xs k)).toArray.size=4 from by simp [hEl]];exact uJ w)) (zE (v:=bo_ (ev a p (envP xs k))) Z (qK Z Tryz.call107 Z qC (fun w1 hw1=>l2True_ok a f p (envP xs k) w1 hf ha hsa hP hEv)) (zC 2 Z (zH (zD [6,7] [_,_] Z (qM (xL Z Z Z fun w' hw=>?_))))))))))))
   have hO:=holdO_some hp ⟨hv,hl4,hxA,by omega⟩
   exact ⟨by rw [(hold_yes hO).1,(hold_yes hO).2,← envP_all,← hkl],hw.below⟩
  replace hg21:=not_true hg21;refine zM Z (zM Z (zM Z (zC 1 Z (zH (zD [1,2,3,8,25] [_,_,_,_,_] Z (yW Z (zF (zB (zC 2 Z (zH (zD [6,7] [_,_] Z (qM (xL Z Z Z fun w' hw=>?_)))))))))))));refine ⟨?_,hw.below⟩
  have hO:holdO a f xs=none:=holdO_none fun p' hp' hc=>?_
  · rw [(hold_no hO).1,(hold_no hO).2]
  obtain ⟨c1,c2,c3,c4⟩:=hc
  first | omega | exact hxn (c3 _ hxm) | (obtain rfl:p=p':=Option.some.inj (hp.symm.trans hp');omega) | (simp_all;done)
 replace hg16:=not_true hg16;refine zM Z (zM Z (zM Z (zC 2 Z (zM Z (zM Z (zM Z (zC 1 Z (zH (zD [1,2,3,8,25] [_,_,_,_,_] Z (yW Z (zF (zB (zC 2 Z (zH (zD [6,7] [_,_] Z (qM (xL Z Z Z fun w' hw=>?_)))))))))))))))));refine ⟨?_,hw.below⟩
 have hO:holdO a f xs=none:=holdO_none fun p' hp' hc=>?_
 · rw [(hold_no hO).1,(hold_no hO).2]
 obtain ⟨c1,c2,c3,c4⟩:=hc
 first | omega | exact hxn (c3 _ hxm) | (obtain rfl:p=p':=Option.some.inj (hp.symm.trans hp');omega) | (simp_all;done)
end Go.Proofs.YtefiibghfgfdnaaGreatDoor
namespace Go.Proofs.YtefiibghfgfdnaaGreatDoor
open Go.RowKit Go.Wk
set_option linter.unusedSimpArgs false
set_option maxHeartbeats 400000 in
theorem l1Draw_ok (B:Nat) (w0:World) (hs:List (Nat×Obj)) (rp p:Nat) (bv:Value) (L:List Int) (n:Int) (w:World) (hb:∀ w,Own B w0 hs w→Row w bv (u8s L)) (hL8:Bytes8 L) (hL:L.length≤2000) (hn0:0≤n) (hn8:n≤8) (hp:p≤900000) (hw:Own B w0 ((rp,.cells #[bv,.int .i64 (p:Int)] 88 (0,0))::hs) w) :
    Calls Tryz.prog 116 [pt_ rp,i6_ n].toArray w fun en w'=>∃ a:St,∃ p':Nat,en=.returned (vS a)∧((a.n=n∧(a.set.length:Int)=n∧a.rel.length=n.toNat*n.toNat)∧p'≤p+100)∧Own B w0 (((rp,.cells #[bv,.int .i64 (p':Int)] 88 (0,0))::hs)) w':=by
 refine fnStartC (Own B w0 ((rp,.cells #[bv,.int .i64 (p:Int)] 88 (0,0))::hs)) (n:=111) (e:=[(0,pt_ rp),(1,i6_ n)]) Tryz.func116 Z Z Z Z Ends.both hw (zF (qI (jU Z Z Z Z xG fun p4 hp4=>?_)))
 show Ll _ _ (Own _ _ (bk_ p4 #[i6_ 0,str ([]),str ([])] 24::_::hs)) _ _ ((4,pt_ p4)::_) _ _ _;refine zI (zD [0,1,4] [_,_,_] Z (zF (qI (qL 1 Z (zO (v:=.agg #[i6_ n,str ([]),str ([])]) Z (uL (xs:=[.tmp 10]) (vs:=[i6_ n]) Z Z (by kernel_rfl)) (jU Z Z Z Z xG fun p5 hp5=>?_))))))
 show Ll _ _ (Own _ _ (bk_ p5 #[i6_ 0,str ([]),str ([])] 24::_::_::hs)) _ _ ((5,pt_ p5)::_) _ _ _;refine yV (cs':=#[i6_ n,str ([]),str ([])]) (hs':=(bk_ p5 #[i6_ n,str ([]),str ([])] 24::_::_::hs)) 0 Z Z Z Z Z (by kernel_rfl:_=some Tryz.t24) Z Z Z Z Z (zI (zD [0,1,4,5] [_,_,_,_] Z (zF (qI (qL 1 Z (yT (rp:=rp) (RT:=88) (p:=p) (bv:=bv) (hs:=hs) (ok:=fun (k:Int) p'=>0≤k∧(1≤(8:Int)→k<8)∧p'=p+1) (v:=fun (k:Int)=>i6_ k) (new:=fun (k:Int)=>[]) (xs:=[.tmp 12,.const (i6_ 8)]) (vs:=[pt_ rp,i6_ 8]) ([bk_ p5 #[i6_ n,str ([]),str ([])] 24,bk_ p4 #[i6_ 0,str ([]),str ([])] 24]:List (Nat×Obj)) Z Z Z Z jQ Z (fun w1 hw1=>(pick_ok B w0 (([bk_ p5 #[i6_ n,str ([]),str ([])] 24,bk_ p4 #[i6_ 0,str ([]),str ([])] 24]:List (Nat×Obj))++hs) rp p bv L 8 w1 (fun w2 hw2=>hb w2 (qG (f:=([bk_ p5 #[i6_ n,str ([]),str ([])] 24,bk_ p4 #[i6_ 0,str ([]),str ([])] 24]:List (Nat×Obj))) hw2)) hL8 hL (by omega) hw1).mono fun en w' ⟨k',p',h1,h2,h3⟩=>⟨k',p',h1,h2,h3⟩) fun k13 p_13 hKp_13=>?_))))))
 show Ll _ _ (Own _ _ (_::_::_::hs)) _ _ ((13,i6_ k13)::_) _ _ _
 obtain ⟨h0k13,h1k13,hep_13⟩:=hKp_13
 try have hltk13:=h1k13 (by first | omega | (split <;> omega) | decide);refine qL 1 Z (zI (zD [0,1,4,5,6] [_,_,_,_,_] Z (zF (zF (zB (zC 1 Z (zH (zD [0,1,4,5,6,7] [_,_,_,_,_,_] Z (qW (xM (σ:=Nat×List UInt8×List UInt8×Nat) (fun ⟨k,S,R,p0⟩=>(k:Int)≤n∧S.length=k∧R.length=k*n.toNat∧p0≤p+2+k*9) (fun ⟨k,S,R,p0⟩=>[(0,pt_ rp),(1,i6_ n),(4,pt_ p4),(5,pt_ p5),(6,i6_ k13),(7,i6_ (k:Int))]) (fun ⟨k,S,R,p0⟩=>Own B w0 (bk_ p5 #[i6_ n,str S,str R] 24::bk_ p4 #[i6_ 0,str ([]),str ([])] 24::bk_ rp #[bv,i6_ (p0:Int)] 88::hs)) (fun ⟨k,S,R,p0⟩=>(n - k).toNat) (0,[],[],p_13) ⟨by omega,rfl,by simp,by omega⟩ (Sub.sel [0,1,4,5,6,7] Z) (fun _ h=>h) ?_))))))))))
 rintro ⟨k,S,R,p0⟩ ⟨hk,hS,hR,hp0⟩
 dsimp only
 have hkn:k*n.toNat≤8*8:=Nat.mul_le_mul (by omega) (by omega);refine zF (zF (zB (zC 3 Z (zH (zD [0,1,4,5,6,7,16] [_,_,_,_,_,_,_] Z (yQ Z (fun h16=>?_) (fun h16=>?_)))))))
 ·
  refine qR (zD [0,1,4,5,6,7] [_,_,_,_,_,_] Z (zF (qW (zF (vB (σ:=List UInt8×Nat) (fun ⟨S2,p2⟩=>S2.length=k+1∧p2≤p0+1) (fun ⟨S2,p2⟩=>[(0,pt_ rp),(1,i6_ n),(4,pt_ p4),(5,pt_ p5),(6,i6_ k13),(7,i6_ (k:Int))]) (fun ⟨S2,p2⟩=>Own B w0 (bk_ p5 #[i6_ n,str S2,str R] 24::bk_ p4 #[i6_ 0,str ([]),str ([])] 24::bk_ rp #[bv,i6_ (p2:Int)] 88::hs)) ?_ ?_)))))
  ·
   refine jW (S:=Own B w0 [bk_ p4 #[i6_ 0,str ([]),str ([])] 24]) (.take 0 (.take 2 (.take 3 (.take 4 (.take 5 (.two 1 (.one 6 (.take 7 (.take 8 (.one 9 (.take 10 (.take 11 (.one 12 .done))))))) 6 (.take 7 (.take 8 (.two 1 (.one 9 (.take 10 (.take 11 (.one 12 .done)))) 9 (.one 1 (.take 10 (.take 11 (.one 12 .done))))))))))))) yC (fun _ h=>h.drawn) (by kernel_rfl) (qA Z Z Z Z Z (zG Z zY Z qO Z Z) (pk [1] Z Z) (vK 3 Z (pk [1] Z Z) (Lu.bool fun b23 hg23=>?_)))
   cases b23
   ·
    replace hg23:=zT hg23;refine Lu.pass Z Z Z Z (pk [1] Z Z) (xI Z Z ?_ ?_)
    ·
     refine zO Z (zS 0 Z yH Z Z Z) (zI (zL (pk [1] Z Z) ?_));refine qE Z (vW Z (zI (zL (pk [1] Z Z) ?_)));refine Lu.pass Z Z Z Z (pk [1] Z Z) (vK 1 Z (pk [1] Z Z) (qE Z (zO (v:=str (if false then [49] else [48])) Z (qK Z jF Z qC (fun w1 hw1=>bitD_ok false w1 )) (zI (zL (pk [1] Z Z) ?_)))));refine qA Z Z Z Z Z (yJ Z Z Z (by first | (rw [bit_len];omega) | omega)) (pk [1] Z Z) (qA Z Z Z Z Z (zG Z zY Z qO Z Z) (pk [1] Z Z) (qE Z (qU (v:=str (S++(if false then [49] else [48]))) (hs':=(bk_ p5 #[i6_ n,str (S++(if false then [49] else [48])),str R] 24::_::_::hs)) 0 Z Z Z Z Z Z qO Z (by simp) Z (zI (zL (pk [1] Z Z) ?_)))));refine yU (qX (S++(if false then [49] else [48]),p0) ⟨by (try dsimp only);rw [zN];first | (rw [bit_len];omega) | (simp;omega),by (try dsimp only);omega⟩ (Sub.sel [0,1,4,5,6,7] Z) (fun _ h=>h))
    refine vW Z (zI (zL (pk [1] Z Z) ?_));refine Lu.pass Z Z Z Z (pk [1] Z Z) (vK 1 Z (pk [1] Z Z) (xI Z Z ?_ ?_))
    ·
     refine zO Z (zS 0 Z yH Z Z Z) (zI (zL (pk [1] Z Z) ?_));refine qE Z (zO (v:=str (if false then [49] else [48])) Z (qK Z jF Z qC (fun w1 hw1=>bitD_ok false w1 )) (zI (zL (pk [1] Z Z) ?_)));refine qA Z Z Z Z Z (yJ Z Z Z (by first | (rw [bit_len];omega) | omega)) (pk [1] Z Z) (qA Z Z Z Z Z (zG Z zY Z qO Z Z) (pk [1] Z Z) (qE Z (qU (v:=str (S++(if false then [49] else [48]))) (hs':=(bk_ p5 #[i6_ n,str (S++(if false then [49] else [48])),str R] 24::_::_::hs)) 0 Z Z Z Z Z Z qO Z (by simp) Z (zI (zL (pk [1] Z Z) ?_)))));refine yU (qX (S++(if false then [49] else [48]),p0) ⟨by (try dsimp only);rw [zN];first | (rw [bit_len];omega) | (simp;omega),by (try dsimp only);omega⟩ (Sub.sel [0,1,4,5,6,7] Z) (fun _ h=>h))
    refine zO (v:=str (if false then [49] else [48])) Z (qK Z jF Z qC (fun w1 hw1=>bitD_ok false w1 )) (zI (zL (pk [1] Z Z) ?_));refine qE Z (zO Z (zS 0 Z yH Z Z Z) (zI (zL (pk [1] Z Z) ?_)));refine qA Z Z Z Z Z (yJ Z Z Z (by first | (rw [bit_len];omega) | omega)) (pk [1] Z Z) (qA Z Z Z Z Z (zG Z zY Z qO Z Z) (pk [1] Z Z) (qE Z (qU (v:=str (S++(if false then [49] else [48]))) (hs':=(bk_ p5 #[i6_ n,str (S++(if false then [49] else [48])),str R] 24::_::_::hs)) 0 Z Z Z Z Z Z qO Z (by simp) Z (zI (zL (pk [1] Z Z) ?_)))));refine yU (qX (S++(if false then [49] else [48]),p0) ⟨by (try dsimp only);rw [zN];first | (rw [bit_len];omega) | (simp;omega),by (try dsimp only);omega⟩ (Sub.sel [0,1,4,5,6,7] Z) (fun _ h=>h))
   replace hg23:=zV hg23;refine vK 1 Z (pk [1] Z Z) (xI Z Z ?_ ?_)
   ·
    refine zO Z (zS 0 Z yH Z Z Z) (zI (zL (pk [1] Z Z) ?_));refine qE Z (yT (rp:=rp) (RT:=88) (p:=p0) (bv:=bv) (hs:=hs) (ok:=fun (k:Int) p'=>0≤k∧(1≤(3:Int)→k<3)∧p'=p0+1) (v:=fun (k:Int)=>i6_ k) (new:=fun (k:Int)=>[]) (xs:=[.tmp 24,.const (i6_ 3)]) (vs:=[pt_ rp,i6_ 3]) ([bk_ p5 #[i6_ n,str S,str R] 24,bk_ p4 #[i6_ 0,str ([]),str ([])] 24]:List (Nat×Obj)) Z Z Z Z jQ Z (fun w1 hw1=>(pick_ok B w0 (([bk_ p5 #[i6_ n,str S,str R] 24,bk_ p4 #[i6_ 0,str ([]),str ([])] 24]:List (Nat×Obj))++hs) rp p0 bv L 3 w1 (fun w2 hw2=>hb w2 (qG (f:=([bk_ p5 #[i6_ n,str S,str R] 24,bk_ p4 #[i6_ 0,str ([]),str ([])] 24]:List (Nat×Obj))) hw2)) hL8 hL (by omega) hw1).mono fun en w' ⟨k',p',h1,h2,h3⟩=>⟨k',p',h1,h2,h3⟩) fun k25 p_25 hKp_25=>?_)
    show Ll _ _ (Own _ _ (_::_::_::hs)) _ _ ((25,i6_ k25)::_) _ _ _
    obtain ⟨h0k25,h1k25,hep_25⟩:=hKp_25
    try have hltk25:=h1k25 (by first | omega | (split <;> omega) | decide);refine zI (zL (pk [1] Z Z) ?_);refine vK 2 Z (pk [1] Z Z) (qE Z (zO (v:=str ((if decide (k25=(0:Int)) then [49] else [48]))) Z (qK Z jF Z qC (fun w1 hw1=>bitD_ok (decide (k25=(0:Int))) w1 )) (zI (zL (pk [1] Z Z) ?_))));refine qA Z Z Z Z Z (yJ Z Z Z (by first | (rw [bit_len];omega) | omega)) (pk [1] Z Z) (qA Z Z Z Z Z (zG Z zY Z qO Z Z) (pk [1] Z Z) (qE Z (qU (v:=str (S++((if decide (k25=(0:Int)) then [49] else [48])))) (hs':=(bk_ p5 #[i6_ n,str (S++((if decide (k25=(0:Int)) then [49] else [48]))),str R] 24::_::_::hs)) 0 Z Z Z Z Z Z qO Z (by simp) Z (zI (zL (pk [1] Z Z) ?_)))));refine yU (qX ((S++((if decide (k25=(0:Int)) then [49] else [48])),p_25)) ⟨by (try dsimp only);rw [zN];first | (rw [bit_len];omega) | (simp;omega),by (try dsimp only);omega⟩ (Sub.sel [0,1,4,5,6,7] Z) (fun _ h=>h))
   refine yT (rp:=rp) (RT:=88) (p:=p0) (bv:=bv) (hs:=hs) (ok:=fun (k:Int) p'=>0≤k∧(1≤(3:Int)→k<3)∧p'=p0+1) (v:=fun (k:Int)=>i6_ k) (new:=fun (k:Int)=>[]) (xs:=[.tmp 24,.const (i6_ 3)]) (vs:=[pt_ rp,i6_ 3]) ([bk_ p5 #[i6_ n,str S,str R] 24,bk_ p4 #[i6_ 0,str ([]),str ([])] 24]:List (Nat×Obj)) Z Z Z Z jQ Z (fun w1 hw1=>(pick_ok B w0 (([bk_ p5 #[i6_ n,str S,str R] 24,bk_ p4 #[i6_ 0,str ([]),str ([])] 24]:List (Nat×Obj))++hs) rp p0 bv L 3 w1 (fun w2 hw2=>hb w2 (qG (f:=([bk_ p5 #[i6_ n,str S,str R] 24,bk_ p4 #[i6_ 0,str ([]),str ([])] 24]:List (Nat×Obj))) hw2)) hL8 hL (by omega) hw1).mono fun en w' ⟨k',p',h1,h2,h3⟩=>⟨k',p',h1,h2,h3⟩) fun k25_1 p_25_1 hKp_25_1=>?_
   show Ll _ _ (Own _ _ (_::_::_::hs)) _ _ ((25,i6_ k25_1)::_) _ _ _
   obtain ⟨h0k25_1,h1k25_1,hep_25_1⟩:=hKp_25_1
   try have hltk25_1:=h1k25_1 (by first | omega | (split <;> omega) | decide);refine zI (zL (pk [1] Z Z) ?_);refine vK 2 Z (pk [1] Z Z) (xI Z Z ?_ ?_)
   ·
    refine zO Z (zS 0 Z yH Z Z Z) (zI (zL (pk [1] Z Z) ?_));refine qE Z (zO (v:=str ((if decide (k25_1=(0:Int)) then [49] else [48]))) Z (qK Z jF Z qC (fun w1 hw1=>bitD_ok (decide (k25_1=(0:Int))) w1 )) (zI (zL (pk [1] Z Z) ?_)));refine qA Z Z Z Z Z (yJ Z Z Z (by first | (rw [bit_len];omega) | omega)) (pk [1] Z Z) (qA Z Z Z Z Z (zG Z zY Z qO Z Z) (pk [1] Z Z) (qE Z (qU (v:=str (S++((if decide (k25_1=(0:Int)) then [49] else [48])))) (hs':=(bk_ p5 #[i6_ n,str (S++((if decide (k25_1=(0:Int)) then [49] else [48]))),str R] 24::_::_::hs)) 0 Z Z Z Z Z Z qO Z (by simp) Z (zI (zL (pk [1] Z Z) ?_)))));refine yU (qX ((S++((if decide (k25_1=(0:Int)) then [49] else [48])),p_25_1)) ⟨by (try dsimp only);rw [zN];first | (rw [bit_len];omega) | (simp;omega),by (try dsimp only);omega⟩ (Sub.sel [0,1,4,5,6,7] Z) (fun _ h=>h))
   refine zO (v:=str ((if decide (k25_1=(0:Int)) then [49] else [48]))) Z (qK Z jF Z qC (fun w1 hw1=>bitD_ok (decide (k25_1=(0:Int))) w1 )) (zI (zL (pk [1] Z Z) ?_));refine qE Z (zO Z (zS 0 Z yH Z Z Z) (zI (zL (pk [1] Z Z) ?_)));refine qA Z Z Z Z Z (yJ Z Z Z (by first | (rw [bit_len];omega) | omega)) (pk [1] Z Z) (qA Z Z Z Z Z (zG Z zY Z qO Z Z) (pk [1] Z Z) (qE Z (qU (v:=str (S++((if decide (k25_1=(0:Int)) then [49] else [48])))) (hs':=(bk_ p5 #[i6_ n,str (S++((if decide (k25_1=(0:Int)) then [49] else [48]))),str R] 24::_::_::hs)) 0 Z Z Z Z Z Z qO Z (by simp) Z (zI (zL (pk [1] Z Z) ?_)))));refine yU (qX ((S++((if decide (k25_1=(0:Int)) then [49] else [48])),p_25_1)) ⟨by (try dsimp only);rw [zN];first | (rw [bit_len];omega) | (simp;omega),by (try dsimp only);omega⟩ (Sub.sel [0,1,4,5,6,7] Z) (fun _ h=>h))
  rintro ⟨S2,p2⟩ ⟨hS2,hp2⟩
  dsimp only;refine zD [0,1,4,5,6,7] [_,_,_,_,_,_] Z (zF (zB (zC 1 Z (zH (zD [0,1,4,5,6,7,8] [_,_,_,_,_,_,_] Z (qW (xM (σ:=Nat×List UInt8×Nat) (fun ⟨j,R1,p1⟩=>(j:Int)≤n∧R1.length=k*n.toNat+j∧p1≤p+3+k*9+j) (fun ⟨j,R1,p1⟩=>[(0,pt_ rp),(1,i6_ n),(4,pt_ p4),(5,pt_ p5),(6,i6_ k13),(7,i6_ (k:Int)),(8,i6_ (j:Int))]) (fun ⟨j,R1,p1⟩=>Own B w0 (bk_ p5 #[i6_ n,str S2,str R1] 24::bk_ p4 #[i6_ 0,str ([]),str ([])] 24::bk_ rp #[bv,i6_ (p1:Int)] 88::hs)) (fun ⟨j,R1,p1⟩=>(n - j).toNat) (0,R,p2) ⟨by omega,by omega,by omega⟩ (Sub.sel [0,1,4,5,6,7,8] Z) (fun _ h=>h) ?_)))))))
  rintro ⟨j,R1,p1⟩ ⟨hj,hR1,hp1⟩
  dsimp only
  have hj8:j≤8:=by omega
  refine zF (zF (zB (zC 3 Z (zH (zD [0,1,4,5,6,7,8,33] [_,_,_,_,_,_,_,_] Z (yQ Z (fun h33=>?_) (fun h33=>?_)))))))
  ·
   refine qR (zD [0,1,4,5,6,7,8] [_,_,_,_,_,_,_] Z (zF (qW (zF (qI (qL 1 Z (yT (rp:=rp) (RT:=88) (p:=p1) (bv:=bv) (hs:=hs) (ok:=fun (k:Int) p'=>0≤k∧(1≤(3:Int)→k<3)∧p'=p1+1) (v:=fun (k:Int)=>i6_ k) (new:=fun (k:Int)=>[]) (xs:=[.tmp 36,.const (i6_ 3)]) (vs:=[pt_ rp,i6_ 3]) ([bk_ p5 #[i6_ n,str S2,str R1] 24,bk_ p4 #[i6_ 0,str ([]),str ([])] 24]:List (Nat×Obj)) Z Z Z Z jQ Z (fun w1 hw1=>(pick_ok B w0 (([bk_ p5 #[i6_ n,str S2,str R1] 24,bk_ p4 #[i6_ 0,str ([]),str ([])] 24]:List (Nat×Obj))++hs) rp p1 bv L 3 w1 (fun w2 hw2=>hb w2 (qG (f:=([bk_ p5 #[i6_ n,str S2,str R1] 24,bk_ p4 #[i6_ 0,str ([]),str ([])] 24]:List (Nat×Obj))) hw2)) hL8 hL (by omega) hw1).mono fun en w' ⟨k',p',h1,h2,h3⟩=>⟨k',p',h1,h2,h3⟩) fun k37 p_37 hKp_37=>?_)))))))
   show Ll _ _ (Own _ _ (_::_::_::hs)) _ _ ((37,i6_ k37)::_) _ _ _
   obtain ⟨h0k37,h1k37,hep_37⟩:=hKp_37
   try have hltk37:=h1k37 (by first | omega | (split <;> omega) | decide);refine qL 2 Z (zI (zD [0,1,4,5,6,7,8,9] [_,_,_,_,_,_,_,_] Z (zF (zF (zB (zC 1 Z (zH (zD [0,1,4,5,6,7,8,9,39] [_,_,_,_,_,_,_,_,_] Z (vB (σ:=Bool) (fun b9=>True) (fun b9=>[(0,pt_ rp),(1,i6_ n),(4,pt_ p4),(5,pt_ p5),(6,i6_ k13),(7,i6_ (k:Int)),(8,i6_ (j:Int)),(9,bo_ b9)]) (fun b9=>Own B w0 (bk_ p5 #[i6_ n,str S2,str R1] 24::bk_ p4 #[i6_ 0,str ([]),str ([])] 24::bk_ rp #[bv,i6_ (p_37:Int)] 88::hs)) ?_ ?_)))))))))
   ·
    refine qW (zF (zB (zC 2 Z (zH (zD [0,1,4,5,6,7,8,9,39,40] [_,_,_,_,_,_,_,_,_,_] Z (yQ Z (fun h40=>?_) (fun h40=>?_)))))))
    ·
     refine zB (zC 2 Z (zE Z (qT Z Z Z (by omega) (by omega)) (zC 1 Z (zE (v:=i6_ (((k:Int)+(1:Int)) % n)) Z (OpQ.rem Z Z Z (by omega) (by omega)) (zC 2 Z (zH (qX (decide ((j:Int)=(((k:Int)+(1:Int)) % n))) trivial (Sub.sel [0,1,4,5,6,7,8,9] Z) (fun _ h=>h))))))))
    refine zF (zB (zC 2 Z (zH (zD [0,1,4,5,6,7,8,9,39,48] [_,_,_,_,_,_,_,_,_,_] Z (yQ Z (fun h48=>?_) (fun h48=>?_))))))
    ·
     refine zB (zC 4 Z (zH (qX (decide ((k:Int)<(j:Int))) trivial (Sub.sel [0,1,4,5,6,7,8,9] Z) (fun _ h=>h))))
    refine zF (zB (zC 2 Z (zH (zD [0,1,4,5,6,7,8,9,39,53] [_,_,_,_,_,_,_,_,_,_] Z (yQ Z (fun h53=>?_) (fun h53=>?_))))))
    ·
     refine zB (zC 4 Z (xD fun b58 hg58=>?_))
     cases b58
     ·
      replace hg58:=not_false hg58
      replace hg58:=zV hg58;refine zM Z (zM Z (zM Z (zM Z (zM Z (zC 2 Z (zH (qX (false) trivial (Sub.sel [0,1,4,5,6,7,8,9] Z) (fun _ h=>h))))))))
     replace hg58:=not_true hg58
     replace hg58:=zT hg58;refine zC 2 Z (zE Z (qT Z Z Z (by omega) (by omega)) (zE (v:=i6_ (((k:Int)+(j:Int)) % (2:Int))) Z (OpQ.rem Z Z Z (by omega) (by decide)) (zC 3 Z (zH (qX (decide ((((k:Int)+(j:Int)) % (2:Int))=(1:Int))) trivial (Sub.sel [0,1,4,5,6,7,8,9] Z) (fun _ h=>h))))))
    refine zF (zB (zC 2 Z (zH (zD [0,1,4,5,6,7,8,9,39,65] [_,_,_,_,_,_,_,_,_,_] Z (yQ Z (fun h65=>?_) (fun h65=>?_))))))
    ·
     refine zB (zC 4 Z (xD fun b70 hg70=>?_))
     cases b70
     ·
      replace hg70:=zT hg70;refine zC 2 Z (zE Z (qT Z Z Z (by omega) (by omega)) (zC 3 Z (xD fun b76 hg76=>?_)))
      cases b76
      ·
       replace hg76:=zT hg76;refine zC 2 Z (zE Z (qT Z Z Z (by omega) (by omega)) (zC 3 Z (zH (qX (decide ((k:Int)=((j:Int)+(1:Int)))) trivial (Sub.sel [0,1,4,5,6,7,8,9] Z) (fun _ h=>h)))))
      replace hg76:=zV hg76;refine zM Z (zM Z (zM Z (zM Z (zC 2 Z (zH (qX (true) trivial (Sub.sel [0,1,4,5,6,7,8,9] Z) (fun _ h=>h)))))))
     replace hg70:=zV hg70;refine zM Z (zM Z (zM Z (zM Z (zC 2 Z (zM Z (zM Z (zM Z (zM Z (zC 2 Z (zH (qX (true) trivial (Sub.sel [0,1,4,5,6,7,8,9] Z) (fun _ h=>h))))))))))))
    refine zF (zB (zC 2 Z (zH (zD [0,1,4,5,6,7,8,9,39,82] [_,_,_,_,_,_,_,_,_,_] Z (yQ Z (fun h82=>?_) (fun h82=>?_))))))
    ·
     refine zB (zC 2 Z (xD fun b85 hg85=>?_))
     cases b85
     ·
      replace hg85:=zT hg85;refine zM Z (zM Z (zM Z (zC 2 Z (zH (qX (false) trivial (Sub.sel [0,1,4,5,6,7,8,9] Z) (fun _ h=>h))))))
     replace hg85:=zV hg85;refine zC 5 Z (zH (qX (!(decide ((k:Int)=(j:Int)))) trivial (Sub.sel [0,1,4,5,6,7,8,9] Z) (fun _ h=>h)))
    refine zF (zB (zC 2 Z (zH (zD [0,1,4,5,6,7,8,9,90] [_,_,_,_,_,_,_,_,_] Z (yQ Z (fun h90=>?_) (fun h90=>?_))))))
    ·
     refine zB (zC 1 Z (zE Z (qT Z Z Z (by omega) (by omega)) (zE (v:=i6_ (((k:Int)+(1:Int)) / (2:Int))) Z (OpQ.quo Z Z Z (by omega) (by omega) (by decide)) (zC 1 Z (zE Z (qT Z Z Z (by omega) (by omega)) (zE (v:=i6_ (((j:Int)+(1:Int)) / (2:Int))) Z (OpQ.quo Z Z Z (by omega) (by omega) (by decide)) (zC 2 Z (xD fun b99 hg99=>?_))))))))
     cases b99
     ·
      replace hg99:=zT hg99;refine zM Z (zM Z (zM Z (zC 2 Z (zH (qX (false) trivial (Sub.sel [0,1,4,5,6,7,8,9] Z) (fun _ h=>h))))))
     replace hg99:=zV hg99;refine zC 5 Z (zH (qX (!(decide ((k:Int)=(j:Int)))) trivial (Sub.sel [0,1,4,5,6,7,8,9] Z) (fun _ h=>h)))
    refine qR (qX (decide (k37=(0:Int))) trivial (Sub.sel [0,1,4,5,6,7,8,9] Z) (fun _ h=>h))
   rintro b9 _;refine zD [0,1,4,5,6,7,8,9] [_,_,_,_,_,_,_,_] Z (jW (S:=Own B w0 [bk_ p4 #[i6_ 0,str ([]),str ([])] 24,bk_ rp #[bv,i6_ (p_37:Int)] 88]) (.take 0 (.take 2 (.two 1 (.one 3 (.take 4 (.take 5 (.one 6 .done)))) 3 (.one 1 (.take 4 (.take 5 (.one 6 .done))))))) yC (fun _ h=>h.drawn) (by kernel_rfl) (qA Z Z Z Z Z (zG Z zY Z qO Z Z) (pk [1,2] Z Z) (vK 1 Z (pk [1,2] Z Z) (xI Z Z ?_ ?_))))
   ·
    refine zO Z (zS 0 Z yH Z Z Z) (zI (zL (pk [1,2] Z Z) ?_));refine qE Z (zO (v:=str (if b9 then [49] else [48])) Z (qK Z jF Z qC (fun w1 hw1=>bitD_ok b9 w1 )) (zI (zL (pk [1,2] Z Z) ?_)));refine qA Z Z Z Z Z (yJ Z Z Z (by first | (rw [bit_len];omega) | omega)) (pk [1,2] Z Z) (qA Z Z Z Z Z (zG Z zY Z qO Z Z) (pk [1,2] Z Z) (qE Z (qU (v:=str (R1++(if b9 then [49] else [48]))) (hs':=(bk_ p5 #[i6_ n,str S2,str (R1++(if b9 then [49] else [48]))] 24::_::_::hs)) 0 Z Z Z Z Z Z qO Z (by simp) Z (zI (zL (pk [1,2] Z Z) ?_)))));refine yU (zD [0,1,4,5,6,7,8] [_,_,_,_,_,_,_] Z (zB (zC 1 Z (zE Z (qT Z Z Z (by omega) (by omega)) (zC 1 Z (zH (yL (j+1,R1++(if b9 then [49] else [48]),p_37) ⟨by omega,by (try dsimp only);rw [zN,bit_len];omega,by (try dsimp only);omega⟩ (by omega) (Sub.sel [0,1,4,5,6,7,8] Z) (fun _ h=>h))))))))
   refine zO (v:=str (if b9 then [49] else [48])) Z (qK Z jF Z qC (fun w1 hw1=>bitD_ok b9 w1 )) (zI (zL (pk [1,2] Z Z) ?_));refine qE Z (zO Z (zS 0 Z yH Z Z Z) (zI (zL (pk [1,2] Z Z) ?_)));refine qA Z Z Z Z Z (yJ Z Z Z (by first | (rw [bit_len];omega) | omega)) (pk [1,2] Z Z) (qA Z Z Z Z Z (zG Z zY Z qO Z Z) (pk [1,2] Z Z) (qE Z (qU (v:=str (R1++(if b9 then [49] else [48]))) (hs':=(bk_ p5 #[i6_ n,str S2,str (R1++(if b9 then [49] else [48]))] 24::_::_::hs)) 0 Z Z Z Z Z Z qO Z (by simp) Z (zI (zL (pk [1,2] Z Z) ?_)))));refine yU (zD [0,1,4,5,6,7,8] [_,_,_,_,_,_,_] Z (zB (zC 1 Z (zE Z (qT Z Z Z (by omega) (by omega)) (zC 1 Z (zH (yL (j+1,R1++(if b9 then [49] else [48]),p_37) ⟨by omega,by (try dsimp only);rw [zN,bit_len];omega,by (try dsimp only);omega⟩ (by omega) (Sub.sel [0,1,4,5,6,7,8] Z) (fun _ h=>h))))))))
  refine yY Z (zD [0,1,4,5,6,7] [_,_,_,_,_,_] Z (zB (zC 1 Z (zE Z (qT Z Z Z (by omega) (by omega)) (zC 1 Z (zH (yL (k+1,S2,R1,p1) ⟨by omega,by (try dsimp only);omega,by (try dsimp only);rw [Nat.add_mul,Nat.one_mul];omega,by (try dsimp only);omega⟩ (by omega) (Sub.sel [0,1,4,5,6,7] Z) (fun _ h=>h))))))))
 refine yY Z (zD [4,5] [_,_] Z (zF (qI (zO Z (qF (cs:=#[i6_ n,str S,str R]) 0 Z zZ Z Z zQ) (yV (cs':=#[i6_ n,str S,str R]) (hs':=(_::bk_ p4 #[i6_ n,str S,str R] 24::_::hs)) 1 Z Z Z Z Z (by kernel_rfl:_=some Tryz.t24) Z Z Z Z Z (zI (zD [4] [_] Z (qM (Kt.endBox (cs:=#[i6_ n,str S,str R]) 1 Z Z Z zZ zQ fun w' hw=>?_)))))))))
 exact ⟨⟨n,S,R⟩,p0,rfl,⟨⟨rfl,by dsimp only;omega,by dsimp only;rw [hR,show k=n.toNat from by omega]⟩,by omega⟩,hw.sub (qJ _ (qJ _ (zA _ (zW _))))⟩
set_option maxHeartbeats 400000 in
theorem l1Some_ok (B:Nat) (w0:World) (hs:List (Nat×Obj)) (rp p:Nat) (bv:Value) (L:List Int) (w:World) (hb:∀ w,Own B w0 hs w→Row w bv (u8s L)) (hL8:Bytes8 L) (hL:L.length≤2000) (hp:p≤800000) (hw:Own B w0 ((rp,.cells #[bv,.int .i64 (p:Int)] 88 (0,0))::hs) w) :
    Calls Tryz.prog 112 [pt_ rp].toArray w fun en w'=>∃ a:St,∃ p':Nat,en=.returned (vS a)∧((a.Fine∧a.n≤5)∧p'≤p+200)∧Own B w0 (((rp,.cells #[bv,.int .i64 (p':Int)] 88 (0,0))::hs)) w':=by
 refine fnStartC (Own B w0 ((rp,.cells #[bv,.int .i64 (p:Int)] 88 (0,0))::hs)) (n:=8) (e:=[(0,pt_ rp)]) Tryz.func112 Z Z Z Z Ends.both hw (zF (qI (jU Z Z Z Z xG fun p2 hp2=>?_)))
 show Ll _ _ (Own _ _ (bk_ p2 #[i6_ 0,str ([]),str ([])] 24::_::hs)) _ _ ((2,pt_ p2)::_) _ _ _;refine zI (zD [0,2] [_,_] Z (zF (qI (qL 2 Z (yN (xs:=[.const (i6_ 3),.const (i6_ 4),.const (i6_ 2),.const (i6_ 1),.const (i6_ 5),.const (i6_ 3)]) (vs:=[i6_ 3,i6_ 4,i6_ 2,i6_ 1,i6_ 5,i6_ 3]) yI Z Z Z Z Z Z (by decide) Z fun p5 hp5=>(yT (rp:=rp) (RT:=88) (p:=p) (bv:=bv) (hs:=hs) (ok:=fun (v:Int) p'=>v∈([3,4,2,1,5,3])∧p'=p+1) (v:=fun (v:Int)=>i6_ v) (new:=fun (v:Int)=>[]) (xs:=[.tmp 4,.tmp 5]) (vs:=[pt_ rp,sl_ p5 6 6]) ([bk_ p5 #[i6_ 3,i6_ 4,i6_ 2,i6_ 1,i6_ 5,i6_ 3] 3,bk_ p2 #[i6_ 0,str ([]),str ([])] 24]:List (Nat×Obj)) Z Z Z Z uN Z (fun w1 hw1=>(num_ok B w0 (([bk_ p5 #[i6_ 3,i6_ 4,i6_ 2,i6_ 1,i6_ 5,i6_ 3] 3,bk_ p2 #[i6_ 0,str ([]),str ([])] 24]:List (Nat×Obj))++hs) rp p bv L (sl_ p5 6 6) ([3,4,2,1,5,3]) w1 (fun w2 hw2=>hb w2 (qG (f:=([bk_ p5 #[i6_ 3,i6_ 4,i6_ 2,i6_ 1,i6_ 5,i6_ 3] 3,bk_ p2 #[i6_ 0,str ([]),str ([])] 24]:List (Nat×Obj))) hw2)) hL8 hL (fun w2 h2=>(yX h2 (i:=0) Z (n:=6) (cap:=6) (vs:=ints [3,4,2,1,5,3]) Z Z (by decide))) (by simp) (by omega) hw1).mono fun en w' ⟨v',p',h1,h2,h3⟩=>⟨v',p',h1,h2,h3⟩) fun v6 p_6 hKp_6=>?_))))))
 show Ll _ _ (Own _ _ (_::_::_::hs)) _ _ ((6,i6_ v6)::_) _ _ _
 obtain ⟨hmv6,hep_6⟩:=hKp_6
 have hvv6:1≤v6∧v6≤5:=by simp at hmv6;omega
 have hv6:1≤v6∧v6≤5:=by simp at hmv6;omega
 refine yT (rp:=rp) (RT:=88) (p:=p_6) (bv:=bv) (hs:=hs) (ok:=fun (a:St) p'=>(a.n=v6∧(a.set.length:Int)=v6∧a.rel.length=v6.toNat*v6.toNat)∧p'≤p_6+100) (v:=fun (a:St)=>vS a) (new:=fun (a:St)=>[]) (xs:=[.tmp 3,.tmp 6]) (vs:=[pt_ rp,i6_ v6]) ([bk_ p5 #[i6_ 3,i6_ 4,i6_ 2,i6_ 1,i6_ 5,i6_ 3] 3,bk_ p2 #[i6_ 0,str ([]),str ([])] 24]:List (Nat×Obj)) Z Z Z Z Tryz.call116 Z (fun w1 hw1=>(l1Draw_ok B w0 (([bk_ p5 #[i6_ 3,i6_ 4,i6_ 2,i6_ 1,i6_ 5,i6_ 3] 3,bk_ p2 #[i6_ 0,str ([]),str ([])] 24]:List (Nat×Obj))++hs) rp p_6 bv L v6 w1 (fun w2 hw2=>hb w2 (qG (f:=([bk_ p5 #[i6_ 3,i6_ 4,i6_ 2,i6_ 1,i6_ 5,i6_ 3] 3,bk_ p2 #[i6_ 0,str ([]),str ([])] 24]:List (Nat×Obj))) hw2)) hL8 hL (by omega) (by omega) (by omega) hw1).mono fun en w' ⟨a',p',h1,h2,h3⟩=>⟨a',p',h1,h2,h3⟩) fun a7 p_7 hKp_7=>?_
 show Ll _ _ (Own _ _ (_::_::_::hs)) _ _ ((7,vS a7)::_) _ _ _
 obtain ⟨⟨hna7,hsa7,hra7⟩,hep_7⟩:=hKp_7;refine yV (cs':=#[i6_ a7.n,str a7.set,str a7.rel]) (hs':=(_::bk_ p2 #[i6_ a7.n,str a7.set,str a7.rel] 24::_::hs)) 1 Z Z Z Z Z (by kernel_rfl:_=some Tryz.t24) Z Z Z Z Z (zI (zD [2] [_] Z (qM (Kt.endBox (cs:=#[i6_ a7.n,str a7.set,str a7.rel]) 1 Z Z Z zZ zQ fun w' hw=>?_))))
 exact ⟨a7,p_7,rfl,⟨⟨⟨by omega,by omega,by omega,by rw [hra7,hna7];exact sq_cast (by omega)⟩,by omega⟩,by omega⟩,hw.sub (qJ _ (qJ _ (zA _ (zW _))))⟩
set_option maxHeartbeats 400000 in
theorem shuffle_ok (B:Nat) (w0:World) (hs:List (Nat×Obj)) (rp p:Nat) (bv:Value) (L:List Int) (n:Int) (w:World) (hb:∀ w,Own B w0 hs w→Row w bv (u8s L)) (hL8:Bytes8 L) (hL:L.length≤2000) (hn0:0≤n) (hn8:n≤8) (hp:p≤900000) (hw:Own B w0 ((rp,.cells #[bv,.int .i64 (p:Int)] 88 (0,0))::hs) w) :
    Calls Tryz.prog 114 [pt_ rp,i6_ n].toArray w fun en w'=>∃ g:Nat,∃ c:Nat,∃ u:Array Value,∃ xs:List Int,∃ p':Nat,en=.returned (sl_ g xs.length c)∧((u.size=c*1∧xs.length≤c∧u.toList.take xs.length=ints xs)∧(xs.length=n.toNat∧∀ x∈xs,0≤x∧x<n)∧p'≤p+10)∧Own B w0 ([bk_ g u 3]++((rp,.cells #[bv,.int .i64 (p':Int)] 88 (0,0))::hs)) w':=by
 refine fnStartC (Own B w0 ((rp,.cells #[bv,.int .i64 (p:Int)] 88 (0,0))::hs)) (n:=32) (e:=[(0,pt_ rp),(1,i6_ n)]) Tryz.func114 Z Z Z Z Ends.both hw (zF (zB (zC 1 Z (zH (zD [0,1] [_,_] Z (zF (qI (yN (xs:=[]) (vs:=[]) yI Z Z Z Z Z Z (by decide) Z fun p8 hp8=>(qL 1 Z (zI (zD [0,1,5] [_,_,_] Z (zF (zF (zB (zC 1 Z (zH (zD [0,1,5,6] [_,_,_,_] Z (qW (xM (σ:=Nat×Nat×Nat×Array Value×List Int×Nat) (fun ⟨k,g,c,u,xs,p0⟩=>(k:Int)≤n∧(u.size=c*1∧xs.length≤c∧u.toList.take xs.length=ints xs)∧(xs.length=k∧∀ x∈xs,0≤x∧x<(k:Int))∧p0≤p+k) (fun ⟨k,g,c,u,xs,p0⟩=>[(0,pt_ rp),(1,i6_ n),(5,sl_ g xs.length c),(6,i6_ (k:Int))]) (fun ⟨k,g,c,u,xs,p0⟩=>Own B w0 (bk_ g u 3::bk_ rp #[bv,i6_ (p0:Int)] 88::hs)) (fun ⟨k,g,c,u,xs,p0⟩=>(n - k).toNat) (0,p8,0,#[],[],p) ⟨by omega,⟨rfl,Nat.le_refl 0,rfl⟩,⟨rfl,fun x hx=>by cases hx⟩,by omega⟩ (Sub.sel [0,1,5,6] Z) (fun _ h=>h) ?_)))))))))))))))))))
 rintro ⟨k,g,c,u,xs,p0⟩ ⟨hk,⟨hcg,hlg,htg⟩,⟨hxl,hxr⟩,hp0⟩
 dsimp only;refine zF (zF (zB (zC 3 Z (zH (zD [0,1,5,6,11] [_,_,_,_,_] Z (yF (b:=decide ((k:Int)<n)) Z (fun h11=>?_) (fun h11=>?_)))))))
 ·
  replace h11:=zV h11
  have hxl8:xs.length≤8:=by omega
  refine qR (zD [0,1,5,6] [_,_,_,_] Z (zF (qW (zF (qI (qL 2 Z (zO Z (kD Z zX Z) (zO Z (qT Z Z Z (by omega) (by omega)) (yT (rp:=rp) (RT:=88) (p:=p0) (bv:=bv) (hs:=hs) (ok:=fun (k:Int) p'=>0≤k∧(1≤((xs.length:Int)+(1:Int))→k<((xs.length:Int)+(1:Int)))∧p'=p0+1) (v:=fun (k:Int)=>i6_ k) (new:=fun (k:Int)=>[]) (xs:=[.tmp 14,.tmp 17]) (vs:=[pt_ rp,i6_ ((xs.length:Int)+(1:Int))]) ([bk_ g u 3]:List (Nat×Obj)) Z Z Z Z jQ Z (fun w1 hw1=>(pick_ok B w0 (([bk_ g u 3]:List (Nat×Obj))++hs) rp p0 bv L ((xs.length:Int)+(1:Int)) w1 (fun w2 hw2=>hb w2 (qG (f:=([bk_ g u 3]:List (Nat×Obj))) hw2)) hL8 hL (by omega) hw1).mono fun en w' ⟨k',p',h1,h2,h3⟩=>⟨k',p',h1,h2,h3⟩) fun k18 p_18 hKp_18=>?_)))))))))
  show Ll _ _ (Own _ _ (_::_::hs)) _ _ ((18,i6_ k18)::_) _ _ _
  obtain ⟨h0k18,h1k18,hep_18⟩:=hKp_18
  try have hltk18:=h1k18 (by first | omega | (split <;> omega) | decide);refine qL 1 Z (zI (zD [0,1,5,6,7] [_,_,_,_,_] Z (jW (S:=Own B w0 [bk_ g u 3,bk_ rp #[bv,i6_ (p_18:Int)] 88]) (.take 1 (.take 2 (.take 3 (.take 5 (.take 8 (.take 9 (.take 10 (.two 0 (.two 4 (.one 6 (.one 7 (.one 11 (.take 12 .done)))) 6 (.one 4 (.one 7 (.one 11 (.take 12 .done))))) 6 (.one 0 (.one 4 (.one 7 (.one 11 (.take 12 .done))))))))))))) yC (fun _ h=>h.drawn) (by kernel_rfl) (vK 2 Z (pk [0,1] Z Z) (qA (v:=sl_ g ((k18).toNat) c) Z Z Z Z Z (OpQ.takeS (i:=k18) Z zX zJ Z Z (by omega) (by omega)) (pk [0,1] Z Z) (vK 3 Z (pk [0,1] Z Z) (qA (v:=.slice (some ⟨g,(dropOff (k18).toNat c),none⟩) (xs.length - (k18).toNat) (c - (k18).toNat)) Z Z Z Z Z (OpQ.dropE Z zX zJ Z Z (by omega) (by omega) (by omega)) (pk [0,1] Z Z) (xI Z Z ?_ ?_))))))))
  ·
   refine yN (xs:=[]) (vs:=[]) yI Z Z Z Z Z Z (by decide) Z fun p19 hp19=>(zI (zL (pk [1,2] Z Z) ?_));refine xI Z Z ?_ ?_
   ·
    refine xH (xs:=[]) (ys:=(xs).take ((k18).toNat)) yI 0 Z Z Z Z Z Z Z Z (by decide) Z (fun w1 hw1=>(Own.rowTake hw1 (i:=1) Z htg (by omega) hlg)) (((xs).take ((k18).toNat)).length) (by first | (simp;done) | (simp;omega)) (by first | (simp;done) | (simp;omega) | omega) fun p23 cap23 cur23 hp23 hcp23 hlp23 htp23=>?_
    show Ll _ _ (Own _ _ (_::_::_::hs)) _ _ ((23,sl_ p23 ((((xs).take ((k18).toNat)).length)) cap23)::_) _ _ _;refine zI (zL (pk [1,2] Z Z) ?_);refine qE Z (yN (xs:=[.tmp 24]) (vs:=[i6_ (k:Int)]) yI Z Z Z Z Z Z (by decide) Z fun p25 hp25=>(zI (zL (pk [2,3] Z Z) ?_)));refine qE Z (xH (xs:=(xs).take ((k18).toNat)) (ys:=[(k:Int)]) yI 1 Z Z Z Z Z Z Z hcp23 hlp23 (by simpa using htp23) (fun w1 hw1=>(yX hw1 (i:=0) Z (n:=1) (cap:=1) (vs:=ints [(k:Int)]) Z Z (by decide))) ((((xs).take ((k18).toNat))++([(k:Int)])).length) (by first | (simp;done) | (simp;omega)) (by first | (simp;done) | (simp;omega) | omega) fun p26 cap26 cur26 hp26 hcp26 hlp26 htp26=>?_)
    show Ll _ _ (Own _ _ (_::_::_::_::hs)) _ _ ((26,sl_ p26 (((((xs).take ((k18).toNat))++([(k:Int)])).length)) cap26)::_) _ _ _;refine zI (zL (pk [2,3] Z Z) ?_);refine qE Z (xH (xs:=((xs).take ((k18).toNat))++([(k:Int)])) (ys:=xs.drop (k18).toNat) yI 1 Z Z Z Z Z Z Z hcp26 hlp26 (by simpa using htp26) (fun w1 hw1=>(Own.rowDropE hw1 (i:=2) Z htg (by omega) hlg)) (((((xs).take ((k18).toNat))++([(k:Int)]))++(xs.drop (k18).toNat)).length) (by first | (simp;done) | (simp;omega)) (by first | (simp;done) | (simp;omega) | omega) fun p30 cap30 cur30 hp30 hcp30 hlp30 htp30=>?_)
    show Ll _ _ (Own _ _ (_::_::_::_::hs)) _ _ ((30,sl_ p30 ((((((xs).take ((k18).toNat))++([(k:Int)]))++(xs.drop (k18).toNat)).length)) cap30)::_) _ _ _;refine zI (zL (pk [2,3] Z Z) ?_);refine vK 1 Z (pk [2,3] Z Z) (yU (zD [0,1,5,6] [_,_,_,_] Z (zB (zC 1 Z (zE Z (qT Z Z Z (by omega) (by omega)) (zC 1 Z (zH (yL ((k+1,p30,cap30,cur30,(((xs).take ((k18).toNat))++([(k:Int)]))++(xs.drop (k18).toNat),p_18)) ⟨by omega,⟨by simpa using hcp30,hlp30,by simpa using (by simpa using htp30)⟩,⟨by (try dsimp only);simp;omega,shuf_all hxr⟩,by (try dsimp only);omega⟩ (by omega) (Sub.sel [0,1,5,6] Z) (fun _ h=>h.sub (qJ _ (zA _ (qJ _ (zA _ (zW _))))))))))))))
   refine yN (xs:=[.tmp 24]) (vs:=[i6_ (k:Int)]) yI Z Z Z Z Z Z (by decide) Z fun p25_1 hp25_1=>(zI (zL (pk [2,3] Z Z) ?_));refine qE Z (xH (xs:=[]) (ys:=(xs).take ((k18).toNat)) yI 1 Z Z Z Z Z Z Z Z (by decide) Z (fun w1 hw1=>(Own.rowTake hw1 (i:=2) Z htg (by omega) hlg)) (((xs).take ((k18).toNat)).length) (by first | (simp;done) | (simp;omega)) (by first | (simp;done) | (simp;omega) | omega) fun p23_1 cap23_1 cur23_1 hp23_1 hcp23_1 hlp23_1 htp23_1=>?_)
   show Ll _ _ (Own _ _ (_::_::_::_::hs)) _ _ ((23,sl_ p23_1 ((((xs).take ((k18).toNat)).length)) cap23_1)::_) _ _ _;refine zI (zL (pk [2,3] Z Z) ?_);refine qE Z (xH (xs:=(xs).take ((k18).toNat)) (ys:=[(k:Int)]) yI 1 Z Z Z Z Z Z Z hcp23_1 hlp23_1 (by simpa using htp23_1) (fun w1 hw1=>(yX hw1 (i:=0) Z (n:=1) (cap:=1) (vs:=ints [(k:Int)]) Z Z (by decide))) ((((xs).take ((k18).toNat))++([(k:Int)])).length) (by first | (simp;done) | (simp;omega)) (by first | (simp;done) | (simp;omega) | omega) fun p26_1 cap26_1 cur26_1 hp26_1 hcp26_1 hlp26_1 htp26_1=>?_)
   show Ll _ _ (Own _ _ (_::_::_::_::hs)) _ _ ((26,sl_ p26_1 (((((xs).take ((k18).toNat))++([(k:Int)])).length)) cap26_1)::_) _ _ _;refine zI (zL (pk [2,3] Z Z) ?_);refine qE Z (xH (xs:=((xs).take ((k18).toNat))++([(k:Int)])) (ys:=xs.drop (k18).toNat) yI 1 Z Z Z Z Z Z Z hcp26_1 hlp26_1 (by simpa using htp26_1) (fun w1 hw1=>(Own.rowDropE hw1 (i:=2) Z htg (by omega) hlg)) (((((xs).take ((k18).toNat))++([(k:Int)]))++(xs.drop (k18).toNat)).length) (by first | (simp;done) | (simp;omega)) (by first | (simp;done) | (simp;omega) | omega) fun p30_1 cap30_1 cur30_1 hp30_1 hcp30_1 hlp30_1 htp30_1=>?_)
   show Ll _ _ (Own _ _ (_::_::_::_::hs)) _ _ ((30,sl_ p30_1 ((((((xs).take ((k18).toNat))++([(k:Int)]))++(xs.drop (k18).toNat)).length)) cap30_1)::_) _ _ _;refine zI (zL (pk [2,3] Z Z) ?_);refine vK 1 Z (pk [2,3] Z Z) (yU (zD [0,1,5,6] [_,_,_,_] Z (zB (zC 1 Z (zE Z (qT Z Z Z (by omega) (by omega)) (zC 1 Z (zH (yL ((k+1,p30_1,cap30_1,cur30_1,(((xs).take ((k18).toNat))++([(k:Int)]))++(xs.drop (k18).toNat),p_18)) ⟨by omega,⟨by simpa using hcp30_1,hlp30_1,by simpa using (by simpa using htp30_1)⟩,⟨by (try dsimp only);simp;omega,shuf_all hxr⟩,by (try dsimp only);omega⟩ (by omega) (Sub.sel [0,1,5,6] Z) (fun _ h=>h.sub (qJ _ (zA _ (qJ _ (zA _ (zW _))))))))))))))
  refine yN (xs:=[.tmp 24]) (vs:=[i6_ (k:Int)]) yI Z Z Z Z Z Z (by decide) Z fun p25_2 hp25_2=>(zI (zL (pk [1,2] Z Z) ?_));refine qE Z (yN (xs:=[]) (vs:=[]) yI Z Z Z Z Z Z (by decide) Z fun p19_1 hp19_1=>(zI (zL (pk [2,3] Z Z) ?_)));refine qE Z (xH (xs:=[]) (ys:=(xs).take ((k18).toNat)) yI 0 Z Z Z Z Z Z Z Z (by decide) Z (fun w1 hw1=>(Own.rowTake hw1 (i:=2) Z htg (by omega) hlg)) (((xs).take ((k18).toNat)).length) (by first | (simp;done) | (simp;omega)) (by first | (simp;done) | (simp;omega) | omega) fun p23_2 cap23_2 cur23_2 hp23_2 hcp23_2 hlp23_2 htp23_2=>?_)
  show Ll _ _ (Own _ _ (_::_::_::_::hs)) _ _ ((23,sl_ p23_2 ((((xs).take ((k18).toNat)).length)) cap23_2)::_) _ _ _;refine zI (zL (pk [2,3] Z Z) ?_);refine qE Z (xH (xs:=(xs).take ((k18).toNat)) (ys:=[(k:Int)]) yI 0 Z Z Z Z Z Z Z hcp23_2 hlp23_2 (by simpa using htp23_2) (fun w1 hw1=>(yX hw1 (i:=1) Z (n:=1) (cap:=1) (vs:=ints [(k:Int)]) Z Z (by decide))) ((((xs).take ((k18).toNat))++([(k:Int)])).length) (by first | (simp;done) | (simp;omega)) (by first | (simp;done) | (simp;omega) | omega) fun p26_2 cap26_2 cur26_2 hp26_2 hcp26_2 hlp26_2 htp26_2=>?_)
  show Ll _ _ (Own _ _ (_::_::_::_::hs)) _ _ ((26,sl_ p26_2 (((((xs).take ((k18).toNat))++([(k:Int)])).length)) cap26_2)::_) _ _ _;refine zI (zL (pk [2,3] Z Z) ?_);refine qE Z (xH (xs:=((xs).take ((k18).toNat))++([(k:Int)])) (ys:=xs.drop (k18).toNat) yI 0 Z Z Z Z Z Z Z hcp26_2 hlp26_2 (by simpa using htp26_2) (fun w1 hw1=>(Own.rowDropE hw1 (i:=2) Z htg (by omega) hlg)) (((((xs).take ((k18).toNat))++([(k:Int)]))++(xs.drop (k18).toNat)).length) (by first | (simp;done) | (simp;omega)) (by first | (simp;done) | (simp;omega) | omega) fun p30_2 cap30_2 cur30_2 hp30_2 hcp30_2 hlp30_2 htp30_2=>?_)
  show Ll _ _ (Own _ _ (_::_::_::_::hs)) _ _ ((30,sl_ p30_2 ((((((xs).take ((k18).toNat))++([(k:Int)]))++(xs.drop (k18).toNat)).length)) cap30_2)::_) _ _ _;refine zI (zL (pk [2,3] Z Z) ?_);refine vK 1 Z (pk [2,3] Z Z) (yU (zD [0,1,5,6] [_,_,_,_] Z (zB (zC 1 Z (zE Z (qT Z Z Z (by omega) (by omega)) (zC 1 Z (zH (yL ((k+1,p30_2,cap30_2,cur30_2,(((xs).take ((k18).toNat))++([(k:Int)]))++(xs.drop (k18).toNat),p_18)) ⟨by omega,⟨by simpa using hcp30_2,hlp30_2,by simpa using (by simpa using htp30_2)⟩,⟨by (try dsimp only);simp;omega,shuf_all hxr⟩,by (try dsimp only);omega⟩ (by omega) (Sub.sel [0,1,5,6] Z) (fun _ h=>h.sub (zA _ (qJ _ (qJ _ (zA _ (zW _))))))))))))))
 replace h11:=zT h11;refine yY Z (zD [5] [_] Z (zF (zB (zC 2 Z (zH (zD [4] [_] Z (qM (qQ Z Z fun w' hw=>?_))))))))
 exact ⟨g,c,u,xs,p0,rfl,⟨⟨by simpa using hcg,hlg,by simpa using htg⟩,⟨by omega,fun x hx=>by have:=hxr x hx;omega⟩,by omega⟩,hw.sub (zA _ (zA _ (zW _)))⟩
set_option maxHeartbeats 400000 in
theorem l4Some_ok (B:Nat) (w0:World) (hs:List (Nat×Obj)) (rp p:Nat) (bv:Value) (L:List Int) (a:St) (n:Int) (w:World) (hb:∀ w,Own B w0 hs w→Row w bv (u8s L)) (hL8:Bytes8 L) (hL:L.length≤2000) (hn0:0≤n) (hn8:n≤8) (hp:p≤900000) (hw:Own B w0 ((rp,.cells #[bv,.int .i64 (p:Int)] 88 (0,0))::hs) w) :
    Calls Tryz.prog 121 [pt_ rp,vS a,i6_ n].toArray w fun en w'=>∃ g:Nat,∃ c:Nat,∃ u:Array Value,∃ xs:List Int,∃ p':Nat,en=.returned (sl_ g xs.length c)∧((u.size=c*1∧xs.length≤c∧u.toList.take xs.length=ints xs)∧xs.length=n.toNat∧p'≤p+10)∧Own B w0 ([bk_ g u 3]++((rp,.cells #[bv,.int .i64 (p':Int)] 88 (0,0))::hs)) w':=by
 refine fnStartC (Own B w0 ((rp,.cells #[bv,.int .i64 (p:Int)] 88 (0,0))::hs)) (n:=25) (e:=[(0,pt_ rp),(1,vS a),(2,i6_ n)]) Tryz.func121 Z Z Z Z Ends.both hw (zF (qI (xK (v:=vS a) Z Z Z Z Z fun p4 hp4=>?_)))
 show Ll _ _ (Own _ _ (_::_::hs)) _ _ ((4,pt_ p4)::_) _ _ _;refine qL 1 Z (zI (zD [0,2,4] [_,_,_] Z (zF (qI (yN (xs:=[]) (vs:=[]) yI Z Z Z Z Z Z (by decide) Z fun p9 hp9=>(qL 1 Z (zI (zD [0,2,4,7] [_,_,_,_] Z (zF (zF (zB (zC 1 Z (zH (zD [0,2,4,7,8] [_,_,_,_,_] Z (qW (xM (σ:=Nat×Nat×Nat×Array Value×List Int×Nat) (fun ⟨k,g,c,u,xs,p0⟩=>(k:Int)≤n∧(u.size=c*1∧xs.length≤c∧u.toList.take xs.length=ints xs)∧(xs.length=k∧∀ x∈xs,0≤x)∧p0≤p+k) (fun ⟨k,g,c,u,xs,p0⟩=>[(0,pt_ rp),(2,i6_ n),(4,pt_ p4),(7,sl_ g xs.length c),(8,i6_ (k:Int))]) (fun ⟨k,g,c,u,xs,p0⟩=>Own B w0 (bk_ g u 3::bk_ p4 #[i6_ a.n,str a.set,str a.rel] 24::bk_ rp #[bv,i6_ (p0:Int)] 88::hs)) (fun ⟨k,g,c,u,xs,p0⟩=>(n - k).toNat) (0,p9,0,#[],[],p) ⟨by omega,⟨rfl,Nat.le_refl 0,rfl⟩,⟨rfl,fun x hx=>by cases hx⟩,by omega⟩ (Sub.sel [0,2,4,7,8] Z) (fun _ h=>h) ?_))))))))))))))))
 rintro ⟨k,g,c,u,xs,p0⟩ ⟨hk,⟨hcg,hlg,htg⟩,⟨hxl,hxr⟩,hp0⟩
 dsimp only;refine zF (zF (zB (zC 3 Z (zH (zD [0,2,4,7,8,12] [_,_,_,_,_,_] Z (yF (b:=decide ((k:Int)<n)) Z (fun h12=>?_) (fun h12=>?_)))))))
 ·
  replace h12:=zV h12
  have hxl8:xs.length≤8:=by omega
  refine qR (zD [0,2,4,7,8] [_,_,_,_,_] Z (zF (qW (qI (qL 2 Z (zO Z (zG Z zY Z zJ Z Z) (zO Z (zS 1 Z zU Z Z Z) (zO (v:=i6_ (if 8<a.n then 8 else a.n)) Z (OpQ.min2 Z Z Z) (zO (v:=i6_ (if 1 > (if 8<a.n then 8 else a.n) then 1 else (if 8<a.n then 8 else a.n))) Z (OpQ.maxU Z Z Z) (yT (rp:=rp) (RT:=88) (p:=p0) (bv:=bv) (hs:=hs) (ok:=fun (k:Int) p'=>0≤k∧(1≤(if 1 > (if 8<a.n then 8 else a.n) then 1 else (if 8<a.n then 8 else a.n))→k<(if 1 > (if 8<a.n then 8 else a.n) then 1 else (if 8<a.n then 8 else a.n)))∧p'=p0+1) (v:=fun (k:Int)=>i6_ k) (new:=fun (k:Int)=>[]) (xs:=[.tmp 16,.tmp 20]) (vs:=[pt_ rp,i6_ (if 1 > (if 8<a.n then 8 else a.n) then 1 else (if 8<a.n then 8 else a.n))]) ([bk_ g u 3,bk_ p4 #[i6_ a.n,str a.set,str a.rel] 24]:List (Nat×Obj)) Z Z Z Z jQ Z (fun w1 hw1=>(pick_ok B w0 (([bk_ g u 3,bk_ p4 #[i6_ a.n,str a.set,str a.rel] 24]:List (Nat×Obj))++hs) rp p0 bv L (if 1 > (if 8<a.n then 8 else a.n) then 1 else (if 8<a.n then 8 else a.n)) w1 (fun w2 hw2=>hb w2 (qG (f:=([bk_ g u 3,bk_ p4 #[i6_ a.n,str a.set,str a.rel] 24]:List (Nat×Obj))) hw2)) hL8 hL (by omega) hw1).mono fun en w' ⟨k',p',h1,h2,h3⟩=>⟨k',p',h1,h2,h3⟩) fun k21 p_21 hKp_21=>?_))))))))))
  show Ll _ _ (Own _ _ (_::_::_::hs)) _ _ ((21,i6_ k21)::_) _ _ _
  obtain ⟨h0k21,h1k21,hep_21⟩:=hKp_21
  try have hltk21:=h1k21 (by first | omega | (split <;> omega) | decide);refine yN (xs:=[.tmp 21]) (vs:=[i6_ k21]) yI Z Z Z Z Z Z (by decide) Z fun p22 hp22=>(xH (xs:=xs) (ys:=[k21]) yI 1 Z Z Z Z Z Z Z hcg hlg htg (fun w1 hw1=>(yX hw1 (i:=0) Z (n:=1) (cap:=1) (vs:=ints [k21]) Z Z (by decide))) ((xs++([k21])).length) (by first | (simp;done) | (simp;omega)) (by first | (simp;done) | (simp;omega) | omega) fun p23 cap23 cur23 hp23 hcp23 hlp23 htp23=>?_)
  show Ll _ _ (Own _ _ (_::_::_::_::hs)) _ _ ((23,sl_ p23 (((xs++([k21])).length)) cap23)::_) _ _ _;refine qL 1 Z (zI (zD [0,2,4,7,8] [_,_,_,_,_] Z (zB (zC 1 Z (zE Z (qT Z Z Z (by omega) (by omega)) (zC 1 Z (zH (yL (k+1,p23,cap23,cur23,xs++([k21]),p_21) ⟨by omega,⟨by simpa using hcp23,hlp23,by simpa using (by simpa using htp23)⟩,⟨by (try dsimp only);simp;omega,fun x hx=>by rcases List.mem_append.1 hx with h | h;exact hxr x h;rw [List.mem_singleton.1 h];omega⟩,by (try dsimp only);omega⟩ (by omega) (Sub.sel [0,2,4,7,8] Z) (fun _ h=>h.sub (qJ _ (zA _ (zA _ (zA _ (zW _))))))))))))))
 replace h12:=zT h12;refine yY Z (zD [7] [_] Z (zF (zB (zC 2 Z (zH (zD [6] [_] Z (qM (qQ Z Z fun w' hw=>?_))))))))
 exact ⟨g,c,u,xs,p0,rfl,⟨⟨by simpa using hcg,hlg,by simpa using htg⟩,by omega,by omega⟩,hw.sub (zA _ (qJ _ (zA _ (zW _))))⟩
set_option maxHeartbeats 400000 in
theorem part_ok (a:St) (va:Value) (xs:List Int) (w:World) (ha:a.Fine) (hva:Ints w va xs) (hA:a.Els xs) (h8:xs.length≤8) :
    Calls Tryz.prog 113 [vS a,va].toArray w fun en w'=>∃ b:St,en=.returned (vS b)∧(b.n=xs.length∧(b.set.length:Int)=xs.length∧b.rel.length=xs.length*xs.length)∧Below w.heap.size w w':=by
 refine fnStart (n:=50) (e:=[(0,vS a),(1,va)]) Tryz.func113 Z Z Z Z Ends.both (zF (qI (xK (v:=vS a) Z Z Z Z Z fun p2 hp2=>?_)))
 show Ll _ _ (Own _ _ [_]) _ _ ((2,pt_ p2)::_) _ _ _;refine jU Z Z Z Z xG fun p4 hp4=>?_
 show Ll _ _ (Own _ _ [bk_ p4 #[i6_ 0,str ([]),str ([])] 24,_]) _ _ ((4,pt_ p4)::_) _ _ _;refine zI (zD [1,2,4] [_,_,_] Z (zF (qI (qL 1 Z (zO (v:=i6_ (xs.length:Int)) Z (yP Z zX Z (ints_length _) (fun w1 hw1=>Row.own hva hw1)) (zO (v:=.agg #[i6_ (xs.length:Int),str ([]),str ([])]) Z (uL (xs:=[.tmp 9]) (vs:=[i6_ (xs.length:Int)]) Z Z (by kernel_rfl)) (jU Z Z Z Z xG fun p5 hp5=>?_)))))))
 show Ll _ _ (Own _ _ [bk_ p5 #[i6_ 0,str ([]),str ([])] 24,_,_]) _ _ ((5,pt_ p5)::_) _ _ _;refine yV (cs':=#[i6_ (xs.length:Int),str ([]),str ([])]) (hs':=[bk_ p5 #[i6_ (xs.length:Int),str ([]),str ([])] 24,_,_]) 0 Z Z Z Z Z (by kernel_rfl:_=some Tryz.t24) Z Z Z Z Z (zI (zD [1,2,4,5] [_,_,_,_] Z (zF (zF (zB (zC 1 Z (zH (zD [1,2,4,5,6] [_,_,_,_,_] Z (qW (xM (σ:=Nat×List UInt8×List UInt8) (fun ⟨k,S,R⟩=>k≤xs.length∧S.length=k∧R.length=k*xs.length) (fun ⟨k,S,R⟩=>[(1,va),(2,pt_ p2),(4,pt_ p4),(5,pt_ p5),(6,i6_ (k:Int))]) (fun ⟨k,S,R⟩=>Own w.heap.size w [bk_ p5 #[i6_ (xs.length:Int),str S,str R] 24,bk_ p4 #[i6_ 0,str ([]),str ([])] 24,bk_ p2 #[i6_ a.n,str a.set,str a.rel] 24]) (fun ⟨k,S,R⟩=>xs.length - k) (0,[],[]) ⟨by omega,rfl,by simp⟩ (Sub.sel [1,2,4,5,6] Z) (fun _ h=>h) ?_))))))))))
 rintro ⟨k,S,R⟩ ⟨hk,hS,hR⟩
 dsimp only
 have hkn:k*xs.length≤8*8:=Nat.mul_le_mul (by omega) (by omega);refine zF (zF (zB (zC 2 Z (zE (v:=i6_ (xs.length:Int)) Z (yP Z zX Z (ints_length _) (fun w1 hw1=>Row.own hva hw1)) (zC 1 Z (zH (zD [1,2,4,5,6,14] [_,_,_,_,_,_] Z (yQ Z (fun h14=>?_) (fun h14=>?_)))))))))
 ·
  refine qR (zD [1,2,4,5,6] [_,_,_,_,_] Z (zF (qW (zF (jW (S:=Own w.heap.size w [bk_ p4 #[i6_ 0,str ([]),str ([])] 24,bk_ p2 #[i6_ a.n,str a.set,str a.rel] 24]) (.take 0 (.take 2 (.take 3 (.take 4 (.take 5 (.take 6 (.two 1 (.one 7 (.one 8 (.take 9 (.take 10 (.one 11 .done))))) 7 (.two 1 (.one 8 (.take 9 (.take 10 (.one 11 .done)))) 8 (.one 1 (.take 9 (.take 10 (.one 11 .done)))))))))))) yC (fun _ h=>h.drawn) (by kernel_rfl) (qA Z Z Z Z Z (zG Z zY Z qO Z Z) (fun _ h=>h.tail) (qA Z Z Z Z Z (qF (cs:=#[i6_ a.n,str a.set,str a.rel]) 1 Z zZ Z Z zQ) (fun _ h=>h.tail) (vK 2 Z (fun _ h=>h.tail) (qA (v:=.pointer (some (sAt va (k:Int)))) Z Z Z Z Z (yO Z zX zJ Z Z (by omega) (by rw [ints_length];omega) (fun w1 hw1=>Row.own hva hw1)) (fun _ h=>h.tail) (qA (v:=i6_ (xs.getD ((k:Int).toNat) 0)) Z Z Z Z Z (qN Z zU Z (fun w1 hw1=>Ints.cell (Row.own hva hw1) (by omega) (by omega))) (fun _ h=>h.tail) (xI Z Z ?_ ?_)))))))))))
  ·
   refine zO Z (zS 0 Z yH Z Z Z) (zI (zL (fun _ h=>h.tail) ?_));refine qE Z (zO (v:=bo_ (a.inSet (xs.getD ((k:Int).toNat) 0))) Z (qK Z Tryz.call153 Z qC (fun w1 hw1=>l1Set_ok a (xs.getD ((k:Int).toNat) 0) w1 ha (by first | assumption | exact St.Els.at (by assumption) (by omega) (by omega)))) (zI (zL (fun _ h=>h.tail) ?_)));refine qE Z (zO (v:=str ((if a.inSet (xs.getD ((k:Int).toNat) 0) then [49] else [48]))) Z (qK Z jF Z qC (fun w1 hw1=>bitD_ok (a.inSet (xs.getD ((k:Int).toNat) 0)) w1 )) (zI (zL (fun _ h=>h.tail) ?_)));refine qA Z Z Z Z Z (yJ Z Z Z (by first | (rw [bit_len];omega) | omega)) (fun _ h=>h.tail) (qA Z Z Z Z Z (zG Z zY Z qO Z Z) (fun _ h=>h.tail) (qE Z (qU (v:=str (S++((if a.inSet (xs.getD ((k:Int).toNat) 0) then [49] else [48])))) (hs':=[bk_ p5 #[i6_ (xs.length:Int),str (S++((if a.inSet (xs.getD ((k:Int).toNat) 0) then [49] else [48]))),str R] 24,_,_]) 0 Z Z Z Z Z Z qO Z (by simp) Z (zI (zL (fun _ h=>h.tail) ?_)))));refine yU (zD [1,2,4,5,6] [_,_,_,_,_] Z (zF (zB (zC 1 Z (zH (zD [1,2,4,5,6,7] [_,_,_,_,_,_] Z (qW (xM (σ:=Nat×List UInt8) (fun ⟨j,R1⟩=>j≤xs.length∧R1.length=k*xs.length+j) (fun ⟨j,R1⟩=>[(1,va),(2,pt_ p2),(4,pt_ p4),(5,pt_ p5),(6,i6_ (k:Int)),(7,i6_ (j:Int))]) (fun ⟨j,R1⟩=>Own w.heap.size w [bk_ p5 #[i6_ (xs.length:Int),str (S++((if a.inSet (xs.getD ((k:Int).toNat) 0) then [49] else [48]))),str R1] 24,bk_ p4 #[i6_ 0,str ([]),str ([])] 24,bk_ p2 #[i6_ a.n,str a.set,str a.rel] 24]) (fun ⟨j,R1⟩=>xs.length - j) (0,R) ⟨by omega,by omega⟩ (Sub.sel [1,2,4,5,6,7] Z) (fun _ h=>h) ?_))))))))
   rintro ⟨j,R1⟩ ⟨hj,hR1⟩
   dsimp only;refine zF (zF (zB (zC 2 Z (zE (v:=i6_ (xs.length:Int)) Z (yP Z zX Z (ints_length _) (fun w1 hw1=>Row.own hva hw1)) (zC 1 Z (zH (zD [1,2,4,5,6,7,31] [_,_,_,_,_,_,_] Z (yQ Z (fun h31=>?_) (fun h31=>?_)))))))))
   ·
    refine qR (zD [1,2,4,5,6,7] [_,_,_,_,_,_] Z (zF (qW (jW (S:=Own w.heap.size w [bk_ p4 #[i6_ 0,str ([]),str ([])] 24,bk_ p2 #[i6_ a.n,str a.set,str a.rel] 24]) (.take 0 (.take 2 (.take 3 (.take 4 (.take 5 (.take 6 (.take 7 (.take 8 (.take 9 (.take 10 (.two 1 (.one 11 (.one 12 (.take 13 (.take 14 (.one 15 .done))))) 11 (.two 1 (.one 12 (.take 13 (.take 14 (.one 15 .done)))) 12 (.one 1 (.take 13 (.take 14 (.one 15 .done)))))))))))))))) yC (fun _ h=>h.drawn) (by kernel_rfl) (qA Z Z Z Z Z (zG Z zY Z qO Z Z) (fun _ h=>h.tail) (qA Z Z Z Z Z (qF (cs:=#[i6_ a.n,str a.set,str a.rel]) 1 Z zZ Z Z zQ) (fun _ h=>h.tail) (vK 2 Z (fun _ h=>h.tail) (qA (v:=.pointer (some (sAt va (k:Int)))) Z Z Z Z Z (yO Z zX zJ Z Z (by omega) (by rw [ints_length];omega) (fun w1 hw1=>Row.own hva hw1)) (fun _ h=>h.tail) (qA (v:=i6_ (xs.getD ((k:Int).toNat) 0)) Z Z Z Z Z (qN Z zU Z (fun w1 hw1=>Ints.cell (Row.own hva hw1) (by omega) (by omega))) (fun _ h=>h.tail) (vK 2 Z (fun _ h=>h.tail) (qA (v:=.pointer (some (sAt va (j:Int)))) Z Z Z Z Z (yO Z zX zJ Z Z (by omega) (by rw [ints_length];omega) (fun w1 hw1=>Row.own hva hw1)) (fun _ h=>h.tail) (qA (v:=i6_ (xs.getD ((j:Int).toNat) 0)) Z Z Z Z Z (qN Z zU Z (fun w1 hw1=>Ints.cell (Row.own hva hw1) (by omega) (by omega))) (fun _ h=>h.tail) (xI Z Z ?_ ?_)))))))))))))
    ·
     refine zO Z (zS 0 Z yH Z Z Z) (zI (zL (fun _ h=>h.tail) ?_));refine qE Z (zO (v:=bo_ (a.inRel (xs.getD ((k:Int).toNat) 0) (xs.getD ((j:Int).toNat) 0))) Z (qK Z vE Z qC (fun w1 hw1=>l1Rel_ok a (xs.getD ((k:Int).toNat) 0) (xs.getD ((j:Int).toNat) 0) w1 ha (by first | assumption | exact St.Els.at (by assumption) (by omega) (by omega)) (by first | assumption | exact St.Els.at (by assumption) (by omega) (by omega)))) (zI (zL (fun _ h=>h.tail) ?_)));refine qE Z (zO (v:=str ((if a.inRel (xs.getD ((k:Int).toNat) 0) (xs.getD ((j:Int).toNat) 0) then [49] else [48]))) Z (qK Z jF Z qC (fun w1 hw1=>bitD_ok (a.inRel (xs.getD ((k:Int).toNat) 0) (xs.getD ((j:Int).toNat) 0)) w1 )) (zI (zL (fun _ h=>h.tail) ?_)));refine qA Z Z Z Z Z (yJ Z Z Z (by first | (rw [bit_len];omega) | omega)) (fun _ h=>h.tail) (qA Z Z Z Z Z (zG Z zY Z qO Z Z) (fun _ h=>h.tail) (qE Z (qU (v:=str (R1++((if a.inRel (xs.getD ((k:Int).toNat) 0) (xs.getD ((j:Int).toNat) 0) then [49] else [48])))) (hs':=[bk_ p5 #[i6_ (xs.length:Int),str (S++((if a.inSet (xs.getD ((k:Int).toNat) 0) then [49] else [48]))),str (R1++((if a.inRel (xs.getD ((k:Int).toNat) 0) (xs.getD ((j:Int).toNat) 0) then [49] else [48])))] 24,_,_]) 0 Z Z Z Z Z Z qO Z (by simp) Z (zI (zL (fun _ h=>h.tail) ?_)))));refine yU (zD [1,2,4,5,6,7] [_,_,_,_,_,_] Z (zB (zC 1 Z (zE Z (qT Z Z Z (by omega) (by omega)) (zC 1 Z (zH (yL ((j+1,R1++((if a.inRel (xs.getD ((k:Int).toNat) 0) (xs.getD ((j:Int).toNat) 0) then [49] else [48])))) ⟨by omega,by (try dsimp only);rw [zN,bit_len];omega⟩ (by omega) (Sub.sel [1,2,4,5,6,7] Z) (fun _ h=>h))))))))
    refine zO (v:=bo_ (a.inRel (xs.getD ((k:Int).toNat) 0) (xs.getD ((j:Int).toNat) 0))) Z (qK Z vE Z qC (fun w1 hw1=>l1Rel_ok a (xs.getD ((k:Int).toNat) 0) (xs.getD ((j:Int).toNat) 0) w1 ha (by first | assumption | exact St.Els.at (by assumption) (by omega) (by omega)) (by first | assumption | exact St.Els.at (by assumption) (by omega) (by omega)))) (zI (zL (fun _ h=>h.tail) ?_));refine xI Z Z ?_ ?_
    ·
     refine zO Z (zS 0 Z yH Z Z Z) (zI (zL (fun _ h=>h.tail) ?_));refine qE Z (zO (v:=str ((if a.inRel (xs.getD ((k:Int).toNat) 0) (xs.getD ((j:Int).toNat) 0) then [49] else [48]))) Z (qK Z jF Z qC (fun w1 hw1=>bitD_ok (a.inRel (xs.getD ((k:Int).toNat) 0) (xs.getD ((j:Int).toNat) 0)) w1 )) (zI (zL (fun _ h=>h.tail) ?_)));refine qA Z Z Z Z Z (yJ Z Z Z (by first | (rw [bit_len];omega) | omega)) (fun _ h=>h.tail) (qA Z Z Z Z Z (zG Z zY Z qO Z Z) (fun _ h=>h.tail) (qE Z (qU (v:=str (R1++((if a.inRel (xs.getD ((k:Int).toNat) 0) (xs.getD ((j:Int).toNat) 0) then [49] else [48])))) (hs':=[bk_ p5 #[i6_ (xs.length:Int),str (S++((if a.inSet (xs.getD ((k:Int).toNat) 0) then [49] else [48]))),str (R1++((if a.inRel (xs.getD ((k:Int).toNat) 0) (xs.getD ((j:Int).toNat) 0) then [49] else [48])))] 24,_,_]) 0 Z Z Z Z Z Z qO Z (by simp) Z (zI (zL (fun _ h=>h.tail) ?_)))));refine yU (zD [1,2,4,5,6,7] [_,_,_,_,_,_] Z (zB (zC 1 Z (zE Z (qT Z Z Z (by omega) (by omega)) (zC 1 Z (zH (yL ((j+1,R1++((if a.inRel (xs.getD ((k:Int).toNat) 0) (xs.getD ((j:Int).toNat) 0) then [49] else [48])))) ⟨by omega,by (try dsimp only);rw [zN,bit_len];omega⟩ (by omega) (Sub.sel [1,2,4,5,6,7] Z) (fun _ h=>h))))))))
    refine zO (v:=str ((if a.inRel (xs.getD ((k:Int).toNat) 0) (xs.getD ((j:Int).toNat) 0) then [49] else [48]))) Z (qK Z jF Z qC (fun w1 hw1=>bitD_ok (a.inRel (xs.getD ((k:Int).toNat) 0) (xs.getD ((j:Int).toNat) 0)) w1 )) (zI (zL (fun _ h=>h.tail) ?_));refine qE Z (zO Z (zS 0 Z yH Z Z Z) (zI (zL (fun _ h=>h.tail) ?_)));refine qA Z Z Z Z Z (yJ Z Z Z (by first | (rw [bit_len];omega) | omega)) (fun _ h=>h.tail) (qA Z Z Z Z Z (zG Z zY Z qO Z Z) (fun _ h=>h.tail) (qE Z (qU (v:=str (R1++((if a.inRel (xs.getD ((k:Int).toNat) 0) (xs.getD ((j:Int).toNat) 0) then [49] else [48])))) (hs':=[bk_ p5 #[i6_ (xs.length:Int),str (S++((if a.inSet (xs.getD ((k:Int).toNat) 0) then [49] else [48]))),str (R1++((if a.inRel (xs.getD ((k:Int).toNat) 0) (xs.getD ((j:Int).toNat) 0) then [49] else [48])))] 24,_,_]) 0 Z Z Z Z Z Z qO Z (by simp) Z (zI (zL (fun _ h=>h.tail) ?_)))));refine yU (zD [1,2,4,5,6,7] [_,_,_,_,_,_] Z (zB (zC 1 Z (zE Z (qT Z Z Z (by omega) (by omega)) (zC 1 Z (zH (yL ((j+1,R1++((if a.inRel (xs.getD ((k:Int).toNat) 0) (xs.getD ((j:Int).toNat) 0) then [49] else [48])))) ⟨by omega,by (try dsimp only);rw [zN,bit_len];omega⟩ (by omega) (Sub.sel [1,2,4,5,6,7] Z) (fun _ h=>h))))))))
   refine yY Z (zD [1,2,4,5,6] [_,_,_,_,_] Z (zB (zC 1 Z (zE Z (qT Z Z Z (by omega) (by omega)) (zC 1 Z (zH (yL ((k+1,S++((if a.inSet (xs.getD ((k:Int).toNat) 0) then [49] else [48])),R1)) ⟨by omega,by (try dsimp only);rw [zN,bit_len];omega,by (try dsimp only);rw [Nat.add_mul,Nat.one_mul];omega⟩ (by omega) (Sub.sel [1,2,4,5,6] Z) (fun _ h=>h))))))))
  refine zO (v:=bo_ (a.inSet (xs.getD ((k:Int).toNat) 0))) Z (qK Z Tryz.call153 Z qC (fun w1 hw1=>l1Set_ok a (xs.getD ((k:Int).toNat) 0) w1 ha (by first | assumption | exact St.Els.at (by assumption) (by omega) (by omega)))) (zI (zL (fun _ h=>h.tail) ?_));refine xI Z Z ?_ ?_
  ·
   refine zO Z (zS 0 Z yH Z Z Z) (zI (zL (fun _ h=>h.tail) ?_));refine qE Z (zO (v:=str ((if a.inSet (xs.getD ((k:Int).toNat) 0) then [49] else [48]))) Z (qK Z jF Z qC (fun w1 hw1=>bitD_ok (a.inSet (xs.getD ((k:Int).toNat) 0)) w1 )) (zI (zL (fun _ h=>h.tail) ?_)));refine qA Z Z Z Z Z (yJ Z Z Z (by first | (rw [bit_len];omega) | omega)) (fun _ h=>h.tail) (qA Z Z Z Z Z (zG Z zY Z qO Z Z) (fun _ h=>h.tail) (qE Z (qU (v:=str (S++((if a.inSet (xs.getD ((k:Int).toNat) 0) then [49] else [48])))) (hs':=[bk_ p5 #[i6_ (xs.length:Int),str (S++((if a.inSet (xs.getD ((k:Int).toNat) 0) then [49] else [48]))),str R] 24,_,_]) 0 Z Z Z Z Z Z qO Z (by simp) Z (zI (zL (fun _ h=>h.tail) ?_)))));refine yU (zD [1,2,4,5,6] [_,_,_,_,_] Z (zF (zB (zC 1 Z (zH (zD [1,2,4,5,6,7] [_,_,_,_,_,_] Z (qW (xM (σ:=Nat×List UInt8) (fun ⟨j,R1⟩=>j≤xs.length∧R1.length=k*xs.length+j) (fun ⟨j,R1⟩=>[(1,va),(2,pt_ p2),(4,pt_ p4),(5,pt_ p5),(6,i6_ (k:Int)),(7,i6_ (j:Int))]) (fun ⟨j,R1⟩=>Own w.heap.size w [bk_ p5 #[i6_ (xs.length:Int),str (S++((if a.inSet (xs.getD ((k:Int).toNat) 0) then [49] else [48]))),str R1] 24,bk_ p4 #[i6_ 0,str ([]),str ([])] 24,bk_ p2 #[i6_ a.n,str a.set,str a.rel] 24]) (fun ⟨j,R1⟩=>xs.length - j) (0,R) ⟨by omega,by omega⟩ (Sub.sel [1,2,4,5,6,7] Z) (fun _ h=>h) ?_))))))))
   rintro ⟨j,R1⟩ ⟨hj,hR1⟩
   dsimp only;refine zF (zF (zB (zC 2 Z (zE (v:=i6_ (xs.length:Int)) Z (yP Z zX Z (ints_length _) (fun w1 hw1=>Row.own hva hw1)) (zC 1 Z (zH (zD [1,2,4,5,6,7,31] [_,_,_,_,_,_,_] Z (yQ Z (fun h31_1=>?_) (fun h31_1=>?_)))))))))
   ·
    refine qR (zD [1,2,4,5,6,7] [_,_,_,_,_,_] Z (zF (qW (jW (S:=Own w.heap.size w [bk_ p4 #[i6_ 0,str ([]),str ([])] 24,bk_ p2 #[i6_ a.n,str a.set,str a.rel] 24]) (.take 0 (.take 2 (.take 3 (.take 4 (.take 5 (.take 6 (.take 7 (.take 8 (.take 9 (.take 10 (.two 1 (.one 11 (.one 12 (.take 13 (.take 14 (.one 15 .done))))) 11 (.two 1 (.one 12 (.take 13 (.take 14 (.one 15 .done)))) 12 (.one 1 (.take 13 (.take 14 (.one 15 .done)))))))))))))))) yC (fun _ h=>h.drawn) (by kernel_rfl) (qA Z Z Z Z Z (zG Z zY Z qO Z Z) (fun _ h=>h.tail) (qA Z Z Z Z Z (qF (cs:=#[i6_ a.n,str a.set,str a.rel]) 1 Z zZ Z Z zQ) (fun _ h=>h.tail) (vK 2 Z (fun _ h=>h.tail) (qA (v:=.pointer (some (sAt va (k:Int)))) Z Z Z Z Z (yO Z zX zJ Z Z (by omega) (by rw [ints_length];omega) (fun w1 hw1=>Row.own hva hw1)) (fun _ h=>h.tail) (qA (v:=i6_ (xs.getD ((k:Int).toNat) 0)) Z Z Z Z Z (qN Z zU Z (fun w1 hw1=>Ints.cell (Row.own hva hw1) (by omega) (by omega))) (fun _ h=>h.tail) (vK 2 Z (fun _ h=>h.tail) (qA (v:=.pointer (some (sAt va (j:Int)))) Z Z Z Z Z (yO Z zX zJ Z Z (by omega) (by rw [ints_length];omega) (fun w1 hw1=>Row.own hva hw1)) (fun _ h=>h.tail) (qA (v:=i6_ (xs.getD ((j:Int).toNat) 0)) Z Z Z Z Z (qN Z zU Z (fun w1 hw1=>Ints.cell (Row.own hva hw1) (by omega) (by omega))) (fun _ h=>h.tail) (xI Z Z ?_ ?_)))))))))))))
    ·
     refine zO Z (zS 0 Z yH Z Z Z) (zI (zL (fun _ h=>h.tail) ?_));refine qE Z (zO (v:=bo_ (a.inRel (xs.getD ((k:Int).toNat) 0) (xs.getD ((j:Int).toNat) 0))) Z (qK Z vE Z qC (fun w1 hw1=>l1Rel_ok a (xs.getD ((k:Int).toNat) 0) (xs.getD ((j:Int).toNat) 0) w1 ha (by first | assumption | exact St.Els.at (by assumption) (by omega) (by omega)) (by first | assumption | exact St.Els.at (by assumption) (by omega) (by omega)))) (zI (zL (fun _ h=>h.tail) ?_)));refine qE Z (zO (v:=str ((if a.inRel (xs.getD ((k:Int).toNat) 0) (xs.getD ((j:Int).toNat) 0) then [49] else [48]))) Z (qK Z jF Z qC (fun w1 hw1=>bitD_ok (a.inRel (xs.getD ((k:Int).toNat) 0) (xs.getD ((j:Int).toNat) 0)) w1 )) (zI (zL (fun _ h=>h.tail) ?_)));refine qA Z Z Z Z Z (yJ Z Z Z (by first | (rw [bit_len];omega) | omega)) (fun _ h=>h.tail) (qA Z Z Z Z Z (zG Z zY Z qO Z Z) (fun _ h=>h.tail) (qE Z (qU (v:=str (R1++((if a.inRel (xs.getD ((k:Int).toNat) 0) (xs.getD ((j:Int).toNat) 0) then [49] else [48])))) (hs':=[bk_ p5 #[i6_ (xs.length:Int),str (S++((if a.inSet (xs.getD ((k:Int).toNat) 0) then [49] else [48]))),str (R1++((if a.inRel (xs.getD ((k:Int).toNat) 0) (xs.getD ((j:Int).toNat) 0) then [49] else [48])))] 24,_,_]) 0 Z Z Z Z Z Z qO Z (by simp) Z (zI (zL (fun _ h=>h.tail) ?_)))));refine yU (zD [1,2,4,5,6,7] [_,_,_,_,_,_] Z (zB (zC 1 Z (zE Z (qT Z Z Z (by omega) (by omega)) (zC 1 Z (zH (yL ((j+1,R1++((if a.inRel (xs.getD ((k:Int).toNat) 0) (xs.getD ((j:Int).toNat) 0) then [49] else [48])))) ⟨by omega,by (try dsimp only);rw [zN,bit_len];omega⟩ (by omega) (Sub.sel [1,2,4,5,6,7] Z) (fun _ h=>h))))))))
    refine zO (v:=bo_ (a.inRel (xs.getD ((k:Int).toNat) 0) (xs.getD ((j:Int).toNat) 0))) Z (qK Z vE Z qC (fun w1 hw1=>l1Rel_ok a (xs.getD ((k:Int).toNat) 0) (xs.getD ((j:Int).toNat) 0) w1 ha (by first | assumption | exact St.Els.at (by assumption) (by omega) (by omega)) (by first | assumption | exact St.Els.at (by assumption) (by omega) (by omega)))) (zI (zL (fun _ h=>h.tail) ?_));refine xI Z Z ?_ ?_
    ·
     refine zO Z (zS 0 Z yH Z Z Z) (zI (zL (fun _ h=>h.tail) ?_));refine qE Z (zO (v:=str ((if a.inRel (xs.getD ((k:Int).toNat) 0) (xs.getD ((j:Int).toNat) 0) then [49] else [48]))) Z (qK Z jF Z qC (fun w1 hw1=>bitD_ok (a.inRel (xs.getD ((k:Int).toNat) 0) (xs.getD ((j:Int).toNat) 0)) w1 )) (zI (zL (fun _ h=>h.tail) ?_)));refine qA Z Z Z Z Z (yJ Z Z Z (by first | (rw [bit_len];omega) | omega)) (fun _ h=>h.tail) (qA Z Z Z Z Z (zG Z zY Z qO Z Z) (fun _ h=>h.tail) (qE Z (qU (v:=str (R1++((if a.inRel (xs.getD ((k:Int).toNat) 0) (xs.getD ((j:Int).toNat) 0) then [49] else [48])))) (hs':=[bk_ p5 #[i6_ (xs.length:Int),str (S++((if a.inSet (xs.getD ((k:Int).toNat) 0) then [49] else [48]))),str (R1++((if a.inRel (xs.getD ((k:Int).toNat) 0) (xs.getD ((j:Int).toNat) 0) then [49] else [48])))] 24,_,_]) 0 Z Z Z Z Z Z qO Z (by simp) Z (zI (zL (fun _ h=>h.tail) ?_)))));refine yU (zD [1,2,4,5,6,7] [_,_,_,_,_,_] Z (zB (zC 1 Z (zE Z (qT Z Z Z (by omega) (by omega)) (zC 1 Z (zH (yL ((j+1,R1++((if a.inRel (xs.getD ((k:Int).toNat) 0) (xs.getD ((j:Int).toNat) 0) then [49] else [48])))) ⟨by omega,by (try dsimp only);rw [zN,bit_len];omega⟩ (by omega) (Sub.sel [1,2,4,5,6,7] Z) (fun _ h=>h))))))))
    refine zO (v:=str ((if a.inRel (xs.getD ((k:Int).toNat) 0) (xs.getD ((j:Int).toNat) 0) then [49] else [48]))) Z (qK Z jF Z qC (fun w1 hw1=>bitD_ok (a.inRel (xs.getD ((k:Int).toNat) 0) (xs.getD ((j:Int).toNat) 0)) w1 )) (zI (zL (fun _ h=>h.tail) ?_));refine qE Z (zO Z (zS 0 Z yH Z Z Z) (zI (zL (fun _ h=>h.tail) ?_)));refine qA Z Z Z Z Z (yJ Z Z Z (by first | (rw [bit_len];omega) | omega)) (fun _ h=>h.tail) (qA Z Z Z Z Z (zG Z zY Z qO Z Z) (fun _ h=>h.tail) (qE Z (qU (v:=str (R1++((if a.inRel (xs.getD ((k:Int).toNat) 0) (xs.getD ((j:Int).toNat) 0) then [49] else [48])))) (hs':=[bk_ p5 #[i6_ (xs.length:Int),str (S++((if a.inSet (xs.getD ((k:Int).toNat) 0) then [49] else [48]))),str (R1++((if a.inRel (xs.getD ((k:Int).toNat) 0) (xs.getD ((j:Int).toNat) 0) then [49] else [48])))] 24,_,_]) 0 Z Z Z Z Z Z qO Z (by simp) Z (zI (zL (fun _ h=>h.tail) ?_)))));refine yU (zD [1,2,4,5,6,7] [_,_,_,_,_,_] Z (zB (zC 1 Z (zE Z (qT Z Z Z (by omega) (by omega)) (zC 1 Z (zH (yL ((j+1,R1++((if a.inRel (xs.getD ((k:Int).toNat) 0) (xs.getD ((j:Int).toNat) 0) then [49] else [48])))) ⟨by omega,by (try dsimp only);rw [zN,bit_len];omega⟩ (by omega) (Sub.sel [1,2,4,5,6,7] Z) (fun _ h=>h))))))))
   refine yY Z (zD [1,2,4,5,6] [_,_,_,_,_] Z (zB (zC 1 Z (zE Z (qT Z Z Z (by omega) (by omega)) (zC 1 Z (zH (yL ((k+1,S++((if a.inSet (xs.getD ((k:Int).toNat) 0) then [49] else [48])),R1)) ⟨by omega,by (try dsimp only);rw [zN,bit_len];omega,by (try dsimp only);rw [Nat.add_mul,Nat.one_mul];omega⟩ (by omega) (Sub.sel [1,2,4,5,6] Z) (fun _ h=>h))))))))
  refine zO (v:=str ((if a.inSet (xs.getD ((k:Int).toNat) 0) then [49] else [48]))) Z (qK Z jF Z qC (fun w1 hw1=>bitD_ok (a.inSet (xs.getD ((k:Int).toNat) 0)) w1 )) (zI (zL (fun _ h=>h.tail) ?_));refine qE Z (zO Z (zS 0 Z yH Z Z Z) (zI (zL (fun _ h=>h.tail) ?_)));refine qA Z Z Z Z Z (yJ Z Z Z (by first | (rw [bit_len];omega) | omega)) (fun _ h=>h.tail) (qA Z Z Z Z Z (zG Z zY Z qO Z Z) (fun _ h=>h.tail) (qE Z (qU (v:=str (S++((if a.inSet (xs.getD ((k:Int).toNat) 0) then [49] else [48])))) (hs':=[bk_ p5 #[i6_ (xs.length:Int),str (S++((if a.inSet (xs.getD ((k:Int).toNat) 0) then [49] else [48]))),str R] 24,_,_]) 0 Z Z Z Z Z Z qO Z (by simp) Z (zI (zL (fun _ h=>h.tail) ?_)))));refine yU (zD [1,2,4,5,6] [_,_,_,_,_] Z (zF (zB (zC 1 Z (zH (zD [1,2,4,5,6,7] [_,_,_,_,_,_] Z (qW (xM (σ:=Nat×List UInt8) (fun ⟨j,R1⟩=>j≤xs.length∧R1.length=k*xs.length+j) (fun ⟨j,R1⟩=>[(1,va),(2,pt_ p2),(4,pt_ p4),(5,pt_ p5),(6,i6_ (k:Int)),(7,i6_ (j:Int))]) (fun ⟨j,R1⟩=>Own w.heap.size w [bk_ p5 #[i6_ (xs.length:Int),str (S++((if a.inSet (xs.getD ((k:Int).toNat) 0) then [49] else [48]))),str R1] 24,bk_ p4 #[i6_ 0,str ([]),str ([])] 24,bk_ p2 #[i6_ a.n,str a.set,str a.rel] 24]) (fun ⟨j,R1⟩=>xs.length - j) (0,R) ⟨by omega,by omega⟩ (Sub.sel [1,2,4,5,6,7] Z) (fun _ h=>h) ?_))))))))
  rintro ⟨j,R1⟩ ⟨hj,hR1⟩
  dsimp only;refine zF (zF (zB (zC 2 Z (zE (v:=i6_ (xs.length:Int)) Z (yP Z zX Z (ints_length _) (fun w1 hw1=>Row.own hva hw1)) (zC 1 Z (zH (zD [1,2,4,5,6,7,31] [_,_,_,_,_,_,_] Z (yQ Z (fun h31_2=>?_) (fun h31_2=>?_)))))))))
  ·
   refine qR (zD [1,2,4,5,6,7] [_,_,_,_,_,_] Z (zF (qW (jW (S:=Own w.heap.size w [bk_ p4 #[i6_ 0,str ([]),str ([])] 24,bk_ p2 #[i6_ a.n,str a.set,str a.rel] 24]) (.take 0 (.take 2 (.take 3 (.take 4 (.take 5 (.take 6 (.take 7 (.take 8 (.take 9 (.take 10 (.two 1 (.one 11 (.one 12 (.take 13 (.take 14 (.one 15 .done))))) 11 (.two 1 (.one 12 (.take 13 (.take 14 (.one 15 .done)))) 12 (.one 1 (.take 13 (.take 14 (.one 15 .done)))))))))))))))) yC (fun _ h=>h.drawn) (by kernel_rfl) (qA Z Z Z Z Z (zG Z zY Z qO Z Z) (fun _ h=>h.tail) (qA Z Z Z Z Z (qF (cs:=#[i6_ a.n,str a.set,str a.rel]) 1 Z zZ Z Z zQ) (fun _ h=>h.tail) (vK 2 Z (fun _ h=>h.tail) (qA (v:=.pointer (some (sAt va (k:Int)))) Z Z Z Z Z (yO Z zX zJ Z Z (by omega) (by rw [ints_length];omega) (fun w1 hw1=>Row.own hva hw1)) (fun _ h=>h.tail) (qA (v:=i6_ (xs.getD ((k:Int).toNat) 0)) Z Z Z Z Z (qN Z zU Z (fun w1 hw1=>Ints.cell (Row.own hva hw1) (by omega) (by omega))) (fun _ h=>h.tail) (vK 2 Z (fun _ h=>h.tail) (qA (v:=.pointer (some (sAt va (j:Int)))) Z Z Z Z Z (yO Z zX zJ Z Z (by omega) (by rw [ints_length];omega) (fun w1 hw1=>Row.own hva hw1)) (fun _ h=>h.tail) (qA (v:=i6_ (xs.getD ((j:Int).toNat) 0)) Z Z Z Z Z (qN Z zU Z (fun w1 hw1=>Ints.cell (Row.own hva hw1) (by omega) (by omega))) (fun _ h=>h.tail) (xI Z Z ?_ ?_)))))))))))))
   ·
    refine zO Z (zS 0 Z yH Z Z Z) (zI (zL (fun _ h=>h.tail) ?_));refine qE Z (zO (v:=bo_ (a.inRel (xs.getD ((k:Int).toNat) 0) (xs.getD ((j:Int).toNat) 0))) Z (qK Z vE Z qC (fun w1 hw1=>l1Rel_ok a (xs.getD ((k:Int).toNat) 0) (xs.getD ((j:Int).toNat) 0) w1 ha (by first | assumption | exact St.Els.at (by assumption) (by omega) (by omega)) (by first | assumption | exact St.Els.at (by assumption) (by omega) (by omega)))) (zI (zL (fun _ h=>h.tail) ?_)));refine qE Z (zO (v:=str ((if a.inRel (xs.getD ((k:Int).toNat) 0) (xs.getD ((j:Int).toNat) 0) then [49] else [48]))) Z (qK Z jF Z qC (fun w1 hw1=>bitD_ok (a.inRel (xs.getD ((k:Int).toNat) 0) (xs.getD ((j:Int).toNat) 0)) w1 )) (zI (zL (fun _ h=>h.tail) ?_)));refine qA Z Z Z Z Z (yJ Z Z Z (by first | (rw [bit_len];omega) | omega)) (fun _ h=>h.tail) (qA Z Z Z Z Z (zG Z zY Z qO Z Z) (fun _ h=>h.tail) (qE Z (qU (v:=str (R1++((if a.inRel (xs.getD ((k:Int).toNat) 0) (xs.getD ((j:Int).toNat) 0) then [49] else [48])))) (hs':=[bk_ p5 #[i6_ (xs.length:Int),str (S++((if a.inSet (xs.getD ((k:Int).toNat) 0) then [49] else [48]))),str (R1++((if a.inRel (xs.getD ((k:Int).toNat) 0) (xs.getD ((j:Int).toNat) 0) then [49] else [48])))] 24,_,_]) 0 Z Z Z Z Z Z qO Z (by simp) Z (zI (zL (fun _ h=>h.tail) ?_)))));refine yU (zD [1,2,4,5,6,7] [_,_,_,_,_,_] Z (zB (zC 1 Z (zE Z (qT Z Z Z (by omega) (by omega)) (zC 1 Z (zH (yL ((j+1,R1++((if a.inRel (xs.getD ((k:Int).toNat) 0) (xs.getD ((j:Int).toNat) 0) then [49] else [48])))) ⟨by omega,by (try dsimp only);rw [zN,bit_len];omega⟩ (by omega) (Sub.sel [1,2,4,5,6,7] Z) (fun _ h=>h))))))))
   refine zO (v:=bo_ (a.inRel (xs.getD ((k:Int).toNat) 0) (xs.getD ((j:Int).toNat) 0))) Z (qK Z vE Z qC (fun w1 hw1=>l1Rel_ok a (xs.getD ((k:Int).toNat) 0) (xs.getD ((j:Int).toNat) 0) w1 ha (by first | assumption | exact St.Els.at (by assumption) (by omega) (by omega)) (by first | assumption | exact St.Els.at (by assumption) (by omega) (by omega)))) (zI (zL (fun _ h=>h.tail) ?_));refine xI Z Z ?_ ?_
   ·
    refine zO Z (zS 0 Z yH Z Z Z) (zI (zL (fun _ h=>h.tail) ?_));refine qE Z (zO (v:=str ((if a.inRel (xs.getD ((k:Int).toNat) 0) (xs.getD ((j:Int).toNat) 0) then [49] else [48]))) Z (qK Z jF Z qC (fun w1 hw1=>bitD_ok (a.inRel (xs.getD ((k:Int).toNat) 0) (xs.getD ((j:Int).toNat) 0)) w1 )) (zI (zL (fun _ h=>h.tail) ?_)));refine qA Z Z Z Z Z (yJ Z Z Z (by first | (rw [bit_len];omega) | omega)) (fun _ h=>h.tail) (qA Z Z Z Z Z (zG Z zY Z qO Z Z) (fun _ h=>h.tail) (qE Z (qU (v:=str (R1++((if a.inRel (xs.getD ((k:Int).toNat) 0) (xs.getD ((j:Int).toNat) 0) then [49] else [48])))) (hs':=[bk_ p5 #[i6_ (xs.length:Int),str (S++((if a.inSet (xs.getD ((k:Int).toNat) 0) then [49] else [48]))),str (R1++((if a.inRel (xs.getD ((k:Int).toNat) 0) (xs.getD ((j:Int).toNat) 0) then [49] else [48])))] 24,_,_]) 0 Z Z Z Z Z Z qO Z (by simp) Z (zI (zL (fun _ h=>h.tail) ?_)))));refine yU (zD [1,2,4,5,6,7] [_,_,_,_,_,_] Z (zB (zC 1 Z (zE Z (qT Z Z Z (by omega) (by omega)) (zC 1 Z (zH (yL ((j+1,R1++((if a.inRel (xs.getD ((k:Int).toNat) 0) (xs.getD ((j:Int).toNat) 0) then [49] else [48])))) ⟨by omega,by (try dsimp only);rw [zN,bit_len];omega⟩ (by omega) (Sub.sel [1,2,4,5,6,7] Z) (fun _ h=>h))))))))
   refine zO (v:=str ((if a.inRel (xs.getD ((k:Int).toNat) 0) (xs.getD ((j:Int).toNat) 0) then [49] else [48]))) Z (qK Z jF Z qC (fun w1 hw1=>bitD_ok (a.inRel (xs.getD ((k:Int).toNat) 0) (xs.getD ((j:Int).toNat) 0)) w1 )) (zI (zL (fun _ h=>h.tail) ?_));refine qE Z (zO Z (zS 0 Z yH Z Z Z) (zI (zL (fun _ h=>h.tail) ?_)));refine qA Z Z Z Z Z (yJ Z Z Z (by first | (rw [bit_len];omega) | omega)) (fun _ h=>h.tail) (qA Z Z Z Z Z (zG Z zY Z qO Z Z) (fun _ h=>h.tail) (qE Z (qU (v:=str (R1++((if a.inRel (xs.getD ((k:Int).toNat) 0) (xs.getD ((j:Int).toNat) 0) then [49] else [48])))) (hs':=[bk_ p5 #[i6_ (xs.length:Int),str (S++((if a.inSet (xs.getD ((k:Int).toNat) 0) then [49] else [48]))),str (R1++((if a.inRel (xs.getD ((k:Int).toNat) 0) (xs.getD ((j:Int).toNat) 0) then [49] else [48])))] 24,_,_]) 0 Z Z Z Z Z Z qO Z (by simp) Z (zI (zL (fun _ h=>h.tail) ?_)))));refine yU (zD [1,2,4,5,6,7] [_,_,_,_,_,_] Z (zB (zC 1 Z (zE Z (qT Z Z Z (by omega) (by omega)) (zC 1 Z (zH (yL ((j+1,R1++((if a.inRel (xs.getD ((k:Int).toNat) 0) (xs.getD ((j:Int).toNat) 0) then [49] else [48])))) ⟨by omega,by (try dsimp only);rw [zN,bit_len];omega⟩ (by omega) (Sub.sel [1,2,4,5,6,7] Z) (fun _ h=>h))))))))
  refine yY Z (zD [1,2,4,5,6] [_,_,_,_,_] Z (zB (zC 1 Z (zE Z (qT Z Z Z (by omega) (by omega)) (zC 1 Z (zH (yL ((k+1,S++((if a.inSet (xs.getD ((k:Int).toNat) 0) then [49] else [48])),R1)) ⟨by omega,by (try dsimp only);rw [zN,bit_len];omega,by (try dsimp only);rw [Nat.add_mul,Nat.one_mul];omega⟩ (by omega) (Sub.sel [1,2,4,5,6] Z) (fun _ h=>h))))))))
 refine yY Z (zD [4,5] [_,_] Z (zF (qI (zO Z (qF (cs:=#[i6_ (xs.length:Int),str S,str R]) 0 Z zZ Z Z zQ) (yV (cs':=#[i6_ (xs.length:Int),str S,str R]) (hs':=[_,bk_ p4 #[i6_ (xs.length:Int),str S,str R] 24,_]) 1 Z Z Z Z Z (by kernel_rfl:_=some Tryz.t24) Z Z Z Z Z (zI (zD [4] [_] Z (qM (Kt.endBox (cs:=#[i6_ (xs.length:Int),str S,str R]) 1 Z Z Z zZ zQ fun w' hw=>?_)))))))))
 exact ⟨⟨(xs.length:Int),S,R⟩,rfl,⟨rfl,by dsimp only;omega,by dsimp only;rw [hR,show k=xs.length from by omega]⟩,hw.below⟩
end Go.Proofs.YtefiibghfgfdnaaGreatDoor
