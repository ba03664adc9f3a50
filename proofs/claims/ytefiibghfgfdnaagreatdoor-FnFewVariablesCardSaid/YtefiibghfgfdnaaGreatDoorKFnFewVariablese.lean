/-
  FnFewVariables: all that its proof names (part 5)
-/
import Derived.Test.YtefiibghfgfdnaaGreatDoorKFnFewVariablesd
import Derived.Test.YtefiibghfgfdnaaGreatDoorKFnFewVariablesb
import Derived.Test.YtefiibghfgfdnaaGreatDoorKFnFewVariablesc
import Derived.Shelf.Small.Strs
import Derived.Shelf.Strings.Search3
import Derived.Test.YtefiibghfgfdnaaGreatDoorProg
namespace Go.Proofs.YtefiibghfgfdnaaGreatDoor
open Go.RowKit Go.Wk
set_option linter.unusedSimpArgs false
set_option maxHeartbeats 400000 in
theorem l15Dec_ok (x:Int) (w:World) (h0:0≤x) (h1:x<1000000000000) :
    Calls Tryz.prog 130 [i6_ x].toArray w fun en w'=>en=.returned (str (decS x.toNat))∧Below w.heap.size w w':=by
 refine fnStart (n:=31) (e:=[(0,i6_ x)]) Tryz.func130 Z Z Z Z Ends.both ?_
 have hdl:=decS_len x.toNat 12 (show x.toNat<1000000000000 by omega) (by decide);refine zF (zB (zE (v:=str ([])) Z (jC Z Z) (zH (zD [0] [_] Z (zF (zF (zB (zC 2 Z (zH (zD [0,5] [_,_] Z (yF (b:=decide (x<(-9223372036854775807:Int))) Z (fun h5=>?_) (fun h5=>?_))))))))))))
 ·
  replace h5:=zV h5
  omega
 replace h5:=zT h5;refine qR (zD [0] [_] Z (zF (zF (zB (zC 2 Z (zH (zD [0,7] [_,_] Z (yF (b:=decide (x<(0:Int))) Z (fun h7=>?_) (fun h7=>?_)))))))))
 ·
  replace h7:=zV h7
  omega
 replace h7:=zT h7;refine qR (zD [0] [_] Z (zF (zB (zE (v:=str ([])) Z (jC Z Z) (zH (zD [0,3] [_,_] Z (zF (qW (xM (σ:=Nat×List UInt8) (fun ⟨n,o⟩=>decS x.toNat=decS n++o∧n≤x.toNat) (fun ⟨n,o⟩=>[(0,i6_ (n:Int)),(3,str o)]) (fun ⟨n,o⟩=>Own w.heap.size w []) (fun ⟨n,o⟩=>n) (x.toNat,[]) ⟨by simp,Nat.le_refl _⟩ (Sub.cons (by rw [Int.toNat_of_nonneg h0];rfl) (Sub.sel [3] Z)) (fun _ h=>h) ?_)))))))))
 rintro ⟨n,o⟩ ⟨ho,hn⟩
 dsimp only
 have hol:=dec_len ho hdl;refine zF (zF (zB (zC 2 Z (zH (zD [0,3,13] [_,_,_] Z (yQ Z (fun h13=>?_) (fun h13=>?_)))))))
 ·
  refine qR (zD [0,3] [_,_] Z (qW (zF (qI (qL 1 Z (zO (v:=i6_ ((n:Int) % (10:Int))) Z (OpQ.rem Z Z Z (by omega) (by decide)) (zO Z (qT Z Z Z (by omega) (by omega)) (zO (v:=.int .u8 ((48:Int)+((n:Int) % (10:Int)))) Z (jX .u8 Z xF jH Z (IntWalk.u8_in _ (by omega))) (yN (xs:=[.tmp 17]) (vs:=[.int .u8 ((48:Int)+((n:Int) % (10:Int)))]) jI Z Z Z Z Z Z (by decide) Z fun p18 hp18=>(zO (v:=str ([UInt8.ofNat (48+n % 10)])) Z (OpQ.byteStr (b:=UInt8.ofNat (48+n % 10)) 0 Z Tryz.underlying22 jH qS Z Z (by rw [toNat_dig (by omega)];omega)) (qL 1 Z (zO Z (yJ Z Z Z (by first | omega | (simp only [zN,qB,qD];omega))) (qL 1 Z (zI (zD [0,3] [_,_] Z (zB (zC 1 Z (zE (v:=i6_ ((n / 10:Nat):Int)) Z (yA (by simp) (OpQ.quo Z Z Z (by omega) (by omega) (by decide))) (zC 1 Z (zH (yL (n / 10,[UInt8.ofNat (48+n % 10)]++o) ⟨dec_step ho (by omega),by omega⟩ (by omega) (Sub.sel [0,3] Z) (fun _ h=>h.tail))))))))))))))))))))))
 refine yY Z (zD [0,3] [_,_] Z (zF (qI (qL 1 Z (zO Z (qT Z Z Z (by omega) (by omega)) (zO (v:=.int .u8 ((48:Int)+(n:Int))) Z (jX .u8 Z xF jH Z (IntWalk.u8_in _ (by omega))) (yN (xs:=[.tmp 26]) (vs:=[.int .u8 ((48:Int)+(n:Int))]) jI Z Z Z Z Z Z (by decide) Z fun p27 hp27=>(zO (v:=str ([UInt8.ofNat (48+n)])) Z (OpQ.byteStr (b:=UInt8.ofNat (48+n)) 0 Z Tryz.underlying22 jH qS Z Z (by rw [toNat_dig (by omega)];omega)) (qL 1 Z (zO Z (yJ Z Z Z (by first | omega | (simp only [zN,qB,qD];omega))) (qL 1 Z (zI (zD [2] [_] Z (qM (qQ Z Z fun w' hw=>?_)))))))))))))))
 exact ⟨ret_s (by rw [ho,decS,if_pos (by omega)]),hw.below⟩
set_option maxHeartbeats 400000 in
theorem l5Insert_ok (B:Nat) (w0:World) (hs:List (Nat×Obj)) (g cap:Nat) (cur:Array Value) (xs:List Int) (m:Int) (w:World) (hc:cur.size=cap*1) (hle:xs.length≤cap) (ht:cur.toList.take xs.length=ints xs) (hs1:xs.length≤1000) (hw:Own B w0 ((g,.cells cur 3 (0,0))::hs) w) :
    Calls Tryz.prog 129 [sl_ g xs.length cap,i6_ m].toArray w fun en w'=>∃ (g' cap':Nat) (cur':Array Value),en=.returned (.slice (some ⟨g',0,none⟩) (insS xs m).length cap')∧(cur'.size=cap'*1∧(insS xs m).length≤cap'∧cur'.toList.take (insS xs m).length=ints (insS xs m))∧Own B w0 ((g',.cells cur' 3 (0,0))::hs) w':=by
 refine fnStartC (Own B w0 ((g,.cells cur 3 (0,0))::hs)) (n:=41) (e:=[(0,sl_ g xs.length cap),(1,i6_ m)]) Tryz.func129 Z Z Z Z Ends.both hw (zF (zB (zC 1 Z (zH (zD [0,1] [_,_] Z (zF (zF (zB (zC 1 Z (zH (zD [0,1,5] [_,_,_] Z (qW (xM (σ:=Nat) (fun k=>k≤xs.length∧∀ j:Nat,j<k→¬ xs.getD j 0=m∧¬ m<xs.getD j 0) (fun k=>[(0,sl_ g xs.length cap),(1,i6_ m),(5,i6_ (k:Int))]) (fun k=>Own B w0 (bk_ g cur 3::hs)) (fun k=>xs.length - k) (0) ⟨by omega,fun i hi=>absurd hi (by omega)⟩ (Sub.sel [0,1,5] Z) (fun _ h=>h) ?_)))))))))))))
 rintro k ⟨hk,hall⟩;refine zF (zF (zB (zC 2 Z (zE Z (kD Z zX Z) (zC 1 Z (zH (zD [0,1,5,9] [_,_,_,_] Z (yF (b:=decide ((k:Int)<(xs.length:Int))) Z (fun h9=>?_) (fun h9=>?_)))))))))
 ·
  replace h9:=zV h9
  have hk2:k<xs.length:=by omega
  refine qR (zD [0,1,5] [_,_,_] Z (zF (qW (zF (zF (zB (zC 2 Z (zE (v:=pf_ g k) Z (yA (by simp) (yZ Z zX zJ Z Z (by omega) (by omega))) (zE (v:=i6_ (xs.getD (k) 0)) Z (xT 0 Z zU Z Z (cur_at ht (ints_at2 (by omega)))) (zC 2 Z (zH (zD [0,1,5,17] [_,_,_,_] Z (yQ Z (fun h17=>?_) (fun h17=>?_))))))))))))))
  ·
   refine zF (zB (zC 2 Z (zH (zD [4] [_] Z (qM (qQ Z Z fun w' hw=>?_))))))
   have e:=insS_at (n:=m) hk2 hall (by simpa using h17)
   exact ⟨g,cap,cur,by rw [e],⟨hc,by rw [e];exact hle,by rw [e];exact ht⟩,hw⟩
  refine qR (zD [0,1,5] [_,_,_] Z (zF (zB (zC 2 Z (zE (v:=pf_ g k) Z (yA (by simp) (yZ Z zX zJ Z Z (by omega) (by omega))) (zE (v:=i6_ (xs.getD (k) 0)) Z (xT 0 Z zU Z Z (cur_at ht (ints_at2 (by omega)))) (zC 2 Z (zH (zD [0,1,5,24] [_,_,_,_] Z (yQ Z (fun h24=>?_) (fun h24=>?_)))))))))))
  ·
   refine zF (Wk.regionT (S:=Own B w0 [bk_ g cur 3]) (.take 1 (.take 2 (.take 3 (.take 5 (.take 8 (.take 9 (.take 10 (.two 0 (.two 4 (.one 6 (.one 7 (.one 11 (.take 12 .done)))) 6 (.one 4 (.one 7 (.one 11 (.take 12 .done))))) 6 (.one 0 (.one 4 (.one 7 (.one 11 (.take 12 .done))))))))))))) yC (fun _ h=>h.drawn) (by kernel_rfl) (Lt.run 2 Z (pk [0] Z Z) (vL (v:=sl_ g ((k:Int).toNat) cap) Z Z Z Z Z (OpQ.takeS (i:=(k:Int)) Z zX zJ Z Z (by omega) (by omega)) (pk [0] Z Z) (Lt.run 3 Z (pk [0] Z Z) (vL (v:=.slice (some ⟨g,(k:Int).toNat,none⟩) (xs.length - (k:Int).toNat) (cap - (k:Int).toNat)) Z Z Z Z Z (OpQ.dropS Z zX zJ Z Z (by omega) (by omega) (by omega)) (pk [0] Z Z) (Lt.two Z Z ?_ ?_))))))
   ·
    refine yN (xs:=[]) (vs:=[]) yI Z Z Z Z Z Z (by decide) Z fun p25 hp25=>(zI (xC (pk [1] Z Z) ?_));refine Lt.two Z Z ?_ ?_
    ·
     refine xH (xs:=[]) (ys:=(xs).take ((k:Int).toNat)) yI 0 Z Z Z Z Z Z Z Z (by decide) Z (fun w1 hw1=>(Own.rowTake hw1 (i:=1) Z ht (by omega) hle)) (((xs).take ((k:Int).toNat)).length) (by first | (simp;done) | (simp;omega)) (by first | (simp;done) | (simp;omega) | omega) fun p29 cap29 cur29 hp29 hcp29 hlp29 htp29=>?_
     show Ll _ _ (Own _ _ (_::_::hs)) _ _ ((29,sl_ p29 ((((xs).take ((k:Int).toNat)).length)) cap29)::_) _ _ _;refine zI (xC (pk [1] Z Z) ?_);refine jG Z (yN (xs:=[.tmp 30]) (vs:=[i6_ m]) yI Z Z Z Z Z Z (by decide) Z fun p31 hp31=>(zI (xC (pk [2] Z Z) ?_)));refine jG Z (xH (xs:=(xs).take ((k:Int).toNat)) (ys:=[m]) yI 1 Z Z Z Z Z Z Z hcp29 hlp29 (by simpa using htp29) (fun w1 hw1=>(yX hw1 (i:=0) Z (n:=1) (cap:=1) (vs:=ints [m]) Z Z (by decide))) ((((xs).take ((k:Int).toNat))++([m])).length) (by first | (simp;done) | (simp;omega)) (by first | (simp;done) | (simp;omega) | omega) fun p32 cap32 cur32 hp32 hcp32 hlp32 htp32=>?_)
     show Ll _ _ (Own _ _ (_::_::_::hs)) _ _ ((32,sl_ p32 (((((xs).take ((k:Int).toNat))++([m])).length)) cap32)::_) _ _ _;refine zI (xC (pk [2] Z Z) ?_);refine jG Z (xH (xs:=((xs).take ((k:Int).toNat))++([m])) (ys:=(xs).drop ((k:Int).toNat)) yI 1 Z Z Z Z Z Z Z hcp32 hlp32 (by simpa using htp32) (fun w1 hw1=>(Own.rowDrop hw1 (i:=2) Z ht (by omega) hle)) (((((xs).take ((k:Int).toNat))++([m]))++((xs).drop ((k:Int).toNat))).length) (by first | (simp;done) | (simp;omega)) (by first | (simp;done) | (simp;omega) | omega) fun p36 cap36 cur36 hp36 hcp36 hlp36 htp36=>?_)
     show Ll _ _ (Own _ _ (_::_::_::hs)) _ _ ((36,sl_ p36 ((((((xs).take ((k:Int).toNat))++([m]))++((xs).drop ((k:Int).toNat))).length)) cap36)::_) _ _ _;refine zI (xC (pk [2] Z Z) ?_);refine Lt.run 1 Z (pk [2] Z Z) (Lt.nil (zD [4] [_] Z (qM (qQ Z Z fun w' hw=>?_))))
     have e:=insS_mid (n:=m) hk2 hall (by simpa using h24)
     simp only [Int.toNat_natCast,Nat.mul_one] at *
     exact ⟨p36,cap36,cur36,by rw [e],⟨by simpa using hcp36,by rw [e];exact hlp36,by rw [e];exact htp36⟩,hw.sub (qJ _ (zA _ (qJ _ (zW _))))⟩
    refine yN (xs:=[.tmp 30]) (vs:=[i6_ m]) yI Z Z Z Z Z Z (by decide) Z fun p31_1 hp31_1=>(zI (xC (pk [2] Z Z) ?_));refine jG Z (xH (xs:=[]) (ys:=(xs).take ((k:Int).toNat)) yI 1 Z Z Z Z Z Z Z Z (by decide) Z (fun w1 hw1=>(Own.rowTake hw1 (i:=2) Z ht (by omega) hle)) (((xs).take ((k:Int).toNat)).length) (by first | (simp;done) | (simp;omega)) (by first | (simp;done) | (simp;omega) | omega) fun p29_1 cap29_1 cur29_1 hp29_1 hcp29_1 hlp29_1 htp29_1=>?_)
    show Ll _ _ (Own _ _ (_::_::_::hs)) _ _ ((29,sl_ p29_1 ((((xs).take ((k:Int).toNat)).length)) cap29_1)::_) _ _ _;refine zI (xC (pk [2] Z Z) ?_);refine jG Z (xH (xs:=(xs).take ((k:Int).toNat)) (ys:=[m]) yI 1 Z Z Z Z Z Z Z hcp29_1 hlp29_1 (by simpa using htp29_1) (fun w1 hw1=>(yX hw1 (i:=0) Z (n:=1) (cap:=1) (vs:=ints [m]) Z Z (by decide))) ((((xs).take ((k:Int).toNat))++([m])).length) (by first | (simp;done) | (simp;omega)) (by first | (simp;done) | (simp;omega) | omega) fun p32_1 cap32_1 cur32_1 hp32_1 hcp32_1 hlp32_1 htp32_1=>?_)
    show Ll _ _ (Own _ _ (_::_::_::hs)) _ _ ((32,sl_ p32_1 (((((xs).take ((k:Int).toNat))++([m])).length)) cap32_1)::_) _ _ _;refine zI (xC (pk [2] Z Z) ?_);refine jG Z (xH (xs:=((xs).take ((k:Int).toNat))++([m])) (ys:=(xs).drop ((k:Int).toNat)) yI 1 Z Z Z Z Z Z Z hcp32_1 hlp32_1 (by simpa using htp32_1) (fun w1 hw1=>(Own.rowDrop hw1 (i:=2) Z ht (by omega) hle)) (((((xs).take ((k:Int).toNat))++([m]))++((xs).drop ((k:Int).toNat))).length) (by first | (simp;done) | (simp;omega)) (by first | (simp;done) | (simp;omega) | omega) fun p36_1 cap36_1 cur36_1 hp36_1 hcp36_1 hlp36_1 htp36_1=>?_)
    show Ll _ _ (Own _ _ (_::_::_::hs)) _ _ ((36,sl_ p36_1 ((((((xs).take ((k:Int).toNat))++([m]))++((xs).drop ((k:Int).toNat))).length)) cap36_1)::_) _ _ _;refine zI (xC (pk [2] Z Z) ?_);refine Lt.run 1 Z (pk [2] Z Z) (Lt.nil (zD [4] [_] Z (qM (qQ Z Z fun w' hw=>?_))))
    have e:=insS_mid (n:=m) hk2 hall (by simpa using h24)
    simp only [Int.toNat_natCast,Nat.mul_one] at *
    exact ⟨p36_1,cap36_1,cur36_1,by rw [e],⟨by simpa using hcp36_1,by rw [e];exact hlp36_1,by rw [e];exact htp36_1⟩,hw.sub (qJ _ (zA _ (qJ _ (zW _))))⟩
   refine yN (xs:=[.tmp 30]) (vs:=[i6_ m]) yI Z Z Z Z Z Z (by decide) Z fun p31_2 hp31_2=>(zI (xC (pk [1] Z Z) ?_));refine jG Z (yN (xs:=[]) (vs:=[]) yI Z Z Z Z Z Z (by decide) Z fun p25_1 hp25_1=>(zI (xC (pk [2] Z Z) ?_)));refine jG Z (xH (xs:=[]) (ys:=(xs).take ((k:Int).toNat)) yI 0 Z Z Z Z Z Z Z Z (by decide) Z (fun w1 hw1=>(Own.rowTake hw1 (i:=2) Z ht (by omega) hle)) (((xs).take ((k:Int).toNat)).length) (by first | (simp;done) | (simp;omega)) (by first | (simp;done) | (simp;omega) | omega) fun p29_2 cap29_2 cur29_2 hp29_2 hcp29_2 hlp29_2 htp29_2=>?_)
   show Ll _ _ (Own _ _ (_::_::_::hs)) _ _ ((29,sl_ p29_2 ((((xs).take ((k:Int).toNat)).length)) cap29_2)::_) _ _ _;refine zI (xC (pk [2] Z Z) ?_);refine jG Z (xH (xs:=(xs).take ((k:Int).toNat)) (ys:=[m]) yI 0 Z Z Z Z Z Z Z hcp29_2 hlp29_2 (by simpa using htp29_2) (fun w1 hw1=>(yX hw1 (i:=1) Z (n:=1) (cap:=1) (vs:=ints [m]) Z Z (by decide))) ((((xs).take ((k:Int).toNat))++([m])).length) (by first | (simp;done) | (simp;omega)) (by first | (simp;done) | (simp;omega) | omega) fun p32_2 cap32_2 cur32_2 hp32_2 hcp32_2 hlp32_2 htp32_2=>?_)
   show Ll _ _ (Own _ _ (_::_::_::hs)) _ _ ((32,sl_ p32_2 (((((xs).take ((k:Int).toNat))++([m])).length)) cap32_2)::_) _ _ _;refine zI (xC (pk [2] Z Z) ?_);refine jG Z (xH (xs:=((xs).take ((k:Int).toNat))++([m])) (ys:=(xs).drop ((k:Int).toNat)) yI 0 Z Z Z Z Z Z Z hcp32_2 hlp32_2 (by simpa using htp32_2) (fun w1 hw1=>(Own.rowDrop hw1 (i:=2) Z ht (by omega) hle)) (((((xs).take ((k:Int).toNat))++([m]))++((xs).drop ((k:Int).toNat))).length) (by first | (simp;done) | (simp;omega)) (by first | (simp;done) | (simp;omega) | omega) fun p36_2 cap36_2 cur36_2 hp36_2 hcp36_2 hlp36_2 htp36_2=>?_)
   show Ll _ _ (Own _ _ (_::_::_::hs)) _ _ ((36,sl_ p36_2 ((((((xs).take ((k:Int).toNat))++([m]))++((xs).drop ((k:Int).toNat))).length)) cap36_2)::_) _ _ _;refine zI (xC (pk [2] Z Z) ?_);refine Lt.run 1 Z (pk [2] Z Z) (Lt.nil (zD [4] [_] Z (qM (qQ Z Z fun w' hw=>?_))))
   have e:=insS_mid (n:=m) hk2 hall (by simpa using h24)
   simp only [Int.toNat_natCast,Nat.mul_one] at *
   exact ⟨p36_2,cap36_2,cur36_2,by rw [e],⟨by simpa using hcp36_2,by rw [e];exact hlp36_2,by rw [e];exact htp36_2⟩,hw.sub (zA _ (qJ _ (qJ _ (zW _))))⟩
  refine qR (zD [0,1,5] [_,_,_] Z (zB (zC 1 Z (zE Z (qT Z Z Z (by omega) (by omega)) (zC 1 Z (zH (yL (k+1) ⟨by omega,fun i hi=>(Nat.lt_succ_iff_lt_or_eq.1 hi).elim (hall i) (fun e=>by subst e;exact ⟨by simpa using h17,by simpa using h24⟩)⟩ (by omega) (Sub.sel [0,1,5] Z) (fun _ h=>h))))))))
 replace h9:=zT h9;refine yY Z (zD [0,1] [_,_] Z (zF (qI (qL 2 Z (yN (xs:=[.tmp 38]) (vs:=[i6_ m]) yI Z Z Z Z Z Z (by decide) Z fun p39 hp39=>(xH (xs:=xs) (ys:=[m]) yI 1 Z Z Z Z Z Z Z hc hle ht (fun w1 hw1=>(yX hw1 (i:=0) Z (n:=1) (cap:=1) (vs:=ints [m]) Z Z (by decide))) ((xs++([m])).length) (by first | (simp;done) | (simp;omega)) (by first | (simp;done) | (simp;omega) | omega) fun p40 cap40 cur40 hp40 hcp40 hlp40 htp40=>?_))))))
 show Ll _ _ (Own _ _ (_::_::hs)) _ _ ((40,sl_ p40 (((xs++([m])).length)) cap40)::_) _ _ _;refine qL 1 Z (zI (zD [4] [_] Z (qM (qQ Z Z fun w' hw=>?_))))
 have e:=insS_end (l:=xs) (n:=m) (fun j hj=>hall j (by omega))
 simp only [Int.toNat_natCast,Nat.mul_one] at *
 exact ⟨p40,cap40,cur40,by rw [e],⟨by simpa using hcp40,by rw [e];exact hlp40,by rw [e];exact htp40⟩,hw.sub (qJ _ (zA _ (zW _)))⟩
set_option maxHeartbeats 400000 in
theorem l5New_ok (B:Nat) (w0:World) (hs:List (Nat×Obj)) (w:World) (hw:Own B w0 hs w) :
    Calls Tryz.prog 81 [].toArray w fun en w'=>∃ q c:Nat,en=.returned (.agg #[.slice (some ⟨q,0,none⟩) 997 997,.slice (some ⟨c,0,none⟩) 1 1])∧Own B w0 (tabL 163 3 165 q c (List.replicate 997 none) []++hs) w':=by
 refine fnStartC (Own B w0 hs) (n:=4) (e:=[]) Tryz.func81 Z Z Z Z Ends.both hw (zF (qI (jU Z Z Z Z Tryz.zeroValue100 fun p0 hp0=>?_)))
 show Ll _ _ (Own _ _ (bk_ p0 #[.slice none 0 0,.slice none 0 0] 100::hs)) _ _ ((0,pt_ p0)::_) _ _ _;refine zI (zD [0] [_] Z (zF (qI (uY (k:=997) Base.elem98 Tryz.zeroValue163 Z Z Z Z Z (by omega) fun p1 hp1=>?_))))
 rw [show madeCells (Value.cells (.slice none 0 0)) (997*1)=(List.replicate 997 (.slice none 0 0)).toArray from made_list _ _ rfl];refine yN (xs:=[.const (i6_ 0)]) (vs:=[i6_ 0]) yI Z Z Z Z Z Z (by decide) Z fun p2 hp2=>(zO (v:=.agg #[sl_ p1 997 997,sl_ p2 1 1]) Z (uL (xs:=[.tmp 1,.tmp 2]) (vs:=[sl_ p1 997 997,sl_ p2 1 1]) Z Z (by kernel_rfl)) (yV (cs':=#[sl_ p1 997 997,sl_ p2 1 1]) (hs':=(_::_::bk_ p0 #[sl_ p1 997 997,sl_ p2 1 1] 100::hs)) 2 Z Z Z Z Z (by kernel_rfl:_=some Tryz.t100) Z Z Z Z Z (zI (zD [0] [_] Z (qM (Kt.endBox (cs:=#[sl_ p1 997 997,sl_ p2 1 1]) 2 Z Z Z uS uK fun w' hw=>?_))))));refine ⟨p1,p2,rfl,?_⟩
 show Own B w0 (_::_::(blks _ _++hs)) w'
 rw [blks_new,← new_bkts]
 exact (hw.perm (List.Perm.swap _ _ _)).sub (zA _ (zA _ (qJ _ (zW _))))
set_option maxHeartbeats 400000 in
theorem number_nil (B:Nat) (w0:World) (hs:List (Nat×Obj)) (q c:Nat) (bs:List Bkt) (T:List (List UInt8)) (s:List UInt8) (w:World) (hT:TabOk bs T) (hlT:T.length≤1000000) (hls:s.length≤1000) (hb:bs.getD (hashS s) none=none) (hw:Own B w0 (bk_ q ((bs.map bktV).toArray) 163::bk_ c #[i6_ (T.length:Int)] 3::hs) w) :
    Calls Tryz.prog 131 [.agg #[sl_ q 997 997,sl_ c 1 1],str s].toArray w fun en w'=>en=.returned (.int .i64 (T.length:Int))∧s ∉ T∧∃ (g' cap':Nat) (cur':Array Value),cur'.size=cap'*2∧1≤cap'∧cur'.toList.take (1*2)=entC (s,T.length)∧Own B w0 ((g',.cells cur' 165 (0,0))::(q,.cells ((bs.set (hashS s) (some (g',1,cap',cur'))).map bktV).toArray 163 (0,0))::(c,.cells #[.int .i64 ((T.length:Int)+1)] 3 (0,0))::hs) w':=by
 refine fnStartC (Own B w0 (bk_ q ((bs.map bktV).toArray) 163::bk_ c #[i6_ (T.length:Int)] 3::hs)) (n:=77) (e:=[(0,.agg #[sl_ q 997 997,sl_ c 1 1]),(1,str s)]) Tryz.func131 Z Z Z Z Ends.both hw ?_
 have h997:=hash_lt s
 have hkl:hashS s<bs.length:=by rw [hT.len];exact h997
 have hE:=hT.no _ h997 hb
 have hEl:(ents T (hashS s)).length=0:=by rw [hE];rfl
 refine zF (qI (xK (v:=.agg #[sl_ q 997 997,sl_ c 1 1]) Z Z Z Z Z fun p2 hp2=>?_))
 show Ll _ _ (Own _ _ (_::_::_::hs)) _ _ ((2,pt_ p2)::_) _ _ _;refine qL 1 Z (zI (zD [1,2] [_,_] Z (zF (zB (zC 1 Z (zH (zD [1,2,5] [_,_,_] Z (zF (zF (zB (zC 1 Z (zH (zD [1,2,5,6] [_,_,_,_] Z (qW (xM (σ:=Nat) (fun k=>k≤s.length) (fun k=>[(1,str s),(2,pt_ p2),(5,i6_ (((hashS (s.take k):Nat):Int))),(6,i6_ (k:Int))]) (fun k=>Own B w0 (bk_ p2 #[sl_ q 997 997,sl_ c 1 1] 100::bk_ q ((bs.map bktV).toArray) 163::bk_ c #[i6_ (T.length:Int)] 3::hs)) (fun k=>s.length - k) (0) (by omega) (Sub.cons Z (Sub.cons Z (Sub.cons Z (Sub.sel [6] Z)))) (fun _ h=>h) ?_)))))))))))))))
 rintro k hk;refine zF (zF (zB (zC 2 Z (zE (v:=i6_ (s.length:Int)) Z (jS Z qV Z) (zC 1 Z (zH (zD [1,2,5,6,12] [_,_,_,_,_] Z (yF (b:=decide ((k:Int)<(s.length:Int))) Z (fun h12=>?_) (fun h12=>?_)))))))))
 ·
  replace h12:=zV h12
  have hk2:k<s.length:=by omega
  have hkh:=hash_lt (s.take k)
  have hby:=UInt8.toNat_lt (s.getD k 0);refine qR (zD [1,2,5,6] [_,_,_,_] Z (zF (qW (zB (zC 1 Z (zE Z (uI Z Z Z (by omega) (by omega)) (zC 2 Z (zE (v:=.int .u8 (((s.getD ((k:Int).toNat) 0).toNat:Int))) Z (xE Z qV Z Z (by omega) (by omega)) (zE (v:=i6_ (((s.getD ((k:Int).toNat) 0).toNat:Int))) Z (jX .i64 Z jH xF Z (IntWalk.i64_in _ (by have:=UInt8.toNat_lt (s.getD ((k:Int).toNat) 0);omega))) (zE Z (qT Z Z Z (by simp only [Int.toNat_natCast];omega) (by simp only [Int.toNat_natCast];omega)) (zE (v:=i6_ (((hashS (s.take (k+1)):Nat):Int))) Z (yA (by rw [Wk.hash_step hk2];simp) (OpQ.rem Z Z Z (by omega) (by decide))) (zC 1 Z (zH (zD [1,2,5,6] [_,_,_,_] Z (zB (zC 1 Z (zE Z (qT Z Z Z (by omega) (by omega)) (zC 1 Z (zH (yL (k+1) (by omega) (by omega) (Sub.sel [1,2,5,6] Z) (fun _ h=>h)))))))))))))))))))))
 replace h12:=zT h12
 obtain rfl:k=s.length:=by omega
 rw [List.take_length];refine yY Z (zD [1,2,5] [_,_,_] Z (zF (zF (zB (zC 1 Z (zH (zD [1,2,5,7] [_,_,_,_] Z (qW (xM (σ:=Nat) (fun j=>j≤0∧∀ i:Nat,i<j→¬ ((ents T (hashS s)).getD i ([],0)).1=s) (fun j=>[(1,str s),(2,pt_ p2),(5,i6_ ((hashS s:Nat):Int)),(7,i6_ (j:Int))]) (fun j=>Own B w0 (bk_ p2 #[sl_ q 997 997,sl_ c 1 1] 100::bk_ q ((bs.map bktV).toArray) 163::bk_ c #[i6_ (T.length:Int)] 3::hs)) (fun j=>0 - j) (0) ⟨by omega,fun i hi=>absurd hi (by omega)⟩ (Sub.sel [1,2,5,7] Z) (fun _ h=>h) ?_)))))))))
 rintro j ⟨hj0,hall⟩;refine zF (zF (zB (zC 1 Z (zE Z (zG Z jJ Z uT Z Z) (zE Z (zS 0 Z uZ Z Z Z) (zC 1 Z (zE (v:=pf_ q (hashS s)) Z (yA (by simp) (yZ Z jY vC Z Z (by omega) (by omega))) (zE (v:=.slice none 0 0) Z (xT (v:=.slice none 0 0) 1 Z uU Z Z (bkt_at (b:=none) hkl hb)) (zE Z (kD Z Tryz.runUnderlying163 Z) (zC 1 Z (zH (zD [1,2,5,7,30] [_,_,_,_,_] Z (yF (b:=decide ((j:Int)<(0:Int))) Z (fun h30=>?_) (fun h30=>?_))))))))))))))
 ·
  replace h30:=zV h30
  omega
 replace h30:=zT h30;refine yY Z (zD [1,2,5] [_,_,_] Z (zF (zB (zE Z (zG Z jJ Z Tryz.sizeOf25 Z Z) (zE Z (zS 0 Z Tryz.isAgg25 Z Z Z) (zE (v:=pt_ c) Z (yA Z (yZ (i:=0) Z zX zJ Z Z (by decide) (by decide))) (zE Z (zS 2 Z zU Z Z Z) (zC 1 Z (zH (zD [1,2,5,8] [_,_,_,_] Z (zF (qI (zO Z (zG Z jJ Z Tryz.sizeOf25 Z Z) (zO Z (zS 0 Z Tryz.isAgg25 Z Z Z) (qL 1 Z (zO Z (qT Z Z Z (by omega) (by omega)) (zO (v:=pt_ c) Z (yA Z (yZ (i:=0) Z zX zJ Z Z (by decide) (by decide))) (qU (v:=i6_ ((T.length:Int)+(1:Int))) (hs':=(_::_::bk_ c #[i6_ ((T.length:Int)+(1:Int))] 3::hs)) 2 Z Z Z Z Z Z zJ Z (by simp) Z (zI (zD [1,2,5,8] [_,_,_,_] Z (zF (Wk.regionT (S:=Own B w0 [bk_ p2 #[sl_ q 997 997,sl_ c 1 1] 100,bk_ c #[i6_ ((T.length:Int)+(1:Int))] 3]) (.take 0 (.take 1 (.take 2 (.take 3 (.take 4 (.take 5 (.take 6 (.take 8 (.take 9 (.take 10 (.two 7 (.one 11 (.one 12 (.take 13 (.one 14 .done)))) 11 (.one 7 (.one 12 (.take 13 (.one 14 .done))))))))))))))) yC (fun _ h=>h.drawn) (by kernel_rfl) (vL Z Z Z Z Z (zG Z jJ Z uT Z Z) (pk [0,2] Z Z) (vL Z Z Z Z Z (zS 0 Z uZ Z Z Z) (pk [0,2] Z Z) (Lt.run 1 Z (pk [0,2] Z Z) (vL Z Z Z Z Z (zG Z jJ Z uT Z Z) (pk [0,2] Z Z) (vL Z Z Z Z Z (zS 0 Z uZ Z Z Z) (pk [0,2] Z Z) (Lt.run 1 Z (pk [0,2] Z Z) (vL (v:=pf_ q (hashS s)) Z Z Z Z Z (yA (by simp) (yZ Z jY vC Z Z (by omega) (by omega))) (pk [0,2] Z Z) (Lt.run 2 Z (pk [0,2] Z Z) (vL (v:=.agg #[str s,i6_ (T.length:Int)]) Z Z Z Z Z (uL (xs:=[.tmp 70,.tmp 71]) (vs:=[str s,i6_ (T.length:Int)]) Z Z (by kernel_rfl)) (pk [0,2] Z Z) (Lt.two Z Z ?_ ?_))))))))))))))))))))))))))))))))
 ·
  refine zO (v:=.slice none 0 0) Z (xT (v:=.slice none 0 0) 1 Z uU Z Z (bkt_at (b:=none) hkl hb)) (zI (xC (pk [0,2] Z Z) ?_));refine jG Z (Ll.slice2 kA Z Z Z Z Z fun p73 hp73=>(zI (xC (pk [1,3] Z Z) ?_)));refine jG Z (Ll.appendNil kA (entC (s,T.length)) Z Z Z Z Z Z (by decide) (by simp) Z (fun w1 hw1 ad had j u hj=>by injection had with had;subst had;rw [Addr.add_lit,Nat.zero_add,hw1.cell (i:=0) rfl];simpa [entC] using hj) (by decide) fun g2 cap2 cur2 hg2 hcg2 hlg2 htg2=>?_)
  show Ll _ _ (Own _ _ (_::_::_::_::_::hs)) _ _ ((74,sl_ g2 1 cap2)::_) _ _ _;refine zI (xC (pk [2,4] Z Z) ?_);refine vL (v:=pf_ q (hashS s)) Z Z Z Z Z (yA (by simp) (yZ Z jY vC Z Z (by omega) (by omega))) (pk [2,4] Z Z) (jG Z (qU (v:=sl_ g2 1 cap2) (hs':=(_::_::_::bk_ q (((bs.set (hashS s) (some (g2,1,cap2,cur2))).map bktV).toArray) 163::_::hs)) 3 Z Z Z Z Z Z vC Z (by simpa using hkl) (by rw [← set_bkt];rfl) (zI (xC (pk [2,4] Z Z) ?_))));refine Lt.nil (zD [8] [_] Z (zF (zB (zC 2 Z (zH (zD [4] [_] Z (qM (qQ Z Z fun w' hw=>?_))))))))
  exact ⟨rfl,ents_not (fun e he=>by obtain ⟨i,hi,rfl⟩:=List.mem_iff_getElem.1 he;have:=hall i (by omega);rwa [getD_at hi] at this),g2,cap2,cur2,hcg2,hlg2,htg2,hw.sub (zA _ (qJ _ (qJ _ (zA _ (zA _ (zW _))))))⟩
 refine Ll.slice2 kA Z Z Z Z Z fun p73_1 hp73_1=>(zI (xC (pk [1,3] Z Z) ?_));refine jG Z (zO (v:=.slice none 0 0) Z (xT (v:=.slice none 0 0) 2 Z uU Z Z (bkt_at (b:=none) hkl hb)) (zI (xC (pk [1,3] Z Z) ?_)));refine jG Z (Ll.appendNil kA (entC (s,T.length)) Z Z Z Z Z Z (by decide) (by simp) Z (fun w1 hw1 ad had j u hj=>by injection had with had;subst had;rw [Addr.add_lit,Nat.zero_add,hw1.cell (i:=0) rfl];simpa [entC] using hj) (by decide) fun g2_1 cap2_1 cur2_1 hg2_1 hcg2_1 hlg2_1 htg2_1=>?_)
 show Ll _ _ (Own _ _ (_::_::_::_::_::hs)) _ _ ((74,sl_ g2_1 1 cap2_1)::_) _ _ _;refine zI (xC (pk [2,4] Z Z) ?_);refine vL (v:=pf_ q (hashS s)) Z Z Z Z Z (yA (by simp) (yZ Z jY vC Z Z (by omega) (by omega))) (pk [2,4] Z Z) (jG Z (qU (v:=sl_ g2_1 1 cap2_1) (hs':=(_::_::_::bk_ q (((bs.set (hashS s) (some (g2_1,1,cap2_1,cur2_1))).map bktV).toArray) 163::_::hs)) 3 Z Z Z Z Z Z vC Z (by simpa using hkl) (by rw [← set_bkt];rfl) (zI (xC (pk [2,4] Z Z) ?_))));refine Lt.nil (zD [8] [_] Z (zF (zB (zC 2 Z (zH (zD [4] [_] Z (qM (qQ Z Z fun w' hw=>?_))))))))
 exact ⟨rfl,ents_not (fun e he=>by obtain ⟨i,hi,rfl⟩:=List.mem_iff_getElem.1 he;have:=hall i (by omega);rwa [getD_at hi] at this),g2_1,cap2_1,cur2_1,hcg2_1,hlg2_1,htg2_1,hw.sub (zA _ (qJ _ (qJ _ (zA _ (zA _ (zW _))))))⟩
set_option maxHeartbeats 400000 in
theorem number_some (B:Nat) (w0:World) (hs:List (Nat×Obj)) (q c:Nat) (bs:List Bkt) (T:List (List UInt8)) (s:List UInt8) (w:World) (hT:TabOk bs T) (hlT:T.length≤1000000) (hls:s.length≤1000) (g m cap:Nat) (cur:Array Value) (hb:bs.getD (hashS s) none=some (g,m,cap,cur)) (hw:Own B w0 (bk_ g cur 165::bk_ q ((bs.map bktV).toArray) 163::bk_ c #[i6_ (T.length:Int)] 3::hs) w) :
    Calls Tryz.prog 131 [.agg #[sl_ q 997 997,sl_ c 1 1],str s].toArray w fun en w'=>(∃ n:Nat,en=.returned (.int .i64 (n:Int))∧T[n]?=some s∧Own B w0 (bk_ g cur 165::bk_ q ((bs.map bktV).toArray) 163::bk_ c #[i6_ (T.length:Int)] 3::hs) w')∨(en=.returned (.int .i64 (T.length:Int))∧s ∉ T∧∃ (g' cap':Nat) (cur':Array Value),cur'.size=cap'*2∧m+1≤cap'∧cur'.toList.take ((m+1)*2)=flatE (ents T (hashS s))++entC (s,T.length)∧Own B w0 ((g',.cells cur' 165 (0,0))::(q,.cells ((bs.set (hashS s) (some (g',m+1,cap',cur'))).map bktV).toArray 163 (0,0))::(c,.cells #[.int .i64 ((T.length:Int)+1)] 3 (0,0))::hs) w'):=by
 refine fnStartC (Own B w0 (bk_ g cur 165::bk_ q ((bs.map bktV).toArray) 163::bk_ c #[i6_ (T.length:Int)] 3::hs)) (n:=77) (e:=[(0,.agg #[sl_ q 997 997,sl_ c 1 1]),(1,str s)]) Tryz.func131 Z Z Z Z Ends.both hw ?_
 have h997:=hash_lt s
 have hkl:hashS s<bs.length:=by rw [hT.len];exact h997
 obtain ⟨hm,hc,hle,ht⟩:=hT.yes _ h997 _ _ _ _ hb
 have hmT:=ents_le T (hashS s);refine zF (qI (xK (v:=.agg #[sl_ q 997 997,sl_ c 1 1]) Z Z Z Z Z fun p2 hp2=>?_))
 show Ll _ _ (Own _ _ (_::_::_::_::hs)) _ _ ((2,pt_ p2)::_) _ _ _;refine qL 1 Z (zI (zD [1,2] [_,_] Z (zF (zB (zC 1 Z (zH (zD [1,2,5] [_,_,_] Z (zF (zF (zB (zC 1 Z (zH (zD [1,2,5,6] [_,_,_,_] Z (qW (xM (σ:=Nat) (fun k=>k≤s.length) (fun k=>[(1,str s),(2,pt_ p2),(5,i6_ (((hashS (s.take k):Nat):Int))),(6,i6_ (k:Int))]) (fun k=>Own B w0 (bk_ p2 #[sl_ q 997 997,sl_ c 1 1] 100::bk_ g cur 165::bk_ q ((bs.map bktV).toArray) 163::bk_ c #[i6_ (T.length:Int)] 3::hs)) (fun k=>s.length - k) (0) (by omega) (Sub.cons Z (Sub.cons Z (Sub.cons Z (Sub.sel [6] Z)))) (fun _ h=>h) ?_)))))))))))))))
 rintro k hk;refine zF (zF (zB (zC 2 Z (zE (v:=i6_ (s.length:Int)) Z (jS Z qV Z) (zC 1 Z (zH (zD [1,2,5,6,12] [_,_,_,_,_] Z (yF (b:=decide ((k:Int)<(s.length:Int))) Z (fun h12=>?_) (fun h12=>?_)))))))))
 ·
  replace h12:=zV h12
  have hk2:k<s.length:=by omega
  have hkh:=hash_lt (s.take k)
  have hby:=UInt8.toNat_lt (s.getD k 0);refine qR (zD [1,2,5,6] [_,_,_,_] Z (zF (qW (zB (zC 1 Z (zE Z (uI Z Z Z (by omega) (by omega)) (zC 2 Z (zE (v:=.int .u8 (((s.getD ((k:Int).toNat) 0).toNat:Int))) Z (xE Z qV Z Z (by omega) (by omega)) (zE (v:=i6_ (((s.getD ((k:Int).toNat) 0).toNat:Int))) Z (jX .i64 Z jH xF Z (IntWalk.i64_in _ (by have:=UInt8.toNat_lt (s.getD ((k:Int).toNat) 0);omega))) (zE Z (qT Z Z Z (by simp only [Int.toNat_natCast];omega) (by simp only [Int.toNat_natCast];omega)) (zE (v:=i6_ (((hashS (s.take (k+1)):Nat):Int))) Z (yA (by rw [Wk.hash_step hk2];simp) (OpQ.rem Z Z Z (by omega) (by decide))) (zC 1 Z (zH (zD [1,2,5,6] [_,_,_,_] Z (zB (zC 1 Z (zE Z (qT Z Z Z (by omega) (by omega)) (zC 1 Z (zH (yL (k+1) (by omega) (by omega) (Sub.sel [1,2,5,6] Z) (fun _ h=>h)))))))))))))))))))))
 replace h12:=zT h12
 obtain rfl:k=s.length:=by omega
 rw [List.take_length];refine yY Z (zD [1,2,5] [_,_,_] Z (zF (zF (zB (zC 1 Z (zH (zD [1,2,5,7] [_,_,_,_] Z (qW (xM (σ:=Nat) (fun j=>j≤m∧∀ i:Nat,i<j→¬ ((ents T (hashS s)).getD i ([],0)).1=s) (fun j=>[(1,str s),(2,pt_ p2),(5,i6_ ((hashS s:Nat):Int)),(7,i6_ (j:Int))]) (fun j=>Own B w0 (bk_ p2 #[sl_ q 997 997,sl_ c 1 1] 100::bk_ g cur 165::bk_ q ((bs.map bktV).toArray) 163::bk_ c #[i6_ (T.length:Int)] 3::hs)) (fun j=>m - j) (0) ⟨by omega,fun i hi=>absurd hi (by omega)⟩ (Sub.sel [1,2,5,7] Z) (fun _ h=>h) ?_)))))))))
 rintro j ⟨hj0,hall⟩;refine zF (zF (zB (zC 1 Z (zE Z (zG Z jJ Z uT Z Z) (zE Z (zS 0 Z uZ Z Z Z) (zC 1 Z (zE (v:=pf_ q (hashS s)) Z (yA (by simp) (yZ Z jY vC Z Z (by omega) (by omega))) (zE (v:=sl_ g m cap) Z (xT (v:=sl_ g m cap) 2 Z uU Z Z (bkt_at (b:=some (g,m,cap,cur)) hkl hb)) (zE Z (kD Z Tryz.runUnderlying163 Z) (zC 1 Z (zH (zD [1,2,5,7,30] [_,_,_,_,_] Z (yF (b:=decide ((j:Int)<(m:Int))) Z (fun h30=>?_) (fun h30=>?_))))))))))))))
 ·
  replace h30:=zV h30
  have hj:j<m:=by omega
  refine qR (zD [1,2,5,7] [_,_,_,_] Z (zF (qW (zF (zB (zE Z (zG Z jJ Z uT Z Z) (zE Z (zS 0 Z uZ Z Z Z) (zC 1 Z (zE (v:=pf_ q (hashS s)) Z (yA (by simp) (yZ Z jY vC Z Z (by omega) (by omega))) (zE (v:=sl_ g m cap) Z (xT (v:=sl_ g m cap) 2 Z uU Z Z (bkt_at (b:=some (g,m,cap,cur)) hkl hb)) (zC 1 Z (zE (v:=pf_ g (j*2)) Z (yA (v':=pf_ g (j*2)) (by simp) (OpQ.indexAddr (i:=(j:Int)) Z Tryz.runUnderlying163 Tryz.sizeOf165 Z Z (by omega) (by omega))) (zE Z (zG Z Tryz.runUnderlying165 Z qO Z Z) (zE (v:=str (((ents T (hashS s)).getD j ([],0)).1)) Z (xT (v:=str (((ents T (hashS s)).getD j ([],0)).1)) 1 Z yH Z Z (ent_at ht hm hj).1) (zC 1 Z (zE Z (OpQ.seql Z Z Z) (zH (zD [1,2,5,7,43] [_,_,_,_,_] Z (yF (b:=(((ents T (hashS s)).getD j ([],0)).1)==s) Z (fun h43=>?_) (fun h43=>?_))))))))))))))))))))
  ·
   refine zF (zB (zE Z (zG Z jJ Z uT Z Z) (zE Z (zS 0 Z uZ Z Z Z) (zC 1 Z (zE (v:=pf_ q (hashS s)) Z (yA (by simp) (yZ Z jY vC Z Z (by omega) (by omega))) (zE (v:=sl_ g m cap) Z (xT (v:=sl_ g m cap) 2 Z uU Z Z (bkt_at (b:=some (g,m,cap,cur)) hkl hb)) (zC 1 Z (zE (v:=pf_ g (j*2)) Z (yA (v':=pf_ g (j*2)) (by simp) (OpQ.indexAddr (i:=(j:Int)) Z Tryz.runUnderlying163 Tryz.sizeOf165 Z Z (by omega) (by omega))) (zE Z (zG Z Tryz.runUnderlying165 Z zJ Z Z) (zE (v:=i6_ ((((ents T (hashS s)).getD j ([],0)).2:Int))) Z (xT (v:=i6_ ((((ents T (hashS s)).getD j ([],0)).2:Int))) 1 Z zU Z Z (ent_at ht hm hj).2) (zC 1 Z (zH (zD [4] [_] Z (qM (qQ Z Z fun w' hw=>?_)))))))))))))))
   exact .inl ⟨_,rfl,ents_mem (e:=(ents T (hashS s)).getD j ([],0)) (by rw [getD_at (by omega)];exact List.getElem_mem _) |>.trans (by rw [show ((ents T (hashS s)).getD j ([],0)).1=s from by simpa using h43]),hw.sub ((qJ _ (zA _ (zA _ (zA _ (zW _))))))⟩
  refine qR (zD [1,2,5,7] [_,_,_,_] Z (zB (zC 1 Z (zE Z (qT Z Z Z (by omega) (by omega)) (zC 1 Z (zH (yL (j+1) ⟨by omega,fun i hi=>(Nat.lt_succ_iff_lt_or_eq.1 hi).elim (hall i) (fun e=>by subst e;simpa using h43)⟩ (by omega) (Sub.sel [1,2,5,7] Z) (fun _ h=>h))))))))
 replace h30:=zT h30;refine yY Z (zD [1,2,5] [_,_,_] Z (zF (zB (zE Z (zG Z jJ Z Tryz.sizeOf25 Z Z) (zE Z (zS 0 Z Tryz.isAgg25 Z Z Z) (zE (v:=pt_ c) Z (yA Z (yZ (i:=0) Z zX zJ Z Z (by decide) (by decide))) (zE Z (zS 3 Z zU Z Z Z) (zC 1 Z (zH (zD [1,2,5,8] [_,_,_,_] Z (zF (qI (zO Z (zG Z jJ Z Tryz.sizeOf25 Z Z) (zO Z (zS 0 Z Tryz.isAgg25 Z Z Z) (qL 1 Z (zO Z (qT Z Z Z (by omega) (by omega)) (zO (v:=pt_ c) Z (yA Z (yZ (i:=0) Z zX zJ Z Z (by decide) (by decide))) (qU (v:=i6_ ((T.length:Int)+(1:Int))) (hs':=(_::_::_::bk_ c #[i6_ ((T.length:Int)+(1:Int))] 3::hs)) 3 Z Z Z Z Z Z zJ Z (by simp) Z (zI (zD [1,2,5,8] [_,_,_,_] Z (zF (Wk.regionT (S:=Own B w0 [bk_ p2 #[sl_ q 997 997,sl_ c 1 1] 100,bk_ c #[i6_ ((T.length:Int)+(1:Int))] 3]) (.take 0 (.take 1 (.take 2 (.take 3 (.take 4 (.take 5 (.take 6 (.take 8 (.take 9 (.take 10 (.two 7 (.one 11 (.one 12 (.take 13 (.one 14 .done)))) 11 (.one 7 (.one 12 (.take 13 (.one 14 .done))))))))))))))) yC (fun _ h=>h.drawn) (by kernel_rfl) (vL Z Z Z Z Z (zG Z jJ Z uT Z Z) (pk [0,3] Z Z) (vL Z Z Z Z Z (zS 0 Z uZ Z Z Z) (pk [0,3] Z Z) (Lt.run 1 Z (pk [0,3] Z Z) (vL Z Z Z Z Z (zG Z jJ Z uT Z Z) (pk [0,3] Z Z) (vL Z Z Z Z Z (zS 0 Z uZ Z Z Z) (pk [0,3] Z Z) (Lt.run 1 Z (pk [0,3] Z Z) (vL (v:=pf_ q (hashS s)) Z Z Z Z Z (yA (by simp) (yZ Z jY vC Z Z (by omega) (by omega))) (pk [0,3] Z Z) (Lt.run 2 Z (pk [0,3] Z Z) (vL (v:=.agg #[str s,i6_ (T.length:Int)]) Z Z Z Z Z (uL (xs:=[.tmp 70,.tmp 71]) (vs:=[str s,i6_ (T.length:Int)]) Z Z (by kernel_rfl)) (pk [0,3] Z Z) (Lt.two Z Z ?_ ?_))))))))))))))))))))))))))))))))
 ·
  refine zO (v:=sl_ g m cap) Z (xT (v:=sl_ g m cap) 2 Z uU Z Z (bkt_at (b:=some (g,m,cap,cur)) hkl hb)) (zI (xC (pk [0,3] Z Z) ?_));refine jG Z (Ll.slice2 kA Z Z Z Z Z fun p73 hp73=>(zI (xC (pk [1,4] Z Z) ?_)));refine jG Z (Ll.append kA 2 (entC (s,T.length)) Z Z Z Z Z Z Z hc hle Z (fun h=>by cases h) (fun w1 hw1 ad had j u hj=>by injection had with had;subst had;rw [Addr.add_lit,Nat.zero_add,hw1.cell (i:=0) rfl];simpa [entC] using hj) (by simp [entC,str,Value.oneCell']) (by omega) fun g2 cap2 cur2 hg2 hcg2 hlg2 htg2=>?_)
  show Ll _ _ (Own _ _ (_::_::_::_::_::hs)) _ _ ((74,sl_ g2 (m+1) cap2)::_) _ _ _;refine zI (xC (pk [1,4] Z Z) ?_);refine vL (v:=pf_ q (hashS s)) Z Z Z Z Z (yA (by simp) (yZ Z jY vC Z Z (by omega) (by omega))) (pk [1,4] Z Z) (jG Z (qU (v:=sl_ g2 (m+1) cap2) (hs':=(_::_::_::bk_ q (((bs.set (hashS s) (some (g2,(m+1),cap2,cur2))).map bktV).toArray) 163::_::hs)) 3 Z Z Z Z Z Z vC Z (by simpa using hkl) (by rw [← set_bkt];rfl) (zI (xC (pk [1,4] Z Z) ?_))));refine Lt.nil (zD [8] [_] Z (zF (zB (zC 2 Z (zH (zD [4] [_] Z (qM (qQ Z Z fun w' hw=>?_))))))))
  exact .inr ⟨rfl,ents_not (fun e he=>by obtain ⟨i,hi,rfl⟩:=List.mem_iff_getElem.1 he;have:=hall i (by omega);rwa [getD_at hi] at this),g2,cap2,cur2,hcg2,hlg2,by rw [htg2,ht],hw.sub (qJ _ (qJ _ (zA _ (zA _ (zA _ (zW _))))))⟩
 refine Ll.slice2 kA Z Z Z Z Z fun p73_1 hp73_1=>(zI (xC (pk [1,4] Z Z) ?_));refine jG Z (zO (v:=sl_ g m cap) Z (xT (v:=sl_ g m cap) 3 Z uU Z Z (bkt_at (b:=some (g,m,cap,cur)) hkl hb)) (zI (xC (pk [1,4] Z Z) ?_)));refine jG Z (Ll.append kA 2 (entC (s,T.length)) Z Z Z Z Z Z Z hc hle Z (fun h=>by cases h) (fun w1 hw1 ad had j u hj=>by injection had with had;subst had;rw [Addr.add_lit,Nat.zero_add,hw1.cell (i:=0) rfl];simpa [entC] using hj) (by simp [entC,str,Value.oneCell']) (by omega) fun g2_1 cap2_1 cur2_1 hg2_1 hcg2_1 hlg2_1 htg2_1=>?_)
 show Ll _ _ (Own _ _ (_::_::_::_::_::hs)) _ _ ((74,sl_ g2_1 (m+1) cap2_1)::_) _ _ _;refine zI (xC (pk [1,4] Z Z) ?_);refine vL (v:=pf_ q (hashS s)) Z Z Z Z Z (yA (by simp) (yZ Z jY vC Z Z (by omega) (by omega))) (pk [1,4] Z Z) (jG Z (qU (v:=sl_ g2_1 (m+1) cap2_1) (hs':=(_::_::_::bk_ q (((bs.set (hashS s) (some (g2_1,(m+1),cap2_1,cur2_1))).map bktV).toArray) 163::_::hs)) 3 Z Z Z Z Z Z vC Z (by simpa using hkl) (by rw [← set_bkt];rfl) (zI (xC (pk [1,4] Z Z) ?_))));refine Lt.nil (zD [8] [_] Z (zF (zB (zC 2 Z (zH (zD [4] [_] Z (qM (qQ Z Z fun w' hw=>?_))))))))
 exact .inr ⟨rfl,ents_not (fun e he=>by obtain ⟨i,hi,rfl⟩:=List.mem_iff_getElem.1 he;have:=hall i (by omega);rwa [getD_at hi] at this),g2_1,cap2_1,cur2_1,hcg2_1,hlg2_1,by rw [htg2_1,ht],hw.sub (qJ _ (qJ _ (zA _ (zA _ (zA _ (zW _))))))⟩
theorem number_ok (B:Nat) (w0:World) (hs:List (Nat×Obj)) (q c:Nat) (bs:List Bkt) (T:List (List UInt8)) (s:List UInt8) (w:World) (hT:TabOk bs T) (hlT:T.length≤1000000) (hls:s.length≤1000) (hw:Own B w0 (tabL 163 3 165 q c bs T++hs) w) :
    Calls Tryz.prog 131 [.agg #[.slice (some ⟨q,0,none⟩) 997 997,.slice (some ⟨c,0,none⟩) 1 1],str s].toArray w fun en w'=>∃ (n:Nat) (bs':List Bkt) (T':List (List UInt8)),en=.returned (.int .i64 (n:Int))∧(TabTo T bs' T' 1∧T'[n]?=some s)∧Own B w0 (tabL 163 3 165 q c bs' T'++hs) w':=by
  have h997:=hash_lt s
  have hkl:hashS s<bs.length:=by rw [hT.len];exact h997
  cases hb:bs.getD (hashS s) none with
  | none =>
    refine (number_nil B w0 (blks 165 bs++hs) q c bs T s w hT hlT hls hb hw).mono fun en w' ⟨h1,h2,g',cap',cur',h3,h4,h5,h6⟩=>(⟨T.length,bs.set (hashS s) (some (g',1,cap',cur')),T++[s],h1,⟨⟨hT.add h2 (by rw [hT.no _ h997 hb];rfl) h3 h4 (by rw [hT.no _ h997 hb];exact h5),List.prefix_append _ _,by simp⟩,by simp⟩,?_⟩)
    have hp:=(blks_put (E:=165) (g:=g') (m:=1) (cap:=cap') (cur:=cur') hkl)
    rw [blks_none hkl hb] at hp
    have e1:((T++[s]).length:Int)=(T.length:Int)+1:=by simp
    show Own B w0 (_::(_,.cells #[.int .i64 ((T++[s]).length:Int)] _ (0,0))::(blks _ _++hs)) w'
    rw [e1]
    exact h6.perm ((perm_back [_] [_,_] _).trans (List.Perm.cons _ (List.Perm.cons _ (hp.symm.append_right hs))))
  | some b =>
    obtain ⟨g,m,cap,cur⟩:=b
    have hp:=(blks_take (E:=165) hkl hb)
    have hw2:Own B w0 ((g,.cells cur 165 (0,0))::(q,.cells (bs.map bktV).toArray 163 (0,0))::(c,.cells #[.int .i64 (T.length:Int)] 3 (0,0))::(blks 165 (bs.set (hashS s) none)++hs)) w :=
      hw.perm ((List.Perm.cons _ (List.Perm.cons _ (hp.append_right hs))).trans (perm_back [_,_] [_] _))
    refine (number_some B w0 (blks 165 (bs.set (hashS s) none)++hs) q c bs T s w hT hlT hls g m cap cur hb hw2).mono fun en w' h=>?_
    rcases h with ⟨n,h1,h2,h3⟩ | ⟨h1,h2,g',cap',cur',h3,h4,h5,h6⟩
    · exact ⟨n,bs,T,h1,⟨⟨hT,List.prefix_refl _,by omega⟩,h2⟩,h3.perm ((perm_back [_] [_,_] _).trans (List.Perm.cons _ (List.Perm.cons _ (hp.symm.append_right hs))))⟩
    · refine ⟨T.length,bs.set (hashS s) (some (g',m+1,cap',cur')),T++[s],h1,⟨⟨hT.add h2 (by rw [(hT.yes _ h997 _ _ _ _ hb).1]) h3 h4 h5,List.prefix_append _ _,by simp⟩,by simp⟩,?_⟩
      have hp2:=(blks_put (E:=165) (g:=g') (m:=m+1) (cap:=cap') (cur:=cur') hkl)
      have e1:((T++[s]).length:Int)=(T.length:Int)+1:=by simp
      show Own B w0 (_::(_,.cells #[.int .i64 ((T++[s]).length:Int)] _ (0,0))::(blks _ _++hs)) w'
      rw [e1]
      exact h6.perm ((perm_back [_] [_,_] _).trans (List.Perm.cons _ (List.Perm.cons _ (hp2.symm.append_right hs))))
end Go.Proofs.YtefiibghfgfdnaaGreatDoor
namespace Go.Proofs.YtefiibghfgfdnaaGreatDoor
open Go.RowKit Go.Wk
set_option linter.unusedSimpArgs false
set_option maxHeartbeats 400000 in
theorem l4With_ok (va:Value) (xs:List Int) (x:Int) (w:World) (hva:Ints w va xs) (hs:xs.length≤1048576) :
    Calls Tryz.prog 86 [va,i6_ x].toArray w fun en w'=>∃ v,en=.returned v∧Below w.heap.size w w'∧NewRow w.heap.size 3 1 w' v (xs++[x]).length (ints (xs++[x])):=by
 refine fnStart (n:=11) (e:=[(0,va),(1,i6_ x)]) Tryz.func86 Z Z Z Z Ends.both (zF (zB (zC 1 Z (zH (zD [0,1] [_,_] Z (zF (qI (yN (xs:=[]) (vs:=[]) yI Z Z Z Z Z Z (by decide) Z fun p5 hp5=>(qL 1 Z (xH (xs:=[]) (ys:=xs) yI 0 Z Z Z Z Z Z Z Z (by decide) Z (fun w1 hw1=>(Row.own hva hw1)) ((xs).length) (by first | (simp;done) | (simp;omega)) (by first | (simp;done) | (simp;omega) | omega) fun p7 cap7 cur7 hp7 hcp7 hlp7 htp7=>?_))))))))))
 show Ll _ _ (Own _ _ [_]) _ _ ((7,sl_ p7 ((xs).length) cap7)::_) _ _ _;refine qL 1 Z (yN (xs:=[.tmp 8]) (vs:=[i6_ x]) yI Z Z Z Z Z Z (by decide) Z fun p9 hp9=>(xH (xs:=xs) (ys:=[x]) yI 1 Z Z Z Z Z Z Z hcp7 hlp7 (by simpa using htp7) (fun w1 hw1=>(yX hw1 (i:=0) Z (n:=1) (cap:=1) (vs:=ints [x]) Z Z (by decide))) ((xs++([x])).length) (by first | (simp;done) | (simp;omega)) (by first | (simp;done) | (simp;omega) | omega) fun p10 cap10 cur10 hp10 hcp10 hlp10 htp10=>?_))
 show Ll _ _ (Own _ _ [_,_]) _ _ ((10,sl_ p10 (((xs++([x])).length)) cap10)::_) _ _ _;refine qL 1 Z (zI (zD [4] [_] Z (qM (qQ Z Z fun w' hw=>?_))))
 exact ⟨_,rfl,hw.below,hw.newRow (i:=1) (n:=_) rfl (by assumption) (by assumption) (by assumption)⟩
set_option maxHeartbeats 400000 in
theorem type_zero (B:Nat) (w0:World) (hs:List (Nat×Obj)) (q c:Nat) (bs:List Bkt) (T:List (List UInt8)) (a:St) (va:Value) (xs:List Int) (w:World) (hT:TabOk bs T) (ha:a.Fine) (hva:∀ w,Own B w0 hs w→Ints w va xs) (hA:a.Els xs) (h7:xs.length+0≤7) (hcap:T.length+cnt 0≤1000000) (hw:Own B w0 (tabL 163 3 165 q c bs T++hs) w) :
    Calls Tryz.prog 82 [.agg #[sl_ q 997 997,sl_ c 1 1],vS a,va,i6_ 0].toArray w fun en w'=>∃ (m:Nat) (bs':List Bkt) (T':List (List UInt8)),en=.returned (.int .i64 (m:Int))∧(TabTo T bs' T' (cnt 0)∧Means T' 0 a xs m)∧Own B w0 (tabL 163 3 165 q c bs' T'++hs) w':=by
 refine fnStartC (Own B w0 (tabL 163 3 165 q c bs T++hs)) (n:=56) (e:=[(0,.agg #[sl_ q 997 997,sl_ c 1 1]),(1,vS a),(2,va),(3,i6_ 0)]) Tryz.func82 Z Z Z Z Ends.both hw ?_
 have hc0:cnt 0=1:=rfl
 have hbits:(atomBits a xs).length≤175:=bits_small (by omega)
 have hd0:=decS_len 0 12 (by decide) (by decide);refine zF (qI (xK (v:=.agg #[sl_ q 997 997,sl_ c 1 1]) Z Z Z Z Z fun p4 hp4=>?_))
 show Ll _ _ (Own _ _ (_::_::_::(blks 165 bs++hs))) _ _ ((4,pt_ p4)::_) _ _ _;refine xK (v:=vS a) Z Z Z Z Z fun p5 hp5=>?_
 show Ll _ _ (Own _ _ (_::_::_::_::(blks 165 bs++hs))) _ _ ((5,pt_ p5)::_) _ _ _;refine qL 1 Z (zI (zD [2,3,4,5] [_,_,_,_] Z (zF (zB (zE Z (qF (cs:=#[i6_ a.n,str a.set,str a.rel]) 0 Z zZ Z Z zQ) (zC 1 Z (zE (v:=str (atomBits a xs)) Z (qK Z Tryz.call128 Z qC (fun w1 hw1=>l5Atoms_ok a va xs w1 ha (hva _ (qG (f:=bk_ p5 #[i6_ a.n,str a.set,str a.rel] 24::bk_ p4 #[sl_ q 997 997,sl_ c 1 1] 100::bk_ q ((bs.map bktV).toArray) 163::bk_ c #[i6_ (T.length:Int)] 3::blks 165 (bs)) hw1)) hA (by first | (simp;done) | (simp;omega) | omega))) (zC 1 Z (zH (zD [2,3,4,5,9] [_,_,_,_,_] Z (zF (zF (zB (zC 2 Z (zH (zD [2,3,4,5,9,17] [_,_,_,_,_,_] Z (yF (b:=decide ((0:Int)<(0:Int))) Z (fun h17=>?_) (fun h17=>?_))))))))))))))))))
 ·
  replace h17:=zV h17
  exact absurd h17 (by decide)
 replace h17:=zT h17;refine qR (zD [3,4,9] [_,_,_] Z (zF (xV (S:=Own B w0 [bk_ p5 #[i6_ a.n,str a.set,str a.rel] 24,bk_ p4 #[sl_ q 997 997,sl_ c 1 1] 100]) [(0,true),(1,true),(4,true),(2,false),(3,true),(5,true),(6,false),(7,true)] yC (fun _ h=>h.drawn) (by kernel_rfl) (yE Z Z Z Z Z (qF (cs:=#[sl_ q 997 997,sl_ c 1 1]) 1 Z uS Z Z uK) (pk [0,1] Z Z) (yR 2 Z (pk [0,1] Z Z) (yK Z (zO (v:=str (decS 0)) Z (yA Z (qK Z Tryz.call130 Z qC (fun w1 hw1=>l15Dec_ok 0 w1 (by omega) (by omega)))) (zI (yB (pk [0,1] Z Z) ?_)))))))));refine yE Z Z Z Z Z (yJ Z Z Z (by simp only [zN,qB,qD];omega)) (pk [0,1] Z Z) (yE Z Z Z Z Z (yJ Z Z Z (by simp only [zN,qB,qD];omega)) (pk [0,1] Z Z) (yK Z (Ll.callTab (S:=163) (I:=3) (E:=165) (q:=q) (c:=c) (bs:=bs) (T:=T) (hs:=hs) (ok:=fun m bs' T'=>TabTo T bs' T' 1∧T'[m]?=some (((decS 0)++([58]))++(atomBits a xs))) (xs:=[.tmp 49,.tmp 54]) (vs:=[.agg #[sl_ q 997 997,sl_ c 1 1],str (((decS 0)++([58]))++(atomBits a xs))]) [bk_ p5 #[i6_ a.n,str a.set,str a.rel] 24,bk_ p4 #[sl_ q 997 997,sl_ c 1 1] 100] Z Z Z Z Tryz.call131 Z (fun w1 hw1=>number_ok B w0 ([bk_ p5 #[i6_ a.n,str a.set,str a.rel] 24,bk_ p4 #[sl_ q 997 997,sl_ c 1 1] 100]++hs) q c bs T (((decS 0)++([58]))++(atomBits a xs)) w1 hT (by omega) (by simp only [zN,qB,qD];omega) hw1) fun m bs_ T_ hKm=>?_)))
 show Ll _ _ (Own _ _ (_::_::_::_::(blks 165 bs_++hs))) _ _ ((55,i6_ (m:Int))::_) _ _ _;refine zI (yB (pk [0,1] Z Z) ?_);refine yR 1 Z (pk [0,1] Z Z) (vG (zD [8] [_] Z (qM (qQ Z Z fun w' hw=>?_))))
 exact ⟨m,bs_,T_,rfl,⟨hKm.1,by show _=some (descr 0 _ []);simpa [descr,commas] using hKm.2⟩,hw.drop (f:=[bk_ p5 #[i6_ a.n,str a.set,str a.rel] 24,bk_ p4 #[sl_ q 997 997,sl_ c 1 1] 100])⟩
set_option maxHeartbeats 400000 in
theorem type_of (n:Nat) (ih:∀ (B:Nat) (w0:World) (hs:List (Nat×Obj)) (q c:Nat) (bs:List Bkt) (T:List (List UInt8)) (a:St) (va:Value) (xs:List Int) (w:World),TabOk bs T→a.Fine→(∀ w,Own B w0 hs w→Ints w va xs)→a.Els xs→xs.length+n≤7→T.length+cnt n≤1000000→Own B w0 (tabL 163 3 165 q c bs T++hs) w→Calls Tryz.prog 82 #[.agg #[.slice (some ⟨q,0,none⟩) 997 997,.slice (some ⟨c,0,none⟩) 1 1],vS a,va,.int .i64 (n:Int)] w fun en w'=>∃ (m:Nat) (bs':List Bkt) (T':List (List UInt8)),en=.returned (.int .i64 (m:Int))∧(TabTo T bs' T' (cnt n)∧Means T' n a xs m)∧Own B w0 (tabL 163 3 165 q c bs' T'++hs) w') (B:Nat) (w0:World) (hs:List (Nat×Obj)) (q c:Nat) (bs:List Bkt) (T:List (List UInt8)) (a:St) (va:Value) (xs:List Int) (w:World) (hT:TabOk bs T) (ha:a.Fine) (hva:∀ w,Own B w0 hs w→Ints w va xs) (hA:a.Els xs) (h7:xs.length+(n+1)≤7) (hcap:T.length+cnt (n+1)≤1000000) (hw:Own B w0 (tabL 163 3 165 q c bs T++hs) w) :
    Calls Tryz.prog 82 [.agg #[sl_ q 997 997,sl_ c 1 1],vS a,va,i6_ ((n:Int)+1)].toArray w fun en w'=>∃ (m:Nat) (bs':List Bkt) (T':List (List UInt8)),en=.returned (.int .i64 (m:Int))∧(TabTo T bs' T' (cnt (n+1))∧Means T' (n+1) a xs m)∧Own B w0 (tabL 163 3 165 q c bs' T'++hs) w':=by
 refine fnStartC (Own B w0 (tabL 163 3 165 q c bs T++hs)) (n:=56) (e:=[(0,.agg #[sl_ q 997 997,sl_ c 1 1]),(1,vS a),(2,va),(3,i6_ ((n:Int)+1))]) Tryz.func82 Z Z Z Z Ends.both hw ?_
 have hcs:=cnt_succ n
 have hbits:(atomBits a xs).length≤175:=bits_small (by omega)
 have hm8:=ha.hi
 have hm1:=ha.lo
 have hdn:=decS_len (n+1) 12 (show n+1<1000000000000 by omega) (by decide);refine zF (qI (xK (v:=.agg #[sl_ q 997 997,sl_ c 1 1]) Z Z Z Z Z fun p4 hp4=>?_))
 show Ll _ _ (Own _ _ (_::_::_::(blks 165 bs++hs))) _ _ ((4,pt_ p4)::_) _ _ _;refine xK (v:=vS a) Z Z Z Z Z fun p5 hp5=>?_
 show Ll _ _ (Own _ _ (_::_::_::_::(blks 165 bs++hs))) _ _ ((5,pt_ p5)::_) _ _ _;refine qL 1 Z (zI (zD [2,3,4,5] [_,_,_,_] Z (zF (zB (zE Z (qF (cs:=#[i6_ a.n,str a.set,str a.rel]) 0 Z zZ Z Z zQ) (zC 1 Z (zE (v:=str (atomBits a xs)) Z (qK Z Tryz.call128 Z qC (fun w1 hw1=>l5Atoms_ok a va xs w1 ha (hva _ (qG (f:=bk_ p5 #[i6_ a.n,str a.set,str a.rel] 24::bk_ p4 #[sl_ q 997 997,sl_ c 1 1] 100::bk_ q ((bs.map bktV).toArray) 163::bk_ c #[i6_ (T.length:Int)] 3::blks 165 (bs)) hw1)) hA (by first | (simp;done) | (simp;omega) | omega))) (zC 1 Z (zH (zD [2,3,4,5,9] [_,_,_,_,_] Z (zF (zF (zB (zC 2 Z (zH (zD [2,3,4,5,9,17] [_,_,_,_,_,_] Z (yF (b:=decide ((0:Int)<((n:Int)+1))) Z (fun h17=>?_) (fun h17=>?_))))))))))))))))))
 ·
  replace h17:=zV h17;refine zF (qI (yN (xs:=[]) (vs:=[]) yI Z Z Z Z Z Z (by decide) Z fun p18 hp18=>(qL 1 Z (zI (zD [2,3,4,5,9,10] [_,_,_,_,_,_] Z (zF (zF (zB (zC 1 Z (zH (zD [2,3,4,5,9,10,11] [_,_,_,_,_,_,_] Z (qW (xM (σ:=Nat×List Bkt×List (List UInt8)×Nat×Nat×Array Value×List Int) (fun ⟨k,bs1,T1,g,cap,cur,L⟩=>(k:Int)≤a.n∧TabTo T bs1 T1 (k*cnt n)∧FoundL T1 n a xs L k∧cur.size=cap*1∧L.length≤cap∧cur.toList.take L.length=ints L) (fun ⟨k,bs1,T1,g,cap,cur,L⟩=>[(2,va),(3,i6_ ((n:Int)+1)),(4,pt_ p4),(5,pt_ p5),(9,str (atomBits a xs)),(10,sl_ g L.length cap),(11,i6_ (k:Int))]) (fun ⟨k,bs1,T1,g,cap,cur,L⟩=>Own B w0 (bk_ g cur 3::bk_ p5 #[i6_ a.n,str a.set,str a.rel] 24::bk_ p4 #[sl_ q 997 997,sl_ c 1 1] 100::bk_ q ((bs1.map bktV).toArray) 163::bk_ c #[i6_ (T1.length:Int)] 3::(blks 165 bs1++hs))) (fun ⟨k,bs1,T1,g,cap,cur,L⟩=>(a.n - k).toNat) (0,bs,T,p18,0,#[],[]) ⟨by omega,⟨hT,List.prefix_refl _,by omega⟩,FoundL.zero,rfl,Nat.le_refl _,rfl⟩ (Sub.sel [2,3,4,5,9,10,11] Z) (fun _ h=>h) ?_)))))))))))))
  rintro ⟨k,bs1,T1,g,cap,cur,L⟩ ⟨hk,hTT,hF,hc,hle,ht⟩
  dsimp only
  have hFl:=hF.len
  have hTl:=hTT.len
  have hk8:=cnt_le k n (by omega);refine zF (zF (zB (zC 1 Z (zE Z (zG Z zY Z zJ Z Z) (zE Z (zS 1 Z zU Z Z Z) (zC 1 Z (zH (zD [2,3,4,5,9,10,11,22] [_,_,_,_,_,_,_,_] Z (yF (b:=decide ((k:Int)<a.n)) Z (fun h22=>?_) (fun h22=>?_))))))))))
  ·
   replace h22:=zV h22
   have hx:a.El k:=⟨by omega,by omega⟩
   have hk8b:=cnt_le (k+1) n (by omega)
   rw [Nat.add_mul,Nat.one_mul] at hk8b;refine qR (zD [2,3,4,5,9,10,11] [_,_,_,_,_,_,_] Z (zF (qW (xV (S:=Own B w0 [bk_ p5 #[i6_ a.n,str a.set,str a.rel] 24,bk_ p4 #[sl_ q 997 997,sl_ c 1 1] 100]) [(0,true),(1,true),(2,true),(3,true),(4,true),(6,true),(7,true),(5,false),(8,false),(9,false),(10,true)] yC (fun _ h=>h.drawn) (by kernel_rfl) (yR 1 Z (pk [1,2] Z Z) (yE Z Z Z Z Z (qF (cs:=#[sl_ q 997 997,sl_ c 1 1]) 1 Z uS Z Z uK) (pk [1,2] Z Z) (yE Z Z Z Z Z (qF (cs:=#[i6_ a.n,str a.set,str a.rel]) 0 Z zZ Z Z zQ) (pk [1,2] Z Z) (yR 3 Z (pk [1,2] Z Z) (yE (v:=i6_ (n:Int)) Z Z Z Z Z (yA (by congr 1;omega) (jV Z Z Z (by omega) (by omega))) (pk [1,2] Z Z) (yK Z (uV (xs:=[.tmp 28,.tmp 29]) (m:=(xs++[(k:Int)]).length) (vs:=ints (xs++[(k:Int)])) (el:=3) (size:=1) Z Z Z Z Tryz.call86 Z (fun w1 hw1=>l4With_ok va xs (k:Int) w1 (hva _ (qG (f:=bk_ g cur 3::bk_ p5 #[i6_ a.n,str a.set,str a.rel] 24::bk_ p4 #[sl_ q 997 997,sl_ c 1 1] 100::bk_ q ((bs1.map bktV).toArray) 163::bk_ c #[i6_ (T1.length:Int)] 3::blks 165 (bs1)) hw1)) (by omega)) fun p30 cap30 cur30 hp30 hcp30 hlp30 htp30=>(zI (yB (pk [2,3] Z Z) ?_)))))))))))));refine yK Z (Ll.callTab (S:=163) (I:=3) (E:=165) (q:=q) (c:=c) (bs:=bs1) (T:=T1) (hs:=hs) (ok:=fun m bs' T'=>TabTo T1 bs' T' (cnt n)∧Means T' n a (xs++[(k:Int)]) m) (xs:=[.tmp 26,.tmp 27,.tmp 30,.tmp 32]) (vs:=[.agg #[sl_ q 997 997,sl_ c 1 1],vS a,sl_ p30 ((xs++[(k:Int)]).length) cap30,i6_ (n:Int)]) [bk_ p30 cur30 3,bk_ g cur 3,bk_ p5 #[i6_ a.n,str a.set,str a.rel] 24,bk_ p4 #[sl_ q 997 997,sl_ c 1 1] 100] Z Z Z Z Tryz.call82 Z (fun w1 hw1=>ih B w0 ([bk_ p30 cur30 3,bk_ g cur 3,bk_ p5 #[i6_ a.n,str a.set,str a.rel] 24,bk_ p4 #[sl_ q 997 997,sl_ c 1 1] 100]++hs) q c bs1 T1 a (sl_ p30 ((xs++[(k:Int)]).length) cap30) (xs++[(k:Int)]) w1 hTT.ok ha (fun w2 hw2=>(yX hw2 (i:=0) Z (by simpa using htp30) (by simp) hlp30)) (els_more hA hx) (by first | (simp;done) | (simp;omega) | omega) (by omega) hw1) fun m bs_ T_ hKm=>?_)
   show Ll _ _ (Own _ _ (_::_::_::_::_::_::(blks 165 bs_++hs))) _ _ ((33,i6_ (m:Int))::_) _ _ _;refine zI (yB (pk [2,3] Z Z) ?_);refine yK Z (vZ (σ:=Nat×Nat×Array Value) (ok:=fun (g,c',u)=>u.size=c'*1∧(insS L (m:Int)).length≤c'∧u.toList.take (insS L (m:Int)).length=ints (insS L (m:Int))) (v:=fun (g,c',u)=>.slice (some ⟨g,0,none⟩) (insS L (m:Int)).length c') (xs:=[.tmp 25,.tmp 33]) (vs:=[sl_ g L.length cap,i6_ (m:Int)]) (hs':=fun (g,c',u)=>(bk_ p30 cur30 3::bk_ g u 3::bk_ p5 #[i6_ a.n,str a.set,str a.rel] 24::bk_ p4 #[sl_ q 997 997,sl_ c 1 1] 100::bk_ q ((bs_.map bktV).toArray) 163::bk_ c #[i6_ (T_.length:Int)] 3::(blks 165 bs_++hs))) Z Z Z Z Tryz.call129 Z (fun w1 hw1=>(l5Insert_ok _ _ _ g cap cur L (m:Int) w1 hc hle ht (by omega) (hw1.perm (perm_back [bk_ p30 cur30 3] [_] _))).mono fun en w' ⟨g',cap',cur',h1,h2,h3⟩=>⟨(g',cap',cur'),h1,h2,h3.perm (perm_back [_] [bk_ p30 cur30 3] _)⟩) fun ⟨g_,cap_,cur_⟩ ⟨hcg_,hlg_,htg_⟩=>?_)
   show Ll _ _ (Own _ _ (_::_::_::_::_::_::(blks 165 bs_++hs))) _ _ ((34,sl_ g_ ((insS L (m:Int)).length) cap_)::_) _ _ _;refine zI (yB (pk [2,3] Z Z) ?_);refine yR 1 Z (pk [2,3] Z Z) (vG (zD [2,3,4,5,9,10,11] [_,_,_,_,_,_,_] Z (zB (zC 1 Z (zE Z (qT Z Z Z (by omega) (by omega)) (zC 1 Z (zH (yL ((k+1,bs_,T_,g_,cap_,cur_,(insS L (m:Int)))) ⟨by omega,hTT.trans hKm.1 (by rw [Nat.add_mul,Nat.one_mul];exact Nat.le_refl _),hF.step hKm.1.pre hKm.2,hcg_,hlg_,htg_⟩ (by omega) (Sub.sel [2,3,4,5,9,10,11] Z) (fun _ h=>h.tail)))))))))
  replace h22:=zT h22
  have hsm:=hF.small (by omega);refine yY Z (zD [3,4,9,10] [_,_,_,_] Z (zF (zB (zC 1 Z (zH (zD [3,4,9,10,12] [_,_,_,_,_] Z (qW (xM (σ:=Nat) (fun i=>i≤L.length) (fun i=>[(3,i6_ ((n:Int)+1)),(4,pt_ p4),(9,str (atomBits a xs++commas (L.take i))),(10,sl_ g L.length cap),(12,i6_ (i:Int))]) (fun i=>Own B w0 (bk_ g cur 3::bk_ p5 #[i6_ a.n,str a.set,str a.rel] 24::bk_ p4 #[sl_ q 997 997,sl_ c 1 1] 100::bk_ q ((bs1.map bktV).toArray) 163::bk_ c #[i6_ (T1.length:Int)] 3::(blks 165 bs1++hs))) (fun i=>L.length - i) (0) (by omega) (Sub.cons Z (Sub.cons Z (Sub.cons (by simp [commas,List.lookup]) (Sub.sel [10,12] Z)))) (fun _ h=>h) ?_))))))))
  rintro i hi;refine zF (zF (zB (zC 2 Z (zE Z (kD Z zX Z) (zC 1 Z (zH (zD [3,4,9,10,12,38] [_,_,_,_,_,_] Z (yF (b:=decide ((i:Int)<(L.length:Int))) Z (fun h38=>?_) (fun h38=>?_)))))))))
  ·
   replace h38:=zV h38
   have hct:=commas_take (i:=i) hsm (by omega)
   obtain ⟨hs0,hs1⟩:=at_small hsm (i:=i) (by omega)
   have hdi:=decS_len (L.getD i 0).toNat 12 (show _<1000000000000 by omega) (by decide);refine qR (zD [3,4,9,10,12] [_,_,_,_,_] Z (zF (qW (zB (zC 1 Z (zE Z (yJ Z Z Z (by simp only [zN,qB,qD];omega)) (zC 2 Z (zE (v:=pf_ g i) Z (yA (by simp) (yZ Z zX zJ Z Z (by omega) (by omega))) (zE (v:=i6_ (L.getD (i) 0)) Z (xT 0 Z zU Z Z (cur_at ht (ints_at2 (by omega)))) (zE (v:=str (decS (L.getD (i) 0).toNat)) Z (qK Z Tryz.call130 Z qC (fun w1 hw1=>l15Dec_ok (L.getD (i) 0) w1 (by omega) (by omega))) (zE Z (yJ Z Z Z (by simp only [zN,qB,qD,Int.toNat_natCast] at *;omega)) (zC 1 Z (zH (zD [3,4,9,10,12] [_,_,_,_,_] Z (zB (zC 1 Z (zE Z (qT Z Z Z (by omega) (by omega)) (zC 1 Z (zH (yL (i+1) (by omega) (by omega) (Sub.cons Z (Sub.cons Z (Sub.cons (by rw [commas_step (by omega)];rfl) (Sub.sel [10,12] Z)))) (fun _ h=>h)))))))))))))))))))))
  replace h38:=zT h38
  obtain rfl:i=L.length:=by omega
  rw [List.take_length]
  have hcl:=commas_len hsm;refine yY Z (zD [3,4,9] [_,_,_] Z (zF (xV (S:=Own B w0 [bk_ g cur 3,bk_ p5 #[i6_ a.n,str a.set,str a.rel] 24,bk_ p4 #[sl_ q 997 997,sl_ c 1 1] 100]) [(0,true),(1,true),(4,true),(2,false),(3,true),(5,true),(6,false),(7,true)] yC (fun _ h=>h.drawn) (by kernel_rfl) (yE Z Z Z Z Z (qF (cs:=#[sl_ q 997 997,sl_ c 1 1]) 2 Z uS Z Z uK) (pk [0,1,2] Z Z) (yR 2 Z (pk [0,1,2] Z Z) (yK Z (zO (v:=str (decS (n+1))) Z (yA (by rw [show ((n:Int)+1).toNat=n+1 from by omega]) (qK Z Tryz.call130 Z qC (fun w1 hw1=>l15Dec_ok ((n:Int)+1) w1 (by omega) (by omega)))) (zI (yB (pk [0,1,2] Z Z) ?_)))))))));refine yE Z Z Z Z Z (yJ Z Z Z (by simp only [zN,qB,qD];omega)) (pk [0,1,2] Z Z) (yE Z Z Z Z Z (yJ Z Z Z (by simp only [zN,qB,qD];omega)) (pk [0,1,2] Z Z) (yK Z (Ll.callTab (S:=163) (I:=3) (E:=165) (q:=q) (c:=c) (bs:=bs1) (T:=T1) (hs:=hs) (ok:=fun m bs' T'=>TabTo T1 bs' T' 1∧T'[m]?=some (((decS (n+1))++([58]))++(atomBits a xs++commas L))) (xs:=[.tmp 49,.tmp 54]) (vs:=[.agg #[sl_ q 997 997,sl_ c 1 1],str (((decS (n+1))++([58]))++(atomBits a xs++commas L))]) [bk_ g cur 3,bk_ p5 #[i6_ a.n,str a.set,str a.rel] 24,bk_ p4 #[sl_ q 997 997,sl_ c 1 1] 100] Z Z Z Z Tryz.call131 Z (fun w1 hw1=>number_ok B w0 ([bk_ g cur 3,bk_ p5 #[i6_ a.n,str a.set,str a.rel] 24,bk_ p4 #[sl_ q 997 997,sl_ c 1 1] 100]++hs) q c bs1 T1 (((decS (n+1))++([58]))++(atomBits a xs++commas L)) w1 hTT.ok (by omega) (by simp only [zN,qB,qD];omega) hw1) fun m_1 bs__1 T__1 hKm_1=>?_)))
  show Ll _ _ (Own _ _ (_::_::_::_::_::(blks 165 bs__1++hs))) _ _ ((55,i6_ (m_1:Int))::_) _ _ _;refine zI (yB (pk [0,1,2] Z Z) ?_);refine yR 1 Z (pk [0,1,2] Z Z) (vG (zD [8] [_] Z (qM (qQ Z Z fun w' hw=>?_))))
  obtain rfl:k=a.n.toNat:=by omega
  exact ⟨m_1,bs__1,T__1,rfl,⟨hTT.trans hKm_1.1 (by rw [cnt_succ];omega),hF.means hKm_1.1.pre hKm_1.2⟩,hw.drop (f:=[bk_ g cur 3,bk_ p5 #[i6_ a.n,str a.set,str a.rel] 24,bk_ p4 #[sl_ q 997 997,sl_ c 1 1] 100])⟩
 replace h17:=zT h17
 exact absurd h17 (by omega)
theorem type_ok:∀ n:Nat,∀ (B:Nat) (w0:World) (hs:List (Nat×Obj)) (q c:Nat) (bs:List Bkt) (T:List (List UInt8)) (a:St) (va:Value) (xs:List Int) (w:World),TabOk bs T→a.Fine→(∀ w,Own B w0 hs w→Ints w va xs)→a.Els xs→xs.length+n≤7→T.length+cnt n≤1000000→Own B w0 (tabL 163 3 165 q c bs T++hs) w→Calls Tryz.prog 82 #[.agg #[.slice (some ⟨q,0,none⟩) 997 997,.slice (some ⟨c,0,none⟩) 1 1],vS a,va,.int .i64 (n:Int)] w fun en w'=>∃ (m:Nat) (bs':List Bkt) (T':List (List UInt8)),en=.returned (.int .i64 (m:Int))∧(TabTo T bs' T' (cnt n)∧Means T' n a xs m)∧Own B w0 (tabL 163 3 165 q c bs' T'++hs) w'
  | 0=>fun B w0 hs q c bs T a va xs w hT ha hva hA h7 hcap hw=>type_zero B w0 hs q c bs T a va xs w hT ha hva hA h7 hcap hw
  | n+1=>fun B w0 hs q c bs T a va xs w hT ha hva hA h7 hcap hw=>type_of n (type_ok n) B w0 hs q c bs T a va xs w hT ha hva hA h7 hcap hw
theorem type_at (r:Int) (h0:0≤r):∀ (B:Nat) (w0:World) (hs:List (Nat×Obj)) (q c:Nat) (bs:List Bkt) (T:List (List UInt8)) (a:St) (va:Value) (xs:List Int) (w:World),TabOk bs T→a.Fine→(∀ w,Own B w0 hs w→Ints w va xs)→a.Els xs→xs.length+r.toNat≤7→T.length+cnt r.toNat≤1000000→Own B w0 (tabL 163 3 165 q c bs T++hs) w→Calls Tryz.prog 82 #[.agg #[.slice (some ⟨q,0,none⟩) 997 997,.slice (some ⟨c,0,none⟩) 1 1],vS a,va,.int .i64 r] w fun en w'=>∃ (m:Nat) (bs':List Bkt) (T':List (List UInt8)),en=.returned (.int .i64 (m:Int))∧(TabTo T bs' T' (cnt r.toNat)∧Means T' r.toNat a xs m)∧Own B w0 (tabL 163 3 165 q c bs' T'++hs) w':=by
  have h:=type_ok r.toNat
  rw [Int.toNat_of_nonneg h0] at h
  exact h
set_option maxHeartbeats 400000 in
theorem l5Wins_ok (a b:St) (xs ys:List Int) (va vb:Value) (w:World) (ha:a.Fine) (hb:b.Fine) (hva:Ints w va xs) (hvb:Ints w vb ys) (hA:a.Els xs) (hB:b.Els ys) (hlen:xs.length=ys.length) (h4:xs.length≤4) (r:Int) (h0:0≤r) (h3:r≤3) :
    Calls Tryz.prog 40 [vS a,va,vS b,vb,i6_ r].toArray w fun en w'=>en=.returned (.bool (winB r.toNat a xs b ys))∧Below w.heap.size w w':=by
 refine fnStart (n:=24) (e:=[(0,vS a),(1,va),(2,vS b),(3,vb),(4,i6_ r)]) Tryz.func40 Z Z Z Z Ends.both ?_
 have hcn:=cnt_small (n:=r.toNat) (by omega);refine zF (qI (xK (v:=vS a) Z Z Z Z Z fun p5 hp5=>?_))
 show Ll _ _ (Own _ _ [_]) _ _ ((5,pt_ p5)::_) _ _ _;refine xK (v:=vS b) Z Z Z Z Z fun p7 hp7=>?_
 show Ll _ _ (Own _ _ [_,_]) _ _ ((7,pt_ p7)::_) _ _ _;refine qL 1 Z (zI (zD [1,3,4,5,7] [_,_,_,_,_] Z (zF (qI (vZ (σ:=Nat×Nat×List Bkt) (ok:=fun s=>TabOk s.2.2 []) (v:=fun s=>.agg #[.slice (some ⟨s.1,0,none⟩) 997 997,.slice (some ⟨s.2.1,0,none⟩) 1 1]) (xs:=[]) (vs:=[]) (hs':=fun s=>[bk_ p7 #[i6_ b.n,str b.set,str b.rel] 24,bk_ p5 #[i6_ a.n,str a.set,str a.rel] 24]++(tabL 163 3 165 s.1 s.2.1 s.2.2 []++[])) Z Z Z Z Tryz.call81 Z (fun w1 hw1=>(l5New_ok _ _ _ w1 hw1).mono fun en w' ⟨q,c,h1,h2⟩=>⟨(q,c,_),h1,TabOk.new,by dsimp only;rw [List.append_nil];exact h2.perm perm_front⟩) fun ⟨q,c,bs0⟩ hT0=>?_)))))
 show Ll _ _ (Own _ _ (_::_::_::_::(blks 165 bs0++[]))) _ _ ((12,.agg #[sl_ q 997 997,sl_ c 1 1])::_) _ _ _;refine jU Z Z Z Z Tryz.zeroValue100 fun p11 hp11=>?_
 show Ll _ _ (Own _ _ (bk_ p11 #[.slice none 0 0,.slice none 0 0] 100::_::_::_::_::(blks 165 bs0++[]))) _ _ ((11,pt_ p11)::_) _ _ _;refine yV (cs':=#[sl_ q 997 997,sl_ c 1 1]) (hs':=(bk_ p11 #[sl_ q 997 997,sl_ c 1 1] 100::_::_::_::_::(blks 165 bs0++[]))) 0 Z Z Z Z Z (by kernel_rfl:_=some Tryz.t100) Z Z Z Z Z (zI (zD [1,3,4,5,7,11] [_,_,_,_,_,_] Z (zF (xV (S:=Own w.heap.size w [bk_ p11 #[sl_ q 997 997,sl_ c 1 1] 100,bk_ p7 #[i6_ b.n,str b.set,str b.rel] 24,bk_ p5 #[i6_ a.n,str a.set,str a.rel] 24]) [(0,true),(1,true),(2,true),(3,true),(5,true),(6,true),(7,true),(8,true),(4,false),(9,false),(10,true),(11,true)] yC (fun _ h=>h.drawn) (by kernel_rfl) (yE Z Z Z Z Z (qF (cs:=#[sl_ q 997 997,sl_ c 1 1]) 0 Z uS Z Z uK) (pk [0,1,2] Z Z) (yE Z Z Z Z Z (qF (cs:=#[i6_ a.n,str a.set,str a.rel]) 2 Z zZ Z Z zQ) (pk [0,1,2] Z Z) (yR 2 Z (pk [0,1,2] Z Z) (yE Z Z Z Z Z (qF (cs:=#[sl_ q 997 997,sl_ c 1 1]) 0 Z uS Z Z uK) (pk [0,1,2] Z Z) (yE Z Z Z Z Z (qF (cs:=#[i6_ b.n,str b.set,str b.rel]) 1 Z zZ Z Z zQ) (pk [0,1,2] Z Z) (yR 2 Z (pk [0,1,2] Z Z) (yK Z (Ll.callTab (S:=163) (I:=3) (E:=165) (q:=q) (c:=c) (bs:=bs0) (T:=([]:List (List UInt8))) (hs:=[]) (ok:=fun m bs' T'=>TabTo ([]:List (List UInt8)) bs' T' (cnt r.toNat)∧Means T' r.toNat a xs m) (xs:=[.tmp 13,.tmp 14,.tmp 15,.tmp 16]) (vs:=[.agg #[sl_ q 997 997,sl_ c 1 1],vS a,va,i6_ r]) [bk_ p11 #[sl_ q 997 997,sl_ c 1 1] 100,bk_ p7 #[i6_ b.n,str b.set,str b.rel] 24,bk_ p5 #[i6_ a.n,str a.set,str a.rel] 24] Z Z Z Z Tryz.call82 Z (fun w1 hw1=>type_at r h0 w.heap.size w ([bk_ p11 #[sl_ q 997 997,sl_ c 1 1] 100,bk_ p7 #[i6_ b.n,str b.set,str b.rel] 24,bk_ p5 #[i6_ a.n,str a.set,str a.rel] 24]++[]) q c bs0 ([]:List (List UInt8)) a va xs w1 hT0 ha (fun w2 hw2=>(Row.own hva hw2)) hA (by first | (simp;done) | (simp;omega) | omega) (by simp only [qD];omega) hw1) fun m bs_ T_ hKm=>?_))))))))))))
 show Ll _ _ (Own _ _ (_::_::_::_::_::(blks 165 bs_++[]))) _ _ ((17,i6_ (m:Int))::_) _ _ _;refine zI (yB (pk [0,1,2] Z Z) ?_);refine yK Z (Ll.callTab (S:=163) (I:=3) (E:=165) (q:=q) (c:=c) (bs:=bs_) (T:=T_) (hs:=[]) (ok:=fun m bs' T'=>TabTo T_ bs' T' (cnt r.toNat)∧Means T' r.toNat b ys m) (xs:=[.tmp 18,.tmp 19,.tmp 20,.tmp 21]) (vs:=[.agg #[sl_ q 997 997,sl_ c 1 1],vS b,vb,i6_ r]) [bk_ p11 #[sl_ q 997 997,sl_ c 1 1] 100,bk_ p7 #[i6_ b.n,str b.set,str b.rel] 24,bk_ p5 #[i6_ a.n,str a.set,str a.rel] 24] Z Z Z Z Tryz.call82 Z (fun w1 hw1=>type_at r h0 w.heap.size w ([bk_ p11 #[sl_ q 997 997,sl_ c 1 1] 100,bk_ p7 #[i6_ b.n,str b.set,str b.rel] 24,bk_ p5 #[i6_ a.n,str a.set,str a.rel] 24]++[]) q c bs_ T_ b vb ys w1 hKm.1.ok hb (fun w2 hw2=>(Row.own hvb hw2)) hB (by first | (simp;done) | (simp;omega) | omega) (by have:=hKm.1.len;simp only [qD] at this;omega) hw1) fun m_1 bs__1 T__1 hKm_1=>?_)
 show Ll _ _ (Own _ _ (_::_::_::_::_::(blks 165 bs__1++[]))) _ _ ((22,i6_ (m_1:Int))::_) _ _ _;refine zI (yB (pk [0,1,2] Z Z) ?_);refine yR 2 Z (pk [0,1,2] Z Z) (vG (zD [10] [_] Z (qM (qQ Z Z fun w' hw=>?_))))
 exact ⟨ret_b (winB_eq hKm_1.1.ok.nodup hlen (hKm.2.mono hKm_1.1.pre _ _ _ _) hKm_1.2),hw.below⟩
set_option maxHeartbeats 400000 in
theorem l5Ready_ok (a b:St) (xs ys:List Int) (va vb:Value) (w:World) (hsa:a.Small) (hsb:b.Small) (hva:Ints w va xs) (hvb:Ints w vb ys) (hs1:xs.length≤140737488355328) (hs2:ys.length≤140737488355328) (loa : -9223372036854775808≤a.n) (hia:a.n≤9223372036854775807) (lob : -9223372036854775808≤b.n) (hib:b.n≤9223372036854775807) (r:Int) :
    Calls Tryz.prog 39 [vS a,va,vS b,vb,i6_ r].toArray w fun en w'=>en=.returned (.bool (gameB a xs b ys r))∧Below w.heap.size w w':=by
 refine fnStart (n:=20) (e:=[(0,vS a),(1,va),(2,vS b),(3,vb),(4,i6_ r)]) Tryz.func39 Z Z Z Z Ends.both (zF (qI (xK (v:=vS a) Z Z Z Z Z fun p5 hp5=>?_)))
 show Ll _ _ (Own _ _ [_]) _ _ ((5,pt_ p5)::_) _ _ _;refine xK (v:=vS b) Z Z Z Z Z fun p7 hp7=>?_
 show Ll _ _ (Own _ _ [_,_]) _ _ ((7,pt_ p7)::_) _ _ _;refine qL 1 Z (zI (zD [1,3,4,5,7] [_,_,_,_,_] Z (zF (zB (zE Z (qF (cs:=#[i6_ a.n,str a.set,str a.rel]) 1 Z zZ Z Z zQ) (zC 1 Z (zE Z (qF (cs:=#[i6_ b.n,str b.set,str b.rel]) 0 Z zZ Z Z zQ) (zC 1 Z (zE (v:=bo_ (listsB a xs b ys)) Z (qK Z Tryz.call79 Z qC (fun w1 hw1=>l4Lists_ok a b xs ys va vb w1 hsa hsb (Row.own hva hw1) (Row.own hvb hw1) (by first | (simp;done) | (simp;omega) | omega) (by first | (simp;done) | (simp;omega) | omega) loa hia lob hib)) (zC 1 Z (xD fun b16 hg16=>?_)))))))))))
 cases b16
 ·
  refine zM Z (zM Z (zC 2 Z (zH (zD [10] [_] Z (qM (qQ Z Z fun w' hw=>?_))))))
  exact ⟨ret_b (by unfold gameB;first | (simp_all;done) | (simp_all;omega)),hw.below⟩
 refine zC 1 Z (zE (v:=bo_ (inB r 0 3)) Z (qK Z Tryz.call80 Z qC (fun w1 hw1=>l1In_ok r 0 3 w1 )) (zC 2 Z (zH (zD [10] [_] Z (qM (qQ Z Z fun w' hw=>?_))))))
 exact ⟨ret_b (by unfold gameB;first | (simp_all;done) | (simp_all;omega)),hw.below⟩
end Go.Proofs.YtefiibghfgfdnaaGreatDoor
namespace Go.Proofs.YtefiibghfgfdnaaGreatDoor
open Go.RowKit Go.Wk
set_option linter.unusedSimpArgs false
set_option maxHeartbeats 400000 in
theorem l5Reply_ok (a b:St) (xs ys:List Int) (va vb:Value) (w:World) (ha:a.Fine) (hb:b.Fine) (hva:Ints w va xs) (hvb:Ints w vb ys) (hA:a.Els xs) (hB:b.Els ys) (hlen:xs.length=ys.length) (h4:xs.length≤4) (n:Nat) (h3:n≤2) (x:Int) (hx:a.El x) :
    Calls Tryz.prog 134 [vS a,va,vS b,vb,i6_ ((n:Int)+1),i6_ x].toArray w fun en w'=>en=.returned (.int .i64 (repI (rep (goB n) a xs b ys x)))∧Below w.heap.size w w':=by
 refine fnStart (n:=42) (e:=[(0,vS a),(1,va),(2,vS b),(3,vb),(4,i6_ ((n:Int)+1)),(5,i6_ x)]) Tryz.func134 Z Z Z Z Ends.both ?_
 have hcn:=cnt_small (n:=n) (by omega)
 have hn8:=hb.hi
 have hn1:=hb.lo;refine zF (qI (xK (v:=vS a) Z Z Z Z Z fun p6 hp6=>?_))
 show Ll _ _ (Own _ _ [_]) _ _ ((6,pt_ p6)::_) _ _ _;refine xK (v:=vS b) Z Z Z Z Z fun p8 hp8=>?_
 show Ll _ _ (Own _ _ [_,_]) _ _ ((8,pt_ p8)::_) _ _ _;refine qL 1 Z (zI (zD [1,3,4,5,6,8] [_,_,_,_,_,_] Z (zF (qI (vZ (σ:=Nat×Nat×List Bkt) (ok:=fun s=>TabOk s.2.2 []) (v:=fun s=>.agg #[.slice (some ⟨s.1,0,none⟩) 997 997,.slice (some ⟨s.2.1,0,none⟩) 1 1]) (xs:=[]) (vs:=[]) (hs':=fun s=>[bk_ p8 #[i6_ b.n,str b.set,str b.rel] 24,bk_ p6 #[i6_ a.n,str a.set,str a.rel] 24]++(tabL 163 3 165 s.1 s.2.1 s.2.2 []++[])) Z Z Z Z Tryz.call81 Z (fun w1 hw1=>(l5New_ok _ _ _ w1 hw1).mono fun en w' ⟨q,c,h1,h2⟩=>⟨(q,c,_),h1,TabOk.new,by dsimp only;rw [List.append_nil];exact h2.perm perm_front⟩) fun ⟨q,c,bs0⟩ hT0=>?_)))))
 show Ll _ _ (Own _ _ (_::_::_::_::(blks 165 bs0++[]))) _ _ ((16,.agg #[sl_ q 997 997,sl_ c 1 1])::_) _ _ _;refine jU Z Z Z Z Tryz.zeroValue100 fun p13 hp13=>?_
 show Ll _ _ (Own _ _ (bk_ p13 #[.slice none 0 0,.slice none 0 0] 100::_::_::_::_::(blks 165 bs0++[]))) _ _ ((13,pt_ p13)::_) _ _ _;refine yV (cs':=#[sl_ q 997 997,sl_ c 1 1]) (hs':=(bk_ p13 #[sl_ q 997 997,sl_ c 1 1] 100::_::_::_::_::(blks 165 bs0++[]))) 0 Z Z Z Z Z (by kernel_rfl:_=some Tryz.t100) Z Z Z Z Z (zI (zD [1,3,4,5,6,8,13] [_,_,_,_,_,_,_] Z (zF (xV (S:=Own w.heap.size w [bk_ p13 #[sl_ q 997 997,sl_ c 1 1] 100,bk_ p8 #[i6_ b.n,str b.set,str b.rel] 24,bk_ p6 #[i6_ a.n,str a.set,str a.rel] 24]) [(0,true),(1,true),(2,true),(3,true),(5,true),(6,true),(4,false),(7,false),(8,true)] yC (fun _ h=>h.drawn) (by kernel_rfl) (yE Z Z Z Z Z (qF (cs:=#[sl_ q 997 997,sl_ c 1 1]) 0 Z uS Z Z uK) (pk [0,1,2] Z Z) (yE Z Z Z Z Z (qF (cs:=#[i6_ a.n,str a.set,str a.rel]) 2 Z zZ Z Z zQ) (pk [0,1,2] Z Z) (yR 3 Z (pk [0,1,2] Z Z) (yE (v:=i6_ (n:Int)) Z Z Z Z Z (yA (by congr 1;omega) (jV Z Z Z (by omega) (by omega))) (pk [0,1,2] Z Z) (yK Z (uV (xs:=[.tmp 19,.tmp 20]) (m:=(xs++[x]).length) (vs:=ints (xs++[x])) (el:=3) (size:=1) Z Z Z Z Tryz.call86 Z (fun w1 hw1=>l4With_ok va xs x w1 (Row.own hva hw1) (by omega)) fun p21 cap21 cur21 hp21 hcp21 hlp21 htp21=>(zI (yB (pk [1,2,3] Z Z) ?_))))))))))));refine yK Z (Ll.callTab (S:=163) (I:=3) (E:=165) (q:=q) (c:=c) (bs:=bs0) (T:=([]:List (List UInt8))) (hs:=[]) (ok:=fun m bs' T'=>TabTo ([]:List (List UInt8)) bs' T' (cnt n)∧Means T' n a (xs++[x]) m) (xs:=[.tmp 17,.tmp 18,.tmp 21,.tmp 23]) (vs:=[.agg #[sl_ q 997 997,sl_ c 1 1],vS a,sl_ p21 ((xs++[x]).length) cap21,i6_ (n:Int)]) [bk_ p21 cur21 3,bk_ p13 #[sl_ q 997 997,sl_ c 1 1] 100,bk_ p8 #[i6_ b.n,str b.set,str b.rel] 24,bk_ p6 #[i6_ a.n,str a.set,str a.rel] 24] Z Z Z Z Tryz.call82 Z (fun w1 hw1=>type_ok n w.heap.size w ([bk_ p21 cur21 3,bk_ p13 #[sl_ q 997 997,sl_ c 1 1] 100,bk_ p8 #[i6_ b.n,str b.set,str b.rel] 24,bk_ p6 #[i6_ a.n,str a.set,str a.rel] 24]++[]) q c bs0 ([]:List (List UInt8)) a (sl_ p21 ((xs++[x]).length) cap21) (xs++[x]) w1 hT0 ha (fun w2 hw2=>(yX hw2 (i:=0) Z (by simpa using htp21) (by simp) hlp21)) (els_more hA hx) (by simp;omega) (by simp only [qD];omega) hw1) fun m bs_ T_ hKm=>?_)
 show Ll _ _ (Own _ _ (_::_::_::_::_::_::(blks 165 bs_++[]))) _ _ ((24,i6_ (m:Int))::_) _ _ _;refine zI (yB (pk [1,2,3] Z Z) ?_);refine yR 1 Z (pk [1,2,3] Z Z) (vG (zD [3,4,8,13,14] [_,_,_,_,_] Z (zF (zF (zB (zC 1 Z (zH (zD [3,4,8,13,14,15] [_,_,_,_,_,_] Z (qW (xM (σ:=Nat×List Bkt×List (List UInt8)) (fun ⟨k,bs1,T1⟩=>(k:Int)≤b.n∧TabTo T_ bs1 T1 (k*cnt n)∧Means T1 n a (xs++[x]) m∧∀ i:Nat,i<k→winB n a (xs++[x]) b (ys++[(i:Int)])=false) (fun ⟨k,bs1,T1⟩=>[(3,vb),(4,i6_ ((n:Int)+1)),(8,pt_ p8),(13,pt_ p13),(14,i6_ (m:Int)),(15,i6_ (k:Int))]) (fun ⟨k,bs1,T1⟩=>Own w.heap.size w (bk_ p21 cur21 3::bk_ p13 #[sl_ q 997 997,sl_ c 1 1] 100::bk_ p8 #[i6_ b.n,str b.set,str b.rel] 24::bk_ p6 #[i6_ a.n,str a.set,str a.rel] 24::bk_ q ((bs1.map bktV).toArray) 163::bk_ c #[i6_ (T1.length:Int)] 3::(blks 165 bs1++[]))) (fun ⟨k,bs1,T1⟩=>(b.n - k).toNat) (0,bs_,T_) ⟨by omega,⟨hKm.1.ok,List.prefix_refl _,by omega⟩,hKm.2,fun i hi=>absurd hi (by omega)⟩ (Sub.sel [3,4,8,13,14,15] Z) (fun _ h=>h) ?_))))))))))
 rintro ⟨k,bs1,T1⟩ ⟨hk,hTT,hM,hall⟩
 dsimp only
 have hTl:=hTT.len
 have hTl0:=hKm.1.len
 simp only [qD] at hTl0
 have hk8:=cnt_le k n (by omega);refine zF (zF (zB (zC 1 Z (zE Z (zG Z zY Z zJ Z Z) (zE Z (zS 2 Z zU Z Z Z) (zC 1 Z (zH (zD [3,4,8,13,14,15,28] [_,_,_,_,_,_,_] Z (yF (b:=decide ((k:Int)<b.n)) Z (fun h28=>?_) (fun h28=>?_))))))))))
 ·
  replace h28:=zV h28
  have hy:b.El k:=⟨by omega,by omega⟩;refine qR (zD [3,4,8,13,14,15] [_,_,_,_,_,_] Z (zF (qW (zF (xV (S:=Own w.heap.size w [bk_ p21 cur21 3,bk_ p13 #[sl_ q 997 997,sl_ c 1 1] 100,bk_ p8 #[i6_ b.n,str b.set,str b.rel] 24,bk_ p6 #[i6_ a.n,str a.set,str a.rel] 24]) [(0,true),(1,true),(2,true),(3,true),(5,true),(6,true),(8,true),(4,false),(7,false),(9,true)] yC (fun _ h=>h.drawn) (by kernel_rfl) (yE Z Z Z Z Z (qF (cs:=#[sl_ q 997 997,sl_ c 1 1]) 1 Z uS Z Z uK) (pk [0,1,2,3] Z Z) (yE Z Z Z Z Z (qF (cs:=#[i6_ b.n,str b.set,str b.rel]) 2 Z zZ Z Z zQ) (pk [0,1,2,3] Z Z) (yR 3 Z (pk [0,1,2,3] Z Z) (yE (v:=i6_ (n:Int)) Z Z Z Z Z (yA (by congr 1;omega) (jV Z Z Z (by omega) (by omega))) (pk [0,1,2,3] Z Z) (yR 1 Z (pk [0,1,2,3] Z Z) (yK Z (uV (xs:=[.tmp 33,.tmp 34]) (m:=(ys++[(k:Int)]).length) (vs:=ints (ys++[(k:Int)])) (el:=3) (size:=1) Z Z Z Z Tryz.call86 Z (fun w1 hw1=>l4With_ok vb ys (k:Int) w1 (Row.own hvb hw1) (by omega)) fun p35 cap35 cur35 hp35 hcp35 hlp35 htp35=>(zI (yB (pk [1,2,3,4] Z Z) ?_))))))))))))));refine yK Z (Ll.callTab (S:=163) (I:=3) (E:=165) (q:=q) (c:=c) (bs:=bs1) (T:=T1) (hs:=[]) (ok:=fun m bs' T'=>TabTo T1 bs' T' (cnt n)∧Means T' n b (ys++[(k:Int)]) m) (xs:=[.tmp 31,.tmp 32,.tmp 35,.tmp 37]) (vs:=[.agg #[sl_ q 997 997,sl_ c 1 1],vS b,sl_ p35 ((ys++[(k:Int)]).length) cap35,i6_ (n:Int)]) [bk_ p35 cur35 3,bk_ p21 cur21 3,bk_ p13 #[sl_ q 997 997,sl_ c 1 1] 100,bk_ p8 #[i6_ b.n,str b.set,str b.rel] 24,bk_ p6 #[i6_ a.n,str a.set,str a.rel] 24] Z Z Z Z Tryz.call82 Z (fun w1 hw1=>type_ok n w.heap.size w ([bk_ p35 cur35 3,bk_ p21 cur21 3,bk_ p13 #[sl_ q 997 997,sl_ c 1 1] 100,bk_ p8 #[i6_ b.n,str b.set,str b.rel] 24,bk_ p6 #[i6_ a.n,str a.set,str a.rel] 24]++[]) q c bs1 T1 b (sl_ p35 ((ys++[(k:Int)]).length) cap35) (ys++[(k:Int)]) w1 hTT.ok hb (fun w2 hw2=>(yX hw2 (i:=0) Z (by simpa using htp35) (by simp) hlp35)) (els_more hB hy) (by simp;omega) (by omega) hw1) fun m_1 bs__1 T__1 hKm_1=>?_)
  show Ll _ _ (Own _ _ (_::_::_::_::_::_::_::(blks 165 bs__1++[]))) _ _ ((38,i6_ (m_1:Int))::_) _ _ _;refine zI (yB (pk [1,2,3,4] Z Z) ?_);refine yR 1 Z (pk [1,2,3,4] Z Z) (vG (zD [3,4,8,13,14,15,40] [_,_,_,_,_,_,_] Z (yF (b:=decide ((m_1:Int)=(m:Int))) Z (fun h40=>?_) (fun h40=>?_))))
  ·
   replace h40:=zV h40
   have hwe:=winB_eq (n:=n) (xs:=xs++[x]) (ys:=ys++[(k:Int)]) hKm_1.1.ok.nodup (by simp [hlen]) (hM.mono hKm_1.1.pre _ _ _ _) hKm_1.2
   have hyw:winB n a (xs++[x]) b (ys++[(k:Int)])=true:=by rw [← hwe];simpa using h40.symm
   refine zF (zB (zC 2 Z (zH (zD [12] [_] Z (qM (qQ Z Z fun w' hw=>?_))))))
   exact ⟨ret_i (repI_at hlen (by omega) hall hyw).symm,hw.below⟩
  replace h40:=zT h40
  have hwe:=winB_eq (n:=n) (xs:=xs++[x]) (ys:=ys++[(k:Int)]) hKm_1.1.ok.nodup (by simp [hlen]) (hM.mono hKm_1.1.pre _ _ _ _) hKm_1.2
  have hnw:winB n a (xs++[x]) b (ys++[(k:Int)])=false:=by rw [← hwe];simpa using fun e=>h40 e.symm
  refine qR (zD [3,4,8,13,14,15] [_,_,_,_,_,_] Z (zB (zC 1 Z (zE Z (qT Z Z Z (by omega) (by omega)) (zC 1 Z (zH (yL (k+1,bs__1,T__1) ⟨by omega,hTT.trans hKm_1.1 (by rw [Nat.add_mul,Nat.one_mul];exact Nat.le_refl _),hM.mono hKm_1.1.pre _ _ _ _,fun i hi=>(Nat.lt_succ_iff_lt_or_eq.1 hi).elim (hall i) (fun e=>by subst e;exact hnw)⟩ (by omega) (Sub.sel [3,4,8,13,14,15] Z) (fun _ h=>h.tail))))))))
 replace h28:=zT h28;refine yY Z (zD [] [] Z (zF (zB (zC 1 Z (zH (zD [12] [_] Z (qM (qQ Z Z fun w' hw=>?_))))))))
 exact ⟨ret_i (repI_no hlen (fun i hi=>hall i (by omega))).symm,hw.below⟩
theorem l5Reply_at (r:Int) (h1:1≤r) (h3:r≤3) (a b:St) (xs ys:List Int) (va vb:Value) (w:World) (ha:a.Fine) (hb:b.Fine) (hva:Ints w va xs) (hvb:Ints w vb ys) (hA:a.Els xs) (hB:b.Els ys) (hlen:xs.length=ys.length) (h4:xs.length≤4) (x:Int) (hx:a.El x) :
    Calls Tryz.prog 134 #[vS a,va,vS b,vb,.int .i64 r,.int .i64 x] w fun en w'=>en=.returned (.int .i64 (repI (rep (goB (r - 1).toNat) a xs b ys x)))∧Below w.heap.size w w':=by
  have h:=l5Reply_ok a b xs ys va vb w ha hb hva hvb hA hB hlen h4 (r - 1).toNat (by omega) x hx
  rw [show (((r - 1).toNat:Int)+1)=r from by omega] at h
  exact h
set_option maxHeartbeats 400000 in
theorem sMove_ok (a b:St) (xs ys:List Int) (va vb:Value) (w:World) (hsa:a.Small) (hsb:b.Small) (hva:Ints w va xs) (hvb:Ints w vb ys) (hs1:xs.length≤140737488355328) (hs2:ys.length≤140737488355328) (loa : -9223372036854775808≤a.n) (hia:a.n≤9223372036854775807) (lob : -9223372036854775808≤b.n) (hib:b.n≤9223372036854775807) (r:Int) :
    Calls Tryz.prog 85 [vS a,va,vS b,vb,i6_ r].toArray w fun en w'=>en=.returned (.tuple #[str (sideS (fmO a xs b ys r)),.int .i64 (moveI (fmO a xs b ys r)),.bool (fmO a xs b ys r).isSome])∧Below w.heap.size w w':=by
 refine fnStart (n:=64) (e:=[(0,vS a),(1,va),(2,vS b),(3,vb),(4,i6_ r)]) Tryz.func85 Z Z Z Z Ends.both (zF (qI (xK (v:=vS a) Z Z Z Z Z fun p5 hp5=>?_)))
 show Ll _ _ (Own _ _ [_]) _ _ ((5,pt_ p5)::_) _ _ _;refine xK (v:=vS b) Z Z Z Z Z fun p7 hp7=>?_
 show Ll _ _ (Own _ _ [_,_]) _ _ ((7,pt_ p7)::_) _ _ _;refine zO (v:=str ([])) Z (jC Z Z) (qL 2 Z (zI (zD [1,3,4,5,7] [_,_,_,_,_] Z (zF (zF (zB (zE Z (qF (cs:=#[i6_ a.n,str a.set,str a.rel]) 1 Z zZ Z Z zQ) (zC 1 Z (zE Z (qF (cs:=#[i6_ b.n,str b.set,str b.rel]) 0 Z zZ Z Z zQ) (zC 2 Z (zE (v:=bo_ (gameB a xs b ys r)) Z (qK Z Tryz.call39 Z qC (fun w1 hw1=>l5Ready_ok a b xs ys va vb w1 hsa hsb (Row.own hva hw1) (Row.own hvb hw1) (by first | (simp;done) | (simp;omega) | omega) (by first | (simp;done) | (simp;omega) | omega) loa hia lob hib r)) (zC 2 Z (xD fun b22 hg22=>?_)))))))))))))
 cases b22
 ·
  replace hg22:=not_false hg22
  replace hg22:gameB a xs b ys r=true:=by simpa using hg22
  obtain ⟨hLL,hr0,hr3⟩:=gameB_true hg22
  obtain ⟨LA,LB,hlen⟩:=listsB_true hLL
  have ha:=LA.fine
  have hb:=LB.fine
  have hA:=LA.els
  have hB:=LB.els
  have hl4:=LA.len
  have hn8:=hb.hi
  have hn1:=hb.lo
  have hm8:=ha.hi
  have hm1:=ha.lo;refine zE Z (qF (cs:=#[i6_ a.n,str a.set,str a.rel]) 1 Z zZ Z Z zQ) (zC 1 Z (zE Z (qF (cs:=#[i6_ b.n,str b.set,str b.rel]) 0 Z zZ Z Z zQ) (zC 1 Z (zE (v:=bo_ (sameB a xs b ys)) Z (qK Z Tryz.call83 Z qC (fun w1 hw1=>l4Partial_ok a b xs ys va vb w1 ha hb (Row.own hva hw1) (Row.own hvb hw1) hA hB (by omega) (by omega))) (zC 3 Z (xD fun b30 hg30=>?_))))))
  cases b30
  ·
   replace hg30:=not_false hg30;refine zC 3 Z (zH (zD [1,3,4,5,7,33] [_,_,_,_,_,_] Z (yF (b:=decide (r<(1:Int))) Z (fun h33=>?_) (fun h33=>?_))))
   ·
    replace h33:=zV h33;refine zF (zB (zE (v:=str ([])) Z (jC Z Z) (zC 2 Z (zH (zD [10,11,12] [_,_,_] Z (qM (Kt.end3 Z Z Z Z fun w' hw=>?_)))))))
    first | exact ⟨by rw [show fmO a xs b ys r=moveO (r - 1).toNat a xs b ys from by unfold fmO;rw [hg22,hsame,if_pos (by simp [h1])],move_none (fun i hi=>hall1 i (by omega)) (fun i hi=>hall2 i (by omega))];rfl,hw.below⟩ | exact ⟨by rw [show fmO a xs b ys r=none from by unfold fmO;rw [if_neg (by first | (simp_all;done) | (simp_all;omega))]];rfl,hw.below⟩
   replace h33:=zT h33
   have hsame:sameB a xs b ys=true:=by simp_all
   have h1:1≤r:=by omega
   refine qR (zD [1,3,4,5,7] [_,_,_,_,_] Z (zF (zF (zB (zC 1 Z (zH (zD [1,3,4,5,7,13] [_,_,_,_,_,_] Z (qW (xM (σ:=Nat) (fun k=>(k:Int)≤a.n∧∀ i:Nat,i<k→(rep (goB (r - 1).toNat) a xs b ys i).isSome=true) (fun k=>[(1,va),(3,vb),(4,i6_ r),(5,pt_ p5),(7,pt_ p7),(13,i6_ (k:Int))]) (fun k=>Own w.heap.size w [bk_ p7 #[i6_ b.n,str b.set,str b.rel] 24,bk_ p5 #[i6_ a.n,str a.set,str a.rel] 24]) (fun k=>(a.n - k).toNat) (0) ⟨by omega,fun i hi=>absurd hi (by omega)⟩ (Sub.sel [1,3,4,5,7,13] Z) (fun _ h=>h) ?_)))))))))
   rintro k ⟨hk1,hall1⟩;refine zF (zF (zB (zC 1 Z (zE Z (zG Z zY Z zJ Z Z) (zE Z (zS 1 Z zU Z Z Z) (zC 1 Z (zH (zD [1,3,4,5,7,13,37] [_,_,_,_,_,_,_] Z (yF (b:=decide ((k:Int)<a.n)) Z (fun h37=>?_) (fun h37=>?_))))))))))
   ·
    replace h37:=zV h37
    have hx:a.El k:=⟨by omega,by omega⟩;refine qR (zD [1,3,4,5,7,13] [_,_,_,_,_,_] Z (zF (qW (zF (zB (zE Z (qF (cs:=#[i6_ a.n,str a.set,str a.rel]) 1 Z zZ Z Z zQ) (zC 1 Z (zE Z (qF (cs:=#[i6_ b.n,str b.set,str b.rel]) 0 Z zZ Z Z zQ) (zC 3 Z (zE (v:=i6_ (repI (rep (goB ((r - 1).toNat)) a xs b ys (k:Int)))) Z (qK Z Tryz.call134 Z qC (fun w1 hw1=>l5Reply_at r (by omega) (by omega) a b xs ys va vb w1 ha hb (Row.own hva hw1) (Row.own hvb hw1) hA hB (by first | (simp;done) | (simp;omega) | omega) (by first | (simp;done) | (simp;omega) | omega) (k:Int) hx)) (zC 1 Z (zH (zD [1,3,4,5,7,13,47] [_,_,_,_,_,_,_] Z (yF (b:=decide ((repI (rep (goB ((r - 1).toNat)) a xs b ys (k:Int)))<(0:Int))) Z (fun h47=>?_) (fun h47=>?_)))))))))))))))
    ·
     replace h47:=zV h47;refine zF (zB (zC 1 Z (zE (v:=str ([97])) Z (jC Z Z) (zC 2 Z (zH (zD [10,11,12] [_,_,_] Z (qM (Kt.end3 Z Z Z Z fun w' hw=>?_))))))))
     have hs1:=repI_neg.1 h47
     exact ⟨by rw [show fmO a xs b ys r=moveO (r - 1).toNat a xs b ys from by unfold fmO;rw [hg22,hsame,if_pos (by simp [h1])],move_1 (k:=k) (by omega) hall1 hs1];rfl,hw.below⟩
    replace h47:=zT h47
    have hs1:=(repI_some h47).1;refine qR (zD [1,3,4,5,7,13] [_,_,_,_,_,_] Z (zB (zC 1 Z (zE Z (qT Z Z Z (by omega) (by omega)) (zC 1 Z (zH (yL (k+1) ⟨by omega,fun i hi=>(Nat.lt_succ_iff_lt_or_eq.1 hi).elim (hall1 i) (fun e=>by subst e;assumption)⟩ (by omega) (Sub.sel [1,3,4,5,7,13] Z) (fun _ h=>h))))))))
   replace h37:=zT h37;refine yY Z (zD [1,3,4,5,7] [_,_,_,_,_] Z (zF (zF (zB (zC 1 Z (zH (zD [1,3,4,5,7,14] [_,_,_,_,_,_] Z (qW (xM (σ:=Nat) (fun m=>(m:Int)≤b.n∧∀ i:Nat,i<m→(rep (goB (r - 1).toNat) b ys a xs i).isSome=true) (fun m=>[(1,va),(3,vb),(4,i6_ r),(5,pt_ p5),(7,pt_ p7),(14,i6_ (m:Int))]) (fun m=>Own w.heap.size w [bk_ p7 #[i6_ b.n,str b.set,str b.rel] 24,bk_ p5 #[i6_ a.n,str a.set,str a.rel] 24]) (fun m=>(b.n - m).toNat) (0) ⟨by omega,fun i hi=>absurd hi (by omega)⟩ (Sub.sel [1,3,4,5,7,14] Z) (fun _ h=>h) ?_)))))))))
   rintro m ⟨hk2,hall2⟩;refine zF (zF (zB (zC 1 Z (zE Z (zG Z zY Z zJ Z Z) (zE Z (zS 0 Z zU Z Z Z) (zC 1 Z (zH (zD [1,3,4,5,7,14,52] [_,_,_,_,_,_,_] Z (yF (b:=decide ((m:Int)<b.n)) Z (fun h52=>?_) (fun h52=>?_))))))))))
   ·
    replace h52:=zV h52
    have hy:b.El m:=⟨by omega,by omega⟩;refine qR (zD [1,3,4,5,7,14] [_,_,_,_,_,_] Z (zF (qW (zF (zB (zE Z (qF (cs:=#[i6_ b.n,str b.set,str b.rel]) 0 Z zZ Z Z zQ) (zC 1 Z (zE Z (qF (cs:=#[i6_ a.n,str a.set,str a.rel]) 1 Z zZ Z Z zQ) (zC 3 Z (zE (v:=i6_ (repI (rep (goB ((r - 1).toNat)) b ys a xs (m:Int)))) Z (qK Z Tryz.call134 Z qC (fun w1 hw1=>l5Reply_at r (by omega) (by omega) b a ys xs vb va w1 hb ha (Row.own hvb hw1) (Row.own hva hw1) hB hA (by first | (simp;done) | (simp;omega) | omega) (by first | (simp;done) | (simp;omega) | omega) (m:Int) hy)) (zC 1 Z (zH (zD [1,3,4,5,7,14,62] [_,_,_,_,_,_,_] Z (yF (b:=decide ((repI (rep (goB ((r - 1).toNat)) b ys a xs (m:Int)))<(0:Int))) Z (fun h62=>?_) (fun h62=>?_)))))))))))))))
    ·
     replace h62:=zV h62;refine zF (zB (zC 1 Z (zE (v:=str ([98])) Z (jC Z Z) (zC 2 Z (zH (zD [10,11,12] [_,_,_] Z (qM (Kt.end3 Z Z Z Z fun w' hw=>?_))))))))
     have hs2:=repI_neg.1 h62
     exact ⟨by rw [show fmO a xs b ys r=moveO (r - 1).toNat a xs b ys from by unfold fmO;rw [hg22,hsame,if_pos (by simp [h1])],move_2 (k:=m) (fun i hi=>hall1 i (by omega)) (by omega) hall2 hs2];rfl,hw.below⟩
    replace h62:=zT h62
    have hs2:=(repI_some h62).1;refine qR (zD [1,3,4,5,7,14] [_,_,_,_,_,_] Z (zB (zC 1 Z (zE Z (qT Z Z Z (by omega) (by omega)) (zC 1 Z (zH (yL (m+1) ⟨by omega,fun i hi=>(Nat.lt_succ_iff_lt_or_eq.1 hi).elim (hall2 i) (fun e=>by subst e;assumption)⟩ (by omega) (Sub.sel [1,3,4,5,7,14] Z) (fun _ h=>h))))))))
   replace h52:=zT h52;refine yY Z (zD [] [] Z (zF (zB (zE (v:=str ([])) Z (jC Z Z) (zC 2 Z (zH (zD [10,11,12] [_,_,_] Z (qM (Kt.end3 Z Z Z Z fun w' hw=>?_)))))))))
   first | exact ⟨by rw [show fmO a xs b ys r=moveO (r - 1).toNat a xs b ys from by unfold fmO;rw [hg22,hsame,if_pos (by simp [h1])],move_none (fun i hi=>hall1 i (by omega)) (fun i hi=>hall2 i (by omega))];rfl,hw.below⟩ | exact ⟨by rw [show fmO a xs b ys r=none from by unfold fmO;rw [if_neg (by first | (simp_all;done) | (simp_all;omega))]];rfl,hw.below⟩
  replace hg30:=not_true hg30;refine zM Z (zM Z (zC 1 Z (zH (zD [1,3,4,5,7,33] [_,_,_,_,_,_] Z (yW Z (zF (zB (zE (v:=str ([])) Z (jC Z Z) (zC 2 Z (zH (zD [10,11,12] [_,_,_] Z (qM (Kt.end3 Z Z Z Z fun w' hw=>?_)))))))))))))
  first | exact ⟨by rw [show fmO a xs b ys r=moveO (r - 1).toNat a xs b ys from by unfold fmO;rw [hg22,hsame,if_pos (by simp [h1])],move_none (fun i hi=>hall1 i (by omega)) (fun i hi=>hall2 i (by omega))];rfl,hw.below⟩ | exact ⟨by rw [show fmO a xs b ys r=none from by unfold fmO;rw [if_neg (by first | (simp_all;done) | (simp_all;omega))]];rfl,hw.below⟩
 replace hg22:=not_true hg22;refine zM Z (zM Z (zM Z (zM Z (zM Z (zM Z (zC 2 Z (zM Z (zM Z (zC 1 Z (zH (zD [1,3,4,5,7,33] [_,_,_,_,_,_] Z (yW Z (zF (zB (zE (v:=str ([])) Z (jC Z Z) (zC 2 Z (zH (zD [10,11,12] [_,_,_] Z (qM (Kt.end3 Z Z Z Z fun w' hw=>?_))))))))))))))))))))
 first | exact ⟨by rw [show fmO a xs b ys r=moveO (r - 1).toNat a xs b ys from by unfold fmO;rw [hg22,hsame,if_pos (by simp [h1])],move_none (fun i hi=>hall1 i (by omega)) (fun i hi=>hall2 i (by omega))];rfl,hw.below⟩ | exact ⟨by rw [show fmO a xs b ys r=none from by unfold fmO;rw [if_neg (by first | (simp_all;done) | (simp_all;omega))]];rfl,hw.below⟩
end Go.Proofs.YtefiibghfgfdnaaGreatDoor
namespace Go.Proofs.YtefiibghfgfdnaaGreatDoor
open Go.RowKit Go.Wk
set_option linter.unusedSimpArgs false
set_option maxHeartbeats 400000 in
theorem differ_ok (a b:St) (xs ys:List Int) (va vb:Value) (w:World) (ha:a.Fine) (hb:b.Fine) (hva:Ints w va xs) (hvb:Ints w vb ys) (hA:a.Els xs) (hB:b.Els ys) (hlen:xs.length=ys.length) (hl4:xs.length≤4) :
    Calls Tryz.prog 84 [vS a,va,vS b,vb].toArray w fun en w'=>en=.returned (str (diffO (factsL a xs xs.length) (factsL b ys ys.length)))∧Below w.heap.size w w':=by
 refine fnStart (n:=48) (e:=[(0,vS a),(1,va),(2,vS b),(3,vb)]) Tryz.func84 Z Z Z Z Ends.both (zF (qI (xK (v:=vS a) Z Z Z Z Z fun p4 hp4=>?_)))
 show Ll _ _ (Own _ _ [_]) _ _ ((4,pt_ p4)::_) _ _ _;refine xK (v:=vS b) Z Z Z Z Z fun p6 hp6=>?_
 show Ll _ _ (Own _ _ [_,_]) _ _ ((6,pt_ p6)::_) _ _ _;refine zO (v:=str ([])) Z (jC Z Z) (zI (zD [1,3,4,6] [_,_,_,_] Z (zF (zF (zB (zC 1 Z (zH (zD [1,3,4,6,9] [_,_,_,_,_] Z (qW (xM (σ:=Nat) (fun i=>i≤xs.length∧(factsL a xs i).map signed=(factsL b ys i).map signed) (fun i=>[(1,va),(3,vb),(4,pt_ p4),(6,pt_ p6),(9,i6_ ((i:Int)+1))]) (fun i=>Own w.heap.size w [bk_ p6 #[i6_ b.n,str b.set,str b.rel] 24,bk_ p4 #[i6_ a.n,str a.set,str a.rel] 24]) (fun i=>xs.length - i) (0) ⟨by omega,rfl⟩ (Sub.cons Z (Sub.cons Z (Sub.cons Z (Sub.cons Z (Sub.cons (by simp [List.lookup]) Sub.nil))))) (fun _ h=>h) ?_))))))))))
 rintro i ⟨hi,hall⟩;refine zF (zF (zB (zC 2 Z (zE (v:=i6_ (xs.length:Int)) Z (yP Z zX Z (ints_length _) (fun w1 hw1=>Row.own hva hw1)) (zC 1 Z (zH (zD [1,3,4,6,9,16] [_,_,_,_,_,_] Z (yF (b:=decide (((i:Int)+1)≤(xs.length:Int))) Z (fun h16=>?_) (fun h16=>?_)))))))))
 ·
  replace h16:=zV h16
  have hin:i<xs.length:=by omega
  have hla:((factL a xs i).map signed).length=2+3*i:=by rw [List.length_map,factL_length]
  have hlb:((factL b ys i).map signed).length=2+3*i:=by rw [List.length_map,factL_length]
  refine qR (zD [1,3,4,6,9] [_,_,_,_,_] Z (zF (qW (zF (Wk.regionO [(0,true),(1,true),(2,true),(3,true),(4,false),(5,true)] yC (fun _ h=>h.drawn) (by kernel_rfl) (yE Z Z Z Z Z (qF (cs:=#[i6_ a.n,str a.set,str a.rel]) 1 Z zZ Z Z zQ) (fun _ h=>h) (yR 1 Z (fun _ h=>h) (yE (v:=i6_ ((i+1:Nat):Int)) Z Z Z Z Z (yA (by simp) (OpQ.move Z Z)) (fun _ h=>h) (yE (v:=sTake va (i+1)) Z Z Z Z Z (uW (i:=((i+1:Nat):Int)) Z zX zJ Z Z (by omega) (by rw [ints_length];omega) (fun w1 hw1=>Row.own hva hw1)) (fun _ h=>h) (yK Z (uV (xs:=[.tmp 19,.tmp 22]) (m:=((factL a xs i).map signed).length) (vs:=strs ((factL a xs i).map signed)) (el:=9) (size:=1) Z Z Z Z Tryz.call133 Z (fun w1 hw1=>l3Facts_ok a (sTake va (i+1)) (xs.take (i+1)) i ((factL a xs i).map signed) w1 ha (Ints.take (Row.own hva hw1) (i+1) (by omega)) (hA.take _) (by rw [zR];omega) (by omega) (by rw [fact_take (by omega)])) fun p23 cap23 cur23 hp23 hcp23 hlp23 htp23=>(zI (yB (fun _ h=>h.tail) ?_)))))))))))));refine yR 1 Z (fun _ h=>h.tail) (vG (zD [1,3,4,6,9,10] [_,_,_,_,_,_] Z (zF (Wk.regionO [(0,true),(1,true),(2,true),(3,true),(4,false),(5,true)] yC (fun _ h=>h.drawn) (by kernel_rfl) (yE Z Z Z Z Z (qF (cs:=#[i6_ b.n,str b.set,str b.rel]) 1 Z zZ Z Z zQ) (fun _ h=>h) (yR 1 Z (fun _ h=>h) (yE (v:=i6_ ((i+1:Nat):Int)) Z Z Z Z Z (yA (by simp) (OpQ.move Z Z)) (fun _ h=>h) (yE (v:=sTake vb (i+1)) Z Z Z Z Z (uW (i:=((i+1:Nat):Int)) Z zX zJ Z Z (by omega) (by rw [ints_length];omega) (fun w1 hw1=>Row.own hvb hw1)) (fun _ h=>h) (yK Z (uV (xs:=[.tmp 24,.tmp 27]) (m:=((factL b ys i).map signed).length) (vs:=strs ((factL b ys i).map signed)) (el:=9) (size:=1) Z Z Z Z Tryz.call133 Z (fun w1 hw1=>l3Facts_ok b (sTake vb (i+1)) (ys.take (i+1)) i ((factL b ys i).map signed) w1 hb (Ints.take (Row.own hvb hw1) (i+1) (by omega)) (hB.take _) (by rw [zR];omega) (by omega) (by rw [fact_take (by omega)])) fun p28 cap28 cur28 hp28 hcp28 hlp28 htp28=>(zI (yB (fun _ h=>h.tail) ?_))))))))))));refine yR 1 Z (fun _ h=>h.tail) (vG (zD [1,3,4,6,9,10,11] [_,_,_,_,_,_,_] Z (zF (zB (zC 1 Z (zH (zD [1,3,4,6,9,10,11,12] [_,_,_,_,_,_,_,_] Z (qW (xM (σ:=Nat) (fun k=>k≤2+3*i∧∀ j:Nat,j<k→((factL a xs i).map signed).getD j []=((factL b ys i).map signed).getD j []) (fun k=>[(1,va),(3,vb),(4,pt_ p4),(6,pt_ p6),(9,i6_ ((i:Int)+1)),(10,sl_ p23 (((factL a xs i).map signed).length) cap23),(11,sl_ p28 (((factL b ys i).map signed).length) cap28),(12,i6_ (k:Int))]) (fun k=>Own w.heap.size w [bk_ p28 cur28 9,bk_ p23 cur23 9,bk_ p6 #[i6_ b.n,str b.set,str b.rel] 24,bk_ p4 #[i6_ a.n,str a.set,str a.rel] 24]) (fun k=>2+3*i - k) (0) ⟨by omega,fun j hj=>absurd hj (by omega)⟩ (Sub.sel [1,3,4,6,9,10,11,12] Z) (fun _ h=>h) ?_)))))))))
  rintro k ⟨hk,hal⟩;refine zF (zF (zB (zC 2 Z (zE Z (kD Z xQ Z) (zC 1 Z (zH (zD [1,3,4,6,9,10,11,12,32] [_,_,_,_,_,_,_,_,_] Z (yF (b:=decide ((k:Int)<((((factL a xs i).map signed).length:Int)))) Z (fun h32=>?_) (fun h32=>?_)))))))))
  ·
   replace h32:=zV h32;refine qR (zD [1,3,4,6,9,10,11,12] [_,_,_,_,_,_,_,_] Z (zF (qW (zF (xY yC (fun _ h=>h.drawn) (by kernel_rfl) (zC 2 Z (zE (v:=pf_ p23 ((k:Int).toNat)) Z (yA (by rw [Nat.zero_add]) (yZ (i:=(k:Int)) Z xQ qO Z Z (by omega) (by omega))) (zE (v:=str (((factL a xs i).map signed).getD ((k:Int).toNat) [])) Z (xT 1 Z yH Z Z (cur_at (by simpa using htp23) (strs_at (c:=((factL a xs i).map signed)) (off:=(k:Int).toNat) (by first | (simp;done) | (simp;omega) | omega)))) (zC 2 Z (zE (v:=pf_ p28 ((k:Int).toNat)) Z (yA (by rw [Nat.zero_add]) (yZ (i:=(k:Int)) Z xQ qO Z Z (by omega) (by omega))) (zE (v:=str (((factL b ys i).map signed).getD ((k:Int).toNat) [])) Z (xT 0 Z yH Z Z (cur_at (by simpa using htp28) (strs_at (c:=((factL b ys i).map signed)) (off:=(k:Int).toNat) (by first | (simp;done) | (simp;omega) | omega)))) (zE Z (OpQ.sneq Z Z Z) (zH (zD [1,3,4,6,9,10,11,12,43] [_,_,_,_,_,_,_,_,_] Z (yF (b:=!((((factL a xs i).map signed).getD ((k:Int).toNat) [])==(((factL b ys i).map signed).getD ((k:Int).toNat) []))) Z (fun h43=>?_) (fun h43=>?_))))))))))))))))
   ·
    replace h43:=not_true h43
    have hne:((factL a xs i).map signed).getD k [] ≠ ((factL b ys i).map signed).getD k []:=by simpa using h43
    refine zF (zB (zC 2 Z (zE (v:=pf_ p23 ((k:Int).toNat)) Z (yA (by rw [Nat.zero_add]) (yZ (i:=(k:Int)) Z xQ qO Z Z (by omega) (by omega))) (zE (v:=str (((factL a xs i).map signed).getD ((k:Int).toNat) [])) Z (xT 1 Z yH Z Z (cur_at (by simpa using htp23) (strs_at (c:=((factL a xs i).map signed)) (off:=(k:Int).toNat) (by first | (simp;done) | (simp;omega) | omega)))) (zC 1 Z (zH (zD [8] [_] Z (qM (qQ Z Z fun w' hw=>?_)))))))))
    exact ⟨ret_s (by rw [← hlen,differ_at hin (by rw [factL_length];omega) hall hal hne];rfl),hw.below⟩
   replace h43:=not_false h43;refine qR (zD [1,3,4,6,9,10,11,12] [_,_,_,_,_,_,_,_] Z (zB (zC 1 Z (zE Z (qT Z Z Z (by omega) (by omega)) (zC 1 Z (zH (yL (k+1) ⟨by omega,fun j hj=>(Nat.lt_succ_iff_lt_or_eq.1 hj).elim (hal j) (fun e=>by subst e;simpa using h43)⟩ (by omega) (Sub.sel [1,3,4,6,9,10,11,12] Z) (fun _ h=>h))))))))
  replace h32:=zT h32
  have hsame:((factL a xs i).map signed)=((factL b ys i).map signed):=list_extS (by rw [hla,hlb]) (fun j hj=>hal j (by omega));refine yY Z (zD [1,3,4,6,9] [_,_,_,_,_] Z (zB (zC 1 Z (zE Z (qT Z Z Z (by omega) (by omega)) (zC 1 Z (zH (yL (i+1) ⟨by omega,by rw [facts_step,facts_step,hall,hsame]⟩ (by omega) (Sub.cons Z (Sub.cons Z (Sub.cons Z (Sub.cons Z (Sub.cons (by simp [List.lookup]) Sub.nil))))) (fun _ h=>h.sub (qJ _ (qJ _ (zA _ (zA _ (zW _)))))))))))))
 replace h16:=zT h16
 have hix:i=xs.length:=by omega
 refine yY Z (zD [] [] Z (zF (zB (zE (v:=str ([])) Z (jC Z Z) (zH (zD [8] [_] Z (qM (qQ Z Z fun w' hw=>?_))))))))
 exact ⟨ret_s (by rw [← hlen,differ_none (by rw [← hix];exact hall)]),hw.below⟩
set_option maxHeartbeats 400000 in
theorem ts_zero (a b:St) (xs ys:List Int) (va vb:Value) (w:World) (hVa:validB a=true) (hVb:validB b=true) (hva:Ints w va xs) (hvb:Ints w vb ys) (hA:a.Els xs) (hB:b.Els ys) (hlen:xs.length=ys.length) (hl4:xs.length≤4) (hwin:winB 0 a xs b ys=false) :
    Calls Tryz.prog 41 [vS a,va,vS b,vb,i6_ 0].toArray w fun en w'=>en=.returned (str (tellF 0 a xs b ys))∧Below w.heap.size w w':=by
 refine fnStart (n:=100) (e:=[(0,vS a),(1,va),(2,vS b),(3,vb),(4,i6_ 0)]) Tryz.func41 Z Z Z Z Ends.both ?_
 have ha:=validB_fine hVa
 have hb:=validB_fine hVb
 have hm8:=ha.hi
 have hm1:=ha.lo
 have hb8:=hb.hi
 have hb1:=hb.lo;refine zF (qI (xK (v:=vS a) Z Z Z Z Z fun p5 hp5=>?_))
 show Ll _ _ (Own _ _ [_]) _ _ ((5,pt_ p5)::_) _ _ _;refine xK (v:=vS b) Z Z Z Z Z fun p7 hp7=>?_
 show Ll _ _ (Own _ _ [_,_]) _ _ ((7,pt_ p7)::_) _ _ _;refine zO (v:=str ([])) Z (jC Z Z) (zI (zD [1,3,4,5,7] [_,_,_,_,_] Z (zF (zF (zB (zE Z (qF (cs:=#[i6_ a.n,str a.set,str a.rel]) 1 Z zZ Z Z zQ) (zC 1 Z (zE Z (qF (cs:=#[i6_ b.n,str b.set,str b.rel]) 0 Z zZ Z Z zQ) (zC 1 Z (zE (v:=bo_ (sameB a xs b ys)) Z (qK Z Tryz.call83 Z qC (fun w1 hw1=>l4Partial_ok a b xs ys va vb w1 ha hb (Row.own hva hw1) (Row.own hvb hw1) hA hB (by omega) (by omega))) (zC 1 Z (zH (zD [1,3,4,5,7,23] [_,_,_,_,_,_] Z (yF (b:=!(sameB a xs b ys)) Z (fun h23=>?_) (fun h23=>?_)))))))))))))))
 ·
  replace h23:=not_true h23;refine zF (zB (zE Z (qF (cs:=#[i6_ a.n,str a.set,str a.rel]) 1 Z zZ Z Z zQ) (zC 1 Z (zE Z (qF (cs:=#[i6_ b.n,str b.set,str b.rel]) 0 Z zZ Z Z zQ) (zC 1 Z (zE (v:=str (diffO (factsL a xs xs.length) (factsL b ys ys.length))) Z (qK Z Tryz.call84 Z qC (fun w1 hw1=>differ_ok a b xs ys va vb w1 ha hb (Row.own hva hw1) (Row.own hvb hw1) hA hB (by omega) (by omega))) (zC 1 Z (zH (zD [10] [_] Z (qM (qQ Z Z fun w' hw=>?_)))))))))))
  exact ⟨ret_s (by rw [tell_diff (by simp_all)]),hw.below⟩
 replace h23:=not_false h23
 exact absurd hwin (by unfold winB;rw [show sameB a xs b ys=true from by simp_all];simp [goB])
set_option maxHeartbeats 400000 in
theorem ts_of (n:Nat) (ih:∀ (a b:St) (xs ys:List Int) (va vb:Value) (w:World),validB a=true→validB b=true→Ints w va xs→Ints w vb ys→a.Els xs→b.Els ys→xs.length=ys.length→xs.length+n≤4→n≤3→winB n a xs b ys=false→Calls Tryz.prog 41 #[vS a,va,vS b,vb,.int .i64 (n:Int)] w fun en w'=>en=.returned (str (tellF n a xs b ys))∧Below w.heap.size w w') (a b:St) (xs ys:List Int) (va vb:Value) (w:World) (hVa:validB a=true) (hVb:validB b=true) (hva:Ints w va xs) (hvb:Ints w vb ys) (hA:a.Els xs) (hB:b.Els ys) (hlen:xs.length=ys.length) (hl5:xs.length+(n+1)≤4) (hn3:n+1≤3) (hwin:winB (n+1) a xs b ys=false) :
    Calls Tryz.prog 41 [vS a,va,vS b,vb,i6_ ((n:Int)+1)].toArray w fun en w'=>en=.returned (str (tellF (n+1) a xs b ys))∧Below w.heap.size w w':=by
 refine fnStart (n:=100) (e:=[(0,vS a),(1,va),(2,vS b),(3,vb),(4,i6_ ((n:Int)+1))]) Tryz.func41 Z Z Z Z Ends.both ?_
 have ha:=validB_fine hVa
 have hb:=validB_fine hVb
 have hm8:=ha.hi
 have hm1:=ha.lo
 have hb8:=hb.hi
 have hb1:=hb.lo
 have hsa:=ha.small
 have hsb:=hb.small
 have loa : -9223372036854775808≤a.n:=by omega
 have hia:a.n≤9223372036854775807:=by omega
 have lob : -9223372036854775808≤b.n:=by omega
 have hib:b.n≤9223372036854775807:=by omega
 refine zF (qI (xK (v:=vS a) Z Z Z Z Z fun p5 hp5=>?_))
 show Ll _ _ (Own _ _ [_]) _ _ ((5,pt_ p5)::_) _ _ _;refine xK (v:=vS b) Z Z Z Z Z fun p7 hp7=>?_
 show Ll _ _ (Own _ _ [_,_]) _ _ ((7,pt_ p7)::_) _ _ _;refine zO (v:=str ([])) Z (jC Z Z) (zI (zD [1,3,4,5,7] [_,_,_,_,_] Z (zF (zF (zB (zE Z (qF (cs:=#[i6_ a.n,str a.set,str a.rel]) 1 Z zZ Z Z zQ) (zC 1 Z (zE Z (qF (cs:=#[i6_ b.n,str b.set,str b.rel]) 0 Z zZ Z Z zQ) (zC 1 Z (zE (v:=bo_ (sameB a xs b ys)) Z (qK Z Tryz.call83 Z qC (fun w1 hw1=>l4Partial_ok a b xs ys va vb w1 ha hb (Row.own hva hw1) (Row.own hvb hw1) hA hB (by omega) (by omega))) (zC 1 Z (zH (zD [1,3,4,5,7,23] [_,_,_,_,_,_] Z (yF (b:=!(sameB a xs b ys)) Z (fun h23=>?_) (fun h23=>?_)))))))))))))))
 ·
  replace h23:=not_true h23;refine zF (zB (zE Z (qF (cs:=#[i6_ a.n,str a.set,str a.rel]) 1 Z zZ Z Z zQ) (zC 1 Z (zE Z (qF (cs:=#[i6_ b.n,str b.set,str b.rel]) 0 Z zZ Z Z zQ) (zC 1 Z (zE (v:=str (diffO (factsL a xs xs.length) (factsL b ys ys.length))) Z (qK Z Tryz.call84 Z qC (fun w1 hw1=>differ_ok a b xs ys va vb w1 ha hb (Row.own hva hw1) (Row.own hvb hw1) hA hB (by omega) (by omega))) (zC 1 Z (zH (zD [10] [_] Z (qM (qQ Z Z fun w' hw=>?_)))))))))))
  exact ⟨ret_s (by rw [tell_diff (by simp_all)]),hw.below⟩
 replace h23:=not_false h23;refine qR (zD [1,3,4,5,7] [_,_,_,_,_] Z (zF (zB (zE Z (qF (cs:=#[i6_ a.n,str a.set,str a.rel]) 1 Z zZ Z Z zQ) (zC 1 Z (zE Z (qF (cs:=#[i6_ b.n,str b.set,str b.rel]) 0 Z zZ Z Z zQ) (zC 2 Z ?_)))))))
 have hsame:sameB a xs b ys=true:=by simp_all
 obtain ⟨sd,x,hmv⟩:=move_ex hsame hwin
 have hmv2:fmO a xs b ys ((n:Int)+1)=some (sd,x):=by
  unfold fmO gameB inB
  rw [hsame,show listsB a xs b ys=true from listsB_of (listB_of hVa hA (by omega)) (listB_of hVb hB (by omega)) hlen,decide_eq_true (show 1≤(n:Int)+1 by omega),decide_eq_true (show (0:Int)≤(n:Int)+1 by omega),decide_eq_true (show (n:Int)+1≤3 by omega),show ((n:Int)+1 - 1).toNat=n from by omega];exact hmv
 refine zE (v:=.tuple #[str (sideS (some (sd,x))),i6_ (x:Int),bo_ true]) Z (qK Z Tryz.call85 Z qC (fun w1 hw1=>by have h9:=sMove_ok a b xs ys va vb w1 hsa hsb (Row.own hva hw1) (Row.own hvb hw1) (by first | (simp;done) | (simp;omega) | omega) (by first | (simp;done) | (simp;omega) | omega) loa hia lob hib ((n:Int)+1);rw [hmv2] at h9;exact h9)) (zC 1 Z (zE (v:=str (sideS (some (sd,x)))) Z (yD Z Z Z) (zE (v:=i6_ (x:Int)) Z (yD Z Z Z) (zE (v:=bo_ true) Z (yD Z Z Z) (zC 3 Z (zH (zD [1,3,4,5,7,11,12] [_,_,_,_,_,_,_] Z (zF (zB (zC 1 Z (zE (v:=i6_ (xs.length:Int)) Z (yP Z zX Z (ints_length _) (fun w1 hw1=>Row.own hva hw1)) (zC 1 Z (zE (v:=i6_ (xs.length:Int)) Z (yP Z zX Z (ints_length _) (fun w1 hw1=>Row.own hva hw1)) (zE Z (qT Z Z Z (by omega) (by omega)) (zE (v:=str (nameS xs.length)) Z (yA (congrArg str (slice_name xs.length)) (xO Z qS Z Z Z (by omega) (by omega) (by first | omega | (simp;omega)))) (zC 1 Z (zH (zD [1,3,4,5,7,11,12,14] [_,_,_,_,_,_,_,_] Z (zF (qI (yN (xs:=[]) (vs:=[]) jR Z Z Z Z Z Z (by decide) Z fun p45 hp45=>(qL 1 Z (zI (zD [1,3,4,5,7,11,12,14,15] [_,_,_,_,_,_,_,_,_] Z (zF (zF (zB (zC 1 Z (zE Z (OpQ.seql Z Z Z) (zH (zD [1,3,4,5,7,12,14,15,47] [_,_,_,_,_,_,_,_,_] Z (yF (b:=(sideS (some (sd,x)))==([97])) Z (fun h47=>?_) (fun h47=>?_)))))))))))))))))))))))))))))))))
 ·
  obtain rfl:sd=true:=by
   cases sd with
   | true=>rfl
   | false=>exact absurd h47 (by simp [sideS])
  obtain ⟨hxm,hno⟩:=move_at1 hlen hmv;refine zF (zF (zB (zC 1 Z (zH (zD [1,3,4,5,7,12,14,15,16] [_,_,_,_,_,_,_,_,_] Z (qW (xM (σ:=Nat×Nat×Nat×Array Value) (fun ⟨k,g,c,cur⟩=>(k:Int)≤b.n∧cur.size=c*1∧(tlL (fun y:Nat=>tellF n a (xs++[(x:Int)]) b (ys++[(y:Int)])) k).length≤c∧cur.toList.take (tlL (fun y:Nat=>tellF n a (xs++[(x:Int)]) b (ys++[(y:Int)])) k).length=strs (tlL (fun y:Nat=>tellF n a (xs++[(x:Int)]) b (ys++[(y:Int)])) k)) (fun ⟨k,g,c,cur⟩=>[(1,va),(3,vb),(4,i6_ ((n:Int)+1)),(5,pt_ p5),(7,pt_ p7),(12,i6_ (x:Int)),(14,str (nameS xs.length)),(15,sl_ g ((tlL (fun y:Nat=>tellF n a (xs++[(x:Int)]) b (ys++[(y:Int)])) k).length) c),(16,i6_ (k:Int))]) (fun ⟨k,g,c,cur⟩=>Own w.heap.size w [bk_ g cur 9,bk_ p7 #[i6_ b.n,str b.set,str b.rel] 24,bk_ p5 #[i6_ a.n,str a.set,str a.rel] 24]) (fun ⟨k,g,c,cur⟩=>(b.n - k).toNat) (0,p45,0,#[]) ⟨by omega,rfl,Nat.le_refl 0,rfl⟩ (Sub.sel [1,3,4,5,7,12,14,15,16] Z) (fun _ h=>h) ?_)))))))
  rintro ⟨k,g,c,cur⟩ ⟨hk,hc,hl,ht⟩
  dsimp only
  have htk:=tlL_len (fun y:Nat=>tellF n a (xs++[(x:Int)]) b (ys++[(y:Int)])) k;refine zF (zF (zB (zC 1 Z (zE Z (zG Z zY Z zJ Z Z) (zE Z (zS 1 Z zU Z Z Z) (zC 1 Z (zH (zD [1,3,4,5,7,12,14,15,16,51] [_,_,_,_,_,_,_,_,_,_] Z (yF (b:=decide ((k:Int)<b.n)) Z (fun h51=>?_) (fun h51=>?_))))))))))
  ·
   replace h51:=zV h51
   have hE1:=els_more hA (x:=(x:Int)) ⟨by omega,by omega⟩
   have hE2:=els_more hB (x:=(k:Int)) ⟨by omega,by omega⟩
   have hx9:a.El (x:Int):=⟨by omega,by omega⟩;refine qR (zD [1,3,4,5,7,12,14,15,16] [_,_,_,_,_,_,_,_,_] Z (zF (qW (xV (S:=Own w.heap.size w [bk_ p7 #[i6_ b.n,str b.set,str b.rel] 24,bk_ p5 #[i6_ a.n,str a.set,str a.rel] 24]) [(0,true),(1,true),(2,true),(3,true),(5,true),(6,true),(7,true),(9,true),(10,true),(4,false),(8,false),(11,false),(12,false),(13,false),(14,true)] yC (fun _ h=>h.drawn) (by kernel_rfl) (yR 1 Z (fun _ h=>h.tail) (yE Z Z Z Z Z (qF (cs:=#[i6_ a.n,str a.set,str a.rel]) 1 Z zZ Z Z zQ) (fun _ h=>h.tail) (yR 2 Z (fun _ h=>h.tail) (yE Z Z Z Z Z (qF (cs:=#[i6_ b.n,str b.set,str b.rel]) 0 Z zZ Z Z zQ) (fun _ h=>h.tail) (yR 3 Z (fun _ h=>h.tail) (yE (v:=i6_ (n:Int)) Z Z Z Z Z (yA (by congr 1;omega) (jV Z Z Z (by omega) (by omega))) (fun _ h=>h.tail) (yK Z (uV (xs:=[.tmp 56,.tmp 57]) (m:=(xs++[(x:Int)]).length) (vs:=ints (xs++[(x:Int)])) (el:=3) (size:=1) Z Z Z Z Tryz.call86 Z (fun w1 hw1=>l4With_ok va xs (x:Int) w1 (Row.own hva hw1) (by omega)) fun p58 cap58 cur58 hp58 hcp58 hlp58 htp58=>(zI (yB (fun _ h=>h.tail.tail) ?_))))))))))))));refine yK Z (uV (xs:=[.tmp 60,.tmp 61]) (m:=(ys++[(k:Int)]).length) (vs:=ints (ys++[(k:Int)])) (el:=3) (size:=1) Z Z Z Z Tryz.call86 Z (fun w1 hw1=>l4With_ok vb ys (k:Int) w1 (Row.own hvb hw1) (by omega)) fun p62 cap62 cur62 hp62 hcp62 hlp62 htp62=>(zI (yB (fun _ h=>h.tail.tail.tail) ?_)));refine yK Z (zO (v:=str (tellF n a (xs++[(x:Int)]) b (ys++[(k:Int)]))) Z (qK Z Tryz.call41 Z qC (fun w1 hw1=>ih a b (xs++[(x:Int)]) (ys++[(k:Int)]) (sl_ p58 ((xs++[(x:Int)]).length) cap58) (sl_ p62 ((ys++[(k:Int)]).length) cap62) w1 hVa hVb (yX hw1 (i:=1) Z (by simpa using htp58) (by simp) hlp58) (yX hw1 (i:=0) Z (by simpa using htp62) (by simp) hlp62) hE1 hE2 (by simp [hlen]) (by rw [zN,List.length_singleton];omega) (by omega) (hno k (by omega)))) (zI (yB (fun _ h=>h.tail.tail.tail) ?_)));refine yK Z (yN (xs:=[.tmp 65]) (vs:=[str (tellF n a (xs++[(x:Int)]) b (ys++[(k:Int)]))]) jR Z Z Z Z Z Z (by decide) Z fun p66 hp66=>(zI (yB (fun _ h=>h.tail.tail.tail.tail) ?_)));refine yK Z (Ll.appendStrs (xs:=tlL (fun y:Nat=>tellF n a (xs++[(x:Int)]) b (ys++[(y:Int)])) k) (ys:=([tellF n a (xs++[(x:Int)]) b (ys++[(k:Int)])]:List (List UInt8))) jR 3 Z Z Z Z Z Z Z hc hl ht (fun w1 hw1=>(yX hw1 (i:=0) Z (n:=1) (cap:=1) (vs:=strs ([tellF n a (xs++[(x:Int)]) b (ys++[(k:Int)])]:List (List UInt8))) Z Z (by decide))) (((tlL (fun y:Nat=>tellF n a (xs++[(x:Int)]) b (ys++[(y:Int)])) k)++(([tellF n a (xs++[(x:Int)]) b (ys++[(k:Int)])]:List (List UInt8)))).length) (by first | (simp;done) | (simp;omega)) (by first | (simp;done) | (simp;omega) | omega) fun p67 cap67 cur67 hp67 hcp67 hlp67 htp67=>?_)
   show Ll _ _ (Own _ _ [_,_,_,_,_,_]) _ _ ((67,sl_ p67 ((((tlL (fun y:Nat=>tellF n a (xs++[(x:Int)]) b (ys++[(y:Int)])) k)++(([tellF n a (xs++[(x:Int)]) b (ys++[(k:Int)])]:List (List UInt8)))).length)) cap67)::_) _ _ _;refine zI (yB (fun _ h=>h.tail.tail.tail.tail) ?_);refine yR 1 Z (fun _ h=>h.tail.tail.tail.tail) (vG (zD [1,3,4,5,7,12,14,15,16] [_,_,_,_,_,_,_,_,_] Z (zB (zC 1 Z (zE Z (qT Z Z Z (by omega) (by omega)) (zC 1 Z (zH (yL (k+1,p67,cap67,cur67) ⟨by omega,by simpa using hcp67,by rw [tlL_step];exact hlp67,by rw [tlL_step];simpa only [Nat.mul_one] using htp67⟩ (by omega) (Sub.cons Z (Sub.cons Z (Sub.cons Z (Sub.cons Z (Sub.cons Z (Sub.cons Z (Sub.cons Z (Sub.cons (by rw [tlL_step];rfl) (Sub.sel [16] Z))))))))) (fun _ h=>h.sub (qJ _ (qJ _ (qJ _ (zA _ (zA _ (zA _ (zW _))))))))))))))))
  replace h51:=zT h51
  have hkn:k=b.n.toNat:=by omega
  have hT:([83]++nameS xs.length)++joinN [38] (dedup (tlL (fun y:Nat=>tellF n a (xs++[(x:Int)]) b (ys++[(y:Int)])) k))=tellF (n+1) a xs b ys:=by
   rw [hkn,tell_some1 hsame hmv];rfl
  have hS:(tellF (n+1) a xs b ys).length≤4000:=Nat.le_trans (tell_len (n+1) (by omega) (by omega) (by omega) (by omega)) (Nat.le_trans (LT3 hn3) (by decide))
  have htl:∀ s∈tlL (fun y:Nat=>tellF n a (xs++[(x:Int)]) b (ys++[(y:Int)])) k,s.length≤4000:=fun s hs=>by
   obtain ⟨i,_,rfl⟩:=List.mem_map.1 hs
   exact Nat.le_trans (tell_len n (by omega) (by omega) (by omega) (by omega)) (Nat.le_trans (LT3 (by omega)) (by decide))
  have hdl:=dedup_memL htl
  have hd0:=dedup_pos (l:=tlL (fun y:Nat=>tellF n a (xs++[(x:Int)]) b (ys++[(y:Int)])) k) (by omega)
  have hdn:=dedup_le (tlL (fun y:Nat=>tellF n a (xs++[(x:Int)]) b (ys++[(y:Int)])) k)
  have hjl:=joinN_len (op:=[38]) (by decide) hdl hd0
  have hnm:=nameS_length (show xs.length<4 by omega);refine yY Z (zD [14,15] [_,_] Z (zF (qI (qL 1 Z (zO Z (yJ Z Z Z (by first | omega | (simp only [zN,qB,qD];omega))) (qL 1 Z (uV (xs:=[.tmp 70]) (m:=(dedup (tlL (fun y:Nat=>tellF n a (xs++[(x:Int)]) b (ys++[(y:Int)])) k)).length) (vs:=strs (dedup (tlL (fun y:Nat=>tellF n a (xs++[(x:Int)]) b (ys++[(y:Int)])) k))) (el:=9) (size:=1) Z Z Z Z Tryz.call88 Z (fun w1 hw1=>l6Each_ok (sl_ g ((tlL (fun y:Nat=>tellF n a (xs++[(x:Int)]) b (ys++[(y:Int)])) k).length) c) (tlL (fun y:Nat=>tellF n a (xs++[(x:Int)]) b (ys++[(y:Int)])) k) w1 (yX hw1 (i:=0) Z ht (by simp) hl) (by omega)) fun p71 cap71 cur71 hp71 hcp71 hlp71 htp71=>(zO (v:=str (joinN ([38]) (dedup (tlL (fun y:Nat=>tellF n a (xs++[(x:Int)]) b (ys++[(y:Int)])) k)))) Z (qK Z Tryz.call87 Z qC (fun w1 hw1=>l2JoinM_ok ([38]) (dedup (tlL (fun y:Nat=>tellF n a (xs++[(x:Int)]) b (ys++[(y:Int)])) k)) (sl_ p71 ((dedup (tlL (fun y:Nat=>tellF n a (xs++[(x:Int)]) b (ys++[(y:Int)])) k)).length) cap71) 4000 w1 (yX hw1 (i:=0) Z (by simpa using htp71) (by simp) hlp71) hdl (by decide) (by decide) (by omega) hd0)) (zO Z (yJ Z Z Z (by first | omega | (simp only [zN,qB,qD];omega))) (qL 1 Z (zI (zD [10] [_] Z (qM (qQ Z Z fun w' hw=>?_))))))))))))))
  exact ⟨ret_s (by rw [hT]),hw.below⟩
 obtain rfl:sd=false:=by
  cases sd with
  | false=>rfl
  | true=>exact absurd h47 (by simp [sideS])
 obtain ⟨hxm,hno⟩:=move_at2 hlen hmv;refine qR (zD [1,3,4,5,7,12,14,15] [_,_,_,_,_,_,_,_] Z (zF (zF (zB (zC 1 Z (zH (zD [1,3,4,5,7,12,14,15,17] [_,_,_,_,_,_,_,_,_] Z (qW (xM (σ:=Nat×Nat×Nat×Array Value) (fun ⟨k,g,c,cur⟩=>(k:Int)≤a.n∧cur.size=c*1∧(tlL (fun y:Nat=>tellF n b (ys++[(x:Int)]) a (xs++[(y:Int)])) k).length≤c∧cur.toList.take (tlL (fun y:Nat=>tellF n b (ys++[(x:Int)]) a (xs++[(y:Int)])) k).length=strs (tlL (fun y:Nat=>tellF n b (ys++[(x:Int)]) a (xs++[(y:Int)])) k)) (fun ⟨k,g,c,cur⟩=>[(1,va),(3,vb),(4,i6_ ((n:Int)+1)),(5,pt_ p5),(7,pt_ p7),(12,i6_ (x:Int)),(14,str (nameS xs.length)),(15,sl_ g ((tlL (fun y:Nat=>tellF n b (ys++[(x:Int)]) a (xs++[(y:Int)])) k).length) c),(17,i6_ (k:Int))]) (fun ⟨k,g,c,cur⟩=>Own w.heap.size w [bk_ g cur 9,bk_ p7 #[i6_ b.n,str b.set,str b.rel] 24,bk_ p5 #[i6_ a.n,str a.set,str a.rel] 24]) (fun ⟨k,g,c,cur⟩=>(a.n - k).toNat) (0,p45,0,#[]) ⟨by omega,rfl,Nat.le_refl 0,rfl⟩ (Sub.sel [1,3,4,5,7,12,14,15,17] Z) (fun _ h=>h) ?_)))))))))
 rintro ⟨k,g,c,cur⟩ ⟨hk,hc,hl,ht⟩
 dsimp only
 have htk:=tlL_len (fun y:Nat=>tellF n b (ys++[(x:Int)]) a (xs++[(y:Int)])) k;refine zF (zF (zB (zC 1 Z (zE Z (zG Z zY Z zJ Z Z) (zE Z (zS 2 Z zU Z Z Z) (zC 1 Z (zH (zD [1,3,4,5,7,12,14,15,17,77] [_,_,_,_,_,_,_,_,_,_] Z (yF (b:=decide ((k:Int)<a.n)) Z (fun h77=>?_) (fun h77=>?_))))))))))
 ·
  replace h77:=zV h77
  have hE1:=els_more hB (x:=(x:Int)) ⟨by omega,by omega⟩
  have hE2:=els_more hA (x:=(k:Int)) ⟨by omega,by omega⟩
  have hx9:b.El (x:Int):=⟨by omega,by omega⟩;refine qR (zD [1,3,4,5,7,12,14,15,17] [_,_,_,_,_,_,_,_,_] Z (zF (qW (xV (S:=Own w.heap.size w [bk_ p7 #[i6_ b.n,str b.set,str b.rel] 24,bk_ p5 #[i6_ a.n,str a.set,str a.rel] 24]) [(0,true),(1,true),(2,true),(3,true),(5,true),(6,true),(7,true),(9,true),(10,true),(4,false),(8,false),(11,false),(12,false),(13,false),(14,true)] yC (fun _ h=>h.drawn) (by kernel_rfl) (yR 1 Z (fun _ h=>h.tail) (yE Z Z Z Z Z (qF (cs:=#[i6_ b.n,str b.set,str b.rel]) 0 Z zZ Z Z zQ) (fun _ h=>h.tail) (yR 2 Z (fun _ h=>h.tail) (yE Z Z Z Z Z (qF (cs:=#[i6_ a.n,str a.set,str a.rel]) 1 Z zZ Z Z zQ) (fun _ h=>h.tail) (yR 3 Z (fun _ h=>h.tail) (yE (v:=i6_ (n:Int)) Z Z Z Z Z (yA (by congr 1;omega) (jV Z Z Z (by omega) (by omega))) (fun _ h=>h.tail) (yK Z (uV (xs:=[.tmp 82,.tmp 83]) (m:=(ys++[(x:Int)]).length) (vs:=ints (ys++[(x:Int)])) (el:=3) (size:=1) Z Z Z Z Tryz.call86 Z (fun w1 hw1=>l4With_ok vb ys (x:Int) w1 (Row.own hvb hw1) (by omega)) fun p84 cap84 cur84 hp84 hcp84 hlp84 htp84=>(zI (yB (fun _ h=>h.tail.tail) ?_))))))))))))));refine yK Z (uV (xs:=[.tmp 86,.tmp 87]) (m:=(xs++[(k:Int)]).length) (vs:=ints (xs++[(k:Int)])) (el:=3) (size:=1) Z Z Z Z Tryz.call86 Z (fun w1 hw1=>l4With_ok va xs (k:Int) w1 (Row.own hva hw1) (by omega)) fun p88 cap88 cur88 hp88 hcp88 hlp88 htp88=>(zI (yB (fun _ h=>h.tail.tail.tail) ?_)));refine yK Z (zO (v:=str (tellF n b (ys++[(x:Int)]) a (xs++[(k:Int)]))) Z (qK Z Tryz.call41 Z qC (fun w1 hw1=>ih b a (ys++[(x:Int)]) (xs++[(k:Int)]) (sl_ p84 ((ys++[(x:Int)]).length) cap84) (sl_ p88 ((xs++[(k:Int)]).length) cap88) w1 hVb hVa (yX hw1 (i:=1) Z (by simpa using htp84) (by simp) hlp84) (yX hw1 (i:=0) Z (by simpa using htp88) (by simp) hlp88) hE1 hE2 (by simp [hlen]) (by rw [zN,List.length_singleton];omega) (by omega) (hno k (by omega)))) (zI (yB (fun _ h=>h.tail.tail.tail) ?_)));refine yK Z (yN (xs:=[.tmp 91]) (vs:=[str (tellF n b (ys++[(x:Int)]) a (xs++[(k:Int)]))]) jR Z Z Z Z Z Z (by decide) Z fun p92 hp92=>(zI (yB (fun _ h=>h.tail.tail.tail.tail) ?_)));refine yK Z (Ll.appendStrs (xs:=tlL (fun y:Nat=>tellF n b (ys++[(x:Int)]) a (xs++[(y:Int)])) k) (ys:=([tellF n b (ys++[(x:Int)]) a (xs++[(k:Int)])]:List (List UInt8))) jR 3 Z Z Z Z Z Z Z hc hl ht (fun w1 hw1=>(yX hw1 (i:=0) Z (n:=1) (cap:=1) (vs:=strs ([tellF n b (ys++[(x:Int)]) a (xs++[(k:Int)])]:List (List UInt8))) Z Z (by decide))) (((tlL (fun y:Nat=>tellF n b (ys++[(x:Int)]) a (xs++[(y:Int)])) k)++(([tellF n b (ys++[(x:Int)]) a (xs++[(k:Int)])]:List (List UInt8)))).length) (by first | (simp;done) | (simp;omega)) (by first | (simp;done) | (simp;omega) | omega) fun p93 cap93 cur93 hp93 hcp93 hlp93 htp93=>?_)
  show Ll _ _ (Own _ _ [_,_,_,_,_,_]) _ _ ((93,sl_ p93 ((((tlL (fun y:Nat=>tellF n b (ys++[(x:Int)]) a (xs++[(y:Int)])) k)++(([tellF n b (ys++[(x:Int)]) a (xs++[(k:Int)])]:List (List UInt8)))).length)) cap93)::_) _ _ _;refine zI (yB (fun _ h=>h.tail.tail.tail.tail) ?_);refine yR 1 Z (fun _ h=>h.tail.tail.tail.tail) (vG (zD [1,3,4,5,7,12,14,15,17] [_,_,_,_,_,_,_,_,_] Z (zB (zC 1 Z (zE Z (qT Z Z Z (by omega) (by omega)) (zC 1 Z (zH (yL (k+1,p93,cap93,cur93) ⟨by omega,by simpa using hcp93,by rw [tlL_step];exact hlp93,by rw [tlL_step];simpa only [Nat.mul_one] using htp93⟩ (by omega) (Sub.cons Z (Sub.cons Z (Sub.cons Z (Sub.cons Z (Sub.cons Z (Sub.cons Z (Sub.cons Z (Sub.cons (by rw [tlL_step];rfl) (Sub.sel [17] Z))))))))) (fun _ h=>h.sub (qJ _ (qJ _ (qJ _ (zA _ (zA _ (zA _ (zW _))))))))))))))))
 replace h77:=zT h77
 have hkn:k=a.n.toNat:=by omega
 have hT:([33,83]++nameS xs.length)++joinN [38] (dedup (tlL (fun y:Nat=>tellF n b (ys++[(x:Int)]) a (xs++[(y:Int)])) k))=tellF (n+1) a xs b ys:=by
  rw [hkn,tell_some2 hsame hmv];rfl
 have hS:(tellF (n+1) a xs b ys).length≤4000:=Nat.le_trans (tell_len (n+1) (by omega) (by omega) (by omega) (by omega)) (Nat.le_trans (LT3 hn3) (by decide))
 have htl:∀ s∈tlL (fun y:Nat=>tellF n b (ys++[(x:Int)]) a (xs++[(y:Int)])) k,s.length≤4000:=fun s hs=>by
  obtain ⟨i,_,rfl⟩:=List.mem_map.1 hs
  exact Nat.le_trans (tell_len n (by omega) (by omega) (by omega) (by omega)) (Nat.le_trans (LT3 (by omega)) (by decide))
 have hdl:=dedup_memL htl
 have hd0:=dedup_pos (l:=tlL (fun y:Nat=>tellF n b (ys++[(x:Int)]) a (xs++[(y:Int)])) k) (by omega)
 have hdn:=dedup_le (tlL (fun y:Nat=>tellF n b (ys++[(x:Int)]) a (xs++[(y:Int)])) k)
 have hjl:=joinN_len (op:=[38]) (by decide) hdl hd0
 have hnm:=nameS_length (show xs.length<4 by omega);refine yY Z (zD [14,15] [_,_] Z (zF (qI (qL 1 Z (zO Z (yJ Z Z Z (by first | omega | (simp only [zN,qB,qD];omega))) (qL 1 Z (uV (xs:=[.tmp 96]) (m:=(dedup (tlL (fun y:Nat=>tellF n b (ys++[(x:Int)]) a (xs++[(y:Int)])) k)).length) (vs:=strs (dedup (tlL (fun y:Nat=>tellF n b (ys++[(x:Int)]) a (xs++[(y:Int)])) k))) (el:=9) (size:=1) Z Z Z Z Tryz.call88 Z (fun w1 hw1=>l6Each_ok (sl_ g ((tlL (fun y:Nat=>tellF n b (ys++[(x:Int)]) a (xs++[(y:Int)])) k).length) c) (tlL (fun y:Nat=>tellF n b (ys++[(x:Int)]) a (xs++[(y:Int)])) k) w1 (yX hw1 (i:=0) Z ht (by simp) hl) (by omega)) fun p97 cap97 cur97 hp97 hcp97 hlp97 htp97=>(zO (v:=str (joinN ([38]) (dedup (tlL (fun y:Nat=>tellF n b (ys++[(x:Int)]) a (xs++[(y:Int)])) k)))) Z (qK Z Tryz.call87 Z qC (fun w1 hw1=>l2JoinM_ok ([38]) (dedup (tlL (fun y:Nat=>tellF n b (ys++[(x:Int)]) a (xs++[(y:Int)])) k)) (sl_ p97 ((dedup (tlL (fun y:Nat=>tellF n b (ys++[(x:Int)]) a (xs++[(y:Int)])) k)).length) cap97) 4000 w1 (yX hw1 (i:=0) Z (by simpa using htp97) (by simp) hlp97) hdl (by decide) (by decide) (by omega) hd0)) (zO Z (yJ Z Z Z (by first | omega | (simp only [zN,qB,qD];omega))) (qL 1 Z (zI (zD [10] [_] Z (qM (qQ Z Z fun w' hw=>?_))))))))))))))
 exact ⟨ret_s (by rw [hT]),hw.below⟩
theorem ts_ok:∀ n:Nat,∀ (a b:St) (xs ys:List Int) (va vb:Value) (w:World),validB a=true→validB b=true→Ints w va xs→Ints w vb ys→a.Els xs→b.Els ys→xs.length=ys.length→xs.length+n≤4→n≤3→winB n a xs b ys=false→Calls Tryz.prog 41 #[vS a,va,vS b,vb,.int .i64 (n:Int)] w fun en w'=>en=.returned (str (tellF n a xs b ys))∧Below w.heap.size w w'
  | 0=>fun a b xs ys va vb w hVa hVb hva hvb hA hB hl h4 _ hno=>ts_zero a b xs ys va vb w hVa hVb hva hvb hA hB hl h4 hno
  | n+1=>fun a b xs ys va vb w hVa hVb hva hvb hA hB hl h4 h3 hno=>ts_of n (ts_ok n) a b xs ys va vb w hVa hVb hva hvb hA hB hl h4 h3 hno
theorem ts_at (r:Int) (h0:0≤r):∀ (a b:St) (xs ys:List Int) (va vb:Value) (w:World),validB a=true→validB b=true→Ints w va xs→Ints w vb ys→a.Els xs→b.Els ys→xs.length=ys.length→xs.length+r.toNat≤4→r.toNat≤3→winB r.toNat a xs b ys=false→Calls Tryz.prog 41 #[vS a,va,vS b,vb,.int .i64 r] w fun en w'=>en=.returned (str (tellF r.toNat a xs b ys))∧Below w.heap.size w w':=by
  have h:=ts_ok r.toNat
  rw [Int.toNat_of_nonneg h0] at h
  exact h
set_option maxHeartbeats 400000 in
theorem sTell_ok (a b:St) (xs ys:List Int) (va vb:Value) (w:World) (hsa:a.Small) (hsb:b.Small) (hva:Ints w va xs) (hvb:Ints w vb ys) (hs1:xs.length≤140737488355328) (hs2:ys.length≤140737488355328) (loa : -9223372036854775808≤a.n) (hia:a.n≤9223372036854775807) (lob : -9223372036854775808≤b.n) (hib:b.n≤9223372036854775807) (r:Int) :
    Calls Tryz.prog 10 [vS a,va,vS b,vb,i6_ r].toArray w fun en w'=>en=.returned (.tuple #[str (telOut a xs b ys r).1,.bool (telOut a xs b ys r).2])∧Below w.heap.size w w':=by
 refine fnStart (n:=45) (e:=[(0,vS a),(1,va),(2,vS b),(3,vb),(4,i6_ r)]) Tryz.func10 Z Z Z Z Ends.both (zF (qI (xK (v:=vS a) Z Z Z Z Z fun p5 hp5=>?_)))
 show Ll _ _ (Own _ _ [_]) _ _ ((5,pt_ p5)::_) _ _ _;refine xK (v:=vS b) Z Z Z Z Z fun p7 hp7=>?_
 show Ll _ _ (Own _ _ [_,_]) _ _ ((7,pt_ p7)::_) _ _ _;refine zO (v:=str ([])) Z (jC Z Z) (qL 1 Z (zI (zD [1,3,4,5,7] [_,_,_,_,_] Z (zF (zF (zB (zE Z (qF (cs:=#[i6_ a.n,str a.set,str a.rel]) 1 Z zZ Z Z zQ) (zC 1 Z (zE Z (qF (cs:=#[i6_ b.n,str b.set,str b.rel]) 0 Z zZ Z Z zQ) (zC 2 Z (zE (v:=bo_ (gameB a xs b ys r)) Z (qK Z Tryz.call39 Z qC (fun w1 hw1=>l5Ready_ok a b xs ys va vb w1 hsa hsb (Row.own hva hw1) (Row.own hvb hw1) (by first | (simp;done) | (simp;omega) | omega) (by first | (simp;done) | (simp;omega) | omega) loa hia lob hib r)) (zC 2 Z (xD fun b20 hg20=>?_)))))))))))))
 cases b20
 ·
  replace hg20:=not_false hg20
  replace hg20:gameB a xs b ys r=true:=by simpa using hg20
  obtain ⟨hLL,hr0,hr3⟩:=gameB_true hg20
  obtain ⟨LA,LB,hlen⟩:=listsB_true hLL
  have ha:=LA.fine
  have hb:=LB.fine
  have hA:=LA.els
  have hB:=LB.els
  have hl4:=LA.len
  have hVa:=LA.valid
  have hVb:=LB.valid
  have hgm:gameB a xs b ys r=true:=hg20;refine zC 1 Z (zE (v:=i6_ (xs.length:Int)) Z (yP Z zX Z (ints_length _) (fun w1 hw1=>Row.own hva hw1)) (zC 1 Z (zE Z (qT Z Z Z (by omega) (by omega)) (zC 3 Z (xD fun b27 hg27=>?_)))))
  cases b27
  ·
   replace hg27:=zT hg27;refine zE Z (qF (cs:=#[i6_ a.n,str a.set,str a.rel]) 1 Z zZ Z Z zQ) (zC 1 Z (zE Z (qF (cs:=#[i6_ b.n,str b.set,str b.rel]) 0 Z zZ Z Z zQ) (zC 2 Z (zE (v:=bo_ (winB r.toNat a xs b ys)) Z (qK Z Tryz.call40 Z qC (fun w1 hw1=>l5Wins_ok a b xs ys va vb w1 ha hb (Row.own hva hw1) (Row.own hvb hw1) hA hB (by first | (simp;done) | (simp;omega) | omega) (by first | (simp;done) | (simp;omega) | omega) r (by omega) (by omega))) (zC 1 Z (zH (zD [1,3,4,5,7,34] [_,_,_,_,_,_] Z (yF (b:=winB r.toNat a xs b ys) Z (fun h34=>?_) (fun h34=>?_)))))))))
   ·
    refine zF (zB (zE (v:=str ([])) Z (jC Z Z) (zC 1 Z (zH (zD [10,11] [_,_] Z (qM (xL Z Z Z fun w' hw=>?_)))))))
    exact ⟨by rw [telOut_no (by first | (refine .inl ?_;assumption) | (refine .inr (.inl ?_);omega) | (refine .inr (.inr ?_);assumption))],hw.below⟩
   have hnw:winB r.toNat a xs b ys=false:=by assumption
   have hsh:(tellF r.toNat a xs b ys).length≤4000:=tell_short (by omega) ha hb;refine qR (zD [1,3,4,5,7] [_,_,_,_,_] Z (zF (zB (zE Z (qF (cs:=#[i6_ a.n,str a.set,str a.rel]) 1 Z zZ Z Z zQ) (zC 1 Z (zE Z (qF (cs:=#[i6_ b.n,str b.set,str b.rel]) 0 Z zZ Z Z zQ) (zC 2 Z (zE (v:=str (tellF r.toNat a xs b ys)) Z (qK Z Tryz.call41 Z qC (fun w1 hw1=>ts_at r hr0 a b xs ys va vb w1 hVa hVb (Row.own hva hw1) (Row.own hvb hw1) hA hB hlen (by omega) (by omega) hnw)) (zC 1 Z (zH (zD [12] [_] Z (zF (zF (zB (zC 1 Z (zE (v:=i6_ ((tellF r.toNat a xs b ys).length:Int)) Z (jS Z qV Z) (zC 1 Z (zH (zD [12,43] [_,_] Z (yF (b:=decide ((4000:Int)<((tellF r.toNat a xs b ys).length:Int))) Z (fun h43=>?_) (fun h43=>?_)))))))))))))))))))))
   ·
    replace h43:=zV h43
    omega
   replace h43:=zT h43;refine qR (zD [12] [_] Z (zF (zB (zC 3 Z (zH (zD [10,11] [_,_] Z (qM (xL Z Z Z fun w' hw=>?_))))))))
   exact ⟨by rw [telOut_yes hgm (by omega) hnw],hw.below⟩
  replace hg27:=zV hg27;refine zM Z (zM Z (zM Z (zM Z (zM Z (zM Z (zC 1 Z (zH (zD [1,3,4,5,7,34] [_,_,_,_,_,_] Z (yW Z (zF (zB (zE (v:=str ([])) Z (jC Z Z) (zC 1 Z (zH (zD [10,11] [_,_] Z (qM (xL Z Z Z fun w' hw=>?_)))))))))))))))))
  exact ⟨by rw [telOut_no (by first | (refine .inl ?_;assumption) | (refine .inr (.inl ?_);omega) | (refine .inr (.inr ?_);assumption))],hw.below⟩
 replace hg20:=not_true hg20;refine zM Z (zM Z (zM Z (zM Z (zM Z (zC 2 Z (zM Z (zM Z (zM Z (zM Z (zM Z (zM Z (zC 1 Z (zH (zD [1,3,4,5,7,34] [_,_,_,_,_,_] Z (yW Z (zF (zB (zE (v:=str ([])) Z (jC Z Z) (zC 1 Z (zH (zD [10,11] [_,_] Z (qM (xL Z Z Z fun w' hw=>?_)))))))))))))))))))))))
 exact ⟨by rw [telOut_no (by first | (refine .inl ?_;assumption) | (refine .inr (.inl ?_);omega) | (refine .inr (.inr ?_);assumption))],hw.below⟩
end Go.Proofs.YtefiibghfgfdnaaGreatDoor
namespace Go.Proofs.YtefiibghfgfdnaaGreatDoor
open Go.RowKit Go.Wk
set_option linter.unusedSimpArgs false
set_option maxHeartbeats 400000 in
theorem drawSep_ok (B:Nat) (w0:World) (hs:List (Nat×Obj)) (bv:Value) (L:List Int) (w:World) (hb:∀ w,Own B w0 hs w→Row w bv (u8s L)) (hL8:Bytes8 L) (hLs:L.length≤1048576) (hw:Own B w0 hs w) :
    Calls Tryz.prog 23 [bv].toArray w fun en w'=>∃ f:List UInt8,∃ a:St,∃ b:St,∃ v:Value,∃ xs:List Int,∃ u:Value,∃ ys:List Int,∃ new:List (Nat×Obj),en=.returned (.tuple #[str f,vS a,v,vS b,u])∧(((a.Tame∧b.Tame)∧(xs.length≤40∧ys.length≤40)∧∀ w1,Own B w0 new w1→Ints w1 v xs∧Ints w1 u ys)∧f.length≤4000)∧Own B w0 (new++hs) w':=by
 refine fnStartC (Own B w0 hs) (n:=54) (e:=[(0,bv)]) Tryz.func23 Z Z Z Z Ends.both hw (zF (qI (zO (v:=str ([])) Z (jC Z Z) (jU Z Z Z Z xG fun p3 hp3=>?_))))
 show Ll _ _ (Own _ _ (bk_ p3 #[i6_ 0,str ([]),str ([])] 24::hs)) _ _ ((3,pt_ p3)::_) _ _ _;refine qL 1 Z (jU Z Z Z Z xG fun p5 hp5=>?_)
 show Ll _ _ (Own _ _ (bk_ p5 #[i6_ 0,str ([]),str ([])] 24::_::hs)) _ _ ((5,pt_ p5)::_) _ _ _;refine qL 1 Z (zI (zD [0,3,5] [_,_,_] Z (zF (qI (qL 1 Z (uD (ok:=fun ((rp,v,M):Nat×Value×List Int)=>M.length≤2000∧Bytes8 M∧∀ w1,Own B w0 hs w1→Row w1 v (u8s M)) (v:=fun ((rp,v,M):Nat×Value×List Int)=>.pointer (some ⟨rp,0,none⟩)) (new:=fun ((rp,v,M):Nat×Value×List Int)=>[(rp,.cells #[v,.int .i64 ((0:Nat):Int)] 88 (0,0))]) (hs:=hs) (xs:=[.tmp 15]) (vs:=[bv]) ([bk_ p5 #[i6_ 0,str ([]),str ([])] 24,bk_ p3 #[i6_ 0,str ([]),str ([])] 24]:List (Nat×Obj)) Z Z Z Z Tryz.call33 Z (fun w1 hw1=>(open_ok B w0 ([bk_ p5 #[i6_ 0,str ([]),str ([])] 24,bk_ p3 #[i6_ 0,str ([]),str ([])] 24]:List (Nat×Obj)) hs _ _ w1 hb hL8 hLs hw1).mono fun en w' ⟨rp,v,M,h1,h2,h3⟩=>⟨(rp,v,M),h1,h2,h3⟩) fun ⟨rp,dv,M⟩ hO=>?_))))))
 dsimp only at hO
 obtain ⟨hM2,hM8,hMb⟩:=hO
 show Ll _ _ (Own _ _ (_::_::_::hs)) _ _ ((16,pt_ rp)::_) _ _ _;refine qL 1 Z (zI (zD [3,5,7] [_,_,_] Z (zF (qI (qL 1 Z (Ll.callRdL (rp:=rp) (RT:=88) (p:=0) (bv:=dv) (hs:=hs) (ok:=fun ((a,b,v,xs,u,ys,new,r):St×St×Value×List Int×Value×List Int×List (Nat×Obj)×Int) p'=>((a.Tame∧b.Tame)∧(xs.length≤40∧ys.length≤40)∧∀ w1,Own B w0 new w1→Ints w1 v xs∧Ints w1 u ys)∧(-1≤r∧r≤4)∧p'≤0+2010) (v:=fun ((a,b,v,xs,u,ys,new,r):St×St×Value×List Int×Value×List Int×List (Nat×Obj)×Int)=>.tuple #[vS a,v,vS b,u,.int .i64 r]) (new:=fun ((a,b,v,xs,u,ys,new,r):St×St×Value×List Int×Value×List Int×List (Nat×Obj)×Int)=>new) (xs:=[.tmp 18]) (vs:=[pt_ rp]) ([bk_ p5 #[i6_ 0,str ([]),str ([])] 24,bk_ p3 #[i6_ 0,str ([]),str ([])] 24]:List (Nat×Obj)) Z Z Z Z Tryz.call34 Z (fun w1 hw1=>(l5Draw_ok B w0 (([bk_ p5 #[i6_ 0,str ([]),str ([])] 24,bk_ p3 #[i6_ 0,str ([]),str ([])] 24]:List (Nat×Obj))++hs) rp 0 dv M w1 (fun w2 hw2=>hMb w2 (qG (f:=([bk_ p5 #[i6_ 0,str ([]),str ([])] 24,bk_ p3 #[i6_ 0,str ([]),str ([])] 24]:List (Nat×Obj))) hw2)) hM8 hM2 (by omega) hw1).mono fun en w' ⟨a,b,v,xs,u,ys,new,r,p',h1,h2,h3⟩=>⟨(a,b,v,xs,u,ys,new,r),p',h1,h2,h3⟩) fun ⟨a19,b19,v19,xs19,u19,ys19,new19,r19⟩ p_19 hK=>?_))))))
 dsimp only at hK
 obtain ⟨⟨⟨hta19,htb19⟩,⟨hlxs19,hlys19⟩,hrw⟩,⟨hlor19,hhir19⟩,hep_19⟩:=hK
 have hIv19:∀ w1,Own B w0 new19 w1→Ints w1 v19 xs19:=fun w1 h=>(hrw w1 h).1
 have hIu19:∀ w1,Own B w0 new19 w1→Ints w1 u19 ys19:=fun w1 h=>(hrw w1 h).2
 show Ll _ _ (Own _ _ (_::_::_::(new19++hs))) _ _ ((19,.tuple #[vS a19,v19,vS b19,u19,i6_ r19])::_) _ _ _;refine qL 1 Z (zO (v:=vS a19) Z (yD Z Z Z) (zO (v:=v19) Z (yD Z Z Z) (zO (v:=vS b19) Z (yD Z Z Z) (zO (v:=u19) Z (yD Z Z Z) (zO (v:=i6_ r19) Z (yD Z Z Z) (jU Z Z Z Z xG fun p8 hp8=>?_))))))
 show Ll _ _ (Own _ _ (bk_ p8 #[i6_ 0,str ([]),str ([])] 24::_::_::_::(new19++hs))) _ _ ((8,pt_ p8)::_) _ _ _;refine jU Z Z Z Z xG fun p10 hp10=>?_
 show Ll _ _ (Own _ _ (bk_ p10 #[i6_ 0,str ([]),str ([])] 24::_::_::_::_::(new19++hs))) _ _ ((10,pt_ p10)::_) _ _ _;refine yV (cs':=#[i6_ a19.n,str a19.set,str a19.rel]) (hs':=(_::bk_ p8 #[i6_ a19.n,str a19.set,str a19.rel] 24::_::_::_::(new19++hs))) 1 Z Z Z Z Z (by kernel_rfl:_=some Tryz.t24) Z Z Z Z Z (qL 1 Z (yV (cs':=#[i6_ b19.n,str b19.set,str b19.rel]) (hs':=(bk_ p10 #[i6_ b19.n,str b19.set,str b19.rel] 24::_::_::_::_::(new19++hs))) 0 Z Z Z Z Z (by kernel_rfl:_=some Tryz.t24) Z Z Z Z Z (qL 2 Z (zI (zD [3,5,7,8,9,10,11,12] [_,_,_,_,_,_,_,_] Z (zF (zB ?_)))))))
 have hsa19:=hta19.small
 have loa19:=hta19.lo
 have hia19:=hta19.hi
 have hsb19:=htb19.small
 have lob19:=htb19.lo
 have hib19:=htb19.hi;refine zE Z (qF (cs:=#[i6_ a19.n,str a19.set,str a19.rel]) 1 Z zZ Z Z zQ) (zC 1 Z (zE Z (qF (cs:=#[i6_ b19.n,str b19.set,str b19.rel]) 0 Z zZ Z Z zQ) (zC 2 Z (zE (v:=.tuple #[str ((telOut a19 xs19 b19 ys19 r19).1),bo_ ((telOut a19 xs19 b19 ys19 r19).2)]) Z (qK Z Tryz.call10 Z qC (fun w1 hw1=>sTell_ok a19 b19 xs19 ys19 v19 u19 w1 hsa19 hsb19 (hIv19 _ (yM (qG (f:=[_,_,_,_,_]) hw1))) (hIu19 _ (yM (qG (f:=[_,_,_,_,_]) hw1))) (by first | (simp;done) | (simp;omega) | omega) (by first | (simp;done) | (simp;omega) | omega) loa19 hia19 lob19 hib19 r19)) (zC 1 Z (zE (v:=str ((telOut a19 xs19 b19 ys19 r19).1)) Z (yD Z Z Z) (zE (v:=bo_ ((telOut a19 xs19 b19 ys19 r19).2)) Z (yD Z Z Z) (zC 2 Z (zH (zD [3,5,7,8,9,10,11,13,14] [_,_,_,_,_,_,_,_,_] Z (zF (zF (qI (qL 2 Z (Ll.bool fun b35 hg35=>?_)))))))))))))))
 cases b35
 ·
  refine vW Z (vW Z (vW Z (qL 1 Z (zI (zD [3,5,7,8,9,10,11,13,39] [_,_,_,_,_,_,_,_,_] Z (jN Z (qR (zD [3,5,7,8,9,10,11] [_,_,_,_,_,_,_] Z (zF (xV (S:=Own B w0 [bk_ p10 #[i6_ b19.n,str b19.set,str b19.rel] 24,bk_ p8 #[i6_ a19.n,str a19.set,str a19.rel] 24]) [(0,true),(1,true),(5,true),(6,true),(7,true),(8,true),(2,false),(3,false),(4,false),(9,true),(10,false),(11,true),(12,false),(13,true)] yC (fun _ h=>h.drawn) (by kernel_rfl) (yR 2 Z (pk [0,1] Z Z) (yE Z Z Z Z Z (qF (cs:=#[i6_ a19.n,str a19.set,str a19.rel]) 1 Z zZ Z Z zQ) (pk [0,1] Z Z) (yR 1 Z (pk [0,1] Z Z) (yE Z Z Z Z Z (qF (cs:=#[i6_ b19.n,str b19.set,str b19.rel]) 0 Z zZ Z Z zQ) (pk [0,1] Z Z) (yR 1 Z (pk [0,1] Z Z) (yK Z (yN (xs:=[.const (str ([97])),.const (str ([97,98]))]) (vs:=[str ([97]),str ([97,98])]) jR Z Z Z Z Z Z (by decide) Z fun p47 hp47=>(zI (yB (pk [1,2] Z Z) ?_)))))))))))))))))));refine yK Z (yT (rp:=rp) (RT:=88) (p:=p_19) (bv:=dv) (hs:=(new19++hs)) (ok:=fun (v:List UInt8) p'=>v∈([[97],[97,98]]:List (List UInt8))∧p'=p_19+1) (v:=fun (v:List UInt8)=>str v) (new:=fun (v:List UInt8)=>[]) (xs:=[.tmp 46,.tmp 47]) (vs:=[pt_ rp,sl_ p47 2 2]) ([bk_ p47 #[str ([97]),str ([97,98])] 9,bk_ p10 #[i6_ b19.n,str b19.set,str b19.rel] 24,bk_ p8 #[i6_ a19.n,str a19.set,str a19.rel] 24,bk_ p5 #[i6_ 0,str ([]),str ([])] 24,bk_ p3 #[i6_ 0,str ([]),str ([])] 24]:List (Nat×Obj)) Z Z Z Z vD Z (fun w1 hw1=>(of_ok B w0 (([bk_ p47 #[str ([97]),str ([97,98])] 9,bk_ p10 #[i6_ b19.n,str b19.set,str b19.rel] 24,bk_ p8 #[i6_ a19.n,str a19.set,str a19.rel] 24,bk_ p5 #[i6_ 0,str ([]),str ([])] 24,bk_ p3 #[i6_ 0,str ([]),str ([])] 24]:List (Nat×Obj))++(new19++hs)) rp p_19 dv M (sl_ p47 2 2) ([[97],[97,98]]:List (List UInt8)) w1 (fun w2 hw2=>(fun w h=>hMb w (qG (f:=new19) h)) w2 (qG (f:=([bk_ p47 #[str ([97]),str ([97,98])] 9,bk_ p10 #[i6_ b19.n,str b19.set,str b19.rel] 24,bk_ p8 #[i6_ a19.n,str a19.set,str a19.rel] 24,bk_ p5 #[i6_ 0,str ([]),str ([])] 24,bk_ p3 #[i6_ 0,str ([]),str ([])] 24]:List (Nat×Obj))) hw2)) hM8 hM2 (fun w2 h2=>(yX h2 (i:=0) Z (n:=2) (cap:=2) (vs:=strs ([[97],[97,98]]:List (List UInt8))) Z Z (by decide))) (by simp) (by omega) hw1).mono fun en w' ⟨v',p',h1,h2,h3⟩=>⟨v',p',h1,h2,h3⟩) fun v48 p_48 hKp_48=>?_)
  show Ll _ _ (Own _ _ (_::_::_::_::_::_::(new19++hs))) _ _ ((48,str v48)::_) _ _ _
  obtain ⟨hmv48,hep_48⟩:=hKp_48
  have hqv48:=len_of (a:=1) (b:=2) hmv48 (by decide);refine zI (yB (pk [1,2] Z Z) ?_);refine yK Z (yT (rp:=rp) (RT:=88) (p:=p_48) (bv:=dv) (hs:=(new19++hs)) (ok:=fun (f:List UInt8) p'=>(1≤f.length∧f.length≤63)∧p'≤p_48+160) (v:=fun (f:List UInt8)=>str f) (new:=fun (f:List UInt8)=>[]) (xs:=[.tmp 45,.const (i6_ 2),.tmp 48,.const (bo_ false)]) (vs:=[pt_ rp,i6_ 2,str v48,bo_ false]) ([bk_ p47 #[str ([97]),str ([97,98])] 9,bk_ p10 #[i6_ b19.n,str b19.set,str b19.rel] 24,bk_ p8 #[i6_ a19.n,str a19.set,str a19.rel] 24,bk_ p5 #[i6_ 0,str ([]),str ([])] 24,bk_ p3 #[i6_ 0,str ([]),str ([])] 24]:List (Nat×Obj)) Z Z Z Z kF Z (fun w1 hw1=>(l2Draw_ok B w0 (([bk_ p47 #[str ([97]),str ([97,98])] 9,bk_ p10 #[i6_ b19.n,str b19.set,str b19.rel] 24,bk_ p8 #[i6_ a19.n,str a19.set,str a19.rel] 24,bk_ p5 #[i6_ 0,str ([]),str ([])] 24,bk_ p3 #[i6_ 0,str ([]),str ([])] 24]:List (Nat×Obj))++(new19++hs)) rp p_48 dv M 2 v48 false w1 (fun w2 hw2=>(fun w h=>hMb w (qG (f:=new19) h)) w2 (qG (f:=([bk_ p47 #[str ([97]),str ([97,98])] 9,bk_ p10 #[i6_ b19.n,str b19.set,str b19.rel] 24,bk_ p8 #[i6_ a19.n,str a19.set,str a19.rel] 24,bk_ p5 #[i6_ 0,str ([]),str ([])] 24,bk_ p3 #[i6_ 0,str ([]),str ([])] 24]:List (Nat×Obj))) hw2)) hM8 hM2 (by omega) (by omega) (by omega) (by omega) hw1).mono fun en w' ⟨f',p',h1,h2,h3⟩=>⟨f',p',h1,h2,h3⟩) fun f49 p_49 hKp_49=>?_)
  show Ll _ _ (Own _ _ (_::_::_::_::_::_::(new19++hs))) _ _ ((49,str f49)::_) _ _ _
  obtain ⟨⟨hlof49,hlef49⟩,hep_49⟩:=hKp_49;refine zI (yB (pk [1,2] Z Z) ?_);refine yR 1 Z (pk [1,2] Z Z) (yK Z (yV (cs':=#[i6_ a19.n,str a19.set,str a19.rel]) (hs':=(_::_::_::_::bk_ p3 #[i6_ a19.n,str a19.set,str a19.rel] 24::_::(new19++hs))) 4 Z Z Z Z Z (by kernel_rfl:_=some Tryz.t24) Z Z Z Z Z (zI (yB (pk [1,2] Z Z) ?_))));refine yR 1 Z (pk [1,2] Z Z) (yK Z (yV (cs':=#[i6_ b19.n,str b19.set,str b19.rel]) (hs':=(_::_::_::bk_ p5 #[i6_ b19.n,str b19.set,str b19.rel] 24::_::_::(new19++hs))) 3 Z Z Z Z Z (by kernel_rfl:_=some Tryz.t24) Z Z Z Z Z (zI (yB (pk [1,2] Z Z) ?_))));refine yR 1 Z (pk [1,2] Z Z) (vG (zD [2,3,4,5,6] [_,_,_,_,_] Z (qM (vY Z (.tmp (v:=str f49) Z (.cell (cs:=#[i6_ a19.n,str a19.set,str a19.rel]) Z (fun w1 hw1=>hw1.loadBox 4 Z zZ zQ) (.tmp (v:=v19) Z (.cell (cs:=#[i6_ b19.n,str b19.set,str b19.rel]) Z (fun w1 hw1=>hw1.loadBox 3 Z zZ zQ) (.tmp (v:=u19) Z ResAt.nil))))) (by simp) fun w' hw=>?_))))
  exact ⟨f49,a19,b19,v19,xs19,u19,ys19,([bk_ p47 #[str ([97]),str ([97,98])] 9,bk_ p10 #[i6_ b19.n,str b19.set,str b19.rel] 24,bk_ p8 #[i6_ a19.n,str a19.set,str a19.rel] 24,bk_ p5 #[i6_ b19.n,str b19.set,str b19.rel] 24,bk_ p3 #[i6_ a19.n,str a19.set,str a19.rel] 24,bk_ rp #[dv,i6_ (p_49:Int)] 88]:List (Nat×Obj))++new19,rfl,⟨⟨⟨hta19,htb19⟩,⟨(by first | omega | (simp only [zN,qB,qD,zR,List.length_set];omega)),(by first | omega | (simp only [zN,qB,qD,zR,List.length_set];omega))⟩,fun w1 h1=>⟨(hIv19 _ (qG (f:=[_,_,_,_,_,_]) h1)),(hIu19 _ (qG (f:=[_,_,_,_,_,_]) h1))⟩⟩,by omega⟩,hw⟩
 refine qL 1 Z (yT (rp:=rp) (RT:=88) (p:=p_19) (bv:=dv) (hs:=(new19++hs)) (ok:=fun (k:Int) p'=>0≤k∧(1≤(3:Int)→k<3)∧p'=p_19+1) (v:=fun (k:Int)=>i6_ k) (new:=fun (k:Int)=>[]) (xs:=[.tmp 36,.const (i6_ 3)]) (vs:=[pt_ rp,i6_ 3]) ([bk_ p10 #[i6_ b19.n,str b19.set,str b19.rel] 24,bk_ p8 #[i6_ a19.n,str a19.set,str a19.rel] 24,bk_ p5 #[i6_ 0,str ([]),str ([])] 24,bk_ p3 #[i6_ 0,str ([]),str ([])] 24]:List (Nat×Obj)) Z Z Z Z jQ Z (fun w1 hw1=>(pick_ok B w0 (([bk_ p10 #[i6_ b19.n,str b19.set,str b19.rel] 24,bk_ p8 #[i6_ a19.n,str a19.set,str a19.rel] 24,bk_ p5 #[i6_ 0,str ([]),str ([])] 24,bk_ p3 #[i6_ 0,str ([]),str ([])] 24]:List (Nat×Obj))++(new19++hs)) rp p_19 dv M 3 w1 (fun w2 hw2=>(fun w h=>hMb w (qG (f:=new19) h)) w2 (qG (f:=([bk_ p10 #[i6_ b19.n,str b19.set,str b19.rel] 24,bk_ p8 #[i6_ a19.n,str a19.set,str a19.rel] 24,bk_ p5 #[i6_ 0,str ([]),str ([])] 24,bk_ p3 #[i6_ 0,str ([]),str ([])] 24]:List (Nat×Obj))) hw2)) hM8 hM2 (by omega) hw1).mono fun en w' ⟨k',p',h1,h2,h3⟩=>⟨k',p',h1,h2,h3⟩) fun k37 p_37 hKp_37=>?_)
 show Ll _ _ (Own _ _ (_::_::_::_::_::(new19++hs))) _ _ ((37,i6_ k37)::_) _ _ _
 obtain ⟨h0k37,h1k37,hep_37⟩:=hKp_37
 try have hltk37:=h1k37 (by first | omega | (split <;> omega) | decide);refine qL 2 Z (zI (zD [3,5,7,8,9,10,11,13,39] [_,_,_,_,_,_,_,_,_] Z (yQ Z (fun h39=>?_) (fun h39=>?_))))
 ·
  refine zF (xV (S:=Own B w0 [bk_ p10 #[i6_ b19.n,str b19.set,str b19.rel] 24,bk_ p8 #[i6_ a19.n,str a19.set,str a19.rel] 24,bk_ rp #[dv,i6_ (p_37:Int)] 88]) [(0,true),(1,true),(2,true),(3,true),(4,true),(5,true),(6,false),(7,true),(8,false),(9,true)] yC (fun _ h=>h.drawn) (by kernel_rfl) (yR 1 Z (pk [0,1,4] Z Z) (yE Z Z Z Z Z (qF (cs:=#[i6_ a19.n,str a19.set,str a19.rel]) 1 Z zZ Z Z zQ) (pk [0,1,4] Z Z) (yR 1 Z (pk [0,1,4] Z Z) (yE Z Z Z Z Z (qF (cs:=#[i6_ b19.n,str b19.set,str b19.rel]) 0 Z zZ Z Z zQ) (pk [0,1,4] Z Z) (yR 2 Z (pk [0,1,4] Z Z) (yK Z (yV (cs':=#[i6_ a19.n,str a19.set,str a19.rel]) (hs':=(_::_::_::bk_ p3 #[i6_ a19.n,str a19.set,str a19.rel] 24::_::(new19++hs))) 3 Z Z Z Z Z (by kernel_rfl:_=some Tryz.t24) Z Z Z Z Z (zI (yB (pk [0,1,4] Z Z) ?_))))))))));refine yR 1 Z (pk [0,1,4] Z Z) (yK Z (yV (cs':=#[i6_ b19.n,str b19.set,str b19.rel]) (hs':=(_::_::bk_ p5 #[i6_ b19.n,str b19.set,str b19.rel] 24::_::_::(new19++hs))) 2 Z Z Z Z Z (by kernel_rfl:_=some Tryz.t24) Z Z Z Z Z (zI (yB (pk [0,1,4] Z Z) ?_))));refine yR 1 Z (pk [0,1,4] Z Z) (vG (zD [2,3,4,5,6] [_,_,_,_,_] Z (qM (vY Z (.tmp (v:=str ((telOut a19 xs19 b19 ys19 r19).1)) Z (.cell (cs:=#[i6_ a19.n,str a19.set,str a19.rel]) Z (fun w1 hw1=>hw1.loadBox 3 Z zZ zQ) (.tmp (v:=v19) Z (.cell (cs:=#[i6_ b19.n,str b19.set,str b19.rel]) Z (fun w1 hw1=>hw1.loadBox 2 Z zZ zQ) (.tmp (v:=u19) Z ResAt.nil))))) (by simp) fun w' hw=>?_))))
  exact ⟨(telOut a19 xs19 b19 ys19 r19).1,a19,b19,v19,xs19,u19,ys19,([bk_ p10 #[i6_ b19.n,str b19.set,str b19.rel] 24,bk_ p8 #[i6_ a19.n,str a19.set,str a19.rel] 24,bk_ p5 #[i6_ b19.n,str b19.set,str b19.rel] 24,bk_ p3 #[i6_ a19.n,str a19.set,str a19.rel] 24,bk_ rp #[dv,i6_ (p_37:Int)] 88]:List (Nat×Obj))++new19,rfl,⟨⟨⟨hta19,htb19⟩,⟨(by first | omega | (simp only [zN,qB,qD,zR,List.length_set];omega)),(by first | omega | (simp only [zN,qB,qD,zR,List.length_set];omega))⟩,fun w1 h1=>⟨(hIv19 _ (qG (f:=[_,_,_,_,_]) h1)),(hIu19 _ (qG (f:=[_,_,_,_,_]) h1))⟩⟩,tel_len (by assumption)⟩,hw⟩
 refine qR (zD [3,5,7,8,9,10,11] [_,_,_,_,_,_,_] Z (zF (xV (S:=Own B w0 [bk_ p10 #[i6_ b19.n,str b19.set,str b19.rel] 24,bk_ p8 #[i6_ a19.n,str a19.set,str a19.rel] 24]) [(0,true),(1,true),(5,true),(6,true),(7,true),(8,true),(2,false),(3,false),(4,false),(9,true),(10,false),(11,true),(12,false),(13,true)] yC (fun _ h=>h.drawn) (by kernel_rfl) (yR 2 Z (pk [0,1] Z Z) (yE Z Z Z Z Z (qF (cs:=#[i6_ a19.n,str a19.set,str a19.rel]) 1 Z zZ Z Z zQ) (pk [0,1] Z Z) (yR 1 Z (pk [0,1] Z Z) (yE Z Z Z Z Z (qF (cs:=#[i6_ b19.n,str b19.set,str b19.rel]) 0 Z zZ Z Z zQ) (pk [0,1] Z Z) (yR 1 Z (pk [0,1] Z Z) (yK Z (yN (xs:=[.const (str ([97])),.const (str ([97,98]))]) (vs:=[str ([97]),str ([97,98])]) jR Z Z Z Z Z Z (by decide) Z fun p47_1 hp47_1=>(zI (yB (pk [1,2] Z Z) ?_))))))))))));refine yK Z (yT (rp:=rp) (RT:=88) (p:=p_37) (bv:=dv) (hs:=(new19++hs)) (ok:=fun (v:List UInt8) p'=>v∈([[97],[97,98]]:List (List UInt8))∧p'=p_37+1) (v:=fun (v:List UInt8)=>str v) (new:=fun (v:List UInt8)=>[]) (xs:=[.tmp 46,.tmp 47]) (vs:=[pt_ rp,sl_ p47_1 2 2]) ([bk_ p47_1 #[str ([97]),str ([97,98])] 9,bk_ p10 #[i6_ b19.n,str b19.set,str b19.rel] 24,bk_ p8 #[i6_ a19.n,str a19.set,str a19.rel] 24,bk_ p5 #[i6_ 0,str ([]),str ([])] 24,bk_ p3 #[i6_ 0,str ([]),str ([])] 24]:List (Nat×Obj)) Z Z Z Z vD Z (fun w1 hw1=>(of_ok B w0 (([bk_ p47_1 #[str ([97]),str ([97,98])] 9,bk_ p10 #[i6_ b19.n,str b19.set,str b19.rel] 24,bk_ p8 #[i6_ a19.n,str a19.set,str a19.rel] 24,bk_ p5 #[i6_ 0,str ([]),str ([])] 24,bk_ p3 #[i6_ 0,str ([]),str ([])] 24]:List (Nat×Obj))++(new19++hs)) rp p_37 dv M (sl_ p47_1 2 2) ([[97],[97,98]]:List (List UInt8)) w1 (fun w2 hw2=>(fun w h=>hMb w (qG (f:=new19) h)) w2 (qG (f:=([bk_ p47_1 #[str ([97]),str ([97,98])] 9,bk_ p10 #[i6_ b19.n,str b19.set,str b19.rel] 24,bk_ p8 #[i6_ a19.n,str a19.set,str a19.rel] 24,bk_ p5 #[i6_ 0,str ([]),str ([])] 24,bk_ p3 #[i6_ 0,str ([]),str ([])] 24]:List (Nat×Obj))) hw2)) hM8 hM2 (fun w2 h2=>(yX h2 (i:=0) Z (n:=2) (cap:=2) (vs:=strs ([[97],[97,98]]:List (List UInt8))) Z Z (by decide))) (by simp) (by omega) hw1).mono fun en w' ⟨v',p',h1,h2,h3⟩=>⟨v',p',h1,h2,h3⟩) fun v48_1 p_48_1 hKp_48_1=>?_)
 show Ll _ _ (Own _ _ (_::_::_::_::_::_::(new19++hs))) _ _ ((48,str v48_1)::_) _ _ _
 obtain ⟨hmv48_1,hep_48_1⟩:=hKp_48_1
 have hqv48_1:=len_of (a:=1) (b:=2) hmv48_1 (by decide);refine zI (yB (pk [1,2] Z Z) ?_);refine yK Z (yT (rp:=rp) (RT:=88) (p:=p_48_1) (bv:=dv) (hs:=(new19++hs)) (ok:=fun (f:List UInt8) p'=>(1≤f.length∧f.length≤63)∧p'≤p_48_1+160) (v:=fun (f:List UInt8)=>str f) (new:=fun (f:List UInt8)=>[]) (xs:=[.tmp 45,.const (i6_ 2),.tmp 48,.const (bo_ false)]) (vs:=[pt_ rp,i6_ 2,str v48_1,bo_ false]) ([bk_ p47_1 #[str ([97]),str ([97,98])] 9,bk_ p10 #[i6_ b19.n,str b19.set,str b19.rel] 24,bk_ p8 #[i6_ a19.n,str a19.set,str a19.rel] 24,bk_ p5 #[i6_ 0,str ([]),str ([])] 24,bk_ p3 #[i6_ 0,str ([]),str ([])] 24]:List (Nat×Obj)) Z Z Z Z kF Z (fun w1 hw1=>(l2Draw_ok B w0 (([bk_ p47_1 #[str ([97]),str ([97,98])] 9,bk_ p10 #[i6_ b19.n,str b19.set,str b19.rel] 24,bk_ p8 #[i6_ a19.n,str a19.set,str a19.rel] 24,bk_ p5 #[i6_ 0,str ([]),str ([])] 24,bk_ p3 #[i6_ 0,str ([]),str ([])] 24]:List (Nat×Obj))++(new19++hs)) rp p_48_1 dv M 2 v48_1 false w1 (fun w2 hw2=>(fun w h=>hMb w (qG (f:=new19) h)) w2 (qG (f:=([bk_ p47_1 #[str ([97]),str ([97,98])] 9,bk_ p10 #[i6_ b19.n,str b19.set,str b19.rel] 24,bk_ p8 #[i6_ a19.n,str a19.set,str a19.rel] 24,bk_ p5 #[i6_ 0,str ([]),str ([])] 24,bk_ p3 #[i6_ 0,str ([]),str ([])] 24]:List (Nat×Obj))) hw2)) hM8 hM2 (by omega) (by omega) (by omega) (by omega) hw1).mono fun en w' ⟨f',p',h1,h2,h3⟩=>⟨f',p',h1,h2,h3⟩) fun f49_1 p_49_1 hKp_49_1=>?_)
 show Ll _ _ (Own _ _ (_::_::_::_::_::_::(new19++hs))) _ _ ((49,str f49_1)::_) _ _ _
 obtain ⟨⟨hlof49_1,hlef49_1⟩,hep_49_1⟩:=hKp_49_1;refine zI (yB (pk [1,2] Z Z) ?_);refine yR 1 Z (pk [1,2] Z Z) (yK Z (yV (cs':=#[i6_ a19.n,str a19.set,str a19.rel]) (hs':=(_::_::_::_::bk_ p3 #[i6_ a19.n,str a19.set,str a19.rel] 24::_::(new19++hs))) 4 Z Z Z Z Z (by kernel_rfl:_=some Tryz.t24) Z Z Z Z Z (zI (yB (pk [1,2] Z Z) ?_))));refine yR 1 Z (pk [1,2] Z Z) (yK Z (yV (cs':=#[i6_ b19.n,str b19.set,str b19.rel]) (hs':=(_::_::_::bk_ p5 #[i6_ b19.n,str b19.set,str b19.rel] 24::_::_::(new19++hs))) 3 Z Z Z Z Z (by kernel_rfl:_=some Tryz.t24) Z Z Z Z Z (zI (yB (pk [1,2] Z Z) ?_))));refine yR 1 Z (pk [1,2] Z Z) (vG (zD [2,3,4,5,6] [_,_,_,_,_] Z (qM (vY Z (.tmp (v:=str f49_1) Z (.cell (cs:=#[i6_ a19.n,str a19.set,str a19.rel]) Z (fun w1 hw1=>hw1.loadBox 4 Z zZ zQ) (.tmp (v:=v19) Z (.cell (cs:=#[i6_ b19.n,str b19.set,str b19.rel]) Z (fun w1 hw1=>hw1.loadBox 3 Z zZ zQ) (.tmp (v:=u19) Z ResAt.nil))))) (by simp) fun w' hw=>?_))))
 exact ⟨f49_1,a19,b19,v19,xs19,u19,ys19,([bk_ p47_1 #[str ([97]),str ([97,98])] 9,bk_ p10 #[i6_ b19.n,str b19.set,str b19.rel] 24,bk_ p8 #[i6_ a19.n,str a19.set,str a19.rel] 24,bk_ p5 #[i6_ b19.n,str b19.set,str b19.rel] 24,bk_ p3 #[i6_ a19.n,str a19.set,str a19.rel] 24,bk_ rp #[dv,i6_ (p_49_1:Int)] 88]:List (Nat×Obj))++new19,rfl,⟨⟨⟨hta19,htb19⟩,⟨(by first | omega | (simp only [zN,qB,qD,zR,List.length_set];omega)),(by first | omega | (simp only [zN,qB,qD,zR,List.length_set];omega))⟩,fun w1 h1=>⟨(hIv19 _ (qG (f:=[_,_,_,_,_,_]) h1)),(hIu19 _ (qG (f:=[_,_,_,_,_,_]) h1))⟩⟩,by omega⟩,hw⟩
end Go.Proofs.YtefiibghfgfdnaaGreatDoor
namespace Go.Proofs
open Go.Shelf
def Tryz.lays137_ren:Go.Shelf.Ren:=⟨fun | 137=>141 | 217=>163 | 266=>177 | n=>n,fun | 9=>9 | 5=>5 | 3=>3 | n=>n,fun | n=>n⟩
theorem Tryz.lays137:Go.Proofs.Lays.n137 Tryz.prog Tryz.lays137_ren:={
 mixed:=by kernel_rfl
 f137:=Tryz.func141.trans (congrArg some (by kernel_rfl))
 f217:=Tryz.func163.trans (congrArg some (by kernel_rfl))
 f266:=Tryz.func177.trans (congrArg some (by kernel_rfl))
 t3:=Tryz.underlying3
 a3:=Tryz.isAgg3
 z3:=Tryz.sizeOf3
 v3:=Tryz.zeroValue3
 t5:=Tryz.underlying5
 a5:=Tryz.isAgg5
 z5:=Tryz.sizeOf5
 v5:=Tryz.zeroValue5
 t9:=Tryz.underlying9
 a9:=Tryz.isAgg9
 z9:=Tryz.sizeOf9
 v9:=Tryz.zeroValue9 }
open Go.RowKit in
theorem Tryz.strings_IndexByte (s:ByteArray) (c:Int) (w:World) :
  Calls Tryz.prog 141 #[.string s,.int .u8 c] w fun e w'=>e=.returned (.int .i64 (Lib.indexByte s.data.toList c.toNat.toUInt8))∧w'=w:=Any.strings_IndexByte Tryz.lays137 s c w
def Tryz.lays144_ren:Go.Shelf.Ren:=⟨fun | 144=>140 | 143=>162 | 219=>176 | 217=>163 | 225=>182 | 224=>183 | 267=>184 | 266=>177 | 314=>188 | n=>n,fun | 9=>9 | 4=>4 | 3=>3 | 5=>5 | 46=>120 | 146=>185 | 51=>184 | n=>n,fun | 1=>0 | n=>n⟩
theorem Tryz.lays144:Go.Proofs.Lays.n144 Tryz.prog Tryz.lays144_ren:={
 mixed:=by kernel_rfl
 f143:=Tryz.func162.trans (congrArg some (by kernel_rfl))
 f144:=Tryz.func140.trans (congrArg some (by kernel_rfl))
 f217:=Tryz.func163.trans (congrArg some (by kernel_rfl))
 f219:=Tryz.func176.trans (congrArg some (by kernel_rfl))
 f224:=Tryz.func183.trans (congrArg some (by kernel_rfl))
 f225:=Tryz.func182.trans (congrArg some (by kernel_rfl))
 f266:=Tryz.func177.trans (congrArg some (by kernel_rfl))
 f267:=Tryz.func184.trans (congrArg some (by kernel_rfl))
 f314:=Tryz.func188.trans (congrArg some (by kernel_rfl))
 t3:=Tryz.underlying3
 a3:=Tryz.isAgg3
 z3:=Tryz.sizeOf3
 v3:=Tryz.zeroValue3
 t4:=Tryz.underlying4
 a4:=Tryz.isAgg4
 z4:=Tryz.sizeOf4
 v4:=Tryz.zeroValue4
 t5:=Tryz.underlying5
 a5:=Tryz.isAgg5
 z5:=Tryz.sizeOf5
 v5:=Tryz.zeroValue5
 t9:=Tryz.underlying9
 a9:=Tryz.isAgg9
 z9:=Tryz.sizeOf9
 v9:=Tryz.zeroValue9
 t46:=Tryz.underlying120
 a46:=Tryz.isAgg120
 z46:=Tryz.sizeOf120
 v46:=Tryz.zeroValue120
 t51:=Tryz.underlying184
 a51:=Tryz.isAgg184
 z51:=Tryz.sizeOf184
 v51:=Tryz.zeroValue184
 t146:=Tryz.underlying185
 a146:=Tryz.isAgg185
 z146:=Tryz.sizeOf185
 v146:=Tryz.zeroValue185
 g1:=by kernel_rfl }
open Go.RowKit Go.Lib in
theorem Tryz.strings_Contains_one (s:ByteArray) (c:UInt8) (w:World) :
  Calls Tryz.prog 140 #[.string s,.string ⟨#[c]⟩] w fun e w'=>e=.returned (.bool (decide (0≤Lib.indexByte s.data.toList c)))∧w'=w:=Any.strings_Contains_one Tryz.lays144 s c w
end Go.Proofs
