/-
  FnTurnsToWin: all that its proof names (part 3)
-/
import Derived.Test.YtagbocafnliabaaDoorKFnTurnsToWinb
import Derived.Test.YtagbocafnliabaaDoorKFnTurnsToWina
namespace Go.Proofs.YtagbocafnliabaaDoor
open Go.RowKit Go.Wk
set_option linter.unusedSimpArgs false
set_option maxHeartbeats 400000 in
theorem indexB_ok (vb:Value) (bs:List Bool) (y:Bool) (w:World) (hvb:Bools w vb bs) (hs1:bs.length≤1000000) :
    Calls Tryd.prog 153 [vb,bo_ y].toArray w fun en w'=>en=.returned (.int .i64 (idxB bs y))∧Below w.heap.size w w':=by
 refine fnStart (n:=19) (e:=[(0,vb),(1,bo_ y)]) Tryd.func153 Z Z Z Z Ends.both (zE (zB (zC 1 Z (zG (zD [0,1] [_,_] Z (zE (zE (zB (zC 1 Z (zF (v:=i6_ (bs.length:Int)) Z (yP Z yM Z (bools_length _) (fun w1 hw1=>Row.own hvb hw1)) (zC 1 Z (zG (zD [0,1,7,8] [_,_,_,_] Z (qJ (yR (σ:=Nat) (fun k=>k≤bs.length∧∀ i:Nat,i<k→(y==bs.getD i false)=false) (fun k=>[(0,vb),(1,bo_ y),(7,i6_ (bs.length:Int)),(8,i6_ (k:Int))]) (fun k=>Own w.heap.size w []) (fun k=>bs.length - k) (0) ⟨by omega,fun i hi=>absurd hi (by omega)⟩ (Sub.sel [0,1,7,8] Z) (fun _ h=>h) ?_)))))))))))))))
 rintro k ⟨hk,hall⟩;refine zE (zB (zC 1 Z (zG (zD [0,1,7,8,9] [_,_,_,_,_] Z (zE (xI Z (fun h9=>?_) (fun h9=>?_)))))))
 ·
  refine qT (zD [0,1,7,8] [_,_,_,_] Z (zE (qJ (zE (zB (zC 2 Z (zG (zD [0,1,5,7,8] [_,_,_,_,_] Z (zE (zB (zC 3 Z (zF (v:=.pointer (some (sAt vb (k:Int)))) Z (yO Z yM xX Z Z (by omega) (by rw [bools_length];omega) (fun w1 hw1=>Row.own hvb hw1)) (zF (v:=bo_ (bs.getD ((k:Int).toNat) false)) Z (yA Z vE Z (fun w1 hw1=>Bools.cell (Row.own hvb hw1) (by omega) (by omega))) (zF Z (OpQ.beq Z yU Z Z) (zG (zD [0,1,5,7,8,16] [_,_,_,_,_,_] Z (yK (b:=y==(bs.getD ((k:Int).toNat) false)) Z (fun h16=>?_) (fun h16=>?_))))))))))))))))))
  ·
   refine zE (zB (zC 2 Z (zG (zD [4] [_] Z (qQ (qO Z Z fun w' hw=>?_))))))
   exact ⟨ret_i (idxB_at (by omega) hall (by simpa using h16)).symm,hw.below⟩
  refine qT (zD [0,1,7,8] [_,_,_,_] Z (zB (zF Z (qR Z Z Z (by omega) (by omega)) (zC 1 Z (zG (qX (k+1) ⟨by omega,fun i hi=>(Nat.lt_succ_iff_lt_or_eq.1 hi).elim (hall i) (fun e=>by subst e;simpa using h16)⟩ (by omega) (Sub.sel [0,1,7,8] Z) (fun _ h=>h)))))))
 refine yN Z (zD [] [] Z (zE (zB (zC 1 Z (zG (zD [4] [_] Z (qQ (qO Z Z fun w' hw=>?_))))))))
 exact ⟨ret_i (idxB_none (fun i hi=>hall i (by omega))).symm,hw.below⟩
set_option maxHeartbeats 400000 in
theorem containsB_ok (vb:Value) (bs:List Bool) (y:Bool) (w:World) (hvb:Bools w vb bs) (hs1:bs.length≤1000000) :
    Calls Tryd.prog 129 [vb,bo_ y].toArray w fun en w'=>en=.returned (.bool (decide (y∈bs)))∧Below w.heap.size w w':=by
 refine fnStart (n:=9) (e:=[(0,vb),(1,bo_ y)]) Tryd.func129 Z Z Z Z Ends.both (zE (zB (zC 1 Z (zG (zD [0,1] [_,_] Z (zE (zB (zC 2 Z (zF (v:=i6_ (idxB bs y)) Z (qN Z Tryd.call153 Z qC (fun w1 hw1=>indexB_ok vb bs y w1 (Row.own hvb hw1) (by omega))) (zC 2 Z (zG (zD [4] [_] Z (qQ (qO Z Z fun w' hw=>?_))))))))))))))
 exact ⟨ret_b (idxB_has bs y),hw.below⟩
set_option maxHeartbeats 400000 in
theorem equalB_ok (va vb:Value) (xs ys:List Bool) (w:World) (hva:Bools w va xs) (hvb:Bools w vb ys) (hs1:xs.length≤1000000) :
    Calls Tryd.prog 98 [va,vb].toArray w fun en w'=>en=.returned (.bool (xs==ys))∧Below w.heap.size w w':=by
 refine fnStart (n:=26) (e:=[(0,va),(1,vb)]) Tryd.func98 Z Z Z Z Ends.both (zE (zB (zC 1 Z (zG (zD [0,1] [_,_] Z (zE (zE (zB (zC 1 Z (zF (v:=i6_ (xs.length:Int)) Z (yP Z yM Z (bools_length _) (fun w1 hw1=>Row.own hva hw1)) (zC 1 Z (zF (v:=i6_ (ys.length:Int)) Z (yP Z yM Z (bools_length _) (fun w1 hw1=>Row.own hvb hw1)) (zC 1 Z (zG (zD [0,1,10] [_,_,_] Z (yK (b:=!(decide ((xs.length:Int)=(ys.length:Int)))) Z (fun h10=>?_) (fun h10=>?_)))))))))))))))))
 ·
  replace h10:=not_true h10
  replace h10:=zU h10;refine zE (zB (zC 1 Z (zG (zD [4] [_] Z (qQ (qO Z Z fun w' hw=>?_))))))
  exact ⟨ret_b (beq_no (fun e=>by simp_all)).symm,hw.below⟩
 replace h10:=not_false h10
 replace h10:=zW h10
 have hle:xs.length=ys.length:=by omega
 refine qT (zD [0,1] [_,_] Z (zE (zE (zB (zC 1 Z (zF (v:=i6_ (xs.length:Int)) Z (yP Z yM Z (bools_length _) (fun w1 hw1=>Row.own hva hw1)) (zC 1 Z (zG (zD [0,1,12,13] [_,_,_,_] Z (qJ (yR (σ:=Nat) (fun k=>k≤xs.length∧∀ i:Nat,i<k→xs.getD i false=ys.getD i false) (fun k=>[(0,va),(1,vb),(12,i6_ (xs.length:Int)),(13,i6_ (k:Int))]) (fun k=>Own w.heap.size w []) (fun k=>xs.length - k) (0) ⟨by omega,fun i hi=>absurd hi (by omega)⟩ (Sub.sel [0,1,12,13] Z) (fun _ h=>h) ?_)))))))))))
 rintro k ⟨hk,hall⟩;refine zE (zB (zC 1 Z (zG (zD [0,1,12,13,14] [_,_,_,_,_] Z (zE (xI Z (fun h14=>?_) (fun h14=>?_)))))))
 ·
  refine qT (zD [0,1,12,13] [_,_,_,_] Z (zE (qJ (zE (zB (zC 2 Z (zG (zD [0,1,5,12,13] [_,_,_,_,_] Z (zE (xV yH (fun _ h=>h.drawn) (by kernel_rfl) (zC 2 Z (zF (v:=.pointer (some (sAt va (k:Int)))) Z (yO Z yM xX Z Z (by omega) (by rw [bools_length];omega) (fun w1 hw1=>Row.own hva hw1)) (zF (v:=bo_ (xs.getD ((k:Int).toNat) false)) Z (yA Z vE Z (fun w1 hw1=>Bools.cell (Row.own hva hw1) (by omega) (by omega))) (zC 2 Z (zF (v:=.pointer (some (sAt vb (k:Int)))) Z (yO Z yM xX Z Z (by omega) (by rw [bools_length];omega) (fun w1 hw1=>Row.own hvb hw1)) (zF (v:=bo_ (ys.getD ((k:Int).toNat) false)) Z (yA Z vE Z (fun w1 hw1=>Bools.cell (Row.own hvb hw1) (by omega) (by omega))) (zF Z (OpQ.bne Z yU Z Z) (zG (zD [0,1,12,13,24] [_,_,_,_,_] Z (yK (b:=(xs.getD ((k:Int).toNat) false) != (ys.getD ((k:Int).toNat) false)) Z (fun h24=>?_) (fun h24=>?_)))))))))))))))))))))
  ·
   refine zE (zB (zC 1 Z (zG (zD [4] [_] Z (qQ (qO Z Z fun w' hw=>?_))))))
   exact ⟨ret_b (beq_no (fun e=>by simp_all)).symm,hw.below⟩
  refine qT (zD [0,1,12,13] [_,_,_,_] Z (zB (zF Z (qR Z Z Z (by omega) (by omega)) (zC 1 Z (zG (qX (k+1) ⟨by omega,fun i hi=>(Nat.lt_succ_iff_lt_or_eq.1 hi).elim (hall i) (fun e=>by subst e;simpa using h24)⟩ (by omega) (Sub.sel [0,1,12,13] Z) (fun _ h=>h)))))))
 refine yN Z (zD [] [] Z (zE (zB (zC 1 Z (zG (zD [4] [_] Z (qQ (qO Z Z fun w' hw=>?_))))))))
 exact ⟨ret_b (by rw [bools_same hle (fun i hi=>hall i (by omega))];simp),hw.below⟩
set_option maxHeartbeats 400000 in
theorem stateOf_ok (a b:St) (k p Tp:Nat) (fv wv:Value) (va vb:Value) (xs ys:List Int) (w:World) (hp:w.heap[p]?=some (.cells #[.int .i64 a.n,str a.set,str a.rel,.int .i64 b.n,str b.set,str b.rel,.int .i64 (k:Int),.int .i64 ((prN a b:Nat):Int),fv,wv,.bool false] Tp (0,0))) (hva:Ints w va xs) (hvb:Ints w vb ys) (hVa:validB a=true) (hVb:validB b=true) (hk3:k≤3) (hx:Peb a.n.toNat k xs) (hy:Peb b.n.toNat k ys) (hsg:∀ i:Nat,i<k→(xs.getD i 0<0↔ys.getD i 0<0)) :
    Calls Tryd.prog 61 [.pointer (some ⟨p,0,none⟩),va,vb].toArray w fun en w'=>en=.returned (.int .i64 ((stU b.n.toNat (prN a b) xs ys k (k):Nat):Int))∧Below w.heap.size w w':=by
 refine fnStart (n:=48) (e:=[(0,.pointer (some ⟨p,0,none⟩)),(1,va),(2,vb)]) Tryd.func61 Z Z Z Z Ends.both ?_
 have ha:=validB_fine hVa
 have hb:=validB_fine hVb
 have hm8:=ha.hi
 have hm1:=ha.lo
 have hb8:=hb.hi
 have hb1:=hb.lo
 have hpr:=prN_le (a:=a) (b:=b) (by omega) (by omega)
 have hpp:=prN_pos a b
 have hxl:=hx.1
 have hyl:=hy.1
 have hcl:=code_lt hx hy hsg;refine zE (zB (zC 1 Z (zG (zD [0,1,2] [_,_,_] Z (zE (zB (zC 1 Z (zG (zD [0,1,2,7] [_,_,_,_] Z (zE (zE (zB (zC 1 Z (zF (v:=.pointer (some ⟨p,0,none⟩)) Z (qU Z Z) (zF Z (zJ Z qH Z zS Z Z) (zF (v:=i6_ (k:Int)) Z (yA Z qB Z (fun w1 hw1=>at_box hp hw1 6 Z)) (zF Z (jJ Z Z Z (by omega) (by omega)) (zC 1 Z (zG (zD [0,1,2,7,8] [_,_,_,_,_] Z (qJ (yR (σ:=Nat) (fun j=>j≤k) (fun j=>[(0,.pointer (some ⟨p,0,none⟩)),(1,va),(2,vb),(7,i6_ (((stU b.n.toNat (prN a b) xs ys k (j):Nat):Int))),(8,i6_ ((k:Int) - 1 - (j:Int)))]) (fun j=>Own w.heap.size w []) (fun j=>k - j) (0) (by omega) (Sub.cons Z (Sub.cons Z (Sub.cons Z (Sub.cons (by rfl) (Sub.cons (by simp [List.lookup]) Sub.nil))))) (fun _ h=>h) ?_))))))))))))))))))))))
 rintro j hj
 have hsl:=stU_lt hcl j hj
 have hpj:=pow65 hpr (show j≤3 by omega)
 have hml:=mul65 (x:=stU b.n.toNat (prN a b) xs ys k j) (by omega) hpr;refine zE (zE (zB (zC 2 Z (zG (zD [0,1,2,7,8,15] [_,_,_,_,_,_] Z (yK (b:=decide ((0:Int)≤((k:Int) - 1 - (j:Int)))) Z (fun h15=>?_) (fun h15=>?_)))))))
 ·
  replace h15:=zW h15
  have hjk:j<k:=by omega
  obtain ⟨hx0,hx1⟩:=peb_at hx (i:=k - 1 - j) (by omega)
  obtain ⟨hy0,hy1⟩:=peb_at hy (i:=k - 1 - j) (by omega)
  have hs1:=hsg (k - 1 - j) (by omega);refine qT (zD [0,1,2,7,8] [_,_,_,_,_] Z (zE (qJ (zE (zB (zC 2 Z (zF (v:=.pointer (some ⟨p,0,none⟩)) Z (qU Z Z) (zF Z (zJ Z qH Z zS Z Z) (zF (v:=i6_ ((prN a b:Nat):Int)) Z (yA Z qB Z (fun w1 hw1=>at_box hp hw1 7 Z)) (zF Z (jL Z Z Z (by omega) (by omega)) (zC 1 Z (zG (zD [0,1,2,7,8] [_,_,_,_,_] Z (zE (zB (zC 2 Z (zF (v:=.pointer (some (sAt va ((k:Int) - 1 - (j:Int))))) Z (yO Z zN zS Z Z (by omega) (by rw [ints_length];omega) (fun w1 hw1=>Row.own hva hw1)) (zF (v:=i6_ (xs.getD (k - 1 - j) 0)) Z (qY (by congr 2;omega) (yA Z qB Z (fun w1 hw1=>Ints.cell (Row.own hva hw1) (by omega) (by omega)))) (zC 1 Z (zG (zD [0,1,2,7,8,28] [_,_,_,_,_,_] Z (yK (b:=decide ((0:Int)≤(xs.getD (k - 1 - j) 0))) Z (fun h28=>?_) (fun h28=>?_)))))))))))))))))))))))
  ·
   replace h28:=zW h28
   have hxb:=mul8 (x:=xs.getD (k - 1 - j) 0) (y:=b.n) (by omega) (by omega) (by omega) (by omega);refine xV yH (fun _ h=>h.drawn) (by kernel_rfl) (zC 3 Z (zF (v:=.pointer (some (sAt va ((k:Int) - 1 - (j:Int))))) Z (yO Z zN zS Z Z (by omega) (by rw [ints_length];omega) (fun w1 hw1=>Row.own hva hw1)) (zF (v:=i6_ (xs.getD (k - 1 - j) 0)) Z (qY (by congr 2;omega) (yA Z qB Z (fun w1 hw1=>Ints.cell (Row.own hva hw1) (by omega) (by omega)))) (zC 1 Z (zF (v:=.pointer (some ⟨p,0,none⟩)) Z (qU Z Z) (zF Z (zJ Z qH Z zM Z Z) (zF Z (zJ Z zH Z zS Z Z) (zF (v:=i6_ b.n) Z (yA Z qB Z (fun w1 hw1=>at_box hp hw1 3 Z)) (zF Z (jL Z Z Z (by omega) (by omega)) (zF Z (qR Z Z Z (by omega) (by omega)) (zC 2 Z (zF (v:=.pointer (some (sAt vb ((k:Int) - 1 - (j:Int))))) Z (yO Z zN zS Z Z (by omega) (by rw [ints_length];omega) (fun w1 hw1=>Row.own hvb hw1)) (zF (v:=i6_ (ys.getD (k - 1 - j) 0)) Z (qY (by congr 2;omega) (yA Z qB Z (fun w1 hw1=>Ints.cell (Row.own hvb hw1) (by omega) (by omega)))) (zF Z (qR Z Z Z (by omega) (by omega)) (zF Z (qR Z Z Z (by omega) (by omega)) (zC 1 Z (zG (zD [0,1,2,7,8] [_,_,_,_,_] Z (zB (zC 1 Z (zF Z (jJ Z Z Z (by omega) (by omega)) (zC 1 Z (zG (qX (j+1) (by omega) (by omega) (Sub.cons Z (Sub.cons Z (Sub.cons Z (Sub.cons (by first | (rw [stU_pos (by omega) (by omega) (by omega)];rfl) | (rw [stU_neg (by omega)];rfl)) (Sub.cons (by simp [List.lookup];omega) Sub.nil))))) (fun _ h=>h)))))))))))))))))))))))))
  replace h28:=zU h28;refine qT (zD [0,1,2,7,8] [_,_,_,_,_] Z (zB (zC 1 Z (zF Z (jJ Z Z Z (by omega) (by omega)) (zC 1 Z (zG (qX (j+1) (by omega) (by omega) (Sub.cons Z (Sub.cons Z (Sub.cons Z (Sub.cons (by first | (rw [stU_pos (by omega) (by omega) (by omega)];rfl) | (rw [stU_neg (by omega)];rfl)) (Sub.cons (by simp [List.lookup];omega) Sub.nil))))) (fun _ h=>h))))))))
 replace h15:=zU h15;refine yN Z (zD [7] [_] Z (zE (zB (zC 2 Z (zG (zD [6] [_] Z (qQ (qO Z Z fun w' hw=>?_))))))))
 exact ⟨ret_i (by rw [show j=k from by omega]),hw.below⟩
def answered_ok_o3x:OV:=(.one 1 (.take 2 (.take 3 (.one 4 (.one 5 (.take 12 (.take 13 .done)))))))
theorem answered_ok_o3x_c:ovB (opsOf 3 Tryd.f97.body) answered_ok_o3x 7 true #[true,false,false,false,false,false,true,true,true,true,true,true,false,false]=true:=(ovB_one (by kernel_rfl) (ovB_take (by kernel_rfl) (ovB_take (by kernel_rfl) (ovB_one (by kernel_rfl) (ovB_one (by kernel_rfl) (ovB_take (by kernel_rfl) (ovB_take (by kernel_rfl) (ovB_done (by kernel_rfl)))))))))
def answered_ok_o3_1x:OV:=(.one 4 (.one 5 (.take 12 (.take 13 .done))))
theorem answered_ok_o3_1x_c:ovB (opsOf 3 Tryd.f97.body) answered_ok_o3_1x 4 true #[true,true,true,true,false,false,true,true,true,true,true,true,false,false]=true:=(ovB_one (by kernel_rfl) (ovB_one (by kernel_rfl) (ovB_take (by kernel_rfl) (ovB_take (by kernel_rfl) (ovB_done (by kernel_rfl))))))
def answered_ok_o3_2x:OV:=(.one 5 (.take 12 (.take 13 .done)))
theorem answered_ok_o3_2x_c:ovB (opsOf 3 Tryd.f97.body) answered_ok_o3_2x 3 true #[true,true,true,true,true,false,true,true,true,true,true,true,false,false]=true:=(ovB_one (by kernel_rfl) (ovB_take (by kernel_rfl) (ovB_take (by kernel_rfl) (ovB_done (by kernel_rfl)))))
def answered_ok_o3_3x:OV:=(.take 12 (.one 11 (.take 13 .done)))
theorem answered_ok_o3_3x_c:ovB (opsOf 3 Tryd.f97.body) answered_ok_o3_3x 3 true #[true,true,true,true,true,true,true,true,true,true,true,false,false,false]=true:=(ovB_take (by kernel_rfl) (ovB_one (by kernel_rfl) (ovB_take (by kernel_rfl) (ovB_done (by kernel_rfl)))))
def answered_ok_o3_4x:OV:=(.alt 5 answered_ok_o3_3x (.one 11 answered_ok_o3_2x))
theorem answered_ok_o3_4x_c:ovB (opsOf 3 Tryd.f97.body) answered_ok_o3_4x 4 true #[true,true,true,true,true,false,true,true,true,true,true,false,false,false]=true:=(ovB_alt (by kernel_rfl) (ovB_at (by kernel_rfl) answered_ok_o3_3x_c) (ovB_last (ovB_at (by kernel_rfl) answered_ok_o3_2x_c)))
def answered_ok_o3_5x:OV:=(.take 2 (.take 3 (.alt 4 answered_ok_o3_4x (.one 11 answered_ok_o3_1x))))
theorem answered_ok_o3_5x_c:ovB (opsOf 3 Tryd.f97.body) answered_ok_o3_5x 7 true #[true,true,false,false,false,false,true,true,true,true,true,false,false,false]=true:=(ovB_take (by kernel_rfl) (ovB_take (by kernel_rfl) (ovB_alt (by kernel_rfl) (ovB_at (by kernel_rfl) answered_ok_o3_4x_c) (ovB_last (ovB_at (by kernel_rfl) answered_ok_o3_1x_c)))))
def answered_ok_o3_6x:OV:=(.alt 1 answered_ok_o3_5x (.one 11 answered_ok_o3x))
theorem answered_ok_o3_6x_c:ovB (opsOf 3 Tryd.f97.body) answered_ok_o3_6x 8 true #[true,false,false,false,false,false,true,true,true,true,true,false,false,false]=true:=(ovB_alt (by kernel_rfl) (ovB_at (by kernel_rfl) answered_ok_o3_5x_c) (ovB_last (ovB_at (by kernel_rfl) answered_ok_o3x_c)))
def answered_ok_o3_7x:OV:=(.alt 4 answered_ok_o3_4x (.one 11 answered_ok_o3_1x))
theorem answered_ok_o3_7x_c:ovB (opsOf 3 Tryd.f97.body) answered_ok_o3_7x 5 true #[true,true,true,true,false,false,true,true,true,true,true,false,false,false]=true:=(ovB_alt (by kernel_rfl) (ovB_at (by kernel_rfl) answered_ok_o3_4x_c) (ovB_last (ovB_at (by kernel_rfl) answered_ok_o3_1x_c)))
def answered_ok_o3_8x:OV:=(.take 12 (.one 10 (.one 11 (.take 13 .done))))
theorem answered_ok_o3_8x_c:ovB (opsOf 3 Tryd.f97.body) answered_ok_o3_8x 4 true #[true,true,true,true,true,true,true,true,true,true,false,false,false,false]=true:=(ovB_take (by kernel_rfl) (ovB_one (by kernel_rfl) (ovB_one (by kernel_rfl) (ovB_take (by kernel_rfl) (ovB_done (by kernel_rfl))))))
def answered_ok_o3_9x:OV:=(.alt 5 answered_ok_o3_8x (.one 10 answered_ok_o3_4x))
theorem answered_ok_o3_9x_c:ovB (opsOf 3 Tryd.f97.body) answered_ok_o3_9x 5 true #[true,true,true,true,true,false,true,true,true,true,false,false,false,false]=true:=(ovB_alt (by kernel_rfl) (ovB_at (by kernel_rfl) answered_ok_o3_8x_c) (ovB_last (ovB_at (by kernel_rfl) answered_ok_o3_4x_c)))
def answered_ok_o3_10x:OV:=(.take 2 (.take 3 (.alt 4 answered_ok_o3_9x (.one 10 answered_ok_o3_7x))))
theorem answered_ok_o3_10x_c:ovB (opsOf 3 Tryd.f97.body) answered_ok_o3_10x 8 true #[true,true,false,false,false,false,true,true,true,true,false,false,false,false]=true:=(ovB_take (by kernel_rfl) (ovB_take (by kernel_rfl) (ovB_alt (by kernel_rfl) (ovB_at (by kernel_rfl) answered_ok_o3_9x_c) (ovB_last (ovB_at (by kernel_rfl) answered_ok_o3_7x_c)))))
def answered_ok_o3_11x:OV:=(.take 8 (.take 9 (.alt 1 answered_ok_o3_10x (.one 10 answered_ok_o3_6x))))
theorem answered_ok_o3_11x_c:ovB (opsOf 3 Tryd.f97.body) answered_ok_o3_11x 11 true #[true,false,false,false,false,false,true,true,false,false,false,false,false,false]=true:=(ovB_take (by kernel_rfl) (ovB_take (by kernel_rfl) (ovB_alt (by kernel_rfl) (ovB_at (by kernel_rfl) answered_ok_o3_10x_c) (ovB_last (ovB_at (by kernel_rfl) answered_ok_o3_6x_c)))))
def answered_ok_o3_12x:OV:=(.take 8 (.take 9 (.alt 4 answered_ok_o3_9x (.one 10 answered_ok_o3_7x))))
theorem answered_ok_o3_12x_c:ovB (opsOf 3 Tryd.f97.body) answered_ok_o3_12x 8 true #[true,true,true,true,false,false,true,true,false,false,false,false,false,false]=true:=(ovB_take (by kernel_rfl) (ovB_take (by kernel_rfl) (ovB_alt (by kernel_rfl) (ovB_at (by kernel_rfl) answered_ok_o3_9x_c) (ovB_last (ovB_at (by kernel_rfl) answered_ok_o3_7x_c)))))
def answered_ok_o3_13x:OV:=(.take 8 (.take 9 (.alt 5 answered_ok_o3_8x (.one 10 answered_ok_o3_4x))))
theorem answered_ok_o3_13x_c:ovB (opsOf 3 Tryd.f97.body) answered_ok_o3_13x 7 true #[true,true,true,true,true,false,true,true,false,false,false,false,false,false]=true:=(ovB_take (by kernel_rfl) (ovB_take (by kernel_rfl) (ovB_alt (by kernel_rfl) (ovB_at (by kernel_rfl) answered_ok_o3_8x_c) (ovB_last (ovB_at (by kernel_rfl) answered_ok_o3_4x_c)))))
def answered_ok_o3_14x:OV:=(.take 12 (.one 7 (.take 8 (.take 9 (.one 10 (.one 11 (.take 13 .done)))))))
theorem answered_ok_o3_14x_c:ovB (opsOf 3 Tryd.f97.body) answered_ok_o3_14x 7 true #[true,true,true,true,true,true,true,false,false,false,false,false,false,false]=true:=(ovB_take (by kernel_rfl) (ovB_one (by kernel_rfl) (ovB_take (by kernel_rfl) (ovB_take (by kernel_rfl) (ovB_one (by kernel_rfl) (ovB_one (by kernel_rfl) (ovB_take (by kernel_rfl) (ovB_done (by kernel_rfl)))))))))
def answered_ok_o3_15x:OV:=(.alt 5 answered_ok_o3_14x (.one 7 answered_ok_o3_13x))
theorem answered_ok_o3_15x_c:ovB (opsOf 3 Tryd.f97.body) answered_ok_o3_15x 8 true #[true,true,true,true,true,false,true,false,false,false,false,false,false,false]=true:=(ovB_alt (by kernel_rfl) (ovB_at (by kernel_rfl) answered_ok_o3_14x_c) (ovB_last (ovB_at (by kernel_rfl) answered_ok_o3_13x_c)))
def answered_ok_o3_16x:OV:=(.take 2 (.take 3 (.alt 4 answered_ok_o3_15x (.one 7 answered_ok_o3_12x))))
theorem answered_ok_o3_16x_c:ovB (opsOf 3 Tryd.f97.body) answered_ok_o3_16x 11 true #[true,true,false,false,false,false,true,false,false,false,false,false,false,false]=true:=(ovB_take (by kernel_rfl) (ovB_take (by kernel_rfl) (ovB_alt (by kernel_rfl) (ovB_at (by kernel_rfl) answered_ok_o3_15x_c) (ovB_last (ovB_at (by kernel_rfl) answered_ok_o3_12x_c)))))
def answered_ok_o3_17x:OV:=(.take 0 (.take 6 (.alt 1 answered_ok_o3_16x (.one 7 answered_ok_o3_11x))))
theorem answered_ok_o3_17x_c:ovB (opsOf 3 Tryd.f97.body) answered_ok_o3_17x 14 true #[false,false,false,false,false,false,false,false,false,false,false,false,false,false]=true:=(ovB_take (by kernel_rfl) (ovB_take (by kernel_rfl) (ovB_alt (by kernel_rfl) (ovB_at (by kernel_rfl) answered_ok_o3_16x_c) (ovB_last (ovB_at (by kernel_rfl) answered_ok_o3_11x_c)))))
def answered_ok_o3_18x:OV:=.done
set_option maxHeartbeats 400000 in
theorem answered_ok (a b:St) (k p Tp:Nat) (fv wv:Value) (W:List Bool) (rest step:Nat) (w:World) (hp:w.heap[p]?=some (.cells #[.int .i64 a.n,str a.set,str a.rel,.int .i64 b.n,str b.set,str b.rel,.int .i64 (k:Int),.int .i64 ((prN a b:Nat):Int),fv,wv,.bool false] Tp (0,0))) (hwv:Bools w wv W) (hVa:validB a=true) (hVb:validB b=true) (hWl:W.length≤300000) (hq:∀ q:Nat,q<prN a b→rest+step*q<W.length) :
    Calls Tryd.prog 97 [.pointer (some ⟨p,0,none⟩),i6_ (rest:Int),i6_ (step:Int)].toArray w fun en w'=>en=.returned (.bool (ansB (fun s=>W.getD s false) a.n.toNat b.n.toNat rest step))∧Below w.heap.size w w':=by
 refine fnStart (n:=77) (e:=[(0,.pointer (some ⟨p,0,none⟩)),(1,i6_ (rest:Int)),(2,i6_ (step:Int))]) Tryd.func97 Z Z Z Z Ends.both ?_
 have ha:=validB_fine hVa
 have hb:=validB_fine hVb
 have hm8:=ha.hi
 have hm1:=ha.lo
 have hb8:=hb.hi
 have hb1:=hb.lo
 have hpr:=prN_le (a:=a) (b:=b) (by omega) (by omega)
 have hpp:=prN_pos a b;refine zE (zB (zC 1 Z (zG (zD [0,1,2] [_,_,_] Z (zE (zE (zB (zC 1 Z (zF (v:=.pointer (some ⟨p,0,none⟩)) Z (qU Z Z) (zF Z (zJ Z qH Z xX Z Z) (zF (v:=bo_ false) Z (yA Z vE Z (fun w1 hw1=>at_box hp hw1 10 Z)) (zG (zD [0,1,2,14] [_,_,_,_] Z (Wk.condF Z (qT (zD [0,1,2] [_,_,_] Z (zE (Wk.regionV (S:=Own w.heap.size w []) answered_ok_o3_17x yH (fun _ h=>h.drawn) (ovOk_at (by kernel_rfl) (by kernel_rfl) (by kernel_rfl) (by kernel_rfl) answered_ok_o3_17x_c) (Lv.share (σ:=Nat×Nat) answered_ok_o3_18x (fun ⟨p24,p30⟩=>True) (fun ⟨p24,p30⟩=>[(0,.pointer (some ⟨p,0,none⟩)),(1,i6_ (rest:Int)),(2,i6_ (step:Int)),(7,sl_ p24 a.n.toNat a.n.toNat),(8,sl_ p30 b.n.toNat b.n.toNat)]) (fun ⟨p24,p30⟩=>Own w.heap.size w [bk_ p24 ((List.replicate a.n.toNat (bo_ false)).toArray) 4,bk_ p30 ((List.replicate b.n.toNat (bo_ false)).toArray) 4]) ?_ fun H3_=>?_)))))))))))))))))))
 ·
  rintro ⟨p24,p30⟩ -
  dsimp only;refine Lv.nil (zD [0,1,2,7,8] [_,_,_,_,_] Z (zE (zE (zB (zC 1 Z (zF Z (jW Z yM Z) (zC 1 Z (zG (zD [0,1,2,7,8,32,33] [_,_,_,_,_,_,_] Z (qJ (yR (σ:=Nat×List Bool×List Bool) (fun ⟨x,R,C⟩=>x≤a.n.toNat∧Marks (fun x y=>W.getD (rest+step*(1+x*b.n.toNat+y)) false) a.n.toNat b.n.toNat x 0 R C) (fun ⟨x,R,C⟩=>[(0,.pointer (some ⟨p,0,none⟩)),(1,i6_ (rest:Int)),(2,i6_ (step:Int)),(7,sl_ p24 a.n.toNat a.n.toNat),(8,sl_ p30 b.n.toNat b.n.toNat),(32,i6_ (a.n.toNat:Int)),(33,i6_ (x:Int))]) (fun ⟨x,R,C⟩=>Own w.heap.size w [bk_ p24 ((R.map Value.bool).toArray) 4,bk_ p30 ((C.map Value.bool).toArray) 4]) (fun ⟨x,R,C⟩=>a.n.toNat - x) (0,List.replicate a.n.toNat false,List.replicate b.n.toNat false) ⟨by omega,marks_zero _ _ _⟩ (Sub.sel [0,1,2,7,8,32,33] Z) (fun _ h=>by simpa using h) ?_)))))))))))
  rintro ⟨x,R,C⟩ ⟨hx,hMk⟩
  dsimp only
  have hRl:=hMk.rl
  have hCl:=hMk.cl;refine zE (zB (zC 1 Z (zG (zD [0,1,2,7,8,32,33,34] [_,_,_,_,_,_,_,_] Z (zE (yK (b:=decide ((x:Int)<(a.n.toNat:Int))) Z (fun h34=>?_) (fun h34=>?_)))))))
  ·
   replace h34:=zW h34
   have hxn:x<a.n.toNat:=by omega
   refine qT (zD [0,1,2,7,8,32,33] [_,_,_,_,_,_,_] Z (zE (qJ (zE (zB (zC 2 Z (zG (zD [0,1,2,7,8,9,32,33] [_,_,_,_,_,_,_,_] Z (zE (zB (zC 1 Z (zF Z (jW Z yM Z) (zC 1 Z (zG (zD [0,1,2,7,8,9,32,33,37,38] [_,_,_,_,_,_,_,_,_,_] Z (qJ (yR (σ:=Nat×List Bool×List Bool) (fun ⟨y,R,C⟩=>y≤b.n.toNat∧Marks (fun x y=>W.getD (rest+step*(1+x*b.n.toNat+y)) false) a.n.toNat b.n.toNat x y R C) (fun ⟨y,R,C⟩=>[(0,.pointer (some ⟨p,0,none⟩)),(1,i6_ (rest:Int)),(2,i6_ (step:Int)),(7,sl_ p24 a.n.toNat a.n.toNat),(8,sl_ p30 b.n.toNat b.n.toNat),(9,i6_ (x:Int)),(32,i6_ (a.n.toNat:Int)),(33,i6_ (x:Int)),(37,i6_ (b.n.toNat:Int)),(38,i6_ (y:Int))]) (fun ⟨y,R,C⟩=>Own w.heap.size w [bk_ p24 ((R.map Value.bool).toArray) 4,bk_ p30 ((C.map Value.bool).toArray) 4]) (fun ⟨y,R,C⟩=>b.n.toNat - y) (0,R,C) ⟨by omega,hMk⟩ (Sub.sel [0,1,2,7,8,9,32,33,37,38] Z) (fun _ h=>h) ?_)))))))))))))))))
   rintro ⟨y,R,C⟩ ⟨hy,hMk⟩
   dsimp only
   have hRl:=hMk.rl
   have hCl:=hMk.cl;refine zE (zB (zC 1 Z (zG (zD [0,1,2,7,8,9,32,33,37,38,39] [_,_,_,_,_,_,_,_,_,_,_] Z (zE (yK (b:=decide ((y:Int)<(b.n.toNat:Int))) Z (fun h39=>?_) (fun h39=>?_)))))))
   ·
    replace h39:=zW h39
    have hyn:y<b.n.toNat:=by omega
    have hqq:=hq (1+x*b.n.toNat+y) (pair_lt hxn hyn)
    have hqm:(step:Int)*(((1+x*b.n.toNat+y):Nat):Int)=((step*(1+x*b.n.toNat+y):Nat):Int):=by rw [Int.natCast_mul]
    have hxb:=mul8 (x:=(x:Int)) (y:=b.n) (by omega) (by omega) (by omega) (by omega)
    have hxc:((x*b.n.toNat:Nat):Int)=(x:Int)*b.n:=by rw [Int.natCast_mul,Int.toNat_of_nonneg (by omega)]
    refine qT (zD [0,1,2,7,8,9,32,33,37,38] [_,_,_,_,_,_,_,_,_,_] Z (zE (qJ (zE (zB (zC 2 Z (zG (zD [0,1,2,7,8,9,10,32,33,37,38] [_,_,_,_,_,_,_,_,_,_,_] Z (zE (xV yH (fun _ h=>h.drawn) (by kernel_rfl) (zC 1 Z (zF (v:=.pointer (some ⟨p,0,none⟩)) Z (qU Z Z) (zF Z (zJ Z qH Z yQ Z Z) (zF (v:=wv) Z (yA Z jC Z (fun w1 hw1=>at_box hp hw1 9 Z)) (zC 4 Z (zF (v:=.pointer (some ⟨p,0,none⟩)) Z (qU Z Z) (zF Z (zJ Z qH Z zM Z Z) (zF Z (zJ Z zH Z zS Z Z) (zF (v:=i6_ b.n) Z (yA Z qB Z (fun w1 hw1=>at_box hp hw1 3 Z)) (zF (v:=i6_ ((x*b.n.toNat:Nat):Int)) Z (qY (by rw [Int.natCast_mul,show ((b.n.toNat:Nat):Int)=b.n from by omega]) (jL Z Z Z (by omega) (by omega))) (zF Z (qR Z Z Z (by omega) (by omega)) (zC 1 Z (zF (v:=i6_ ((((1+x*b.n.toNat+y):Nat):Int))) Z (qY (by congr 1) (qR Z Z Z (by omega) (by omega))) (zF (v:=i6_ (((step*(1+x*b.n.toNat+y):Nat):Int))) Z (qY (by rw [← hqm]) (jL Z Z Z (by omega) (by omega))) (zF (v:=i6_ (((rest+step*(1+x*b.n.toNat+y):Nat):Int))) Z (qY (by congr 1) (qR Z Z Z (by omega) (by omega))) (zF (v:=.pointer (some (sAt wv (((rest+step*(1+x*b.n.toNat+y):Nat):Int))))) Z (yO Z yM xX Z Z (by omega) (by rw [bools_length];omega) (fun w1 hw1=>Row.own hwv hw1)) (zF (v:=bo_ (W.getD (rest+step*(1+x*b.n.toNat+y)) false)) Z (qY Z (yA Z vE Z (fun w1 hw1=>Bools.cell (Row.own hwv hw1) (by omega) (by omega)))) (zG (zD [0,1,2,7,8,9,10,32,33,37,38,60] [_,_,_,_,_,_,_,_,_,_,_,_] Z (yK (b:=W.getD (rest+step*(1+x*b.n.toNat+y)) false) Z (fun h60=>?_) (fun h60=>?_)))))))))))))))))))))))))))))))
    ·
     refine zE (zZ (qI 2 Z (zT (v:=pf_ p24 ((x:Int).toNat)) Z (qY (by rw [Nat.zero_add]) (yB (i:=(x:Int)) Z yM xX Z Z (by omega) (by omega))) ?_)));refine qV (v:=bo_ true) (hs':=[bk_ p24 (((R.map Value.bool).set ((x:Int).toNat) (bo_ true)).toArray) 4,_]) 0 Z Z Z Z Z Z xX Z (by first | (simp;done) | (simp;omega) | omega) (by first | (rw [list_set];rfl) | (simp only [Nat.zero_add];rw [list_set];rfl)) ?_;refine zI (zD [0,1,2,7,8,9,10,32,33,37,38] [_,_,_,_,_,_,_,_,_,_,_] Z (zZ (qI 2 Z (zT (v:=pf_ p30 ((y:Int).toNat)) Z (qY (by rw [Nat.zero_add]) (yB (i:=(y:Int)) Z yM xX Z Z (by omega) (by omega))) ?_))));refine qV (v:=bo_ true) (hs':=[_,bk_ p30 (((C.map Value.bool).set ((y:Int).toNat) (bo_ true)).toArray) 4]) 1 Z Z Z Z Z Z xX Z (by first | (simp;done) | (simp;omega) | omega) (by first | (rw [list_set];rfl) | (simp only [Nat.zero_add];rw [list_set];rfl)) ?_;refine zI (zD [0,1,2,7,8,9,32,33,37,38] [_,_,_,_,_,_,_,_,_,_] Z (zB (zF Z (qR Z Z Z (by omega) (by omega)) (zC 1 Z (zG (qX (y+1,R.set x true,C.set y true) ⟨by omega,marks_yes hMk (by omega) (by omega) (by simpa using h60)⟩ (by omega) (Sub.sel [0,1,2,7,8,9,32,33,37,38] Z) (fun _ h=>by rw [List.map_set,List.map_set];exact h)))))))
    refine qT (zD [0,1,2,7,8,9,32,33,37,38] [_,_,_,_,_,_,_,_,_,_] Z (zB (zF Z (qR Z Z Z (by omega) (by omega)) (zC 1 Z (zG (qX (y+1,R,C) ⟨by omega,marks_no hMk (by simpa using h60)⟩ (by omega) (Sub.sel [0,1,2,7,8,9,32,33,37,38] Z) (fun _ h=>h)))))))
   replace h39:=zU h39
   have hye:y=b.n.toNat:=by omega
   refine yN Z (zD [0,1,2,7,8,32,33] [_,_,_,_,_,_,_] Z (zB (zF Z (qR Z Z Z (by omega) (by omega)) (zC 1 Z (zG (qX (x+1,R,C) ⟨by omega,marks_next (hye ▸ hMk)⟩ (by omega) (Sub.sel [0,1,2,7,8,32,33] Z) (fun _ h=>h)))))))
  replace h34:=zU h34
  obtain rfl:x=a.n.toNat:=by omega
  refine yN Z (zD [7,8] [_,_] Z (zE (zB (zC 1 Z (zF (v:=bo_ (decide (false∈R))) Z (qN Z Tryd.call129 Z qC (fun w1 hw1=>containsB_ok (sl_ p24 a.n.toNat a.n.toNat) R false w1 (yC hw1 (i:=0) Z (by rw [← hRl];exact bools_all R) (by simpa using hRl) (by omega)) (by omega))) (zC 2 Z (yX fun b72 hg72=>?_)))))))
  cases b72
  ·
   replace hg72:=not_false hg72;refine zK Z (zK Z (zK Z (zC 2 Z (zG (zD [6] [_] Z (qQ (qO Z Z fun w' hw=>?_)))))))
   exact ⟨ret_b (by rw [← marks_end hMk];simp [*]),hw.below⟩
  replace hg72:=not_true hg72;refine zC 1 Z (zF (v:=bo_ (decide (false∈C))) Z (qN Z Tryd.call129 Z qC (fun w1 hw1=>containsB_ok (sl_ p30 b.n.toNat b.n.toNat) C false w1 (yC hw1 (i:=1) Z (by rw [← hCl];exact bools_all C) (by simpa using hCl) (by omega)) (by omega))) (zC 3 Z (zG (zD [6] [_] Z (qQ (qO Z Z fun w' hw=>?_))))))
  exact ⟨ret_b (by rw [← marks_end hMk];simp [*]),hw.below⟩
 refine Lv.share (σ:=Nat) answered_ok_o3_8x (fun p24=>True) (fun p24=>[(0,.pointer (some ⟨p,0,none⟩)),(1,i6_ (rest:Int)),(2,i6_ (step:Int)),(24,sl_ p24 a.n.toNat a.n.toNat),(28,.pointer (some (⟨p,3,none⟩)))]) (fun p24=>Own w.heap.size w [bk_ p24 ((List.replicate a.n.toNat (bo_ false)).toArray) 4]) ?_ fun H3__1=>?_
 ·
  rintro p24 -;refine Lv.run 1 Z (fun _ h=>h.tail) (jH Z (zT (v:=i6_ (b.n.toNat:Int)) Z (qY (by rw [show ((b.n.toNat:Nat):Int)=b.n from by omega] <;> rfl) (yA Z qB Z (fun w1 hw1=>at_box hp hw1 3 Z))) (zI (xD (fun _ h=>h.tail) ?_))));refine jH Z (jR (k:=b.n.toNat) yT xK Z Z Z Z Z (by omega) fun p30 hp30=>?_)
  rw [show madeCells (Value.cells (bo_ false)) (b.n.toNat*1)=(List.replicate b.n.toNat (bo_ false)).toArray from made_list _ _ rfl];refine zI (xD (fun _ h=>h.tail.tail) ?_);refine Lv.run 1 Z (fun _ h=>h.tail.tail) ?_
  exact Lv.to (H3_ ⟨p24,p30⟩ trivial) (Sub.sel [0,1,2,7,8] rfl) (fun _ h=>jQ (hs:=[_,_]) (hs':=[_,_]) h [1,0] rfl (by decide))
 refine Lv.share (σ:=Unit) answered_ok_o3_4x (fun _u=>True) (fun _u=>[(0,.pointer (some ⟨p,0,none⟩)),(1,i6_ (rest:Int)),(2,i6_ (step:Int)),(23,i6_ (a.n.toNat:Int)),(29,i6_ (b.n.toNat:Int))]) (fun _u=>Own w.heap.size w []) ?_ fun H3__2=>?_
 ·
  rintro _u -;refine Lv.alt Z ?_ (jH Z ?_)
  ·
   refine jR (k:=a.n.toNat) yT xK Z Z Z Z Z (by omega) fun p24 hp24=>?_
   rw [show madeCells (Value.cells (bo_ false)) (a.n.toNat*1)=(List.replicate a.n.toNat (bo_ false)).toArray from made_list _ _ rfl];refine zI (xD (fun _ h=>h.tail) ?_);refine Lv.run 1 Z (fun _ h=>h.tail) (jH Z (jR (k:=b.n.toNat) yT xK Z Z Z Z Z (by omega) fun p30_1 hp30_1=>?_))
   rw [show madeCells (Value.cells (bo_ false)) (b.n.toNat*1)=(List.replicate b.n.toNat (bo_ false)).toArray from made_list _ _ rfl];refine zI (xD (fun _ h=>h.tail.tail) ?_);refine Lv.run 1 Z (fun _ h=>h.tail.tail) ?_
   exact Lv.to (H3_ ⟨p24,p30_1⟩ trivial) (Sub.sel [0,1,2,7,8] rfl) (fun _ h=>jQ (hs:=[_,_]) (hs':=[_,_]) h [1,0] rfl (by decide))
  refine jR (k:=b.n.toNat) yT xK Z Z Z Z Z (by omega) fun p30_2 hp30_2=>?_
  rw [show madeCells (Value.cells (bo_ false)) (b.n.toNat*1)=(List.replicate b.n.toNat (bo_ false)).toArray from made_list _ _ rfl];refine zI (xD (fun _ h=>h.tail) ?_);refine jH Z (jR (k:=a.n.toNat) yT xK Z Z Z Z Z (by omega) fun p24_1 hp24_1=>?_)
  rw [show madeCells (Value.cells (bo_ false)) (a.n.toNat*1)=(List.replicate a.n.toNat (bo_ false)).toArray from made_list _ _ rfl];refine zI (xD (fun _ h=>h.tail.tail) ?_);refine Lv.run 2 Z (fun _ h=>h.tail.tail) ?_
  exact Lv.to (H3_ ⟨p24_1,p30_2⟩ trivial) (Sub.sel [0,1,2,7,8] rfl) (fun _ h=>h)
 refine Lv.share (σ:=Nat) answered_ok_o3_1x (fun p30=>True) (fun p30=>[(0,.pointer (some ⟨p,0,none⟩)),(1,i6_ (rest:Int)),(2,i6_ (step:Int)),(22,.pointer (some (⟨p,0,none⟩))),(30,sl_ p30 b.n.toNat b.n.toNat)]) (fun p30=>Own w.heap.size w [bk_ p30 ((List.replicate b.n.toNat (bo_ false)).toArray) 4]) ?_ fun H3__3=>?_
 ·
  rintro p30 -;refine jH Z (zT (v:=i6_ (a.n.toNat:Int)) Z (qY (by rw [show ((a.n.toNat:Nat):Int)=a.n from by omega] <;> rfl) (yA Z qB Z (fun w1 hw1=>at_box hp hw1 0 Z))) (zI (xD (fun _ h=>h.tail) ?_)));refine jH Z (jR (k:=a.n.toNat) yT xK Z Z Z Z Z (by omega) fun p24_2 hp24_2=>?_)
  rw [show madeCells (Value.cells (bo_ false)) (a.n.toNat*1)=(List.replicate a.n.toNat (bo_ false)).toArray from made_list _ _ rfl];refine zI (xD (fun _ h=>h.tail.tail) ?_);refine Lv.run 2 Z (fun _ h=>h.tail.tail) ?_
  exact Lv.to (H3_ ⟨p24_2,p30⟩ trivial) (Sub.sel [0,1,2,7,8] rfl) (fun _ h=>h)
 refine Lv.share (σ:=Unit) answered_ok_o3_9x (fun _u=>True) (fun _u=>[(0,.pointer (some ⟨p,0,none⟩)),(1,i6_ (rest:Int)),(2,i6_ (step:Int)),(23,i6_ (a.n.toNat:Int)),(28,.pointer (some (⟨p,3,none⟩)))]) (fun _u=>Own w.heap.size w []) ?_ fun H3__4=>?_
 ·
  rintro _u -;refine Lv.alt Z ?_ (jH Z ?_)
  ·
   refine jR (k:=a.n.toNat) yT xK Z Z Z Z Z (by omega) fun p24_3 hp24_3=>?_
   rw [show madeCells (Value.cells (bo_ false)) (a.n.toNat*1)=(List.replicate a.n.toNat (bo_ false)).toArray from made_list _ _ rfl];refine zI (xD (fun _ h=>h.tail) ?_)
   exact Lv.to (H3__1 p24_3 trivial) (Sub.sel [0,1,2,24,28] rfl) (fun _ h=>h)
  refine zT (v:=i6_ (b.n.toNat:Int)) Z (qY (by rw [show ((b.n.toNat:Nat):Int)=b.n from by omega] <;> rfl) (yA Z qB Z (fun w1 hw1=>at_box hp hw1 3 Z))) (zI (xD (fun _ h=>h) ?_))
  exact Lv.to (H3__2 () trivial) (Sub.sel [0,1,2,23,29] rfl) (fun _ h=>h)
 refine Lv.share (σ:=Unit) answered_ok_o3_7x (fun _u=>True) (fun _u=>[(0,.pointer (some ⟨p,0,none⟩)),(1,i6_ (rest:Int)),(2,i6_ (step:Int)),(22,.pointer (some (⟨p,0,none⟩))),(29,i6_ (b.n.toNat:Int))]) (fun _u=>Own w.heap.size w []) ?_ fun H3__5=>?_
 ·
  rintro _u -;refine Lv.alt Z ?_ (jH Z ?_)
  ·
   refine zT (v:=i6_ (a.n.toNat:Int)) Z (qY (by rw [show ((a.n.toNat:Nat):Int)=a.n from by omega] <;> rfl) (yA Z qB Z (fun w1 hw1=>at_box hp hw1 0 Z))) (zI (xD (fun _ h=>h) ?_))
   exact Lv.to (H3__2 () trivial) (Sub.sel [0,1,2,23,29] rfl) (fun _ h=>h)
  refine jR (k:=b.n.toNat) yT xK Z Z Z Z Z (by omega) fun p30_3 hp30_3=>?_
  rw [show madeCells (Value.cells (bo_ false)) (b.n.toNat*1)=(List.replicate b.n.toNat (bo_ false)).toArray from made_list _ _ rfl];refine zI (xD (fun _ h=>h.tail) ?_)
  exact Lv.to (H3__3 p30_3 trivial) (Sub.sel [0,1,2,22,30] rfl) (fun _ h=>h)
 refine Lv.run 2 Z (fun _ h=>h) (Lv.alt Z ?_ (jH Z ?_))
 ·
  refine zT (v:=.pointer (some ⟨p,0,none⟩)) Z (qU Z Z) (zI (xD (fun _ h=>h) ?_));refine vA Z Z Z Z Z (zJ Z qH Z zM Z Z) (fun _ h=>h) (vA Z Z Z Z Z (zJ Z zH Z zS Z Z) (fun _ h=>h) (Lv.alt Z ?_ (jH Z ?_)))
  ·
   refine zT (v:=i6_ (a.n.toNat:Int)) Z (qY (by rw [show ((a.n.toNat:Nat):Int)=a.n from by omega] <;> rfl) (yA Z qB Z (fun w1 hw1=>at_box hp hw1 0 Z))) (zI (xD (fun _ h=>h) ?_));refine Lv.alt Z ?_ (jH Z ?_)
   ·
    refine jR (k:=a.n.toNat) yT xK Z Z Z Z Z (by omega) fun p24_4 hp24_4=>?_
    rw [show madeCells (Value.cells (bo_ false)) (a.n.toNat*1)=(List.replicate a.n.toNat (bo_ false)).toArray from made_list _ _ rfl];refine zI (xD (fun _ h=>h.tail) ?_);refine Lv.run 1 Z (fun _ h=>h.tail) (jH Z (zT (v:=.pointer (some ⟨p,0,none⟩)) Z (qU Z Z) (zI (xD (fun _ h=>h.tail) ?_))));refine vA Z Z Z Z Z (zJ Z qH Z zM Z Z) (fun _ h=>h.tail) (vA Z Z Z Z Z (zJ Z zH Z zS Z Z) (fun _ h=>h.tail) (jH Z (zT (v:=i6_ (b.n.toNat:Int)) Z (qY (by rw [show ((b.n.toNat:Nat):Int)=b.n from by omega] <;> rfl) (yA Z qB Z (fun w1 hw1=>at_box hp hw1 3 Z))) (zI (xD (fun _ h=>h.tail) ?_)))));refine jH Z (jR (k:=b.n.toNat) yT xK Z Z Z Z Z (by omega) fun p30_4 hp30_4=>?_)
    rw [show madeCells (Value.cells (bo_ false)) (b.n.toNat*1)=(List.replicate b.n.toNat (bo_ false)).toArray from made_list _ _ rfl];refine zI (xD (fun _ h=>h.tail.tail) ?_);refine Lv.run 1 Z (fun _ h=>h.tail.tail) ?_
    exact Lv.to (H3_ ⟨p24_4,p30_4⟩ trivial) (Sub.sel [0,1,2,7,8] rfl) (fun _ h=>jQ (hs:=[_,_]) (hs':=[_,_]) h [1,0] rfl (by decide))
   refine zT (v:=.pointer (some ⟨p,0,none⟩)) Z (qU Z Z) (zI (xD (fun _ h=>h) ?_));refine vA Z Z Z Z Z (zJ Z qH Z zM Z Z) (fun _ h=>h) (vA Z Z Z Z Z (zJ Z zH Z zS Z Z) (fun _ h=>h) (Lv.alt Z ?_ (jH Z ?_)))
   ·
    refine jR (k:=a.n.toNat) yT xK Z Z Z Z Z (by omega) fun p24_5 hp24_5=>?_
    rw [show madeCells (Value.cells (bo_ false)) (a.n.toNat*1)=(List.replicate a.n.toNat (bo_ false)).toArray from made_list _ _ rfl];refine zI (xD (fun _ h=>h.tail) ?_)
    exact Lv.to (H3__1 p24_5 trivial) (Sub.sel [0,1,2,24,28] rfl) (fun _ h=>h)
   refine zT (v:=i6_ (b.n.toNat:Int)) Z (qY (by rw [show ((b.n.toNat:Nat):Int)=b.n from by omega] <;> rfl) (yA Z qB Z (fun w1 hw1=>at_box hp hw1 3 Z))) (zI (xD (fun _ h=>h) ?_))
   exact Lv.to (H3__2 () trivial) (Sub.sel [0,1,2,23,29] rfl) (fun _ h=>h)
  refine zT (v:=.pointer (some ⟨p,0,none⟩)) Z (qU Z Z) (zI (xD (fun _ h=>h) ?_));refine vA Z Z Z Z Z (zJ Z qH Z zM Z Z) (fun _ h=>h) (vA Z Z Z Z Z (zJ Z zH Z zS Z Z) (fun _ h=>h) (Lv.alt Z ?_ (jH Z ?_)))
  ·
   refine zT (v:=i6_ (a.n.toNat:Int)) Z (qY (by rw [show ((a.n.toNat:Nat):Int)=a.n from by omega] <;> rfl) (yA Z qB Z (fun w1 hw1=>at_box hp hw1 0 Z))) (zI (xD (fun _ h=>h) ?_))
   exact Lv.to (H3__4 () trivial) (Sub.sel [0,1,2,23,28] rfl) (fun _ h=>h)
  refine zT (v:=i6_ (b.n.toNat:Int)) Z (qY (by rw [show ((b.n.toNat:Nat):Int)=b.n from by omega] <;> rfl) (yA Z qB Z (fun w1 hw1=>at_box hp hw1 3 Z))) (zI (xD (fun _ h=>h) ?_))
  exact Lv.to (H3__5 () trivial) (Sub.sel [0,1,2,22,29] rfl) (fun _ h=>h)
 refine zT (v:=.pointer (some ⟨p,0,none⟩)) Z (qU Z Z) (zI (xD (fun _ h=>h) ?_));refine vA Z Z Z Z Z (zJ Z qH Z zM Z Z) (fun _ h=>h) (vA Z Z Z Z Z (zJ Z zH Z zS Z Z) (fun _ h=>h) (Lv.alt Z ?_ (jH Z ?_)))
 ·
  refine zT (v:=.pointer (some ⟨p,0,none⟩)) Z (qU Z Z) (zI (xD (fun _ h=>h) ?_));refine vA Z Z Z Z Z (zJ Z qH Z zM Z Z) (fun _ h=>h) (vA Z Z Z Z Z (zJ Z zH Z zS Z Z) (fun _ h=>h) (Lv.alt Z ?_ (jH Z ?_)))
  ·
   refine zT (v:=i6_ (a.n.toNat:Int)) Z (qY (by rw [show ((a.n.toNat:Nat):Int)=a.n from by omega] <;> rfl) (yA Z qB Z (fun w1 hw1=>at_box hp hw1 0 Z))) (zI (xD (fun _ h=>h) ?_))
   exact Lv.to (H3__4 () trivial) (Sub.sel [0,1,2,23,28] rfl) (fun _ h=>h)
  refine zT (v:=i6_ (b.n.toNat:Int)) Z (qY (by rw [show ((b.n.toNat:Nat):Int)=b.n from by omega] <;> rfl) (yA Z qB Z (fun w1 hw1=>at_box hp hw1 3 Z))) (zI (xD (fun _ h=>h) ?_))
  exact Lv.to (H3__5 () trivial) (Sub.sel [0,1,2,22,29] rfl) (fun _ h=>h)
 refine zT (v:=i6_ (b.n.toNat:Int)) Z (qY (by rw [show ((b.n.toNat:Nat):Int)=b.n from by omega] <;> rfl) (yA Z qB Z (fun w1 hw1=>at_box hp hw1 3 Z))) (zI (xD (fun _ h=>h) ?_));refine Lv.alt Z ?_ (jH Z ?_)
 ·
  refine zT (v:=.pointer (some ⟨p,0,none⟩)) Z (qU Z Z) (zI (xD (fun _ h=>h) ?_));refine vA Z Z Z Z Z (zJ Z qH Z zM Z Z) (fun _ h=>h) (vA Z Z Z Z Z (zJ Z zH Z zS Z Z) (fun _ h=>h) (Lv.alt Z ?_ (jH Z ?_)))
  ·
   refine zT (v:=i6_ (a.n.toNat:Int)) Z (qY (by rw [show ((a.n.toNat:Nat):Int)=a.n from by omega] <;> rfl) (yA Z qB Z (fun w1 hw1=>at_box hp hw1 0 Z))) (zI (xD (fun _ h=>h) ?_))
   exact Lv.to (H3__2 () trivial) (Sub.sel [0,1,2,23,29] rfl) (fun _ h=>h)
  refine jR (k:=b.n.toNat) yT xK Z Z Z Z Z (by omega) fun p30_5 hp30_5=>?_
  rw [show madeCells (Value.cells (bo_ false)) (b.n.toNat*1)=(List.replicate b.n.toNat (bo_ false)).toArray from made_list _ _ rfl];refine zI (xD (fun _ h=>h.tail) ?_)
  exact Lv.to (H3__3 p30_5 trivial) (Sub.sel [0,1,2,22,30] rfl) (fun _ h=>h)
 refine jR (k:=b.n.toNat) yT xK Z Z Z Z Z (by omega) fun p30_6 hp30_6=>?_
 rw [show madeCells (Value.cells (bo_ false)) (b.n.toNat*1)=(List.replicate b.n.toNat (bo_ false)).toArray from made_list _ _ rfl];refine zI (xD (fun _ h=>h.tail) ?_);refine jH Z (zT (v:=.pointer (some ⟨p,0,none⟩)) Z (qU Z Z) (zI (xD (fun _ h=>h.tail) ?_)));refine vA Z Z Z Z Z (zJ Z qH Z zM Z Z) (fun _ h=>h.tail) (vA Z Z Z Z Z (zJ Z zH Z zS Z Z) (fun _ h=>h.tail) (jH Z (zT (v:=i6_ (a.n.toNat:Int)) Z (qY (by rw [show ((a.n.toNat:Nat):Int)=a.n from by omega] <;> rfl) (yA Z qB Z (fun w1 hw1=>at_box hp hw1 0 Z))) (zI (xD (fun _ h=>h.tail) ?_)))));refine jH Z (jR (k:=a.n.toNat) yT xK Z Z Z Z Z (by omega) fun p24_6 hp24_6=>?_)
 rw [show madeCells (Value.cells (bo_ false)) (a.n.toNat*1)=(List.replicate a.n.toNat (bo_ false)).toArray from made_list _ _ rfl];refine zI (xD (fun _ h=>h.tail.tail) ?_);refine Lv.run 2 Z (fun _ h=>h.tail.tail) ?_
 exact Lv.to (H3_ ⟨p24_6,p30_6⟩ trivial) (Sub.sel [0,1,2,7,8] rfl) (fun _ h=>h)
set_option maxHeartbeats 400000 in
theorem listsAt_ok (a b:St) (k p Tp:Nat) (fv wv:Value) (s:Nat) (w:World) (hp:w.heap[p]?=some (.cells #[.int .i64 a.n,str a.set,str a.rel,.int .i64 b.n,str b.set,str b.rel,.int .i64 (k:Int),.int .i64 ((prN a b:Nat):Int),fv,wv,.bool false] Tp (0,0))) (hVa:validB a=true) (hVb:validB b=true) (hk3:k≤3) (hs:s≤300000) :
    Calls Tryd.prog 96 [.pointer (some ⟨p,0,none⟩),i6_ (s:Int)].toArray w fun en w'=>∃ v,en=.returned v∧Below w.heap.size w w'∧NewRows w.heap.size 3 3 w' v (placed (stX a b k s) k).length (ints (placed (stX a b k s) k)) (placed (stY a b k s) k).length (ints (placed (stY a b k s) k)):=by
 refine fnStart (n:=56) (e:=[(0,.pointer (some ⟨p,0,none⟩)),(1,i6_ (s:Int))]) Tryd.func96 Z Z Z Z Ends.both ?_
 have ha:=validB_fine hVa
 have hb:=validB_fine hVb
 have hm8:=ha.hi
 have hm1:=ha.lo
 have hb8:=hb.hi
 have hb1:=hb.lo
 have hpr:=prN_le (a:=a) (b:=b) (by omega) (by omega)
 have hpp:=prN_pos a b;refine zE (zB (zC 2 Z (zG (zD [0,1] [_,_] Z (zE (zZ (yD (xs:=[]) (vs:=[]) qD Z Z Z Z Z Z (by decide) Z fun p9 hp9=>(yD (xs:=[]) (vs:=[]) qD Z Z Z Z Z Z (by decide) Z fun p10 hp10=>(qI 2 Z (zI (zD [0,1,6,7] [_,_,_,_] Z (zE (zE (zB (zC 1 Z (zF (v:=.pointer (some ⟨p,0,none⟩)) Z (qU Z Z) (zF Z (zJ Z qH Z zS Z Z) (zF (v:=i6_ (k:Int)) Z (yA Z qB Z (fun w1 hw1=>at_box hp hw1 6 Z)) (zC 1 Z (zG (zD [0,1,6,7,14,15] [_,_,_,_,_,_] Z (qJ (yR (σ:=Nat×Nat×Nat×Nat×Array Value×Nat×Nat×Array Value) (fun ⟨i,N,g1,c1,u1,g2,c2,u2⟩=>i≤k∧(N=s / prN a b ^ i∧N≤300000)∧(u1.size=c1*1∧(placed (stX a b k s) i).length≤c1∧u1.toList.take (placed (stX a b k s) i).length=ints (placed (stX a b k s) i))∧(u2.size=c2*1∧(placed (stY a b k s) i).length≤c2∧u2.toList.take (placed (stY a b k s) i).length=ints (placed (stY a b k s) i))) (fun ⟨i,N,g1,c1,u1,g2,c2,u2⟩=>[(0,.pointer (some ⟨p,0,none⟩)),(1,i6_ (N:Int)),(6,sl_ g1 ((placed (stX a b k s) i).length) c1),(7,sl_ g2 ((placed (stY a b k s) i).length) c2),(14,i6_ (k:Int)),(15,i6_ (i:Int))]) (fun ⟨i,N,g1,c1,u1,g2,c2,u2⟩=>Own w.heap.size w [bk_ g1 u1 3,bk_ g2 u2 3]) (fun ⟨i,N,g1,c1,u1,g2,c2,u2⟩=>k - i) (0,s,p9,0,#[],p10,0,#[]) ⟨by omega,⟨by simp,hs⟩,⟨rfl,Nat.le_refl _,rfl⟩,⟨rfl,Nat.le_refl _,rfl⟩⟩ (Sub.cons Z (Sub.cons Z (Sub.cons Z (Sub.cons Z (Sub.sel [14,15] Z))))) (fun _ h=>h.pick [1,0] Z (by decide)) ?_)))))))))))))))))))))))
 rintro ⟨i,N,g1,c1,u1,g2,c2,u2⟩ ⟨hi,⟨hN,hN3⟩,⟨hc1,hl1,ht1⟩,⟨hc2,hl2,ht2⟩⟩
 dsimp only
 have hp1:=placed_le (stX a b k s) i
 have hp2:=placed_le (stY a b k s) i
 have hNd:=Nat.div_le_self N (prN a b);refine zE (zB (zC 1 Z (zG (zD [0,1,6,7,14,15,16] [_,_,_,_,_,_,_] Z (zE (yK (b:=decide ((i:Int)<(k:Int))) Z (fun h16=>?_) (fun h16=>?_)))))))
 ·
  replace h16:=zW h16
  have hik:i<k:=by omega
  obtain ⟨hdx0,hdx1,hdx2⟩:=dig_x (a:=a) (b:=b) (s:=s) hik
  obtain ⟨hdy0,hdy1,hdy2⟩:=dig_y (a:=a) (b:=b) (s:=s) (by omega) hik
  have hdl:=dig_lt (s:=s) (i:=i) hpp;refine qT (zD [0,1,6,7,14,15] [_,_,_,_,_,_] Z (zE (qJ (zE (zE (zB (zC 2 Z (zF (v:=.pointer (some ⟨p,0,none⟩)) Z (qU Z Z) (zF Z (zJ Z qH Z zS Z Z) (zF (v:=i6_ ((prN a b:Nat):Int)) Z (yA Z qB Z (fun w1 hw1=>at_box hp hw1 7 Z)) (zF (v:=i6_ (((dig (prN a b) s i):Int))) Z (qY (by rw [show (dig (prN a b) s i)=N % prN a b from by rw [hN];rfl];rfl) (vF Z Z Z (by omega) (by omega))) (zC 1 Z (zG (zD [0,1,6,7,8,14,15] [_,_,_,_,_,_,_] Z (zE (zB (zC 2 Z (zG (zD [0,1,6,7,8,14,15,24] [_,_,_,_,_,_,_,_] Z (yK (b:=decide ((0:Int)<(((dig (prN a b) s i):Int)))) Z (fun h24=>?_) (fun h24=>?_)))))))))))))))))))))
  ·
   replace h24:=zW h24
   have hpx:=placed_pos (xs:=stX a b k s) (k:=i) (by omega)
   have hpy:=placed_pos (xs:=stY a b k s) (k:=i) (by omega);refine zE (zZ (qI 2 Z (zT Z (jJ Z Z Z (by omega) (by omega)) (qI 1 Z (zT (v:=.pointer (some ⟨p,0,none⟩)) Z (qU Z Z) (zT Z (zJ Z qH Z zM Z Z) (zT Z (zJ Z zH Z zS Z Z) (zT (v:=i6_ b.n) Z (yA Z qB Z (fun w1 hw1=>at_box hp hw1 3 Z)) (zT (v:=i6_ ((stX a b k s).getD i 0)) Z (qY (dig_xv (a:=a) (b:=b) (k:=k) (s:=s) hik (by omega) Z (by omega)) (OpQ.quo Z Z Z (by omega) (by omega) (by omega))) (yD (xs:=[.tmp 33]) (vs:=[i6_ ((stX a b k s).getD i 0)]) qD Z Z Z Z Z Z (by decide) Z fun p34 hp34=>(yI (xs:=(placed (stX a b k s) i)) (ys:=[(stX a b k s).getD i 0]) qD 1 Z Z Z Z Z Z Z hc1 hl1 ht1 (fun w1 hw1=>(yC hw1 (i:=0) Z (n:=1) (cap:=1) (vs:=ints [(stX a b k s).getD i 0]) Z Z (by decide))) (((placed (stX a b k s) i)++([(stX a b k s).getD i 0])).length) (by first | (simp;done) | (simp;omega)) (by first | (simp;done) | (simp;omega) | omega) fun p35 cap35 cur35 hp35 hcp35 hlp35 htp35=>?_)))))))))))
   show Ll _ _ (Own _ _ [_,_,_]) _ _ ((35,sl_ p35 ((((placed (stX a b k s) i)++([(stX a b k s).getD i 0])).length)) cap35)::_) _ _ _;refine qI 1 Z (zI (zD [0,1,6,7,8,14,15] [_,_,_,_,_,_,_] Z (zZ (qI 2 Z (zT Z (jJ Z Z Z (by omega) (by omega)) (qI 1 Z (zT (v:=.pointer (some ⟨p,0,none⟩)) Z (qU Z Z) (zT Z (zJ Z qH Z zM Z Z) (zT Z (zJ Z zH Z zS Z Z) (zT (v:=i6_ b.n) Z (yA Z qB Z (fun w1 hw1=>at_box hp hw1 3 Z)) (zT (v:=i6_ ((stY a b k s).getD i 0)) Z (qY (dig_yv (a:=a) (b:=b) (k:=k) (s:=s) hik (by omega) Z (by omega)) (vF Z Z Z (by omega) (by omega))) (yD (xs:=[.tmp 44]) (vs:=[i6_ ((stY a b k s).getD i 0)]) qD Z Z Z Z Z Z (by decide) Z fun p45 hp45=>(yI (xs:=(placed (stY a b k s) i)) (ys:=[(stY a b k s).getD i 0]) qD 3 Z Z Z Z Z Z Z hc2 hl2 ht2 (fun w1 hw1=>(yC hw1 (i:=0) Z (n:=1) (cap:=1) (vs:=ints [(stY a b k s).getD i 0]) Z Z (by decide))) (((placed (stY a b k s) i)++([(stY a b k s).getD i 0])).length) (by first | (simp;done) | (simp;omega)) (by first | (simp;done) | (simp;omega) | omega) fun p46 cap46 cur46 hp46 hcp46 hlp46 htp46=>?_)))))))))))))
   show Ll _ _ (Own _ _ [_,_,_,_]) _ _ ((46,sl_ p46 ((((placed (stY a b k s) i)++([(stY a b k s).getD i 0])).length)) cap46)::_) _ _ _;refine qI 1 Z (zI (zD [0,1,6,7,14,15] [_,_,_,_,_,_] Z (zB (zC 2 Z (zF (v:=.pointer (some ⟨p,0,none⟩)) Z (qU Z Z) (zF Z (zJ Z qH Z zS Z Z) (zF (v:=i6_ ((prN a b:Nat):Int)) Z (yA Z qB Z (fun w1 hw1=>at_box hp hw1 7 Z)) (zF (v:=i6_ ((N / prN a b:Nat):Int)) Z (qY (by rfl) (OpQ.quo Z Z Z (by omega) (by omega) (by omega))) (zC 1 Z (zG (zD [0,1,6,7,14,15] [_,_,_,_,_,_] Z (zB (zF Z (qR Z Z Z (by omega) (by omega)) (zC 1 Z (zG (qX (i+1,N / prN a b,p35,cap35,cur35,p46,cap46,cur46) ⟨by omega,⟨by rw [hN,dig_down],by dsimp only;omega⟩,⟨hcp35,by rw [hpx];simpa using hlp35,by rw [hpx];simpa using htp35⟩,⟨hcp46,by rw [hpy];simpa using hlp46,by rw [hpy];simpa using htp46⟩⟩ (by omega) (Sub.cons Z (Sub.cons Z (Sub.cons (by rw [hpx];simp [List.lookup]) (Sub.cons (by rw [hpy];simp [List.lookup]) (Sub.sel [14,15] Z))))) (fun _ h=>h.pick [2,3] Z (by decide))))))))))))))))))
  replace h24:=zU h24
  have hpx:=placed_neg (xs:=stX a b k s) (k:=i) (by omega)
  have hpy:=placed_neg (xs:=stY a b k s) (k:=i) (by omega);refine qT (zD [0,1,6,7,14,15] [_,_,_,_,_,_] Z (zB (zC 2 Z (zF (v:=.pointer (some ⟨p,0,none⟩)) Z (qU Z Z) (zF Z (zJ Z qH Z zS Z Z) (zF (v:=i6_ ((prN a b:Nat):Int)) Z (yA Z qB Z (fun w1 hw1=>at_box hp hw1 7 Z)) (zF (v:=i6_ ((N / prN a b:Nat):Int)) Z (qY (by rfl) (OpQ.quo Z Z Z (by omega) (by omega) (by omega))) (zC 1 Z (zG (zD [0,1,6,7,14,15] [_,_,_,_,_,_] Z (zB (zF Z (qR Z Z Z (by omega) (by omega)) (zC 1 Z (zG (qX (i+1,N / prN a b,g1,c1,u1,g2,c2,u2) ⟨by omega,⟨by rw [hN,dig_down],by dsimp only;omega⟩,⟨hc1,by rw [hpx];exact hl1,by rw [hpx];exact ht1⟩,⟨hc2,by rw [hpy];exact hl2,by rw [hpy];exact ht2⟩⟩ (by omega) (Sub.cons Z (Sub.cons Z (Sub.cons (by rw [hpx];rfl) (Sub.cons (by rw [hpy];rfl) (Sub.sel [14,15] Z))))) (fun _ h=>h))))))))))))))))
 replace h16:=zU h16;refine yN Z (zD [6,7] [_,_] Z (zE (zB (zC 4 Z (zG (zD [4,5] [_,_] Z (qQ (Kt.end2 Z Z Z fun w' hw=>?_))))))))
 obtain rfl:k=i:=by omega
 exact ⟨_,rfl,hw.below,hw.newRows (i:=0) (j:=1) rfl rfl (by decide) hc1 hl1 (by simpa using ht1) hc2 hl2 (by simpa using ht2)⟩
set_option maxHeartbeats 400000 in
theorem turn_ok (B:Nat) (w0:World) (hs:List (Nat×Obj)) (a b:St) (k n p gf cf:Nat) (uf:Array Value) (gw cw:Nat) (uw:Array Value) (w:World) (hVa:validB a=true) (hVb:validB b=true) (hk3:k≤3) (hlf:(WL 0 a b k).length≤cf) (htf:uf.toList.take (WL 0 a b k).length=bools (WL 0 a b k)) (hlw:(WL n a b k).length≤cw) (htw:uw.toList.take (WL n a b k).length=bools (WL n a b k)) (hw:Own B w0 (bk_ p #[i6_ a.n,str a.set,str a.rel,i6_ b.n,str b.set,str b.rel,i6_ (k:Int),i6_ ((prN a b:Nat):Int),sl_ gf ((WL 0 a b k).length) cf,sl_ gw ((WL n a b k).length) cw,bo_ false] 76::bk_ gf uf 4::bk_ gw uw 4::hs) w) :
    Calls Tryd.prog 58 [pt_ p].toArray w fun en w'=>∃ (g c:Nat) (u:Array Value),en=.returned (.bool (!(WL (n+1) a b k==WL n a b k)))∧(u.size=c*1∧(WL (n+1) a b k).length≤c∧u.toList.take (WL (n+1) a b k).length=bools (WL (n+1) a b k))∧Own B w0 (bk_ p #[i6_ a.n,str a.set,str a.rel,i6_ b.n,str b.set,str b.rel,i6_ (k:Int),i6_ ((prN a b:Nat):Int),sl_ gf ((WL 0 a b k).length) cf,sl_ g ((WL (n+1) a b k).length) c,bo_ false] 76::bk_ gf uf 4::bk_ g u 4::hs) w':=by
 refine fnStartC (Own B w0 (bk_ p #[i6_ a.n,str a.set,str a.rel,i6_ b.n,str b.set,str b.rel,i6_ (k:Int),i6_ ((prN a b:Nat):Int),sl_ gf ((WL 0 a b k).length) cf,sl_ gw ((WL n a b k).length) cw,bo_ false] 76::bk_ gf uf 4::bk_ gw uw 4::hs)) (n:=75) (e:=[(0,pt_ p)]) Tryd.func58 Z Z Z Z Ends.both hw ?_
 have ha:=validB_fine hVa
 have hb:=validB_fine hVb
 have hm8:=ha.hi
 have hm1:=ha.lo
 have hb8:=hb.hi
 have hb1:=hb.lo
 have hpr:=prN_le (a:=a) (b:=b) (by omega) (by omega)
 have hpp:=prN_pos a b
 have hNl:=pow65 hpr hk3
 have hWl:(WL 0 a b k).length=prN a b ^ k:=WL_len _ _ _ _
 have hWn:(WL n a b k).length=prN a b ^ k:=WL_len _ _ _ _
 have hWm:(WL (n+1) a b k).length=prN a b ^ k:=WL_len _ _ _ _;refine zE (zB (zC 1 Z (zG (zD [0] [_] Z (zE (zZ (yD (xs:=[]) (vs:=[]) yT Z Z Z Z Z Z (by decide) Z fun p8 hp8=>(qI 1 Z (zT (v:=pt_ p) Z (qU Z Z) (zT Z (zJ Z qH Z yQ Z Z) (zT Z (zQ 1 Z jC Z Z Z) (Ll.appendBools (xs:=([]:List Bool)) (ys:=(WL 0 a b k)) yT 0 Z Z Z Z Z Z Z Z (by decide) Z (fun w1 hw1=>(yC hw1 (i:=2) Z htf (by simp) hlf)) ((WL 0 a b k).length) (by first | (simp;done) | (simp;omega)) (by first | (simp;done) | (simp;omega) | omega) fun p13 cap13 cur13 hp13 hcp13 hlp13 htp13=>?_))))))))))))
 show Ll _ _ (Own _ _ (_::_::_::_::hs)) _ _ ((13,sl_ p13 ((WL 0 a b k).length) cap13)::_) _ _ _;refine qI 1 Z (zI (zD [0,3] [_,_] Z (zE (zB (zC 1 Z (zG (zD [0,3,4] [_,_,_] Z (zE (zE (zB (zC 1 Z (zF (v:=pt_ p) Z (qU Z Z) (zF Z (zJ Z qH Z zS Z Z) (zF Z (zQ 1 Z qB Z Z Z) (zC 1 Z (zG (zD [0,3,4,17,18] [_,_,_,_,_] Z (qJ (yR (σ:=Nat×Array Value×List Bool) (fun ⟨i,u,X⟩=>i≤k∧(u.size=cap13*1∧u.toList.take (WL 0 a b k).length=bools X)∧TurnAt (fun s=>(WL 0 a b k).getD s false) (fun s=>(WL n a b k).getD s false) a b k i 0 X) (fun ⟨i,u,X⟩=>[(0,pt_ p),(3,sl_ p13 ((WL 0 a b k).length) cap13),(4,i6_ ((prN a b ^ i:Nat):Int)),(17,i6_ (k:Int)),(18,i6_ (i:Int))]) (fun ⟨i,u,X⟩=>Own B w0 (bk_ p13 u 4::bk_ p #[i6_ a.n,str a.set,str a.rel,i6_ b.n,str b.set,str b.rel,i6_ (k:Int),i6_ ((prN a b:Nat):Int),sl_ gf ((WL 0 a b k).length) cf,sl_ gw ((WL n a b k).length) cw,bo_ false] 76::bk_ gf uf 4::bk_ gw uw 4::hs)) (fun ⟨i,u,X⟩=>k - i) (0,cur13,(WL 0 a b k)) ⟨by omega,⟨hcp13,by simpa using htp13⟩,turn_zero (by simp)⟩ (Sub.cons Z (Sub.cons Z (Sub.cons Z (Sub.sel [17,18] Z)))) (fun _ h=>h) ?_)))))))))))))))))))
 rintro ⟨i,u,X⟩ ⟨hi,⟨hcu,htu⟩,hX⟩
 dsimp only;refine zE (zB (zC 1 Z (zG (zD [0,3,4,17,18,19] [_,_,_,_,_,_] Z (zE (yK (b:=decide ((i:Int)<(k:Int))) Z (fun h19=>?_) (fun h19=>?_)))))))
 ·
  replace h19:=zW h19
  have hik:i<k:=by omega
  have hpi:0<prN a b ^ i:=Nat.pow_pos hpp
  have hpi3:=pow65 hpr (show i+1≤3 by omega)
  have hpm:((prN a b ^ i:Nat):Int)*((prN a b:Nat):Int)=((prN a b ^ (i+1):Nat):Int):=by rw [Nat.pow_succ,Int.natCast_mul]
  refine qT (zD [0,3,4,17,18] [_,_,_,_,_] Z (zE (qJ (zE (zE (zB (zC 1 Z (zF Z (jW Z yM Z) (zC 1 Z (zG (zD [0,3,4,17,18,21,22] [_,_,_,_,_,_,_] Z (qJ (yR (σ:=Nat×Array Value×List Bool) (fun ⟨S,u,X⟩=>S≤(prN a b ^ k)∧(u.size=cap13*1∧u.toList.take (WL 0 a b k).length=bools X)∧TurnAt (fun s=>(WL 0 a b k).getD s false) (fun s=>(WL n a b k).getD s false) a b k i S X) (fun ⟨S,u,X⟩=>[(0,pt_ p),(3,sl_ p13 ((WL 0 a b k).length) cap13),(4,i6_ ((prN a b ^ i:Nat):Int)),(17,i6_ (k:Int)),(18,i6_ (i:Int)),(21,i6_ ((((WL 0 a b k).length):Int))),(22,i6_ (S:Int))]) (fun ⟨S,u,X⟩=>Own B w0 (bk_ p13 u 4::bk_ p #[i6_ a.n,str a.set,str a.rel,i6_ b.n,str b.set,str b.rel,i6_ (k:Int),i6_ ((prN a b:Nat):Int),sl_ gf ((WL 0 a b k).length) cf,sl_ gw ((WL n a b k).length) cw,bo_ false] 76::bk_ gf uf 4::bk_ gw uw 4::hs)) (fun ⟨S,u,X⟩=>(prN a b ^ k) - S) (0,u,X) ⟨by omega,⟨hcu,htu⟩,hX⟩ (Sub.sel [0,3,4,17,18,21,22] Z) (fun _ h=>h) ?_)))))))))))))
  rintro ⟨S,u,X⟩ ⟨hS,⟨hcu,htu⟩,hX⟩
  dsimp only;refine zE (zB (zC 1 Z (zG (zD [0,3,4,17,18,21,22,23] [_,_,_,_,_,_,_,_] Z (zE (yK (b:=decide ((S:Int)<((((WL 0 a b k).length):Int)))) Z (fun h23=>?_) (fun h23=>?_)))))))
  ·
   replace h23:=zW h23
   have hSN:S<prN a b ^ k:=by omega
   have hS0:(0:Int)≤((S / prN a b ^ i:Nat):Int):=Int.natCast_nonneg _;refine qT (zD [0,3,4,17,18,21,22] [_,_,_,_,_,_,_] Z (zE (qJ (zE (zB (zC 2 Z (zG (zD [0,3,4,5,17,18,21,22] [_,_,_,_,_,_,_,_] Z (zE (zE (xV yH (fun _ h=>h.drawn) (by kernel_rfl) (zC 2 Z (zF (v:=i6_ ((S / prN a b ^ i:Nat):Int)) Z (qY (by rfl) (OpQ.quo Z Z Z (by omega) (by omega) (by omega))) (zC 1 Z (zF (v:=pt_ p) Z (qU Z Z) (zF Z (zJ Z qH Z zS Z Z) (zF Z (zQ 1 Z qB Z Z Z) (zF (v:=i6_ (dig (prN a b) S i:Int)) Z (qY (by rfl) (vF Z Z Z (by omega) (by omega))) (zC 2 Z (yX fun b34 hg34=>?_))))))))))))))))))))
   cases b34
   ·
    replace hg34:=not_false hg34
    replace hg34:=zW hg34
    have hd0:dig (prN a b) S i=0:=by omega
    have hqs:∀ q:Nat,q<prN a b→S+prN a b ^ i*q<(WL n a b k).length:=fun q hq=>by rw [WL_len];exact put_lt hpp hd0 hq hik hSN
    refine zC 3 Z (zF (v:=bo_ (ansB (fun s=>(WL n a b k).getD s false) a.n.toNat b.n.toNat S (prN a b ^ i))) Z (qN Z Tryd.call97 Z qC (fun w1 hw1=>answered_ok a b k p 76 (sl_ gf ((WL 0 a b k).length) cf) (sl_ gw ((WL n a b k).length) cw) (WL n a b k) S (prN a b ^ i) w1 (hw1.has 1 _ _ Z).2 (yC hw1 (i:=3) Z htw (by simp) hlw) hVa hVb (by rw [WL_len];omega) hqs)) (zC 1 Z (zG (zD [0,3,4,5,17,18,21,22,39] [_,_,_,_,_,_,_,_,_] Z (yK (b:=ansB (fun s=>(WL n a b k).getD s false) a.n.toNat b.n.toNat S (prN a b ^ i)) Z (fun h39=>?_) (fun h39=>?_))))))
    ·
     refine yN Z (zD [0,3,4,17,18,21,22] [_,_,_,_,_,_,_] Z (zB (zF Z (qR Z Z Z (by omega) (by omega)) (zC 1 Z (zG (qX (S+1,u,X) ⟨by omega,⟨hcu,htu⟩,by first | exact turn_skip hX (by omega) | exact turn_yes hX (ansB_true.1 (by assumption)) | exact turn_no hX (by omega) (fun e=>by have:=ansB_true.2 e;simp_all) (hQe ▸ hC)⟩ (by omega) (Sub.sel [0,3,4,17,18,21,22] Z) (fun _ h=>h)))))))
    refine qT (zD [0,3,4,5,17,18,21,22] [_,_,_,_,_,_,_,_] Z (zE (zB (zC 1 Z (zF (v:=pt_ p) Z (qU Z Z) (zF Z (zJ Z qH Z zS Z Z) (zF Z (zQ 1 Z qB Z Z Z) (zC 1 Z (zG (zD [0,3,4,5,17,18,21,22,43,44] [_,_,_,_,_,_,_,_,_,_] Z (qJ (yR (σ:=Nat×Array Value×List Bool) (fun ⟨Q,u,Y⟩=>Q≤prN a b∧(u.size=cap13*1∧u.toList.take (WL 0 a b k).length=bools Y)∧Cleared X Y S (prN a b ^ i) Q) (fun ⟨Q,u,Y⟩=>[(0,pt_ p),(3,sl_ p13 ((WL 0 a b k).length) cap13),(4,i6_ ((prN a b ^ i:Nat):Int)),(5,i6_ (S:Int)),(17,i6_ (k:Int)),(18,i6_ (i:Int)),(21,i6_ ((((WL 0 a b k).length):Int))),(22,i6_ (S:Int)),(43,i6_ ((prN a b:Nat):Int)),(44,i6_ (Q:Int))]) (fun ⟨Q,u,Y⟩=>Own B w0 (bk_ p13 u 4::bk_ p #[i6_ a.n,str a.set,str a.rel,i6_ b.n,str b.set,str b.rel,i6_ (k:Int),i6_ ((prN a b:Nat):Int),sl_ gf ((WL 0 a b k).length) cf,sl_ gw ((WL n a b k).length) cw,bo_ false] 76::bk_ gf uf 4::bk_ gw uw 4::hs)) (fun ⟨Q,u,Y⟩=>prN a b - Q) (0,u,X) ⟨by omega,⟨hcu,htu⟩,clear_zero _ _ _⟩ (Sub.sel [0,3,4,5,17,18,21,22,43,44] Z) (fun _ h=>h) ?_))))))))))))
    rintro ⟨Q,u,Y⟩ ⟨hQ,⟨hcu,htu⟩,hC⟩
    dsimp only;refine zE (zB (zC 1 Z (zG (zD [0,3,4,5,17,18,21,22,43,44,45] [_,_,_,_,_,_,_,_,_,_,_] Z (zE (yK (b:=decide ((Q:Int)<((prN a b:Nat):Int))) Z (fun h45=>?_) (fun h45=>?_)))))))
    ·
     replace h45:=zW h45
     have hQp:Q<prN a b:=by omega
     have hQQ:=hqs Q hQp
     have hQm:((prN a b ^ i:Nat):Int)*(Q:Int)=((prN a b ^ i*Q:Nat):Int):=by rw [Int.natCast_mul]
     refine qT (zD [0,3,4,5,17,18,21,22,43,44] [_,_,_,_,_,_,_,_,_,_] Z (zE (qJ (zE (zB (zC 2 Z (zG (zD [0,3,4,5,6,17,18,21,22,43,44] [_,_,_,_,_,_,_,_,_,_,_] Z (zZ (qI 4 Z (zT (v:=i6_ ((prN a b ^ i*Q:Nat):Int)) Z (qY (by rw [hQm]) (jL Z Z Z (by omega) (by omega))) (zT (v:=i6_ ((S+prN a b ^ i*Q:Nat):Int)) Z (qY (by rfl) (qR Z Z Z (by omega) (by omega))) (zT (v:=pf_ p13 (((S+prN a b ^ i*Q:Nat):Int).toNat)) Z (qY (by rw [Nat.zero_add]) (yB (i:=((S+prN a b ^ i*Q:Nat):Int)) Z yM xX Z Z (by omega) (by omega))) (qV (v:=.bool false) (hs':=(bk_ p13 (u.setIfInBounds (S+prN a b ^ i*Q) (.bool false)) 4::_::_::_::hs)) 0 Z Z Z Z Z Z xX Z (by rw [hcu];have:=hqs Q (by omega);omega) (by rfl) (zI (zD [0,3,4,5,17,18,21,22,43,44] [_,_,_,_,_,_,_,_,_,_] Z (zB (zF Z (qR Z Z Z (by omega) (by omega)) (zC 1 Z (zG (qX (Q+1,u.setIfInBounds (S+prN a b ^ i*Q) (.bool false),Y.set (S+prN a b ^ i*Q) false) ⟨by omega,⟨by simpa using hcu,row_put htu⟩,clear_next hC (by have:=hqs Q (by omega);rw [hX.len];omega)⟩ (by omega) (Sub.sel [0,3,4,5,17,18,21,22,43,44] Z) (fun _ h=>h))))))))))))))))))))))
    replace h45:=zU h45
    have hQe:Q=prN a b:=by omega
    refine yN Z (zD [0,3,4,17,18,21,22] [_,_,_,_,_,_,_] Z (zB (zF Z (qR Z Z Z (by omega) (by omega)) (zC 1 Z (zG (qX (S+1,u,Y) ⟨by omega,⟨hcu,htu⟩,by first | exact turn_skip hX (by omega) | exact turn_yes hX (ansB_true.1 (by assumption)) | exact turn_no hX (by omega) (fun e=>by have:=ansB_true.2 e;simp_all) (hQe ▸ hC)⟩ (by omega) (Sub.sel [0,3,4,17,18,21,22] Z) (fun _ h=>h)))))))
   replace hg34:=not_true hg34
   replace hg34:=zU hg34;refine zK Z (zK Z (zK Z (zK Z (zC 1 Z (zG (zD [0,3,4,5,17,18,21,22,39] [_,_,_,_,_,_,_,_,_] Z (xY Z (yN Z (zD [0,3,4,17,18,21,22] [_,_,_,_,_,_,_] Z (zB (zF Z (qR Z Z Z (by omega) (by omega)) (zC 1 Z (zG (qX (S+1,u,X) ⟨by omega,⟨hcu,htu⟩,by first | exact turn_skip hX (by omega) | exact turn_yes hX (ansB_true.1 (by assumption)) | exact turn_no hX (by omega) (fun e=>by have:=ansB_true.2 e;simp_all) (hQe ▸ hC)⟩ (by omega) (Sub.sel [0,3,4,17,18,21,22] Z) (fun _ h=>h)))))))))))))))
  replace h23:=zU h23
  have hSe:S=prN a b ^ k:=by omega
  refine yN Z (zD [0,3,4,17,18] [_,_,_,_,_] Z (zB (zC 2 Z (zF (v:=pt_ p) Z (qU Z Z) (zF Z (zJ Z qH Z zS Z Z) (zF Z (zQ 1 Z qB Z Z Z) (zF (v:=i6_ (((prN a b ^ (i+1):Nat):Int))) Z (qY (by rw [hpm]) (jL Z Z Z (by omega) (by omega))) (zC 1 Z (zG (zD [0,3,4,17,18] [_,_,_,_,_] Z (zB (zF Z (qR Z Z Z (by omega) (by omega)) (zC 1 Z (zG (qX (i+1,u,X) ⟨by omega,⟨hcu,htu⟩,turn_round (hSe ▸ hX)⟩ (by omega) (Sub.cons Z (Sub.cons Z (Sub.cons (by rfl) (Sub.sel [17,18] Z)))) (fun _ h=>h))))))))))))))))
 replace h19:=zU h19
 have hie:i=k:=by omega
 have hXl:=hX.len;refine yN Z (zD [0,3] [_,_] Z (zE (zB (zC 2 Z (zF (v:=pt_ p) Z (qU Z Z) (zF Z (zJ Z qH Z yQ Z Z) (zF Z (zQ 1 Z jC Z Z Z) (zF (v:=bo_ (X==(WL n a b k))) Z (qN Z Tryd.call98 Z qC (fun w1 hw1=>equalB_ok (sl_ p13 ((WL 0 a b k).length) cap13) (sl_ gw ((WL n a b k).length) cw) X (WL n a b k) w1 (yC hw1 (i:=0) Z htu (by simpa using hX.len) (by omega)) (yC hw1 (i:=3) Z htw (by simp) hlw) (by omega))) (zC 2 Z (zG (zD [0,3,7] [_,_,_] Z (zE (zZ (qI 2 Z (zT (v:=pt_ p) Z (qU Z Z) (zT Z (zJ Z qH Z yQ Z Z) (qV (v:=sl_ p13 ((WL 0 a b k).length) cap13) (hs':=(_::bk_ p #[i6_ a.n,str a.set,str a.rel,i6_ b.n,str b.set,str b.rel,i6_ (k:Int),i6_ ((prN a b:Nat):Int),sl_ gf ((WL 0 a b k).length) cf,sl_ p13 ((WL 0 a b k).length) cap13,bo_ false] 76::_::_::hs)) 1 Z Z Z Z Z Z yQ Z (by simp) Z (zI (zD [7] [_] Z (zE (zB (zC 2 Z (zG (zD [2] [_] Z (qQ (qO Z Z fun w' hw=>?_))))))))))))))))))))))))))
 have hE:=turn_end (hie ▸ hX)
 subst hE
 exact ⟨p13,cap13,u,by simp,⟨hcu,by omega,by simpa using htu⟩,by rw [hWm,← hWl];exact jQ (hs:=[_,_,_,_]) (hs':=[_,_,_]) hw [1,2,0] rfl (by decide)⟩
set_option maxHeartbeats 400000 in
theorem play_ok (B:Nat) (w0:World) (hs:List (Nat×Obj)) (a b:St) (k t p gf cf:Nat) (uf:Array Value) (gw cw:Nat) (uw:Array Value) (w:World) (hVa:validB a=true) (hVb:validB b=true) (hk3:k≤3) (ht:t≤2000) (hlf:(WL 0 a b k).length≤cf) (htf:uf.toList.take (WL 0 a b k).length=bools (WL 0 a b k)) (hlw:(WL 0 a b k).length≤cw) (htw:uw.toList.take (WL 0 a b k).length=bools (WL 0 a b k)) (hw:Own B w0 (bk_ p #[i6_ a.n,str a.set,str a.rel,i6_ b.n,str b.set,str b.rel,i6_ (k:Int),i6_ ((prN a b:Nat):Int),sl_ gf ((WL 0 a b k).length) cf,sl_ gw ((WL 0 a b k).length) cw,bo_ false] 76::bk_ gf uf 4::bk_ gw uw 4::hs) w) :
    Calls Tryd.prog 60 [pt_ p,i6_ (t:Int)].toArray w fun en w'=>∃ (g c:Nat) (u:Array Value),en=.returned (.tuple #[])∧((WL t a b k).length≤c∧u.toList.take (WL t a b k).length=bools (WL t a b k))∧Own B w0 (bk_ p #[i6_ a.n,str a.set,str a.rel,i6_ b.n,str b.set,str b.rel,i6_ (k:Int),i6_ ((prN a b:Nat):Int),sl_ gf ((WL 0 a b k).length) cf,sl_ g ((WL t a b k).length) c,bo_ false] 76::bk_ gf uf 4::bk_ g u 4::hs) w':=by
 refine fnStartC (Own B w0 (bk_ p #[i6_ a.n,str a.set,str a.rel,i6_ b.n,str b.set,str b.rel,i6_ (k:Int),i6_ ((prN a b:Nat):Int),sl_ gf ((WL 0 a b k).length) cf,sl_ gw ((WL 0 a b k).length) cw,bo_ false] 76::bk_ gf uf 4::bk_ gw uw 4::hs)) (n:=10) (e:=[(0,pt_ p),(1,i6_ (t:Int))]) Tryd.func60 Z Z Z Z Ends.both hw (zE (zB (zC 2 Z (zG (zD [0,4,5] [_,_,_] Z (qJ (yR (σ:=Nat×Nat×Nat×Array Value) (fun ⟨m,g,c,u⟩=>m≤t∧(WL m a b k).length≤c∧u.toList.take (WL m a b k).length=bools (WL m a b k)) (fun ⟨m,g,c,u⟩=>[(0,pt_ p),(4,i6_ (t:Int)),(5,i6_ (m:Int))]) (fun ⟨m,g,c,u⟩=>Own B w0 (bk_ p #[i6_ a.n,str a.set,str a.rel,i6_ b.n,str b.set,str b.rel,i6_ (k:Int),i6_ ((prN a b:Nat):Int),sl_ gf ((WL 0 a b k).length) cf,sl_ g ((WL m a b k).length) c,bo_ false] 76::bk_ gf uf 4::bk_ g u 4::hs)) (fun ⟨m,g,c,u⟩=>t - m) (0,gw,cw,uw) ⟨by omega,hlw,htw⟩ (Sub.sel [0,4,5] Z) (fun _ h=>h) ?_)))))))
 rintro ⟨m,g,c,u⟩ ⟨hm,hlu,htu⟩
 dsimp only;refine zE (zB (zC 1 Z (zG (zD [0,4,5,6] [_,_,_,_] Z (zE (xI Z (fun h6=>?_) (fun h6=>?_)))))))
 ·
  refine qT (zD [0,4,5] [_,_,_] Z (zE (qJ (zZ (qI 1 Z (jI (σ:=Nat×Nat×Array Value) (ok:=fun (g,c',u)=>u.size=c'*1∧(WL (m+1) a b k).length≤c'∧u.toList.take (WL (m+1) a b k).length=bools (WL (m+1) a b k)) (v:=fun _=>.bool (!((WL (m+1) a b k)==(WL m a b k)))) (xs:=[.tmp 7]) (vs:=[pt_ p]) (hs':=fun (g,c',u)=>(bk_ p #[i6_ a.n,str a.set,str a.rel,i6_ b.n,str b.set,str b.rel,i6_ (k:Int),i6_ ((prN a b:Nat):Int),sl_ gf ((WL 0 a b k).length) cf,sl_ g ((WL (m+1) a b k).length) c',bo_ false] 76::bk_ gf uf 4::bk_ g u 4::hs)) Z Z Z Z Tryd.call58 Z (fun w1 hw1=>(turn_ok _ _ _ a b k m p gf cf uf g c u w1 hVa hVb hk3 hlf htf hlu htu hw1).mono fun en w' ⟨g,c',u,h1,h2,h3⟩=>⟨(g,c',u),h1,h2,h3⟩) fun ⟨gt,ct,ut⟩ ⟨hcgt,hlgt,htgt⟩=>?_))))))
  show Ll _ _ (Own _ _ (_::_::_::hs)) _ _ ((8,bo_ (!((WL (m+1) a b k)==(WL m a b k))))::_) _ _ _;refine zI (zD [0,4,5] [_,_,_] Z (zB (zF Z (qR Z Z Z (by omega) (by omega)) (zC 1 Z (zG (qX (m+1,gt,ct,ut) ⟨by omega,hlgt,htgt⟩ (by omega) (Sub.sel [0,4,5] Z) (fun _ h=>h)))))))
 refine yN Z (Kt.end0 Z fun w' hw=>?_)
 obtain rfl:t=m:=by omega
 exact ⟨g,c,u,rfl,⟨hlu,htu⟩,hw⟩
end Go.Proofs.YtagbocafnliabaaDoor
namespace Go.Proofs.YtagbocafnliabaaDoor
open Go.RowKit Go.Wk
set_option linter.unusedSimpArgs false
set_option maxHeartbeats 400000 in
theorem newPeb_yes (a b:St) (xs ys:List Int) (va vb:Value) (w:World) (hsa:a.Small) (hsb:b.Small) (hva:Ints w va xs) (hvb:Ints w vb ys) (hs1:xs.length≤140737488355328) (hs2:ys.length≤140737488355328) (k:Nat) (hk:xs.length=k) (hr:readyB a xs b ys=true) :
    Calls Tryd.prog 57 [vS a,va,vS b,vb].toArray w fun en w'=>∃ (p gf cf:Nat) (uf:Array Value) (gw cw:Nat) (uw:Array Value),en=.returned (.pointer (some ⟨p,0,none⟩))∧(uf.size=cf*1∧(WL 0 a b k).length≤cf∧uf.toList.take (WL 0 a b k).length=bools (WL 0 a b k))∧(uw.size=cw*1∧(WL 0 a b k).length≤cw∧uw.toList.take (WL 0 a b k).length=bools (WL 0 a b k))∧Own w.heap.size w [bk_ p #[i6_ a.n,str a.set,str a.rel,i6_ b.n,str b.set,str b.rel,i6_ (k:Int),i6_ ((prN a b:Nat):Int),sl_ gf ((WL 0 a b k).length) cf,sl_ gw ((WL 0 a b k).length) cw,bo_ false] 76,bk_ gf uf 4,bk_ gw uw 4] w':=by
 refine fnStart (n:=78) (e:=[(0,vS a),(1,va),(2,vS b),(3,vb)]) Tryd.func57 Z Z Z Z Ends.both ?_
 obtain ⟨hVa,hVb,h1,h3,hlen,hx,hy⟩:=ready_peb hr
 rw [hk] at h1 h3
 have hk3:k≤3:=h3
 have ha:=validB_fine hVa
 have hb:=validB_fine hVb
 have hm8:=ha.hi
 have hm1:=ha.lo
 have hb8:=hb.hi
 have hb1:=hb.lo
 have hpr:=prN_le (a:=a) (b:=b) (by omega) (by omega)
 have hpp:=prN_pos a b
 have hprI:((prN a b:Nat):Int)=a.n*b.n+1:=by
  unfold prN;rw [Int.natCast_add,Int.natCast_mul,Int.toNat_of_nonneg (by omega),Int.toNat_of_nonneg (by omega)];rfl
 have hab:0≤a.n*b.n∧a.n*b.n≤64:=by omega
 refine zE (zZ (xC (v:=vS a) Z Z Z Z Z fun p4 hp4=>?_))
 show Ll _ _ (Own _ _ [_]) _ _ ((4,pt_ p4)::_) _ _ _;refine xC (v:=vS b) Z Z Z Z Z fun p6 hp6=>?_
 show Ll _ _ (Own _ _ [_,_]) _ _ ((6,pt_ p6)::_) _ _ _;refine qI 1 Z (zI (zD [1,3,4,6] [_,_,_,_] Z (zE (zE (zB (zF Z (zY (cs:=#[i6_ a.n,str a.set,str a.rel]) 1 Z zP Z Z zM) (zC 1 Z (zF Z (zY (cs:=#[i6_ b.n,str b.set,str b.rel]) 0 Z zP Z Z zM) (zC 1 Z (zF (v:=bo_ true) Z (qN Z Tryd.call95 Z qC (fun w1 hw1=>known_b hr (areReady_ok a b xs ys va vb w1 hsa hsb (Row.own hva hw1) (Row.own hvb hw1) (by first | (simp;done) | (simp;omega) | omega) (by first | (simp;done) | (simp;omega) | omega)))) (zC 1 Z (zG (zD [1,4,6,19] [_,_,_,_] Z (Wk.condF Z (qT (zD [1,4,6] [_,_,_] Z (zE (zZ (zT Z (zY (cs:=#[i6_ a.n,str a.set,str a.rel]) 1 Z zP Z Z zM) (zT Z (zY (cs:=#[i6_ b.n,str b.set,str b.rel]) 0 Z zP Z Z zM) (qI 1 Z (zT (v:=i6_ (k:Int)) Z (qY (by rw [hk]) (yP Z zN Z (ints_length _) (fun w1 hw1=>Row.own hva hw1))) (zT Z (zJ Z zH Z zS Z Z) (zT Z (zQ 1 Z qB Z Z Z) (zT Z (zJ Z zH Z zS Z Z) (zT Z (zQ 0 Z qB Z Z Z) (zT Z (jL Z Z Z (by omega) (by omega)) (zT (v:=i6_ ((prN a b:Nat):Int)) Z (qY (by rw [hprI]) (qR Z Z Z (by omega) (by omega))) (zT (v:=.agg #[i6_ a.n,str a.set,str a.rel,i6_ b.n,str b.set,str b.rel,i6_ (k:Int),i6_ ((prN a b:Nat):Int),.slice none 0 0,.slice none 0 0,bo_ false]) Z (OpQ.build (xs:=[.tmp 20,.tmp 21,.tmp 23,.tmp 29]) (vs:=[vS a,vS b,i6_ (k:Int),i6_ ((prN a b:Nat):Int)]) Z Z (by kernel_rfl)) (xC (v:=.agg #[i6_ a.n,str a.set,str a.rel,i6_ b.n,str b.set,str b.rel,i6_ (k:Int),i6_ ((prN a b:Nat):Int),.slice none 0 0,.slice none 0 0,bo_ false]) Z Z Z Z Z fun p31 hp31=>?_))))))))))))))))))))))))))))))
 show Ll _ _ (Own _ _ [_,_,_]) _ _ ((31,pt_ p31)::_) _ _ _;refine qI 1 Z (zI (zD [1,4,6,9] [_,_,_,_] Z (zE (zB (zC 1 Z (zG (zD [1,4,6,9,10] [_,_,_,_,_] Z (zE (zE (zB (zC 1 Z (zF (v:=i6_ (k:Int)) Z (qY (by rw [hk]) (yP Z zN Z (ints_length _) (fun w1 hw1=>Row.own hva hw1))) (zC 1 Z (zG (zD [4,6,9,10,33,34] [_,_,_,_,_,_] Z (qJ (yR (σ:=Nat) (fun j=>j≤k) (fun j=>[(4,pt_ p4),(6,pt_ p6),(9,pt_ p31),(10,i6_ ((prN a b ^ j:Nat):Int)),(33,i6_ (k:Int)),(34,i6_ (j:Int))]) (fun j=>Own w.heap.size w [bk_ p31 #[i6_ a.n,str a.set,str a.rel,i6_ b.n,str b.set,str b.rel,i6_ (k:Int),i6_ ((prN a b:Nat):Int),.slice none 0 0,.slice none 0 0,bo_ false] 76,bk_ p6 #[i6_ b.n,str b.set,str b.rel] 24,bk_ p4 #[i6_ a.n,str a.set,str a.rel] 24]) (fun j=>k - j) (0) (by omega) (Sub.cons Z (Sub.cons Z (Sub.cons Z (Sub.cons (by rfl) (Sub.sel [33,34] Z))))) (fun _ h=>h) ?_)))))))))))))))))
 rintro j hj;refine zE (zB (zC 1 Z (zG (zD [4,6,9,10,33,34,35] [_,_,_,_,_,_,_] Z (zE (yK (b:=decide ((j:Int)<(k:Int))) Z (fun h35=>?_) (fun h35=>?_)))))))
 ·
  replace h35:=zW h35
  have hjk:j<k:=by omega
  have hpi3:=pow65 hpr (show j+1≤3 by omega)
  have hpm:((prN a b ^ j:Nat):Int)*((prN a b:Nat):Int)=((prN a b ^ (j+1):Nat):Int):=by rw [Nat.pow_succ,Int.natCast_mul]
  refine qT (zD [4,6,9,10,33,34] [_,_,_,_,_,_] Z (zE (qJ (zB (zC 2 Z (zF (v:=pt_ p31) Z (qU Z Z) (zF Z (zJ Z qH Z zS Z Z) (zF Z (zQ 0 Z qB Z Z Z) (zF (v:=i6_ (((prN a b ^ (j+1):Nat):Int))) Z (qY (by rw [hpm]) (jL Z Z Z (by omega) (by omega))) (zC 1 Z (zG (zD [4,6,9,10,33,34] [_,_,_,_,_,_] Z (zB (zF Z (qR Z Z Z (by omega) (by omega)) (zC 1 Z (zG (qX (j+1) (by omega) (by omega) (Sub.cons Z (Sub.cons Z (Sub.cons Z (Sub.cons (by rfl) (Sub.sel [33,34] Z))))) (fun _ h=>h))))))))))))))))))
 replace h35:=zU h35
 obtain rfl:k=j:=by omega
 have hN0:=pow65 hpr hk3;refine yN Z (zD [4,6,9,10] [_,_,_,_] Z (zE (zE (zB (zC 2 Z (zG (zD [4,6,9,43,44] [_,_,_,_,_] Z (qJ (yR (σ:=Nat×OptR) (fun ⟨s,q⟩=>s≤prN a b ^ k∧OptOk ((WL 0 a b k).take s) q) (fun ⟨s,q⟩=>[(4,pt_ p4),(6,pt_ p6),(9,pt_ p31),(43,i6_ ((prN a b ^ k:Nat):Int)),(44,i6_ (s:Int))]) (fun ⟨s,q⟩=>Own w.heap.size w (bk_ p31 #[i6_ a.n,str a.set,str a.rel,i6_ b.n,str b.set,str b.rel,i6_ (k:Int),i6_ ((prN a b:Nat):Int),optV q s,.slice none 0 0,bo_ false] 76::bk_ p6 #[i6_ b.n,str b.set,str b.rel] 24::bk_ p4 #[i6_ a.n,str a.set,str a.rel] 24::(optB 4 q++[]))) (fun ⟨s,q⟩=>prN a b ^ k - s) (0,none) ⟨by omega,by simp [OptOk]⟩ (Sub.sel [4,6,9,43,44] Z) (fun _ h=>h) ?_)))))))))
 rintro ⟨s,q⟩ ⟨hs,hq⟩
 dsimp only
 have hts:((WL 0 a b k).take s).length=s:=by rw [zO,WL_len];omega
 refine zE (zB (zC 1 Z (zG (zD [4,6,9,43,44,45] [_,_,_,_,_,_] Z (zE (yK (b:=decide ((s:Int)<((prN a b ^ k:Nat):Int))) Z (fun h45=>?_) (fun h45=>?_)))))))
 ·
  replace h45:=zW h45
  have hsN:s<prN a b ^ k:=by omega
  have hEa:a.Els (placed (stX a b k s) k):=placed_els (by simp) fun x hx=>by have:=(stX_peb (a:=a) (b:=b) (k:=k) (s:=s)).2 x hx;omega
  have hEb:b.Els (placed (stY a b k s) k):=placed_els (by simp) fun x hx=>by have:=(stY_peb (a:=a) (k:=k) (s:=s) (show 1≤b.n.toNat by omega)).2 x hx;omega
  have hpl:(placed (stX a b k s) k).length=(placed (stY a b k s) k).length:=placed_len _ (st_signs (by omega))
  have hp4:=placed_le (stX a b k s) k;refine qT (zD [4,6,9,43,44] [_,_,_,_,_] Z (zE (qJ (zE (zB (zC 2 Z (zG (zD [4,6,9,11,43,44] [_,_,_,_,_,_] Z (zE (zZ (qI 2 Z (Ll.callRows (xs:=[.tmp 48,.tmp 49]) (m1:=(placed (stX a b k s) k).length) (vs1:=ints (placed (stX a b k s) k)) (el1:=3) (m2:=(placed (stY a b k s) k).length) (vs2:=ints (placed (stY a b k s) k)) (el2:=3) Z Z Z Z Tryd.call96 Z (fun w1 hw1=>listsAt_ok a b k p31 76 (optV q s) (.slice none 0 0) s w1 (hw1.has 0 _ _ Z).2 hVa hVb hk3 (by omega)) fun p50a cap50a cur50a p50b cap50b cur50b hp50a hcp50a hlp50a htp50a hp50b hcp50b hlp50b htp50b=>(qI 1 Z (zT (v:=sl_ p50a ((placed (stX a b k s) k).length) cap50a) Z (jB Z Z Z) (zT (v:=sl_ p50b ((placed (stY a b k s) k).length) cap50b) Z (jB Z Z Z) (qI 2 Z (zI (zD [4,6,9,12,13,43,44] [_,_,_,_,_,_,_] Z (Wk.regionT (S:=Own w.heap.size w [bk_ p50a cur50a 3,bk_ p50b cur50b 3,bk_ p6 #[i6_ b.n,str b.set,str b.rel] 24,bk_ p4 #[i6_ a.n,str a.set,str a.rel] 24]) (.take 0 (.take 1 (.take 5 (.take 6 (.take 7 (.take 8 (.two 2 (.take 3 (.two 4 (.one 9 (.one 10 (.one 11 (.one 12 (.take 13 (.one 14 .done)))))) 9 (.two 4 (.one 10 (.one 11 (.one 12 (.take 13 (.one 14 .done))))) 10 (.one 4 (.one 11 (.one 12 (.take 13 (.one 14 .done)))))))) 9 (.two 2 (.take 3 (.two 4 (.one 10 (.one 11 (.one 12 (.take 13 (.one 14 .done))))) 10 (.one 4 (.one 11 (.one 12 (.take 13 (.one 14 .done))))))) 10 (.one 2 (.take 3 (.one 4 (.one 11 (.one 12 (.take 13 (.one 14 .done))))))))))))))) yH (fun _ h=>h.drawn) (by kernel_rfl) (Lt.run 2 Z (pk [0,1,3,4] Z Z) (xU Z Z Z Z Z (zY (cs:=#[i6_ a.n,str a.set,str a.rel]) 3 Z zP Z Z zM) (pk [0,1,3,4] Z Z) (Lt.run 1 Z (pk [0,1,3,4] Z Z) (xU Z Z Z Z Z (zY (cs:=#[i6_ b.n,str b.set,str b.rel]) 2 Z zP Z Z zM) (pk [0,1,3,4] Z Z) (Lt.run 1 Z (pk [0,1,3,4] Z Z) (Lt.two Z Z ?_ ?_)))))))))))))))))))))))))
  ·
   refine zT (v:=pt_ p31) Z (qU Z Z) (zI (yF (pk [0,1,3,4] Z Z) ?_));refine xU Z Z Z Z Z (zJ Z qH Z yQ Z Z) (pk [0,1,3,4] Z Z) (Lt.two Z Z ?_ ?_)
   ·
    refine zT Z (zQ 2 Z jC Z Z Z) (zI (yF (pk [0,1,3,4] Z Z) ?_));refine yZ Z (zT (v:=bo_ (sameB a (placed (stX a b k s) k) b (placed (stY a b k s) k))) Z (qN Z Tryd.call79 Z qC (fun w1 hw1=>sameWay_ok a b (placed (stX a b k s) k) (placed (stY a b k s) k) (sl_ p50a ((placed (stX a b k s) k).length) cap50a) (sl_ p50b ((placed (stY a b k s) k).length) cap50b) w1 ha hb (yC hw1 (i:=0) Z (by simpa using htp50a) (by simp) hlp50a) (yC hw1 (i:=1) Z (by simpa using htp50b) (by simp) hlp50b) hEa hEb hpl (by omega))) (zI (yF (pk [0,1,3,4] Z Z) ?_)));refine yZ Z (yD (xs:=[.tmp 62]) (vs:=[bo_ (sameB a (placed (stX a b k s) k) b (placed (stY a b k s) k))]) yT Z Z Z Z Z Z (by decide) Z fun p63 hp63=>(zI (yF (pk [1,2,4,5] Z Z) ?_)));refine yZ Z (Ll.appendOpt (m:=s) (bs:=(WL 0 a b k).take s) hts yT [bk_ p63 #[bo_ (sameB a (placed (stX a b k s) k) b (placed (stY a b k s) k))] 4,bk_ p50a cur50a 3,bk_ p50b cur50b 3,bk_ p31 #[i6_ a.n,str a.set,str a.rel,i6_ b.n,str b.set,str b.rel,i6_ (k:Int),i6_ ((prN a b:Nat):Int),optV q s,.slice none 0 0,bo_ false] 76,bk_ p6 #[i6_ b.n,str b.set,str b.rel] 24,bk_ p4 #[i6_ a.n,str a.set,str a.rel] 24] [] 0 hq Z Z Z Z Z Z Z (by omega) fun gq cq uq _ hQgq=>?_)
    show Ll _ _ (Own _ _ (_::_::_::_::_::_::((optB 4 (some (gq,cq,uq))++[])))) _ _ ((64,sl_ gq (s+1) cq)::_) _ _ _;refine zI (yF (pk [1,2,4,5] Z Z) ?_);refine yZ Z (zT (v:=pt_ p31) Z (qU Z Z) (zI (yF (pk [1,2,4,5] Z Z) ?_)));refine xU Z Z Z Z Z (zJ Z qH Z yQ Z Z) (pk [1,2,4,5] Z Z) (yZ Z (qV (v:=sl_ gq (s+1) cq) (hs':=(_::_::_::bk_ p31 #[i6_ a.n,str a.set,str a.rel,i6_ b.n,str b.set,str b.rel,i6_ (k:Int),i6_ ((prN a b:Nat):Int),sl_ gq (s+1) cq,.slice none 0 0,bo_ false] 76::_::_::((optB 4 (some (gq,cq,uq))++[])))) 3 Z Z Z Z Z Z yQ Z (by simp) Z (zI (yF (pk [1,2,4,5] Z Z) ?_))));refine Lt.nil (zD [4,6,9,43,44] [_,_,_,_,_] Z (zB (zF Z (qR Z Z Z (by omega) (by omega)) (zC 1 Z (zG (qX (s+1,some (gq,cq,uq)) ⟨by omega,by rw [fit_next (by omega) hsN];exact hQgq⟩ (by omega) (Sub.sel [4,6,9,43,44] Z) (fun _ h=>jQ (hs:=[_,_,_,_,_,_]) (hs':=[_,_,_]) (tl:=optB 4 (some (gq,cq,uq))++[]) h [3,4,5] Z (by decide))))))))
   refine zT (v:=bo_ (sameB a (placed (stX a b k s) k) b (placed (stY a b k s) k))) Z (qN Z Tryd.call79 Z qC (fun w1 hw1=>sameWay_ok a b (placed (stX a b k s) k) (placed (stY a b k s) k) (sl_ p50a ((placed (stX a b k s) k).length) cap50a) (sl_ p50b ((placed (stY a b k s) k).length) cap50b) w1 ha hb (yC hw1 (i:=0) Z (by simpa using htp50a) (by simp) hlp50a) (yC hw1 (i:=1) Z (by simpa using htp50b) (by simp) hlp50b) hEa hEb hpl (by omega))) (zI (yF (pk [0,1,3,4] Z Z) ?_));refine Lt.two Z Z ?_ ?_
   ·
    refine zT Z (zQ 2 Z jC Z Z Z) (zI (yF (pk [0,1,3,4] Z Z) ?_));refine yZ Z (yD (xs:=[.tmp 62]) (vs:=[bo_ (sameB a (placed (stX a b k s) k) b (placed (stY a b k s) k))]) yT Z Z Z Z Z Z (by decide) Z fun p63_1 hp63_1=>(zI (yF (pk [1,2,4,5] Z Z) ?_)));refine yZ Z (Ll.appendOpt (m:=s) (bs:=(WL 0 a b k).take s) hts yT [bk_ p63_1 #[bo_ (sameB a (placed (stX a b k s) k) b (placed (stY a b k s) k))] 4,bk_ p50a cur50a 3,bk_ p50b cur50b 3,bk_ p31 #[i6_ a.n,str a.set,str a.rel,i6_ b.n,str b.set,str b.rel,i6_ (k:Int),i6_ ((prN a b:Nat):Int),optV q s,.slice none 0 0,bo_ false] 76,bk_ p6 #[i6_ b.n,str b.set,str b.rel] 24,bk_ p4 #[i6_ a.n,str a.set,str a.rel] 24] [] 0 hq Z Z Z Z Z Z Z (by omega) fun gq_1 cq_1 uq_1 _ hQgq_1=>?_)
    show Ll _ _ (Own _ _ (_::_::_::_::_::_::((optB 4 (some (gq_1,cq_1,uq_1))++[])))) _ _ ((64,sl_ gq_1 (s+1) cq_1)::_) _ _ _;refine zI (yF (pk [1,2,4,5] Z Z) ?_);refine yZ Z (zT (v:=pt_ p31) Z (qU Z Z) (zI (yF (pk [1,2,4,5] Z Z) ?_)));refine xU Z Z Z Z Z (zJ Z qH Z yQ Z Z) (pk [1,2,4,5] Z Z) (yZ Z (qV (v:=sl_ gq_1 (s+1) cq_1) (hs':=(_::_::_::bk_ p31 #[i6_ a.n,str a.set,str a.rel,i6_ b.n,str b.set,str b.rel,i6_ (k:Int),i6_ ((prN a b:Nat):Int),sl_ gq_1 (s+1) cq_1,.slice none 0 0,bo_ false] 76::_::_::((optB 4 (some (gq_1,cq_1,uq_1))++[])))) 3 Z Z Z Z Z Z yQ Z (by simp) Z (zI (yF (pk [1,2,4,5] Z Z) ?_))));refine Lt.nil (zD [4,6,9,43,44] [_,_,_,_,_] Z (zB (zF Z (qR Z Z Z (by omega) (by omega)) (zC 1 Z (zG (qX (s+1,some (gq_1,cq_1,uq_1)) ⟨by omega,by rw [fit_next (by omega) hsN];exact hQgq_1⟩ (by omega) (Sub.sel [4,6,9,43,44] Z) (fun _ h=>jQ (hs:=[_,_,_,_,_,_]) (hs':=[_,_,_]) (tl:=optB 4 (some (gq_1,cq_1,uq_1))++[]) h [3,4,5] Z (by decide))))))))
   refine yD (xs:=[.tmp 62]) (vs:=[bo_ (sameB a (placed (stX a b k s) k) b (placed (stY a b k s) k))]) yT Z Z Z Z Z Z (by decide) Z fun p63_2 hp63_2=>(zI (yF (pk [1,2,4,5] Z Z) ?_));refine yZ Z (zT Z (zQ 3 Z jC Z Z Z) (zI (yF (pk [1,2,4,5] Z Z) ?_)));refine yZ Z (Ll.appendOpt (m:=s) (bs:=(WL 0 a b k).take s) hts yT [bk_ p63_2 #[bo_ (sameB a (placed (stX a b k s) k) b (placed (stY a b k s) k))] 4,bk_ p50a cur50a 3,bk_ p50b cur50b 3,bk_ p31 #[i6_ a.n,str a.set,str a.rel,i6_ b.n,str b.set,str b.rel,i6_ (k:Int),i6_ ((prN a b:Nat):Int),optV q s,.slice none 0 0,bo_ false] 76,bk_ p6 #[i6_ b.n,str b.set,str b.rel] 24,bk_ p4 #[i6_ a.n,str a.set,str a.rel] 24] [] 0 hq Z Z Z Z Z Z Z (by omega) fun gq_2 cq_2 uq_2 _ hQgq_2=>?_)
   show Ll _ _ (Own _ _ (_::_::_::_::_::_::((optB 4 (some (gq_2,cq_2,uq_2))++[])))) _ _ ((64,sl_ gq_2 (s+1) cq_2)::_) _ _ _;refine zI (yF (pk [1,2,4,5] Z Z) ?_);refine yZ Z (zT (v:=pt_ p31) Z (qU Z Z) (zI (yF (pk [1,2,4,5] Z Z) ?_)));refine xU Z Z Z Z Z (zJ Z qH Z yQ Z Z) (pk [1,2,4,5] Z Z) (yZ Z (qV (v:=sl_ gq_2 (s+1) cq_2) (hs':=(_::_::_::bk_ p31 #[i6_ a.n,str a.set,str a.rel,i6_ b.n,str b.set,str b.rel,i6_ (k:Int),i6_ ((prN a b:Nat):Int),sl_ gq_2 (s+1) cq_2,.slice none 0 0,bo_ false] 76::_::_::((optB 4 (some (gq_2,cq_2,uq_2))++[])))) 3 Z Z Z Z Z Z yQ Z (by simp) Z (zI (yF (pk [1,2,4,5] Z Z) ?_))));refine Lt.nil (zD [4,6,9,43,44] [_,_,_,_,_] Z (zB (zF Z (qR Z Z Z (by omega) (by omega)) (zC 1 Z (zG (qX (s+1,some (gq_2,cq_2,uq_2)) ⟨by omega,by rw [fit_next (by omega) hsN];exact hQgq_2⟩ (by omega) (Sub.sel [4,6,9,43,44] Z) (fun _ h=>jQ (hs:=[_,_,_,_,_,_]) (hs':=[_,_,_]) (tl:=optB 4 (some (gq_2,cq_2,uq_2))++[]) h [3,4,5] Z (by decide))))))))
  refine zT (v:=bo_ (sameB a (placed (stX a b k s) k) b (placed (stY a b k s) k))) Z (qN Z Tryd.call79 Z qC (fun w1 hw1=>sameWay_ok a b (placed (stX a b k s) k) (placed (stY a b k s) k) (sl_ p50a ((placed (stX a b k s) k).length) cap50a) (sl_ p50b ((placed (stY a b k s) k).length) cap50b) w1 ha hb (yC hw1 (i:=0) Z (by simpa using htp50a) (by simp) hlp50a) (yC hw1 (i:=1) Z (by simpa using htp50b) (by simp) hlp50b) hEa hEb hpl (by omega))) (zI (yF (pk [0,1,3,4] Z Z) ?_));refine Lt.two Z Z ?_ ?_
  ·
   refine zT (v:=pt_ p31) Z (qU Z Z) (zI (yF (pk [0,1,3,4] Z Z) ?_));refine xU Z Z Z Z Z (zJ Z qH Z yQ Z Z) (pk [0,1,3,4] Z Z) (Lt.two Z Z ?_ ?_)
   ·
    refine zT Z (zQ 2 Z jC Z Z Z) (zI (yF (pk [0,1,3,4] Z Z) ?_));refine yZ Z (yD (xs:=[.tmp 62]) (vs:=[bo_ (sameB a (placed (stX a b k s) k) b (placed (stY a b k s) k))]) yT Z Z Z Z Z Z (by decide) Z fun p63_3 hp63_3=>(zI (yF (pk [1,2,4,5] Z Z) ?_)));refine yZ Z (Ll.appendOpt (m:=s) (bs:=(WL 0 a b k).take s) hts yT [bk_ p63_3 #[bo_ (sameB a (placed (stX a b k s) k) b (placed (stY a b k s) k))] 4,bk_ p50a cur50a 3,bk_ p50b cur50b 3,bk_ p31 #[i6_ a.n,str a.set,str a.rel,i6_ b.n,str b.set,str b.rel,i6_ (k:Int),i6_ ((prN a b:Nat):Int),optV q s,.slice none 0 0,bo_ false] 76,bk_ p6 #[i6_ b.n,str b.set,str b.rel] 24,bk_ p4 #[i6_ a.n,str a.set,str a.rel] 24] [] 0 hq Z Z Z Z Z Z Z (by omega) fun gq_3 cq_3 uq_3 _ hQgq_3=>?_)
    show Ll _ _ (Own _ _ (_::_::_::_::_::_::((optB 4 (some (gq_3,cq_3,uq_3))++[])))) _ _ ((64,sl_ gq_3 (s+1) cq_3)::_) _ _ _;refine zI (yF (pk [1,2,4,5] Z Z) ?_);refine yZ Z (zT (v:=pt_ p31) Z (qU Z Z) (zI (yF (pk [1,2,4,5] Z Z) ?_)));refine xU Z Z Z Z Z (zJ Z qH Z yQ Z Z) (pk [1,2,4,5] Z Z) (yZ Z (qV (v:=sl_ gq_3 (s+1) cq_3) (hs':=(_::_::_::bk_ p31 #[i6_ a.n,str a.set,str a.rel,i6_ b.n,str b.set,str b.rel,i6_ (k:Int),i6_ ((prN a b:Nat):Int),sl_ gq_3 (s+1) cq_3,.slice none 0 0,bo_ false] 76::_::_::((optB 4 (some (gq_3,cq_3,uq_3))++[])))) 3 Z Z Z Z Z Z yQ Z (by simp) Z (zI (yF (pk [1,2,4,5] Z Z) ?_))));refine Lt.nil (zD [4,6,9,43,44] [_,_,_,_,_] Z (zB (zF Z (qR Z Z Z (by omega) (by omega)) (zC 1 Z (zG (qX (s+1,some (gq_3,cq_3,uq_3)) ⟨by omega,by rw [fit_next (by omega) hsN];exact hQgq_3⟩ (by omega) (Sub.sel [4,6,9,43,44] Z) (fun _ h=>jQ (hs:=[_,_,_,_,_,_]) (hs':=[_,_,_]) (tl:=optB 4 (some (gq_3,cq_3,uq_3))++[]) h [3,4,5] Z (by decide))))))))
   refine yD (xs:=[.tmp 62]) (vs:=[bo_ (sameB a (placed (stX a b k s) k) b (placed (stY a b k s) k))]) yT Z Z Z Z Z Z (by decide) Z fun p63_4 hp63_4=>(zI (yF (pk [1,2,4,5] Z Z) ?_));refine yZ Z (zT Z (zQ 3 Z jC Z Z Z) (zI (yF (pk [1,2,4,5] Z Z) ?_)));refine yZ Z (Ll.appendOpt (m:=s) (bs:=(WL 0 a b k).take s) hts yT [bk_ p63_4 #[bo_ (sameB a (placed (stX a b k s) k) b (placed (stY a b k s) k))] 4,bk_ p50a cur50a 3,bk_ p50b cur50b 3,bk_ p31 #[i6_ a.n,str a.set,str a.rel,i6_ b.n,str b.set,str b.rel,i6_ (k:Int),i6_ ((prN a b:Nat):Int),optV q s,.slice none 0 0,bo_ false] 76,bk_ p6 #[i6_ b.n,str b.set,str b.rel] 24,bk_ p4 #[i6_ a.n,str a.set,str a.rel] 24] [] 0 hq Z Z Z Z Z Z Z (by omega) fun gq_4 cq_4 uq_4 _ hQgq_4=>?_)
   show Ll _ _ (Own _ _ (_::_::_::_::_::_::((optB 4 (some (gq_4,cq_4,uq_4))++[])))) _ _ ((64,sl_ gq_4 (s+1) cq_4)::_) _ _ _;refine zI (yF (pk [1,2,4,5] Z Z) ?_);refine yZ Z (zT (v:=pt_ p31) Z (qU Z Z) (zI (yF (pk [1,2,4,5] Z Z) ?_)));refine xU Z Z Z Z Z (zJ Z qH Z yQ Z Z) (pk [1,2,4,5] Z Z) (yZ Z (qV (v:=sl_ gq_4 (s+1) cq_4) (hs':=(_::_::_::bk_ p31 #[i6_ a.n,str a.set,str a.rel,i6_ b.n,str b.set,str b.rel,i6_ (k:Int),i6_ ((prN a b:Nat):Int),sl_ gq_4 (s+1) cq_4,.slice none 0 0,bo_ false] 76::_::_::((optB 4 (some (gq_4,cq_4,uq_4))++[])))) 3 Z Z Z Z Z Z yQ Z (by simp) Z (zI (yF (pk [1,2,4,5] Z Z) ?_))));refine Lt.nil (zD [4,6,9,43,44] [_,_,_,_,_] Z (zB (zF Z (qR Z Z Z (by omega) (by omega)) (zC 1 Z (zG (qX (s+1,some (gq_4,cq_4,uq_4)) ⟨by omega,by rw [fit_next (by omega) hsN];exact hQgq_4⟩ (by omega) (Sub.sel [4,6,9,43,44] Z) (fun _ h=>jQ (hs:=[_,_,_,_,_,_]) (hs':=[_,_,_]) (tl:=optB 4 (some (gq_4,cq_4,uq_4))++[]) h [3,4,5] Z (by decide))))))))
  refine yD (xs:=[.tmp 62]) (vs:=[bo_ (sameB a (placed (stX a b k s) k) b (placed (stY a b k s) k))]) yT Z Z Z Z Z Z (by decide) Z fun p63_5 hp63_5=>(zI (yF (pk [1,2,4,5] Z Z) ?_));refine yZ Z (zT (v:=pt_ p31) Z (qU Z Z) (zI (yF (pk [1,2,4,5] Z Z) ?_)));refine xU Z Z Z Z Z (zJ Z qH Z yQ Z Z) (pk [1,2,4,5] Z Z) (yZ Z (zT Z (zQ 3 Z jC Z Z Z) (zI (yF (pk [1,2,4,5] Z Z) ?_))));refine yZ Z (Ll.appendOpt (m:=s) (bs:=(WL 0 a b k).take s) hts yT [bk_ p63_5 #[bo_ (sameB a (placed (stX a b k s) k) b (placed (stY a b k s) k))] 4,bk_ p50a cur50a 3,bk_ p50b cur50b 3,bk_ p31 #[i6_ a.n,str a.set,str a.rel,i6_ b.n,str b.set,str b.rel,i6_ (k:Int),i6_ ((prN a b:Nat):Int),optV q s,.slice none 0 0,bo_ false] 76,bk_ p6 #[i6_ b.n,str b.set,str b.rel] 24,bk_ p4 #[i6_ a.n,str a.set,str a.rel] 24] [] 0 hq Z Z Z Z Z Z Z (by omega) fun gq_5 cq_5 uq_5 _ hQgq_5=>?_)
  show Ll _ _ (Own _ _ (_::_::_::_::_::_::((optB 4 (some (gq_5,cq_5,uq_5))++[])))) _ _ ((64,sl_ gq_5 (s+1) cq_5)::_) _ _ _;refine zI (yF (pk [1,2,4,5] Z Z) ?_);refine yZ Z (zT (v:=pt_ p31) Z (qU Z Z) (zI (yF (pk [1,2,4,5] Z Z) ?_)));refine xU Z Z Z Z Z (zJ Z qH Z yQ Z Z) (pk [1,2,4,5] Z Z) (yZ Z (qV (v:=sl_ gq_5 (s+1) cq_5) (hs':=(_::_::_::bk_ p31 #[i6_ a.n,str a.set,str a.rel,i6_ b.n,str b.set,str b.rel,i6_ (k:Int),i6_ ((prN a b:Nat):Int),sl_ gq_5 (s+1) cq_5,.slice none 0 0,bo_ false] 76::_::_::((optB 4 (some (gq_5,cq_5,uq_5))++[])))) 3 Z Z Z Z Z Z yQ Z (by simp) Z (zI (yF (pk [1,2,4,5] Z Z) ?_))));refine Lt.nil (zD [4,6,9,43,44] [_,_,_,_,_] Z (zB (zF Z (qR Z Z Z (by omega) (by omega)) (zC 1 Z (zG (qX (s+1,some (gq_5,cq_5,uq_5)) ⟨by omega,by rw [fit_next (by omega) hsN];exact hQgq_5⟩ (by omega) (Sub.sel [4,6,9,43,44] Z) (fun _ h=>jQ (hs:=[_,_,_,_,_,_]) (hs':=[_,_,_]) (tl:=optB 4 (some (gq_5,cq_5,uq_5))++[]) h [3,4,5] Z (by decide))))))))
 replace h45:=zU h45
 have hsN:s=prN a b ^ k:=by omega
 have hWl:(WL 0 a b k).length=prN a b ^ k:=WL_len _ _ _ _
 have hNp:0<prN a b ^ k:=Nat.pow_pos hpp
 have hN0:=pow65 hpr hk3
 rw [List.take_of_length_le (by omega)] at hq
 obtain ⟨gf,cf,uf,hqe,hcf,hlf,htf⟩:=opt_some hq (by omega)
 subst hqe
 show Wk _ _ (Own _ _ [bk_ p31 #[i6_ a.n,str a.set,str a.rel,i6_ b.n,str b.set,str b.rel,i6_ (k:Int),i6_ ((prN a b:Nat):Int),sl_ gf s cf,.slice none 0 0,bo_ false] 76,bk_ p6 #[i6_ b.n,str b.set,str b.rel] 24,bk_ p4 #[i6_ a.n,str a.set,str a.rel] 24,bk_ gf uf 4]) _ _ _ _ _;refine yN Z (zD [9] [_] Z (zE (zZ (qI 1 Z (yD (xs:=[]) (vs:=[]) yT Z Z Z Z Z Z (by decide) Z fun p69 hp69=>(qI 1 Z (zT (v:=pt_ p31) Z (qU Z Z) (zT Z (zJ Z qH Z yQ Z Z) (zT Z (zQ 1 Z jC Z Z Z) (Ll.appendBools (xs:=([]:List Bool)) (ys:=(WL 0 a b k)) yT 0 Z Z Z Z Z Z Z Z (by decide) Z (fun w1 hw1=>(yC hw1 (i:=4) Z (by rw [hsN,← hWl];exact htf) (by rw [bools_length,hWl,hsN]) (by omega))) ((WL 0 a b k).length) (by first | (simp;done) | (simp;omega)) (by first | (simp;done) | (simp;omega) | omega) fun p74 cap74 cur74 hp74 hcp74 hlp74 htp74=>?_))))))))))
 show Ll _ _ (Own _ _ [_,_,_,_,_]) _ _ ((74,sl_ p74 ((WL 0 a b k).length) cap74)::_) _ _ _;refine zT (v:=pt_ p31) Z (qU Z Z) (zT Z (zJ Z qH Z yQ Z Z) (qV (v:=sl_ p74 ((WL 0 a b k).length) cap74) (hs':=[_,bk_ p31 #[i6_ a.n,str a.set,str a.rel,i6_ b.n,str b.set,str b.rel,i6_ (k:Int),i6_ ((prN a b:Nat):Int),sl_ gf s cf,sl_ p74 ((WL 0 a b k).length) cap74,bo_ false] 76,_,_,_]) 1 Z Z Z Z Z Z yQ Z (by simp) Z (zI (zD [9] [_] Z (zE (zB (zC 2 Z (zG (zD [8] [_] Z (qQ (qO Z Z fun w' hw=>?_)))))))))))
 rw [hsN,← hWl] at hw
 exact ⟨p31,gf,cf,uf,p74,cap74,cur74,rfl,⟨hcf,hlf,htf⟩,⟨by simpa using hcp74,by simpa using hlp74,by simpa using htp74⟩,hw.pick [1,4,0] rfl (by decide)⟩
set_option maxHeartbeats 400000 in
theorem newPeb_no (a b:St) (xs ys:List Int) (va vb:Value) (w:World) (hsa:a.Small) (hsb:b.Small) (hva:Ints w va xs) (hvb:Ints w vb ys) (hs1:xs.length≤140737488355328) (hs2:ys.length≤140737488355328) (hr:readyB a xs b ys=false) :
    Calls Tryd.prog 57 [vS a,va,vS b,vb].toArray w fun en w'=>en=.returned (.pointer none)∧Below w.heap.size w w':=by
 refine fnStart (n:=78) (e:=[(0,vS a),(1,va),(2,vS b),(3,vb)]) Tryd.func57 Z Z Z Z Ends.both (zE (zZ (xC (v:=vS a) Z Z Z Z Z fun p4 hp4=>?_)))
 show Ll _ _ (Own _ _ [_]) _ _ ((4,pt_ p4)::_) _ _ _;refine xC (v:=vS b) Z Z Z Z Z fun p6 hp6=>?_
 show Ll _ _ (Own _ _ [_,_]) _ _ ((6,pt_ p6)::_) _ _ _;refine qI 1 Z (zI (zD [1,3,4,6] [_,_,_,_] Z (zE (zE (zB (zF Z (zY (cs:=#[i6_ a.n,str a.set,str a.rel]) 1 Z zP Z Z zM) (zC 1 Z (zF Z (zY (cs:=#[i6_ b.n,str b.set,str b.rel]) 0 Z zP Z Z zM) (zC 1 Z (zF (v:=bo_ false) Z (qN Z Tryd.call95 Z qC (fun w1 hw1=>known_b hr (areReady_ok a b xs ys va vb w1 hsa hsb (Row.own hva hw1) (Row.own hvb hw1) (by first | (simp;done) | (simp;omega) | omega) (by first | (simp;done) | (simp;omega) | omega)))) (zC 1 Z (zG (zD [1,4,6,19] [_,_,_,_] Z (xY Z (zE (zB (zC 1 Z (zG (zD [8] [_] Z (qQ (qO Z Z fun w' hw=>?_)))))))))))))))))))))
 exact ⟨rfl,hw.below⟩
set_option maxHeartbeats 400000 in
theorem iPWin_yes (a b:St) (xs ys:List Int) (va vb:Value) (w:World) (hsa:a.Small) (hsb:b.Small) (hva:Ints w va xs) (hvb:Ints w vb ys) (hs1:xs.length≤140737488355328) (hs2:ys.length≤140737488355328) (t:Int) (k:Nat) (hk:xs.length=k) (hr:readyB a xs b ys=true) :
    Calls Tryd.prog 22 [vS a,va,vS b,vb,i6_ t].toArray w fun en w'=>en=.returned (.bool (pebWinB a xs b ys t))∧Below w.heap.size w w':=by
 refine fnStart (n:=40) (e:=[(0,vS a),(1,va),(2,vS b),(3,vb),(4,i6_ t)]) Tryd.func22 Z Z Z Z Ends.both ?_
 obtain ⟨hVa,hVb,h1,h3,hlen,hx,hy⟩:=ready_peb hr
 have hsg:=signsB_true (readyB_true hr).2.2.2
 have hst:=(ready_state hr).1
 unfold stN at hst
 rw [hk] at h1 h3 hx hy hsg hst
 have hk3:k≤3:=h3
 have ha:=validB_fine hVa
 have hb:=validB_fine hVb
 have hm8:=ha.hi
 have hm1:=ha.lo
 have hb8:=hb.hi
 have hb1:=hb.lo
 have hpr:=prN_le (a:=a) (b:=b) (by omega) (by omega)
 have hpp:=prN_pos a b;refine zE (zZ (xC (v:=vS a) Z Z Z Z Z fun p5 hp5=>?_))
 show Ll _ _ (Own _ _ [_]) _ _ ((5,pt_ p5)::_) _ _ _;refine xC (v:=vS b) Z Z Z Z Z fun p7 hp7=>?_
 show Ll _ _ (Own _ _ [_,_]) _ _ ((7,pt_ p7)::_) _ _ _;refine qI 1 Z (zI (zD [1,3,4,5,7] [_,_,_,_,_] Z (zE (zZ (zT Z (zY (cs:=#[i6_ a.n,str a.set,str a.rel]) 1 Z zP Z Z zM) (qI 1 Z (zT Z (zY (cs:=#[i6_ b.n,str b.set,str b.rel]) 0 Z zP Z Z zM) (qI 1 Z (Ll.callNew (σ:=Nat×Nat×Nat×Array Value×Nat×Nat×Array Value) (ok:=fun (p,gf,cf,uf,gw,cw,uw)=>(uf.size=cf*1∧(WL 0 a b k).length≤cf∧uf.toList.take (WL 0 a b k).length=bools (WL 0 a b k))∧(uw.size=cw*1∧(WL 0 a b k).length≤cw∧uw.toList.take (WL 0 a b k).length=bools (WL 0 a b k))) (v:=fun (p,gf,cf,uf,gw,cw,uw)=>.pointer (some ⟨p,0,none⟩)) (new:=fun (p,gf,cf,uf,gw,cw,uw)=>[bk_ p #[i6_ a.n,str a.set,str a.rel,i6_ b.n,str b.set,str b.rel,i6_ (k:Int),i6_ ((prN a b:Nat):Int),sl_ gf ((WL 0 a b k).length) cf,sl_ gw ((WL 0 a b k).length) cw,bo_ false] 76,bk_ gf uf 4,bk_ gw uw 4]) (hs:=[bk_ p7 #[i6_ b.n,str b.set,str b.rel] 24,bk_ p5 #[i6_ a.n,str a.set,str a.rel] 24]) (xs:=[.tmp 12,.tmp 13,.tmp 14,.tmp 15]) (vs:=[vS a,va,vS b,vb]) Z Z Z Z Tryd.call57 Z (fun w1 hw1=>(newPeb_yes a b xs ys va vb w1 hsa hsb (Row.own hva hw1) (Row.own hvb hw1) (by first | (simp;done) | (simp;omega) | omega) (by first | (simp;done) | (simp;omega) | omega) k hk hr).mono fun en w' ⟨p,gf,cf,uf,gw,cw,uw,h1,h2,h3,h4⟩=>⟨(p,gf,cf,uf,gw,cw,uw),h1,⟨h2,h3⟩,hw1.merge h4⟩) fun ⟨p,gf,cf,uf,gw,cw,uw⟩ ⟨⟨hcf,hlf,htf⟩,⟨hcw,hlw,htw⟩⟩=>?_)))))))))
 show Ll _ _ (Own _ _ [_,_,_,_,_]) _ _ ((16,pt_ p)::_) _ _ _;refine qI 1 Z (zI (zD [1,3,4,11] [_,_,_,_] Z (zE (zE (zB (zC 1 Z (zF (v:=bo_ false) Z (OpQ.eqNilP (p:=some ⟨p,0,none⟩) Z Tryd.underlying71 Z Z) (zC 5 Z (yX fun b23 hg23=>?_)))))))))
 cases b23
 ·
  replace hg23:=zU hg23;refine zC 3 Z (zG (zD [1,3,4,11,26] [_,_,_,_,_] Z (yK (b:=decide ((4:Int)<t)) Z (fun h26=>?_) (fun h26=>?_))))
  ·
   replace h26:=zW h26;refine zE (zB (zC 1 Z (zG (zD [10] [_] Z (qQ (qO Z Z fun w' hw=>?_))))))
   exact ⟨ret_b (by unfold pebWinB inB;rw [hr];simp;omega),hw.below⟩
  replace h26:=zU h26
  obtain ⟨n,rfl⟩:∃ n:Nat,t=(n:Int):=⟨t.toNat,by omega⟩
  have hWt:(WL n a b k).length=prN a b ^ k:=WL_len _ _ _ _;refine qT (zD [1,3,4,11] [_,_,_,_] Z (zE (zZ (qI 2 Z (jI (σ:=Nat×Nat×Array Value) (ok:=fun (g,c,u)=>(WL n a b k).length≤c∧u.toList.take (WL n a b k).length=bools (WL n a b k)) (v:=fun _=>.tuple #[]) (xs:=[.tmp 27,.tmp 28]) (vs:=[pt_ p,i6_ (n:Int)]) (hs':=fun (g,c,u)=>[bk_ p #[i6_ a.n,str a.set,str a.rel,i6_ b.n,str b.set,str b.rel,i6_ (k:Int),i6_ ((prN a b:Nat):Int),sl_ gf ((WL 0 a b k).length) cf,sl_ g ((WL n a b k).length) c,bo_ false] 76,bk_ gf uf 4,bk_ g u 4]++[bk_ p7 #[i6_ b.n,str b.set,str b.rel] 24,bk_ p5 #[i6_ a.n,str a.set,str a.rel] 24]) Z Z Z Z Tryd.call60 Z (fun w1 hw1=>(play_ok _ _ [bk_ p7 #[i6_ b.n,str b.set,str b.rel] 24,bk_ p5 #[i6_ a.n,str a.set,str a.rel] 24] a b k n p gf cf uf gw cw uw w1 hVa hVb hk3 (by omega) hlf htf hlw htw hw1).mono fun en w' ⟨g,c,u,h1,h2,h3⟩=>⟨(g,c,u),h1,h2,h3⟩) fun ⟨gt,ct,ut⟩ ⟨hlt,htt⟩=>?_)))))
  show Ll _ _ (Own _ _ [_,_,_,_,_]) _ _ ((29,.tuple #[])::_) _ _ _;refine zI (zD [1,3,11] [_,_,_] Z (zE (xV yH (fun _ h=>h.drawn) (by kernel_rfl) (zC 1 Z (zF (v:=pt_ p) Z (qU Z Z) (zF Z (zJ Z qH Z yQ Z Z) (zF Z (zQ 0 Z jC Z Z Z) (zC 3 Z (zF (v:=i6_ (((stU b.n.toNat (prN a b) xs ys k k:Nat):Int))) Z (qN Z Tryd.call61 Z qC (fun w1 hw1=>stateOf_ok a b k p 76 (sl_ gf ((WL 0 a b k).length) cf) (sl_ gt ((WL n a b k).length) ct) va vb xs ys w1 (hw1.has 0 _ _ Z).2 (Row.own hva hw1) (Row.own hvb hw1) hVa hVb hk3 hx hy hsg)) (zF (v:=pf_ gt ((((stU b.n.toNat (prN a b) xs ys k k:Nat):Int)).toNat)) Z (qY (by rw [Nat.zero_add]) (yB (i:=((stU b.n.toNat (prN a b) xs ys k k:Nat):Int)) Z yM xX Z Z (by omega) (by omega))) (zF (v:=bo_ ((WL n a b k).getD ((((stU b.n.toNat (prN a b) xs ys k k:Nat):Int)).toNat) false)) Z (xE 2 Z vE Z Z (cur_at htt (bools_at (c:=(WL n a b k)) (off:=(((stU b.n.toNat (prN a b) xs ys k k:Nat):Int)).toNat) (by first | (simp;done) | (simp;omega) | omega)))) (zC 1 Z (zG (zD [10] [_] Z (qQ (qO Z Z fun w' hw=>?_))))))))))))))))
  subst hk
  exact ⟨ret_b (win_code (t:=(n:Int)) hr (by omega) (by omega)),hw.below⟩
 replace hg23:=zW hg23;refine zK Z (zK Z (zC 1 Z (zG (zD [1,3,4,11,26] [_,_,_,_,_] Z (xY Z (zE (zB (zC 1 Z (zG (zD [10] [_] Z (qQ (qO Z Z fun w' hw=>?_))))))))))))
 exact ⟨ret_b (by unfold pebWinB inB;rw [hr];simp;omega),hw.below⟩
set_option maxHeartbeats 400000 in
theorem iPWin_no (a b:St) (xs ys:List Int) (va vb:Value) (w:World) (hsa:a.Small) (hsb:b.Small) (hva:Ints w va xs) (hvb:Ints w vb ys) (hs1:xs.length≤140737488355328) (hs2:ys.length≤140737488355328) (t:Int) (hr:readyB a xs b ys=false) :
    Calls Tryd.prog 22 [vS a,va,vS b,vb,i6_ t].toArray w fun en w'=>en=.returned (.bool (pebWinB a xs b ys t))∧Below w.heap.size w w':=by
 refine fnStart (n:=40) (e:=[(0,vS a),(1,va),(2,vS b),(3,vb),(4,i6_ t)]) Tryd.func22 Z Z Z Z Ends.both (zE (zZ (xC (v:=vS a) Z Z Z Z Z fun p5 hp5=>?_)))
 show Ll _ _ (Own _ _ [_]) _ _ ((5,pt_ p5)::_) _ _ _;refine xC (v:=vS b) Z Z Z Z Z fun p7 hp7=>?_
 show Ll _ _ (Own _ _ [_,_]) _ _ ((7,pt_ p7)::_) _ _ _;refine qI 1 Z (zI (zD [1,3,4,5,7] [_,_,_,_,_] Z (zE (zZ (zT Z (zY (cs:=#[i6_ a.n,str a.set,str a.rel]) 1 Z zP Z Z zM) (qI 1 Z (zT Z (zY (cs:=#[i6_ b.n,str b.set,str b.rel]) 0 Z zP Z Z zM) (qI 1 Z (zT (v:=.pointer none) Z (qN Z Tryd.call57 Z qC (fun w1 hw1=>newPeb_no a b xs ys va vb w1 hsa hsb (Row.own hva hw1) (Row.own hvb hw1) (by first | (simp;done) | (simp;omega) | omega) (by first | (simp;done) | (simp;omega) | omega) hr)) (qI 1 Z (zI (zD [1,3,4,11] [_,_,_,_] Z (zE (zE (zB (zC 1 Z (zF (v:=bo_ true) Z (OpQ.eqNilP (p:=none) Z Tryd.underlying71 Z Z) (zC 1 Z (zK Z (zK Z (zC 2 Z (zK Z (zK Z (zC 1 Z (zG (zD [1,3,4,11,26] [_,_,_,_,_] Z (xY Z (zE (zB (zC 1 Z (zG (zD [10] [_] Z (qQ (qO Z Z fun w' hw=>?_))))))))))))))))))))))))))))))))))
 exact ⟨ret_b (by unfold pebWinB;rw [hr];rfl),hw.below⟩
theorem iPWin_ok (a b:St) (xs ys:List Int) (va vb:Value) (w:World) (hsa:a.Small) (hsb:b.Small) (hva:Ints w va xs) (hvb:Ints w vb ys) (hs1:xs.length≤140737488355328) (hs2:ys.length≤140737488355328) (t:Int) :
    Calls Tryd.prog 22 #[vS a,va,vS b,vb,.int .i64 t] w fun en w'=>en=.returned (.bool (pebWinB a xs b ys t))∧Below w.heap.size w w':=by
  cases hr:readyB a xs b ys with
  | true=>exact iPWin_yes a b xs ys va vb w hsa hsb hva hvb hs1 hs2 t xs.length rfl hr
  | false=>exact iPWin_no a b xs ys va vb w hsa hsb hva hvb hs1 hs2 t hr
end Go.Proofs.YtagbocafnliabaaDoor
namespace Go.Proofs.YtagbocafnliabaaDoor
open Go.RowKit Go.Wk
set_option linter.unusedSimpArgs false
set_option maxHeartbeats 400000 in
theorem besides_ok (k:Nat) (w:World) (hk:k≤1000) :
    Calls Tryd.prog 56 [i6_ (k:Int)].toArray w fun en w'=>∃ v,en=.returned v∧Below w.heap.size w w'∧NewRow w.heap.size 3 1 w' v (bes k).length (ints (bes k)):=by
 refine fnStart (n:=13) (e:=[(0,i6_ (k:Int))]) Tryd.func56 Z Z Z Z Ends.both (zE (zB (zC 1 Z (zG (zD [0] [_] Z (zE (zZ (yD (xs:=[]) (vs:=[]) qD Z Z Z Z Z Z (by decide) Z fun p4 hp4=>(qI 1 Z (zI (zD [0,3] [_,_] Z (zE (zE (zB (zC 2 Z (zG (zD [3,5,6] [_,_,_] Z (qJ (yR (σ:=Nat×Nat×Nat×Array Value) (fun ⟨j,g,c,cur⟩=>(j≤k)∧w.heap.size≤g∧cur.size=c*1∧(bes j).length≤c∧cur.toList.take ((bes j).length*1)=ints (bes j)) (fun ⟨j,g,c,cur⟩=>[(3,sl_ g ((bes j).length) c),(5,i6_ (k:Int)),(6,i6_ (j:Int))]) (fun ⟨j,g,c,cur⟩=>Own w.heap.size w [bk_ g cur 3]) (fun ⟨j,g,c,cur⟩=>k - j) (0,p4,0,#[]) ⟨by omega,by omega,rfl,Nat.le_refl _,rfl⟩ (Sub.sel [3,5,6] Z) (fun _ h=>h) ?_)))))))))))))))))))
 rintro ⟨j,g,c,cur⟩ ⟨hk,hg,hc,hl,ht⟩
 dsimp only;refine zE (zB (zC 1 Z (zG (zD [3,5,6,7] [_,_,_,_] Z (zE (xI Z (fun h7=>?_) (fun h7=>?_)))))))
 ·
  refine qT (zD [3,5,6] [_,_,_] Z (zE (qJ (zZ (qI 1 Z (yD (xs:=[.const (i6_ (-1))]) (vs:=[i6_ (-1)]) qD Z Z Z Z Z Z (by decide) Z fun p9 hp9=>(yI (xs:=bes j) (ys:=[-1]) qD 1 Z Z Z Z Z Z Z hc hl (by simpa using ht) (fun w1 hw1=>(yC hw1 (i:=0) Z (n:=1) (cap:=1) (vs:=ints [-1]) Z Z (by decide))) (((bes j)++([-1])).length) (by first | (simp;done) | (simp;omega)) (by first | (simp;done) | (simp;omega) | omega) fun p10 cap10 cur10 hp10 hcp10 hlp10 htp10=>?_)))))))
  show Ll _ _ (Own _ _ [_,_]) _ _ ((10,sl_ p10 ((((bes j)++([-1])).length)) cap10)::_) _ _ _;refine qI 1 Z (zI (zD [3,5,6] [_,_,_] Z (zB (zF Z (qR Z Z Z (by omega) (by omega)) (zC 1 Z (zG (qX (j+1,p10,cap10,cur10) ⟨(by omega),(by omega),hcp10,(by rw [bes_snoc];exact hlp10),(by rw [bes_snoc];exact htp10)⟩ (by omega) (Sub.cons (by rw [bes_snoc];rfl) (Sub.sel [5,6] Z)) (fun _ h=>h.tail))))))))
 refine yN Z (zD [3] [_] Z (zE (zB (zC 2 Z (zG (zD [2] [_] Z (qQ (qO Z Z fun w' hw=>?_))))))))
 obtain rfl:k=j:=by omega
 exact ⟨_,rfl,hw.below,hw.newRow (i:=0) rfl hc hl ht⟩
end Go.Proofs.YtagbocafnliabaaDoor
namespace Go.Proofs.YtagbocafnliabaaDoor
open Go.RowKit Go.Wk
set_option linter.unusedSimpArgs false
set_option maxHeartbeats 400000 in
theorem l15Dec_ok (x:Int) (w:World) (h0:0≤x) (h1:x<1000000000000) :
    Calls Tryd.prog 85 [i6_ x].toArray w fun en w'=>en=.returned (str (decS x.toNat))∧Below w.heap.size w w':=by
 refine fnStart (n:=31) (e:=[(0,i6_ x)]) Tryd.func85 Z Z Z Z Ends.both ?_
 have hdl:=decS_len x.toNat 12 (show x.toNat<1000000000000 by omega) (by decide);refine zE (zB (zF (v:=str ([])) Z (jM Z Z) (zG (zD [0] [_] Z (zE (zE (zB (zC 2 Z (zG (zD [0,5] [_,_] Z (yK (b:=decide (x<(-9223372036854775807:Int))) Z (fun h5=>?_) (fun h5=>?_))))))))))))
 ·
  replace h5:=zW h5
  omega
 replace h5:=zU h5;refine qT (zD [0] [_] Z (zE (zE (zB (zC 2 Z (zG (zD [0,7] [_,_] Z (yK (b:=decide (x<(0:Int))) Z (fun h7=>?_) (fun h7=>?_)))))))))
 ·
  replace h7:=zW h7
  omega
 replace h7:=zU h7;refine qT (zD [0] [_] Z (zE (zB (zF (v:=str ([])) Z (jM Z Z) (zG (zD [0,3] [_,_] Z (zE (qJ (yR (σ:=Nat×List UInt8) (fun ⟨n,o⟩=>decS x.toNat=decS n++o∧n≤x.toNat) (fun ⟨n,o⟩=>[(0,i6_ (n:Int)),(3,str o)]) (fun ⟨n,o⟩=>Own w.heap.size w []) (fun ⟨n,o⟩=>n) (x.toNat,[]) ⟨by simp,Nat.le_refl _⟩ (Sub.cons (by rw [Int.toNat_of_nonneg h0];rfl) (Sub.sel [3] Z)) (fun _ h=>h) ?_)))))))))
 rintro ⟨n,o⟩ ⟨ho,hn⟩
 dsimp only
 have hol:=dec_len ho hdl;refine zE (zE (zB (zC 2 Z (zG (zD [0,3,13] [_,_,_] Z (xI Z (fun h13=>?_) (fun h13=>?_)))))))
 ·
  refine qT (zD [0,3] [_,_] Z (qJ (zE (zZ (qI 1 Z (zT (v:=i6_ ((n:Int) % (10:Int))) Z (vF Z Z Z (by omega) (by decide)) (zT Z (qR Z Z Z (by omega) (by omega)) (zT (v:=.int .u8 ((48:Int)+((n:Int) % (10:Int)))) Z (OpQ.convInt .u8 Z jP xS Z (IntWalk.u8_in _ (by omega))) (yD (xs:=[.tmp 17]) (vs:=[.int .u8 ((48:Int)+((n:Int) % (10:Int)))]) Base.elem22 Z Z Z Z Z Z (by decide) Z fun p18 hp18=>(zT (v:=str ([UInt8.ofNat (48+n % 10)])) Z (OpQ.byteStr (b:=UInt8.ofNat (48+n % 10)) 0 Z Tryd.underlying22 xS qS Z Z (by rw [toNat_dig (by omega)];omega)) (qI 1 Z (zT Z (yE Z Z Z (by first | omega | (simp only [zL,qG,qF];omega))) (qI 1 Z (zI (zD [0,3] [_,_] Z (zB (zC 1 Z (zF (v:=i6_ ((n / 10:Nat):Int)) Z (qY (by simp) (OpQ.quo Z Z Z (by omega) (by omega) (by decide))) (zC 1 Z (zG (qX (n / 10,[UInt8.ofNat (48+n % 10)]++o) ⟨dec_step ho (by omega),by omega⟩ (by omega) (Sub.sel [0,3] Z) (fun _ h=>h.tail))))))))))))))))))))))
 refine yN Z (zD [0,3] [_,_] Z (zE (zZ (qI 1 Z (zT Z (qR Z Z Z (by omega) (by omega)) (zT (v:=.int .u8 ((48:Int)+(n:Int))) Z (OpQ.convInt .u8 Z jP xS Z (IntWalk.u8_in _ (by omega))) (yD (xs:=[.tmp 26]) (vs:=[.int .u8 ((48:Int)+(n:Int))]) Base.elem22 Z Z Z Z Z Z (by decide) Z fun p27 hp27=>(zT (v:=str ([UInt8.ofNat (48+n)])) Z (OpQ.byteStr (b:=UInt8.ofNat (48+n)) 0 Z Tryd.underlying22 xS qS Z Z (by rw [toNat_dig (by omega)];omega)) (qI 1 Z (zT Z (yE Z Z Z (by first | omega | (simp only [zL,qG,qF];omega))) (qI 1 Z (zI (zD [2] [_] Z (qQ (qO Z Z fun w' hw=>?_)))))))))))))))
 exact ⟨ret_s (by rw [ho,decS,if_pos (by omega)]),hw.below⟩
set_option maxHeartbeats 400000 in
theorem l5Insert_ok (B:Nat) (w0:World) (hs:List (Nat×Obj)) (g cap:Nat) (cur:Array Value) (xs:List Int) (m:Int) (w:World) (hc:cur.size=cap*1) (hle:xs.length≤cap) (ht:cur.toList.take xs.length=ints xs) (hs1:xs.length≤1000) (hw:Own B w0 ((g,.cells cur 3 (0,0))::hs) w) :
    Calls Tryd.prog 83 [sl_ g xs.length cap,i6_ m].toArray w fun en w'=>∃ (g' cap':Nat) (cur':Array Value),en=.returned (.slice (some ⟨g',0,none⟩) (insS xs m).length cap')∧(cur'.size=cap'*1∧(insS xs m).length≤cap'∧cur'.toList.take (insS xs m).length=ints (insS xs m))∧Own B w0 ((g',.cells cur' 3 (0,0))::hs) w':=by
 refine fnStartC (Own B w0 ((g,.cells cur 3 (0,0))::hs)) (n:=41) (e:=[(0,sl_ g xs.length cap),(1,i6_ m)]) Tryd.func83 Z Z Z Z Ends.both hw (zE (zB (zC 1 Z (zG (zD [0,1] [_,_] Z (zE (zE (zB (zC 1 Z (zG (zD [0,1,5] [_,_,_] Z (qJ (yR (σ:=Nat) (fun k=>k≤xs.length∧∀ j:Nat,j<k→¬ xs.getD j 0=m∧¬ m<xs.getD j 0) (fun k=>[(0,sl_ g xs.length cap),(1,i6_ m),(5,i6_ (k:Int))]) (fun k=>Own B w0 (bk_ g cur 3::hs)) (fun k=>xs.length - k) (0) ⟨by omega,fun i hi=>absurd hi (by omega)⟩ (Sub.sel [0,1,5] Z) (fun _ h=>h) ?_)))))))))))))
 rintro k ⟨hk,hall⟩;refine zE (zE (zB (zC 2 Z (zF Z (jW Z zN Z) (zC 1 Z (zG (zD [0,1,5,9] [_,_,_,_] Z (yK (b:=decide ((k:Int)<(xs.length:Int))) Z (fun h9=>?_) (fun h9=>?_)))))))))
 ·
  replace h9:=zW h9
  have hk2:k<xs.length:=by omega
  refine qT (zD [0,1,5] [_,_,_] Z (zE (qJ (zE (zE (zB (zC 2 Z (zF (v:=pf_ g k) Z (qY (by simp) (yB Z zN zS Z Z (by omega) (by omega))) (zF (v:=i6_ (xs.getD (k) 0)) Z (xE 0 Z qB Z Z (cur_at ht (ints_at2 (by omega)))) (zC 2 Z (zG (zD [0,1,5,17] [_,_,_,_] Z (xI Z (fun h17=>?_) (fun h17=>?_))))))))))))))
  ·
   refine zE (zB (zC 2 Z (zG (zD [4] [_] Z (qQ (qO Z Z fun w' hw=>?_))))))
   have e:=insS_at (n:=m) hk2 hall (by simpa using h17)
   exact ⟨g,cap,cur,by rw [e],⟨hc,by rw [e];exact hle,by rw [e];exact ht⟩,hw⟩
  refine qT (zD [0,1,5] [_,_,_] Z (zE (zB (zC 2 Z (zF (v:=pf_ g k) Z (qY (by simp) (yB Z zN zS Z Z (by omega) (by omega))) (zF (v:=i6_ (xs.getD (k) 0)) Z (xE 0 Z qB Z Z (cur_at ht (ints_at2 (by omega)))) (zC 2 Z (zG (zD [0,1,5,24] [_,_,_,_] Z (xI Z (fun h24=>?_) (fun h24=>?_)))))))))))
  ·
   refine zE (Wk.regionT (S:=Own B w0 [bk_ g cur 3]) (.take 1 (.take 2 (.take 3 (.take 5 (.take 8 (.take 9 (.take 10 (.two 0 (.two 4 (.one 6 (.one 7 (.one 11 (.take 12 .done)))) 6 (.one 4 (.one 7 (.one 11 (.take 12 .done))))) 6 (.one 0 (.one 4 (.one 7 (.one 11 (.take 12 .done))))))))))))) yH (fun _ h=>h.drawn) (by kernel_rfl) (Lt.run 2 Z (pk [0] Z Z) (xU (v:=sl_ g ((k:Int).toNat) cap) Z Z Z Z Z (OpQ.takeS (i:=(k:Int)) Z zN zS Z Z (by omega) (by omega)) (pk [0] Z Z) (Lt.run 3 Z (pk [0] Z Z) (xU (v:=.slice (some ⟨g,(k:Int).toNat,none⟩) (xs.length - (k:Int).toNat) (cap - (k:Int).toNat)) Z Z Z Z Z (OpQ.dropS Z zN zS Z Z (by omega) (by omega) (by omega)) (pk [0] Z Z) (Lt.two Z Z ?_ ?_))))))
   ·
    refine yD (xs:=[]) (vs:=[]) qD Z Z Z Z Z Z (by decide) Z fun p25 hp25=>(zI (yF (pk [1] Z Z) ?_));refine Lt.two Z Z ?_ ?_
    ·
     refine yI (xs:=[]) (ys:=(xs).take ((k:Int).toNat)) qD 0 Z Z Z Z Z Z Z Z (by decide) Z (fun w1 hw1=>(Own.rowTake hw1 (i:=1) Z ht (by omega) hle)) (((xs).take ((k:Int).toNat)).length) (by first | (simp;done) | (simp;omega)) (by first | (simp;done) | (simp;omega) | omega) fun p29 cap29 cur29 hp29 hcp29 hlp29 htp29=>?_
     show Ll _ _ (Own _ _ (_::_::hs)) _ _ ((29,sl_ p29 ((((xs).take ((k:Int).toNat)).length)) cap29)::_) _ _ _;refine zI (yF (pk [1] Z Z) ?_);refine yZ Z (yD (xs:=[.tmp 30]) (vs:=[i6_ m]) qD Z Z Z Z Z Z (by decide) Z fun p31 hp31=>(zI (yF (pk [2] Z Z) ?_)));refine yZ Z (yI (xs:=(xs).take ((k:Int).toNat)) (ys:=[m]) qD 1 Z Z Z Z Z Z Z hcp29 hlp29 (by simpa using htp29) (fun w1 hw1=>(yC hw1 (i:=0) Z (n:=1) (cap:=1) (vs:=ints [m]) Z Z (by decide))) ((((xs).take ((k:Int).toNat))++([m])).length) (by first | (simp;done) | (simp;omega)) (by first | (simp;done) | (simp;omega) | omega) fun p32 cap32 cur32 hp32 hcp32 hlp32 htp32=>?_)
     show Ll _ _ (Own _ _ (_::_::_::hs)) _ _ ((32,sl_ p32 (((((xs).take ((k:Int).toNat))++([m])).length)) cap32)::_) _ _ _;refine zI (yF (pk [2] Z Z) ?_);refine yZ Z (yI (xs:=((xs).take ((k:Int).toNat))++([m])) (ys:=(xs).drop ((k:Int).toNat)) qD 1 Z Z Z Z Z Z Z hcp32 hlp32 (by simpa using htp32) (fun w1 hw1=>(Own.rowDrop hw1 (i:=2) Z ht (by omega) hle)) (((((xs).take ((k:Int).toNat))++([m]))++((xs).drop ((k:Int).toNat))).length) (by first | (simp;done) | (simp;omega)) (by first | (simp;done) | (simp;omega) | omega) fun p36 cap36 cur36 hp36 hcp36 hlp36 htp36=>?_)
     show Ll _ _ (Own _ _ (_::_::_::hs)) _ _ ((36,sl_ p36 ((((((xs).take ((k:Int).toNat))++([m]))++((xs).drop ((k:Int).toNat))).length)) cap36)::_) _ _ _;refine zI (yF (pk [2] Z Z) ?_);refine Lt.run 1 Z (pk [2] Z Z) (Lt.nil (zD [4] [_] Z (qQ (qO Z Z fun w' hw=>?_))))
     have e:=insS_mid (n:=m) hk2 hall (by simpa using h24)
     simp only [Int.toNat_natCast,Nat.mul_one] at *
     exact ⟨p36,cap36,cur36,by rw [e],⟨by simpa using hcp36,by rw [e];exact hlp36,by rw [e];exact htp36⟩,hw.sub (zV _ (zA _ (zV _ (qE _))))⟩
    refine yD (xs:=[.tmp 30]) (vs:=[i6_ m]) qD Z Z Z Z Z Z (by decide) Z fun p31_1 hp31_1=>(zI (yF (pk [2] Z Z) ?_));refine yZ Z (yI (xs:=[]) (ys:=(xs).take ((k:Int).toNat)) qD 1 Z Z Z Z Z Z Z Z (by decide) Z (fun w1 hw1=>(Own.rowTake hw1 (i:=2) Z ht (by omega) hle)) (((xs).take ((k:Int).toNat)).length) (by first | (simp;done) | (simp;omega)) (by first | (simp;done) | (simp;omega) | omega) fun p29_1 cap29_1 cur29_1 hp29_1 hcp29_1 hlp29_1 htp29_1=>?_)
    show Ll _ _ (Own _ _ (_::_::_::hs)) _ _ ((29,sl_ p29_1 ((((xs).take ((k:Int).toNat)).length)) cap29_1)::_) _ _ _;refine zI (yF (pk [2] Z Z) ?_);refine yZ Z (yI (xs:=(xs).take ((k:Int).toNat)) (ys:=[m]) qD 1 Z Z Z Z Z Z Z hcp29_1 hlp29_1 (by simpa using htp29_1) (fun w1 hw1=>(yC hw1 (i:=0) Z (n:=1) (cap:=1) (vs:=ints [m]) Z Z (by decide))) ((((xs).take ((k:Int).toNat))++([m])).length) (by first | (simp;done) | (simp;omega)) (by first | (simp;done) | (simp;omega) | omega) fun p32_1 cap32_1 cur32_1 hp32_1 hcp32_1 hlp32_1 htp32_1=>?_)
    show Ll _ _ (Own _ _ (_::_::_::hs)) _ _ ((32,sl_ p32_1 (((((xs).take ((k:Int).toNat))++([m])).length)) cap32_1)::_) _ _ _;refine zI (yF (pk [2] Z Z) ?_);refine yZ Z (yI (xs:=((xs).take ((k:Int).toNat))++([m])) (ys:=(xs).drop ((k:Int).toNat)) qD 1 Z Z Z Z Z Z Z hcp32_1 hlp32_1 (by simpa using htp32_1) (fun w1 hw1=>(Own.rowDrop hw1 (i:=2) Z ht (by omega) hle)) (((((xs).take ((k:Int).toNat))++([m]))++((xs).drop ((k:Int).toNat))).length) (by first | (simp;done) | (simp;omega)) (by first | (simp;done) | (simp;omega) | omega) fun p36_1 cap36_1 cur36_1 hp36_1 hcp36_1 hlp36_1 htp36_1=>?_)
    show Ll _ _ (Own _ _ (_::_::_::hs)) _ _ ((36,sl_ p36_1 ((((((xs).take ((k:Int).toNat))++([m]))++((xs).drop ((k:Int).toNat))).length)) cap36_1)::_) _ _ _;refine zI (yF (pk [2] Z Z) ?_);refine Lt.run 1 Z (pk [2] Z Z) (Lt.nil (zD [4] [_] Z (qQ (qO Z Z fun w' hw=>?_))))
    have e:=insS_mid (n:=m) hk2 hall (by simpa using h24)
    simp only [Int.toNat_natCast,Nat.mul_one] at *
    exact ⟨p36_1,cap36_1,cur36_1,by rw [e],⟨by simpa using hcp36_1,by rw [e];exact hlp36_1,by rw [e];exact htp36_1⟩,hw.sub (zV _ (zA _ (zV _ (qE _))))⟩
   refine yD (xs:=[.tmp 30]) (vs:=[i6_ m]) qD Z Z Z Z Z Z (by decide) Z fun p31_2 hp31_2=>(zI (yF (pk [1] Z Z) ?_));refine yZ Z (yD (xs:=[]) (vs:=[]) qD Z Z Z Z Z Z (by decide) Z fun p25_1 hp25_1=>(zI (yF (pk [2] Z Z) ?_)));refine yZ Z (yI (xs:=[]) (ys:=(xs).take ((k:Int).toNat)) qD 0 Z Z Z Z Z Z Z Z (by decide) Z (fun w1 hw1=>(Own.rowTake hw1 (i:=2) Z ht (by omega) hle)) (((xs).take ((k:Int).toNat)).length) (by first | (simp;done) | (simp;omega)) (by first | (simp;done) | (simp;omega) | omega) fun p29_2 cap29_2 cur29_2 hp29_2 hcp29_2 hlp29_2 htp29_2=>?_)
   show Ll _ _ (Own _ _ (_::_::_::hs)) _ _ ((29,sl_ p29_2 ((((xs).take ((k:Int).toNat)).length)) cap29_2)::_) _ _ _;refine zI (yF (pk [2] Z Z) ?_);refine yZ Z (yI (xs:=(xs).take ((k:Int).toNat)) (ys:=[m]) qD 0 Z Z Z Z Z Z Z hcp29_2 hlp29_2 (by simpa using htp29_2) (fun w1 hw1=>(yC hw1 (i:=1) Z (n:=1) (cap:=1) (vs:=ints [m]) Z Z (by decide))) ((((xs).take ((k:Int).toNat))++([m])).length) (by first | (simp;done) | (simp;omega)) (by first | (simp;done) | (simp;omega) | omega) fun p32_2 cap32_2 cur32_2 hp32_2 hcp32_2 hlp32_2 htp32_2=>?_)
   show Ll _ _ (Own _ _ (_::_::_::hs)) _ _ ((32,sl_ p32_2 (((((xs).take ((k:Int).toNat))++([m])).length)) cap32_2)::_) _ _ _;refine zI (yF (pk [2] Z Z) ?_);refine yZ Z (yI (xs:=((xs).take ((k:Int).toNat))++([m])) (ys:=(xs).drop ((k:Int).toNat)) qD 0 Z Z Z Z Z Z Z hcp32_2 hlp32_2 (by simpa using htp32_2) (fun w1 hw1=>(Own.rowDrop hw1 (i:=2) Z ht (by omega) hle)) (((((xs).take ((k:Int).toNat))++([m]))++((xs).drop ((k:Int).toNat))).length) (by first | (simp;done) | (simp;omega)) (by first | (simp;done) | (simp;omega) | omega) fun p36_2 cap36_2 cur36_2 hp36_2 hcp36_2 hlp36_2 htp36_2=>?_)
   show Ll _ _ (Own _ _ (_::_::_::hs)) _ _ ((36,sl_ p36_2 ((((((xs).take ((k:Int).toNat))++([m]))++((xs).drop ((k:Int).toNat))).length)) cap36_2)::_) _ _ _;refine zI (yF (pk [2] Z Z) ?_);refine Lt.run 1 Z (pk [2] Z Z) (Lt.nil (zD [4] [_] Z (qQ (qO Z Z fun w' hw=>?_))))
   have e:=insS_mid (n:=m) hk2 hall (by simpa using h24)
   simp only [Int.toNat_natCast,Nat.mul_one] at *
   exact ⟨p36_2,cap36_2,cur36_2,by rw [e],⟨by simpa using hcp36_2,by rw [e];exact hlp36_2,by rw [e];exact htp36_2⟩,hw.sub (zA _ (zV _ (zV _ (qE _))))⟩
  refine qT (zD [0,1,5] [_,_,_] Z (zB (zC 1 Z (zF Z (qR Z Z Z (by omega) (by omega)) (zC 1 Z (zG (qX (k+1) ⟨by omega,fun i hi=>(Nat.lt_succ_iff_lt_or_eq.1 hi).elim (hall i) (fun e=>by subst e;exact ⟨by simpa using h17,by simpa using h24⟩)⟩ (by omega) (Sub.sel [0,1,5] Z) (fun _ h=>h))))))))
 replace h9:=zU h9;refine yN Z (zD [0,1] [_,_] Z (zE (zZ (qI 2 Z (yD (xs:=[.tmp 38]) (vs:=[i6_ m]) qD Z Z Z Z Z Z (by decide) Z fun p39 hp39=>(yI (xs:=xs) (ys:=[m]) qD 1 Z Z Z Z Z Z Z hc hle ht (fun w1 hw1=>(yC hw1 (i:=0) Z (n:=1) (cap:=1) (vs:=ints [m]) Z Z (by decide))) ((xs++([m])).length) (by first | (simp;done) | (simp;omega)) (by first | (simp;done) | (simp;omega) | omega) fun p40 cap40 cur40 hp40 hcp40 hlp40 htp40=>?_))))))
 show Ll _ _ (Own _ _ (_::_::hs)) _ _ ((40,sl_ p40 (((xs++([m])).length)) cap40)::_) _ _ _;refine qI 1 Z (zI (zD [4] [_] Z (qQ (qO Z Z fun w' hw=>?_))))
 have e:=insS_end (l:=xs) (n:=m) (fun j hj=>hall j (by omega))
 simp only [Int.toNat_natCast,Nat.mul_one] at *
 exact ⟨p40,cap40,cur40,by rw [e],⟨by simpa using hcp40,by rw [e];exact hlp40,by rw [e];exact htp40⟩,hw.sub (zV _ (zA _ (qE _)))⟩
set_option maxHeartbeats 400000 in
theorem l5New_ok (B:Nat) (w0:World) (hs:List (Nat×Obj)) (w:World) (hw:Own B w0 hs w) :
    Calls Tryd.prog 40 [].toArray w fun en w'=>∃ q c:Nat,en=.returned (.agg #[.slice (some ⟨q,0,none⟩) 997 997,.slice (some ⟨c,0,none⟩) 1 1])∧Own B w0 (tabL 145 3 147 q c (List.replicate 997 none) []++hs) w':=by
 refine fnStartC (Own B w0 hs) (n:=4) (e:=[]) Tryd.func40 Z Z Z Z Ends.both hw (zE (zZ (xO Z Z Z Z Tryd.zeroValue59 fun p0 hp0=>?_)))
 show Ll _ _ (Own _ _ (bk_ p0 #[.slice none 0 0,.slice none 0 0] 59::hs)) _ _ ((0,pt_ p0)::_) _ _ _;refine zI (zD [0] [_] Z (zE (zZ (jR (k:=997) Base.elem57 Tryd.zeroValue145 Z Z Z Z Z (by omega) fun p1 hp1=>?_))))
 rw [show madeCells (Value.cells (.slice none 0 0)) (997*1)=(List.replicate 997 (.slice none 0 0)).toArray from made_list _ _ rfl];refine yD (xs:=[.const (i6_ 0)]) (vs:=[i6_ 0]) qD Z Z Z Z Z Z (by decide) Z fun p2 hp2=>(zT (v:=.agg #[sl_ p1 997 997,sl_ p2 1 1]) Z (OpQ.build (xs:=[.tmp 1,.tmp 2]) (vs:=[sl_ p1 997 997,sl_ p2 1 1]) Z Z (by kernel_rfl)) (qZ (cs':=#[sl_ p1 997 997,sl_ p2 1 1]) (hs':=(_::_::bk_ p0 #[sl_ p1 997 997,sl_ p2 1 1] 59::hs)) 2 Z Z Z Z Z (by kernel_rfl:_=some Tryd.t59) Z Z Z Z Z (zI (zD [0] [_] Z (qQ (Kt.endBox (cs:=#[sl_ p1 997 997,sl_ p2 1 1]) 2 Z Z Z Tryd.isAgg59 vD fun w' hw=>?_))))));refine ⟨p1,p2,rfl,?_⟩
 show Own B w0 (_::_::(blks _ _++hs)) w'
 rw [blks_new,← new_bkts]
 exact (hw.perm (List.Perm.swap _ _ _)).sub (zA _ (zA _ (zV _ (qE _))))
set_option maxHeartbeats 400000 in
theorem number_nil (B:Nat) (w0:World) (hs:List (Nat×Obj)) (q c:Nat) (bs:List Bkt) (T:List (List UInt8)) (s:List UInt8) (w:World) (hT:TabOk bs T) (hlT:T.length≤1000000) (hls:s.length≤1000) (hb:bs.getD (hashS s) none=none) (hw:Own B w0 (bk_ q ((bs.map bktV).toArray) 145::bk_ c #[i6_ (T.length:Int)] 3::hs) w) :
    Calls Tryd.prog 86 [.agg #[sl_ q 997 997,sl_ c 1 1],str s].toArray w fun en w'=>en=.returned (.int .i64 (T.length:Int))∧s ∉ T∧∃ (g' cap':Nat) (cur':Array Value),cur'.size=cap'*2∧1≤cap'∧cur'.toList.take (1*2)=entC (s,T.length)∧Own B w0 ((g',.cells cur' 147 (0,0))::(q,.cells ((bs.set (hashS s) (some (g',1,cap',cur'))).map bktV).toArray 145 (0,0))::(c,.cells #[.int .i64 ((T.length:Int)+1)] 3 (0,0))::hs) w':=by
 refine fnStartC (Own B w0 (bk_ q ((bs.map bktV).toArray) 145::bk_ c #[i6_ (T.length:Int)] 3::hs)) (n:=77) (e:=[(0,.agg #[sl_ q 997 997,sl_ c 1 1]),(1,str s)]) Tryd.func86 Z Z Z Z Ends.both hw ?_
 have h997:=hash_lt s
 have hkl:hashS s<bs.length:=by rw [hT.len];exact h997
 have hE:=hT.no _ h997 hb
 have hEl:(ents T (hashS s)).length=0:=by rw [hE];rfl
 refine zE (zZ (xC (v:=.agg #[sl_ q 997 997,sl_ c 1 1]) Z Z Z Z Z fun p2 hp2=>?_))
 show Ll _ _ (Own _ _ (_::_::_::hs)) _ _ ((2,pt_ p2)::_) _ _ _;refine qI 1 Z (zI (zD [1,2] [_,_] Z (zE (zB (zC 1 Z (zG (zD [1,2,5] [_,_,_] Z (zE (zE (zB (zC 1 Z (zG (zD [1,2,5,6] [_,_,_,_] Z (qJ (yR (σ:=Nat) (fun k=>k≤s.length) (fun k=>[(1,str s),(2,pt_ p2),(5,i6_ (((hashS (s.take k):Nat):Int))),(6,i6_ (k:Int))]) (fun k=>Own B w0 (bk_ p2 #[sl_ q 997 997,sl_ c 1 1] 59::bk_ q ((bs.map bktV).toArray) 145::bk_ c #[i6_ (T.length:Int)] 3::hs)) (fun k=>s.length - k) (0) (by omega) (Sub.cons Z (Sub.cons Z (Sub.cons Z (Sub.sel [6] Z)))) (fun _ h=>h) ?_)))))))))))))))
 rintro k hk;refine zE (zE (zB (zC 2 Z (zF (v:=i6_ (s.length:Int)) Z (jF Z yG Z) (zC 1 Z (zG (zD [1,2,5,6,12] [_,_,_,_,_] Z (yK (b:=decide ((k:Int)<(s.length:Int))) Z (fun h12=>?_) (fun h12=>?_)))))))))
 ·
  replace h12:=zW h12
  have hk2:k<s.length:=by omega
  have hkh:=hash_lt (s.take k)
  have hby:=UInt8.toNat_lt (s.getD k 0);refine qT (zD [1,2,5,6] [_,_,_,_] Z (zE (qJ (zB (zC 1 Z (zF Z (jL Z Z Z (by omega) (by omega)) (zC 2 Z (zF (v:=.int .u8 (((s.getD ((k:Int).toNat) 0).toNat:Int))) Z (jX Z yG Z Z (by omega) (by omega)) (zF (v:=i6_ (((s.getD ((k:Int).toNat) 0).toNat:Int))) Z (OpQ.convInt .i64 Z xS jP Z (IntWalk.i64_in _ (by have:=UInt8.toNat_lt (s.getD ((k:Int).toNat) 0);omega))) (zF Z (qR Z Z Z (by simp only [Int.toNat_natCast];omega) (by simp only [Int.toNat_natCast];omega)) (zF (v:=i6_ (((hashS (s.take (k+1)):Nat):Int))) Z (qY (by rw [Wk.hash_step hk2];simp) (vF Z Z Z (by omega) (by decide))) (zC 1 Z (zG (zD [1,2,5,6] [_,_,_,_] Z (zB (zC 1 Z (zF Z (qR Z Z Z (by omega) (by omega)) (zC 1 Z (zG (qX (k+1) (by omega) (by omega) (Sub.sel [1,2,5,6] Z) (fun _ h=>h)))))))))))))))))))))
 replace h12:=zU h12
 obtain rfl:k=s.length:=by omega
 rw [List.take_length];refine yN Z (zD [1,2,5] [_,_,_] Z (zE (zE (zB (zC 1 Z (zG (zD [1,2,5,7] [_,_,_,_] Z (qJ (yR (σ:=Nat) (fun j=>j≤0∧∀ i:Nat,i<j→¬ ((ents T (hashS s)).getD i ([],0)).1=s) (fun j=>[(1,str s),(2,pt_ p2),(5,i6_ ((hashS s:Nat):Int)),(7,i6_ (j:Int))]) (fun j=>Own B w0 (bk_ p2 #[sl_ q 997 997,sl_ c 1 1] 59::bk_ q ((bs.map bktV).toArray) 145::bk_ c #[i6_ (T.length:Int)] 3::hs)) (fun j=>0 - j) (0) ⟨by omega,fun i hi=>absurd hi (by omega)⟩ (Sub.sel [1,2,5,7] Z) (fun _ h=>h) ?_)))))))))
 rintro j ⟨hj0,hall⟩;refine zE (zE (zB (zC 1 Z (zF Z (zJ Z xF Z jT Z Z) (zF Z (zQ 0 Z vB Z Z Z) (zC 1 Z (zF (v:=pf_ q (hashS s)) Z (qY (by simp) (yB Z xL xP Z Z (by omega) (by omega))) (zF (v:=.slice none 0 0) Z (xE (v:=.slice none 0 0) 1 Z jU Z Z (bkt_at (b:=none) hkl hb)) (zF Z (jW Z Tryd.runUnderlying145 Z) (zC 1 Z (zG (zD [1,2,5,7,30] [_,_,_,_,_] Z (yK (b:=decide ((j:Int)<(0:Int))) Z (fun h30=>?_) (fun h30=>?_))))))))))))))
 ·
  replace h30:=zW h30
  omega
 replace h30:=zU h30;refine yN Z (zD [1,2,5] [_,_,_] Z (zE (zB (zF Z (zJ Z xF Z xN Z Z) (zF Z (zQ 0 Z xG Z Z Z) (zF (v:=pt_ c) Z (qY Z (yB (i:=0) Z zN zS Z Z (by decide) (by decide))) (zF Z (zQ 2 Z qB Z Z Z) (zC 1 Z (zG (zD [1,2,5,8] [_,_,_,_] Z (zE (zZ (zT Z (zJ Z xF Z xN Z Z) (zT Z (zQ 0 Z xG Z Z Z) (qI 1 Z (zT Z (qR Z Z Z (by omega) (by omega)) (zT (v:=pt_ c) Z (qY Z (yB (i:=0) Z zN zS Z Z (by decide) (by decide))) (qV (v:=i6_ ((T.length:Int)+(1:Int))) (hs':=(_::_::bk_ c #[i6_ ((T.length:Int)+(1:Int))] 3::hs)) 2 Z Z Z Z Z Z zS Z (by simp) Z (zI (zD [1,2,5,8] [_,_,_,_] Z (zE (Wk.regionT (S:=Own B w0 [bk_ p2 #[sl_ q 997 997,sl_ c 1 1] 59,bk_ c #[i6_ ((T.length:Int)+(1:Int))] 3]) (.take 0 (.take 1 (.take 2 (.take 3 (.take 4 (.take 5 (.take 6 (.take 8 (.take 9 (.take 10 (.two 7 (.one 11 (.one 12 (.take 13 (.one 14 .done)))) 11 (.one 7 (.one 12 (.take 13 (.one 14 .done))))))))))))))) yH (fun _ h=>h.drawn) (by kernel_rfl) (xU Z Z Z Z Z (zJ Z xF Z jT Z Z) (pk [0,2] Z Z) (xU Z Z Z Z Z (zQ 0 Z vB Z Z Z) (pk [0,2] Z Z) (Lt.run 1 Z (pk [0,2] Z Z) (xU Z Z Z Z Z (zJ Z xF Z jT Z Z) (pk [0,2] Z Z) (xU Z Z Z Z Z (zQ 0 Z vB Z Z Z) (pk [0,2] Z Z) (Lt.run 1 Z (pk [0,2] Z Z) (xU (v:=pf_ q (hashS s)) Z Z Z Z Z (qY (by simp) (yB Z xL xP Z Z (by omega) (by omega))) (pk [0,2] Z Z) (Lt.run 2 Z (pk [0,2] Z Z) (xU (v:=.agg #[str s,i6_ (T.length:Int)]) Z Z Z Z Z (OpQ.build (xs:=[.tmp 70,.tmp 71]) (vs:=[str s,i6_ (T.length:Int)]) Z Z (by kernel_rfl)) (pk [0,2] Z Z) (Lt.two Z Z ?_ ?_))))))))))))))))))))))))))))))))
 ·
  refine zT (v:=.slice none 0 0) Z (xE (v:=.slice none 0 0) 1 Z jU Z Z (bkt_at (b:=none) hkl hb)) (zI (yF (pk [0,2] Z Z) ?_));refine yZ Z (Ll.slice2 vC Z Z Z Z Z fun p73 hp73=>(zI (yF (pk [1,3] Z Z) ?_)));refine yZ Z (Ll.appendNil vC (entC (s,T.length)) Z Z Z Z Z Z (by decide) (by simp) Z (fun w1 hw1 ad had j u hj=>by injection had with had;subst had;rw [Addr.add_lit,Nat.zero_add,hw1.cell (i:=0) rfl];simpa [entC] using hj) (by decide) fun g2 cap2 cur2 hg2 hcg2 hlg2 htg2=>?_)
  show Ll _ _ (Own _ _ (_::_::_::_::_::hs)) _ _ ((74,sl_ g2 1 cap2)::_) _ _ _;refine zI (yF (pk [2,4] Z Z) ?_);refine xU (v:=pf_ q (hashS s)) Z Z Z Z Z (qY (by simp) (yB Z xL xP Z Z (by omega) (by omega))) (pk [2,4] Z Z) (yZ Z (qV (v:=sl_ g2 1 cap2) (hs':=(_::_::_::bk_ q (((bs.set (hashS s) (some (g2,1,cap2,cur2))).map bktV).toArray) 145::_::hs)) 3 Z Z Z Z Z Z xP Z (by simpa using hkl) (by rw [← set_bkt];rfl) (zI (yF (pk [2,4] Z Z) ?_))));refine Lt.nil (zD [8] [_] Z (zE (zB (zC 2 Z (zG (zD [4] [_] Z (qQ (qO Z Z fun w' hw=>?_))))))))
  exact ⟨rfl,ents_not (fun e he=>by obtain ⟨i,hi,rfl⟩:=List.mem_iff_getElem.1 he;have:=hall i (by omega);rwa [getD_at hi] at this),g2,cap2,cur2,hcg2,hlg2,htg2,hw.sub (zA _ (zV _ (zV _ (zA _ (zA _ (qE _))))))⟩
 refine Ll.slice2 vC Z Z Z Z Z fun p73_1 hp73_1=>(zI (yF (pk [1,3] Z Z) ?_));refine yZ Z (zT (v:=.slice none 0 0) Z (xE (v:=.slice none 0 0) 2 Z jU Z Z (bkt_at (b:=none) hkl hb)) (zI (yF (pk [1,3] Z Z) ?_)));refine yZ Z (Ll.appendNil vC (entC (s,T.length)) Z Z Z Z Z Z (by decide) (by simp) Z (fun w1 hw1 ad had j u hj=>by injection had with had;subst had;rw [Addr.add_lit,Nat.zero_add,hw1.cell (i:=0) rfl];simpa [entC] using hj) (by decide) fun g2_1 cap2_1 cur2_1 hg2_1 hcg2_1 hlg2_1 htg2_1=>?_)
 show Ll _ _ (Own _ _ (_::_::_::_::_::hs)) _ _ ((74,sl_ g2_1 1 cap2_1)::_) _ _ _;refine zI (yF (pk [2,4] Z Z) ?_);refine xU (v:=pf_ q (hashS s)) Z Z Z Z Z (qY (by simp) (yB Z xL xP Z Z (by omega) (by omega))) (pk [2,4] Z Z) (yZ Z (qV (v:=sl_ g2_1 1 cap2_1) (hs':=(_::_::_::bk_ q (((bs.set (hashS s) (some (g2_1,1,cap2_1,cur2_1))).map bktV).toArray) 145::_::hs)) 3 Z Z Z Z Z Z xP Z (by simpa using hkl) (by rw [← set_bkt];rfl) (zI (yF (pk [2,4] Z Z) ?_))));refine Lt.nil (zD [8] [_] Z (zE (zB (zC 2 Z (zG (zD [4] [_] Z (qQ (qO Z Z fun w' hw=>?_))))))))
 exact ⟨rfl,ents_not (fun e he=>by obtain ⟨i,hi,rfl⟩:=List.mem_iff_getElem.1 he;have:=hall i (by omega);rwa [getD_at hi] at this),g2_1,cap2_1,cur2_1,hcg2_1,hlg2_1,htg2_1,hw.sub (zA _ (zV _ (zV _ (zA _ (zA _ (qE _))))))⟩
set_option maxHeartbeats 400000 in
theorem number_some (B:Nat) (w0:World) (hs:List (Nat×Obj)) (q c:Nat) (bs:List Bkt) (T:List (List UInt8)) (s:List UInt8) (w:World) (hT:TabOk bs T) (hlT:T.length≤1000000) (hls:s.length≤1000) (g m cap:Nat) (cur:Array Value) (hb:bs.getD (hashS s) none=some (g,m,cap,cur)) (hw:Own B w0 (bk_ g cur 147::bk_ q ((bs.map bktV).toArray) 145::bk_ c #[i6_ (T.length:Int)] 3::hs) w) :
    Calls Tryd.prog 86 [.agg #[sl_ q 997 997,sl_ c 1 1],str s].toArray w fun en w'=>(∃ n:Nat,en=.returned (.int .i64 (n:Int))∧T[n]?=some s∧Own B w0 (bk_ g cur 147::bk_ q ((bs.map bktV).toArray) 145::bk_ c #[i6_ (T.length:Int)] 3::hs) w')∨(en=.returned (.int .i64 (T.length:Int))∧s ∉ T∧∃ (g' cap':Nat) (cur':Array Value),cur'.size=cap'*2∧m+1≤cap'∧cur'.toList.take ((m+1)*2)=flatE (ents T (hashS s))++entC (s,T.length)∧Own B w0 ((g',.cells cur' 147 (0,0))::(q,.cells ((bs.set (hashS s) (some (g',m+1,cap',cur'))).map bktV).toArray 145 (0,0))::(c,.cells #[.int .i64 ((T.length:Int)+1)] 3 (0,0))::hs) w'):=by
 refine fnStartC (Own B w0 (bk_ g cur 147::bk_ q ((bs.map bktV).toArray) 145::bk_ c #[i6_ (T.length:Int)] 3::hs)) (n:=77) (e:=[(0,.agg #[sl_ q 997 997,sl_ c 1 1]),(1,str s)]) Tryd.func86 Z Z Z Z Ends.both hw ?_
 have h997:=hash_lt s
 have hkl:hashS s<bs.length:=by rw [hT.len];exact h997
 obtain ⟨hm,hc,hle,ht⟩:=hT.yes _ h997 _ _ _ _ hb
 have hmT:=ents_le T (hashS s);refine zE (zZ (xC (v:=.agg #[sl_ q 997 997,sl_ c 1 1]) Z Z Z Z Z fun p2 hp2=>?_))
 show Ll _ _ (Own _ _ (_::_::_::_::hs)) _ _ ((2,pt_ p2)::_) _ _ _;refine qI 1 Z (zI (zD [1,2] [_,_] Z (zE (zB (zC 1 Z (zG (zD [1,2,5] [_,_,_] Z (zE (zE (zB (zC 1 Z (zG (zD [1,2,5,6] [_,_,_,_] Z (qJ (yR (σ:=Nat) (fun k=>k≤s.length) (fun k=>[(1,str s),(2,pt_ p2),(5,i6_ (((hashS (s.take k):Nat):Int))),(6,i6_ (k:Int))]) (fun k=>Own B w0 (bk_ p2 #[sl_ q 997 997,sl_ c 1 1] 59::bk_ g cur 147::bk_ q ((bs.map bktV).toArray) 145::bk_ c #[i6_ (T.length:Int)] 3::hs)) (fun k=>s.length - k) (0) (by omega) (Sub.cons Z (Sub.cons Z (Sub.cons Z (Sub.sel [6] Z)))) (fun _ h=>h) ?_)))))))))))))))
 rintro k hk;refine zE (zE (zB (zC 2 Z (zF (v:=i6_ (s.length:Int)) Z (jF Z yG Z) (zC 1 Z (zG (zD [1,2,5,6,12] [_,_,_,_,_] Z (yK (b:=decide ((k:Int)<(s.length:Int))) Z (fun h12=>?_) (fun h12=>?_)))))))))
 ·
  replace h12:=zW h12
  have hk2:k<s.length:=by omega
  have hkh:=hash_lt (s.take k)
  have hby:=UInt8.toNat_lt (s.getD k 0);refine qT (zD [1,2,5,6] [_,_,_,_] Z (zE (qJ (zB (zC 1 Z (zF Z (jL Z Z Z (by omega) (by omega)) (zC 2 Z (zF (v:=.int .u8 (((s.getD ((k:Int).toNat) 0).toNat:Int))) Z (jX Z yG Z Z (by omega) (by omega)) (zF (v:=i6_ (((s.getD ((k:Int).toNat) 0).toNat:Int))) Z (OpQ.convInt .i64 Z xS jP Z (IntWalk.i64_in _ (by have:=UInt8.toNat_lt (s.getD ((k:Int).toNat) 0);omega))) (zF Z (qR Z Z Z (by simp only [Int.toNat_natCast];omega) (by simp only [Int.toNat_natCast];omega)) (zF (v:=i6_ (((hashS (s.take (k+1)):Nat):Int))) Z (qY (by rw [Wk.hash_step hk2];simp) (vF Z Z Z (by omega) (by decide))) (zC 1 Z (zG (zD [1,2,5,6] [_,_,_,_] Z (zB (zC 1 Z (zF Z (qR Z Z Z (by omega) (by omega)) (zC 1 Z (zG (qX (k+1) (by omega) (by omega) (Sub.sel [1,2,5,6] Z) (fun _ h=>h)))))))))))))))))))))
 replace h12:=zU h12
 obtain rfl:k=s.length:=by omega
 rw [List.take_length];refine yN Z (zD [1,2,5] [_,_,_] Z (zE (zE (zB (zC 1 Z (zG (zD [1,2,5,7] [_,_,_,_] Z (qJ (yR (σ:=Nat) (fun j=>j≤m∧∀ i:Nat,i<j→¬ ((ents T (hashS s)).getD i ([],0)).1=s) (fun j=>[(1,str s),(2,pt_ p2),(5,i6_ ((hashS s:Nat):Int)),(7,i6_ (j:Int))]) (fun j=>Own B w0 (bk_ p2 #[sl_ q 997 997,sl_ c 1 1] 59::bk_ g cur 147::bk_ q ((bs.map bktV).toArray) 145::bk_ c #[i6_ (T.length:Int)] 3::hs)) (fun j=>m - j) (0) ⟨by omega,fun i hi=>absurd hi (by omega)⟩ (Sub.sel [1,2,5,7] Z) (fun _ h=>h) ?_)))))))))
 rintro j ⟨hj0,hall⟩;refine zE (zE (zB (zC 1 Z (zF Z (zJ Z xF Z jT Z Z) (zF Z (zQ 0 Z vB Z Z Z) (zC 1 Z (zF (v:=pf_ q (hashS s)) Z (qY (by simp) (yB Z xL xP Z Z (by omega) (by omega))) (zF (v:=sl_ g m cap) Z (xE (v:=sl_ g m cap) 2 Z jU Z Z (bkt_at (b:=some (g,m,cap,cur)) hkl hb)) (zF Z (jW Z Tryd.runUnderlying145 Z) (zC 1 Z (zG (zD [1,2,5,7,30] [_,_,_,_,_] Z (yK (b:=decide ((j:Int)<(m:Int))) Z (fun h30=>?_) (fun h30=>?_))))))))))))))
 ·
  replace h30:=zW h30
  have hj:j<m:=by omega
  refine qT (zD [1,2,5,7] [_,_,_,_] Z (zE (qJ (zE (zB (zF Z (zJ Z xF Z jT Z Z) (zF Z (zQ 0 Z vB Z Z Z) (zC 1 Z (zF (v:=pf_ q (hashS s)) Z (qY (by simp) (yB Z xL xP Z Z (by omega) (by omega))) (zF (v:=sl_ g m cap) Z (xE (v:=sl_ g m cap) 2 Z jU Z Z (bkt_at (b:=some (g,m,cap,cur)) hkl hb)) (zC 1 Z (zF (v:=pf_ g (j*2)) Z (qY (v':=pf_ g (j*2)) (by simp) (OpQ.indexAddr (i:=(j:Int)) Z Tryd.runUnderlying145 Tryd.sizeOf147 Z Z (by omega) (by omega))) (zF Z (zJ Z Tryd.runUnderlying147 Z zX Z Z) (zF (v:=str (((ents T (hashS s)).getD j ([],0)).1)) Z (xE (v:=str (((ents T (hashS s)).getD j ([],0)).1)) 1 Z qL Z Z (ent_at ht hm hj).1) (zC 1 Z (zF Z (OpQ.seql Z Z Z) (zG (zD [1,2,5,7,43] [_,_,_,_,_] Z (yK (b:=(((ents T (hashS s)).getD j ([],0)).1)==s) Z (fun h43=>?_) (fun h43=>?_))))))))))))))))))))
  ·
   refine zE (zB (zF Z (zJ Z xF Z jT Z Z) (zF Z (zQ 0 Z vB Z Z Z) (zC 1 Z (zF (v:=pf_ q (hashS s)) Z (qY (by simp) (yB Z xL xP Z Z (by omega) (by omega))) (zF (v:=sl_ g m cap) Z (xE (v:=sl_ g m cap) 2 Z jU Z Z (bkt_at (b:=some (g,m,cap,cur)) hkl hb)) (zC 1 Z (zF (v:=pf_ g (j*2)) Z (qY (v':=pf_ g (j*2)) (by simp) (OpQ.indexAddr (i:=(j:Int)) Z Tryd.runUnderlying145 Tryd.sizeOf147 Z Z (by omega) (by omega))) (zF Z (zJ Z Tryd.runUnderlying147 Z zS Z Z) (zF (v:=i6_ ((((ents T (hashS s)).getD j ([],0)).2:Int))) Z (xE (v:=i6_ ((((ents T (hashS s)).getD j ([],0)).2:Int))) 1 Z qB Z Z (ent_at ht hm hj).2) (zC 1 Z (zG (zD [4] [_] Z (qQ (qO Z Z fun w' hw=>?_)))))))))))))))
   exact .inl ⟨_,rfl,ents_mem (e:=(ents T (hashS s)).getD j ([],0)) (by rw [getD_at (by omega)];exact List.getElem_mem _) |>.trans (by rw [show ((ents T (hashS s)).getD j ([],0)).1=s from by simpa using h43]),hw.sub ((zV _ (zA _ (zA _ (zA _ (qE _))))))⟩
  refine qT (zD [1,2,5,7] [_,_,_,_] Z (zB (zC 1 Z (zF Z (qR Z Z Z (by omega) (by omega)) (zC 1 Z (zG (qX (j+1) ⟨by omega,fun i hi=>(Nat.lt_succ_iff_lt_or_eq.1 hi).elim (hall i) (fun e=>by subst e;simpa using h43)⟩ (by omega) (Sub.sel [1,2,5,7] Z) (fun _ h=>h))))))))
 replace h30:=zU h30;refine yN Z (zD [1,2,5] [_,_,_] Z (zE (zB (zF Z (zJ Z xF Z xN Z Z) (zF Z (zQ 0 Z xG Z Z Z) (zF (v:=pt_ c) Z (qY Z (yB (i:=0) Z zN zS Z Z (by decide) (by decide))) (zF Z (zQ 3 Z qB Z Z Z) (zC 1 Z (zG (zD [1,2,5,8] [_,_,_,_] Z (zE (zZ (zT Z (zJ Z xF Z xN Z Z) (zT Z (zQ 0 Z xG Z Z Z) (qI 1 Z (zT Z (qR Z Z Z (by omega) (by omega)) (zT (v:=pt_ c) Z (qY Z (yB (i:=0) Z zN zS Z Z (by decide) (by decide))) (qV (v:=i6_ ((T.length:Int)+(1:Int))) (hs':=(_::_::_::bk_ c #[i6_ ((T.length:Int)+(1:Int))] 3::hs)) 3 Z Z Z Z Z Z zS Z (by simp) Z (zI (zD [1,2,5,8] [_,_,_,_] Z (zE (Wk.regionT (S:=Own B w0 [bk_ p2 #[sl_ q 997 997,sl_ c 1 1] 59,bk_ c #[i6_ ((T.length:Int)+(1:Int))] 3]) (.take 0 (.take 1 (.take 2 (.take 3 (.take 4 (.take 5 (.take 6 (.take 8 (.take 9 (.take 10 (.two 7 (.one 11 (.one 12 (.take 13 (.one 14 .done)))) 11 (.one 7 (.one 12 (.take 13 (.one 14 .done))))))))))))))) yH (fun _ h=>h.drawn) (by kernel_rfl) (xU Z Z Z Z Z (zJ Z xF Z jT Z Z) (pk [0,3] Z Z) (xU Z Z Z Z Z (zQ 0 Z vB Z Z Z) (pk [0,3] Z Z) (Lt.run 1 Z (pk [0,3] Z Z) (xU Z Z Z Z Z (zJ Z xF Z jT Z Z) (pk [0,3] Z Z) (xU Z Z Z Z Z (zQ 0 Z vB Z Z Z) (pk [0,3] Z Z) (Lt.run 1 Z (pk [0,3] Z Z) (xU (v:=pf_ q (hashS s)) Z Z Z Z Z (qY (by simp) (yB Z xL xP Z Z (by omega) (by omega))) (pk [0,3] Z Z) (Lt.run 2 Z (pk [0,3] Z Z) (xU (v:=.agg #[str s,i6_ (T.length:Int)]) Z Z Z Z Z (OpQ.build (xs:=[.tmp 70,.tmp 71]) (vs:=[str s,i6_ (T.length:Int)]) Z Z (by kernel_rfl)) (pk [0,3] Z Z) (Lt.two Z Z ?_ ?_))))))))))))))))))))))))))))))))
 ·
  refine zT (v:=sl_ g m cap) Z (xE (v:=sl_ g m cap) 2 Z jU Z Z (bkt_at (b:=some (g,m,cap,cur)) hkl hb)) (zI (yF (pk [0,3] Z Z) ?_));refine yZ Z (Ll.slice2 vC Z Z Z Z Z fun p73 hp73=>(zI (yF (pk [1,4] Z Z) ?_)));refine yZ Z (Ll.append vC 2 (entC (s,T.length)) Z Z Z Z Z Z Z hc hle Z (fun h=>by cases h) (fun w1 hw1 ad had j u hj=>by injection had with had;subst had;rw [Addr.add_lit,Nat.zero_add,hw1.cell (i:=0) rfl];simpa [entC] using hj) (by simp [entC,str,Value.oneCell']) (by omega) fun g2 cap2 cur2 hg2 hcg2 hlg2 htg2=>?_)
  show Ll _ _ (Own _ _ (_::_::_::_::_::hs)) _ _ ((74,sl_ g2 (m+1) cap2)::_) _ _ _;refine zI (yF (pk [1,4] Z Z) ?_);refine xU (v:=pf_ q (hashS s)) Z Z Z Z Z (qY (by simp) (yB Z xL xP Z Z (by omega) (by omega))) (pk [1,4] Z Z) (yZ Z (qV (v:=sl_ g2 (m+1) cap2) (hs':=(_::_::_::bk_ q (((bs.set (hashS s) (some (g2,(m+1),cap2,cur2))).map bktV).toArray) 145::_::hs)) 3 Z Z Z Z Z Z xP Z (by simpa using hkl) (by rw [← set_bkt];rfl) (zI (yF (pk [1,4] Z Z) ?_))));refine Lt.nil (zD [8] [_] Z (zE (zB (zC 2 Z (zG (zD [4] [_] Z (qQ (qO Z Z fun w' hw=>?_))))))))
  exact .inr ⟨rfl,ents_not (fun e he=>by obtain ⟨i,hi,rfl⟩:=List.mem_iff_getElem.1 he;have:=hall i (by omega);rwa [getD_at hi] at this),g2,cap2,cur2,hcg2,hlg2,by rw [htg2,ht],hw.sub (zV _ (zV _ (zA _ (zA _ (zA _ (qE _))))))⟩
 refine Ll.slice2 vC Z Z Z Z Z fun p73_1 hp73_1=>(zI (yF (pk [1,4] Z Z) ?_));refine yZ Z (zT (v:=sl_ g m cap) Z (xE (v:=sl_ g m cap) 3 Z jU Z Z (bkt_at (b:=some (g,m,cap,cur)) hkl hb)) (zI (yF (pk [1,4] Z Z) ?_)));refine yZ Z (Ll.append vC 2 (entC (s,T.length)) Z Z Z Z Z Z Z hc hle Z (fun h=>by cases h) (fun w1 hw1 ad had j u hj=>by injection had with had;subst had;rw [Addr.add_lit,Nat.zero_add,hw1.cell (i:=0) rfl];simpa [entC] using hj) (by simp [entC,str,Value.oneCell']) (by omega) fun g2_1 cap2_1 cur2_1 hg2_1 hcg2_1 hlg2_1 htg2_1=>?_)
 show Ll _ _ (Own _ _ (_::_::_::_::_::hs)) _ _ ((74,sl_ g2_1 (m+1) cap2_1)::_) _ _ _;refine zI (yF (pk [1,4] Z Z) ?_);refine xU (v:=pf_ q (hashS s)) Z Z Z Z Z (qY (by simp) (yB Z xL xP Z Z (by omega) (by omega))) (pk [1,4] Z Z) (yZ Z (qV (v:=sl_ g2_1 (m+1) cap2_1) (hs':=(_::_::_::bk_ q (((bs.set (hashS s) (some (g2_1,(m+1),cap2_1,cur2_1))).map bktV).toArray) 145::_::hs)) 3 Z Z Z Z Z Z xP Z (by simpa using hkl) (by rw [← set_bkt];rfl) (zI (yF (pk [1,4] Z Z) ?_))));refine Lt.nil (zD [8] [_] Z (zE (zB (zC 2 Z (zG (zD [4] [_] Z (qQ (qO Z Z fun w' hw=>?_))))))))
 exact .inr ⟨rfl,ents_not (fun e he=>by obtain ⟨i,hi,rfl⟩:=List.mem_iff_getElem.1 he;have:=hall i (by omega);rwa [getD_at hi] at this),g2_1,cap2_1,cur2_1,hcg2_1,hlg2_1,by rw [htg2_1,ht],hw.sub (zV _ (zV _ (zA _ (zA _ (zA _ (qE _))))))⟩
end Go.Proofs.YtagbocafnliabaaDoor
namespace Go.Proofs.YtagbocafnliabaaDoor
open Go.RowKit Go.Wk
set_option linter.unusedSimpArgs false
theorem number_full (B:Nat) (w0:World) (hs:List (Nat×Obj)) (q c:Nat) (bs:List Bkt) (T:List (List UInt8)) (s:List UInt8) (w:World) (hT:TabOk bs T) (hlT:T.length≤1000000) (hls:s.length≤1000) (hw:Own B w0 (tabL 145 3 147 q c bs T++hs) w) :
    Calls Tryd.prog 86 [.agg #[.slice (some ⟨q,0,none⟩) 997 997,.slice (some ⟨c,0,none⟩) 1 1],str s].toArray w fun en w'=>∃ (n:Nat) (bs':List Bkt) (T':List (List UInt8)),en=.returned (.int .i64 (n:Int))∧(TabTo T bs' T' 1∧T'[n]?=some s∧(T'=T∨T'=T++[s]∧n=T.length))∧Own B w0 (tabL 145 3 147 q c bs' T'++hs) w':=by
  have h997:=hash_lt s
  have hkl:hashS s<bs.length:=by rw [hT.len];exact h997
  cases hb:bs.getD (hashS s) none with
  | none =>
    refine (number_nil B w0 (blks 147 bs++hs) q c bs T s w hT hlT hls hb hw).mono fun en w' ⟨h1,h2,g',cap',cur',h3,h4,h5,h6⟩=>(⟨T.length,bs.set (hashS s) (some (g',1,cap',cur')),T++[s],h1,⟨⟨hT.add h2 (by rw [hT.no _ h997 hb];rfl) h3 h4 (by rw [hT.no _ h997 hb];exact h5),List.prefix_append _ _,by simp⟩,by simp,.inr ⟨rfl,rfl⟩⟩,?_⟩)
    have hp:=(blks_put (E:=147) (g:=g') (m:=1) (cap:=cap') (cur:=cur') hkl)
    rw [blks_none hkl hb] at hp
    have e1:((T++[s]).length:Int)=(T.length:Int)+1:=by simp
    show Own B w0 (_::(_,.cells #[.int .i64 ((T++[s]).length:Int)] _ (0,0))::(blks _ _++hs)) w'
    rw [e1]
    exact h6.perm ((perm_back [_] [_,_] _).trans (List.Perm.cons _ (List.Perm.cons _ (hp.symm.append_right hs))))
  | some b =>
    obtain ⟨g,m,cap,cur⟩:=b
    have hp:=(blks_take (E:=147) hkl hb)
    have hw2:Own B w0 ((g,.cells cur 147 (0,0))::(q,.cells (bs.map bktV).toArray 145 (0,0))::(c,.cells #[.int .i64 (T.length:Int)] 3 (0,0))::(blks 147 (bs.set (hashS s) none)++hs)) w :=
      hw.perm ((List.Perm.cons _ (List.Perm.cons _ (hp.append_right hs))).trans (perm_back [_,_] [_] _))
    refine (number_some B w0 (blks 147 (bs.set (hashS s) none)++hs) q c bs T s w hT hlT hls g m cap cur hb hw2).mono fun en w' h=>?_
    rcases h with ⟨n,h1,h2,h3⟩ | ⟨h1,h2,g',cap',cur',h3,h4,h5,h6⟩
    · exact ⟨n,bs,T,h1,⟨⟨hT,List.prefix_refl _,by omega⟩,h2,.inl rfl⟩,h3.perm ((perm_back [_] [_,_] _).trans (List.Perm.cons _ (List.Perm.cons _ (hp.symm.append_right hs))))⟩
    · refine ⟨T.length,bs.set (hashS s) (some (g',m+1,cap',cur')),T++[s],h1,⟨⟨hT.add h2 (by rw [(hT.yes _ h997 _ _ _ _ hb).1]) h3 h4 h5,List.prefix_append _ _,by simp⟩,by simp,.inr ⟨rfl,rfl⟩⟩,?_⟩
      have hp2:=(blks_put (E:=147) (g:=g') (m:=m+1) (cap:=cap') (cur:=cur') hkl)
      have e1:((T++[s]).length:Int)=(T.length:Int)+1:=by simp
      show Own B w0 (_::(_,.cells #[.int .i64 ((T++[s]).length:Int)] _ (0,0))::(blks _ _++hs)) w'
      rw [e1]
      exact h6.perm ((perm_back [_] [_,_] _).trans (List.Perm.cons _ (List.Perm.cons _ (hp2.symm.append_right hs))))
set_option maxHeartbeats 400000 in
theorem l7Index_ok (a:St) (va:Value) (xs:List Int) (w:World) (ha:a.Fine) (hva:Ints w va xs) (hP:Peb a.n.toNat xs.length xs) (hk3:xs.length≤3) :
    Calls Tryd.prog 133 [vS a,va].toArray w fun en w'=>en=.returned (.int .i64 ((idxP a.n.toNat xs:Nat):Int))∧Below w.heap.size w w':=by
 refine fnStart (n:=25) (e:=[(0,vS a),(1,va)]) Tryd.func133 Z Z Z Z Ends.both ?_
 have hm8:=ha.hi
 have hm1:=ha.lo;refine zE (zZ (xC (v:=vS a) Z Z Z Z Z fun p2 hp2=>?_))
 show Ll _ _ (Own _ _ [_]) _ _ ((2,pt_ p2)::_) _ _ _;refine qI 1 Z (zI (zD [1,2] [_,_] Z (zE (zB (zC 1 Z (zG (zD [1,2,5] [_,_,_] Z (zE (zE (zB (zC 1 Z (zG (zD [1,2,5,6] [_,_,_,_] Z (qJ (yR (σ:=Nat) (fun k=>k≤xs.length) (fun k=>[(1,va),(2,pt_ p2),(5,i6_ (((idxP a.n.toNat (xs.take k):Nat):Int))),(6,i6_ (k:Int))]) (fun k=>Own w.heap.size w [bk_ p2 #[i6_ a.n,str a.set,str a.rel] 24]) (fun k=>xs.length - k) (0) (by omega) (Sub.cons Z (Sub.cons Z (Sub.cons (by rfl) (Sub.sel [6] Z)))) (fun _ h=>h) ?_)))))))))))))))
 rintro k hk
 have hsm:=idx_small (peb_take hP hk) (by omega) (by omega)
 have hpm:=mul9 (x:=a.n+1) (show idxP a.n.toNat (xs.take k)≤729 by omega) (by omega) (by omega);refine zE (zE (zB (zC 2 Z (zF (v:=i6_ (xs.length:Int)) Z (yP Z zN Z (ints_length _) (fun w1 hw1=>Row.own hva hw1)) (zC 1 Z (zG (zD [1,2,5,6,10] [_,_,_,_,_] Z (yK (b:=decide ((k:Int)<(xs.length:Int))) Z (fun h10=>?_) (fun h10=>?_)))))))))
 ·
  replace h10:=zW h10
  have hkl:k<xs.length:=by omega
  have hxa:=peb_at hP hkl
  have hxa2 : -1≤xs.getD (k:Int).toNat 0∧xs.getD (k:Int).toNat 0<((a.n.toNat:Nat):Int):=hxa;refine qT (zD [1,2,5,6] [_,_,_,_] Z (zE (qJ (xV yH (fun _ h=>h.drawn) (by kernel_rfl) (zC 1 Z (zF Z (zJ Z zH Z zS Z Z) (zF Z (zQ 0 Z qB Z Z Z) (zF Z (qR Z Z Z (by omega) (by omega)) (zF Z (jL Z Z Z (by omega) (by omega)) (zC 2 Z (zF (v:=.pointer (some (sAt va (k:Int)))) Z (yO Z zN zS Z Z (by omega) (by rw [ints_length];omega) (fun w1 hw1=>Row.own hva hw1)) (zF (v:=i6_ (xs.getD ((k:Int).toNat) 0)) Z (yA Z qB Z (fun w1 hw1=>Ints.cell (Row.own hva hw1) (by omega) (by omega))) (zF Z (qR Z Z Z (by omega) (by omega)) (zF Z (qR Z Z Z (by omega) (by omega)) (zC 1 Z (zG (zD [1,2,5,6] [_,_,_,_] Z (zB (zC 1 Z (zF Z (qR Z Z Z (by omega) (by omega)) (zC 1 Z (zG (qX (k+1) (by omega) (by omega) (Sub.cons Z (Sub.cons Z (Sub.cons (by rw [idx_take hkl hxa.1,show ((a.n.toNat:Nat):Int)=a.n from by omega];rfl) (Sub.sel [6] Z)))) (fun _ h=>h))))))))))))))))))))))))
 replace h10:=zU h10
 have hke:xs.take k=xs:=List.take_of_length_le (by omega);refine yN Z (zD [5] [_] Z (zE (zB (zC 2 Z (zG (zD [4] [_] Z (qQ (qO Z Z fun w' hw=>?_))))))))
 exact ⟨ret_i (by rw [hke]),hw.below⟩
set_option maxHeartbeats 400000 in
theorem l7Count_ok (a:St) (k:Nat) (w:World) (ha:a.Fine) (hk3:k≤3) :
    Calls Tryd.prog 130 [vS a,i6_ (k:Int)].toArray w fun en w'=>en=.returned (.int .i64 (((a.n.toNat+1) ^ k:Nat):Int))∧Below w.heap.size w w':=by
 refine fnStart (n:=18) (e:=[(0,vS a),(1,i6_ (k:Int))]) Tryd.func130 Z Z Z Z Ends.both ?_
 have hm8:=ha.hi
 have hm1:=ha.lo;refine zE (zZ (xC (v:=vS a) Z Z Z Z Z fun p2 hp2=>?_))
 show Ll _ _ (Own _ _ [_]) _ _ ((2,pt_ p2)::_) _ _ _;refine qI 1 Z (zI (zD [1,2] [_,_] Z (zE (zB (zC 1 Z (zG (zD [1,2,5] [_,_,_] Z (zE (zE (zB (zC 1 Z (zG (zD [1,2,5,6] [_,_,_,_] Z (qJ (yR (σ:=Nat) (fun j=>j≤k) (fun j=>[(1,i6_ (k:Int)),(2,pt_ p2),(5,i6_ ((((a.n.toNat+1) ^ j:Nat):Int))),(6,i6_ (j:Int))]) (fun j=>Own w.heap.size w [bk_ p2 #[i6_ a.n,str a.set,str a.rel] 24]) (fun j=>k - j) (0) (by omega) (Sub.cons Z (Sub.cons Z (Sub.cons (by rfl) (Sub.sel [6] Z)))) (fun _ h=>h) ?_)))))))))))))))
 rintro j hj
 have hpw:=pow9 (size:=a.n.toNat) (k:=j) (by omega) (by omega)
 have hpm:=mul9 (x:=a.n+1) hpw (by omega) (by omega);refine zE (zE (zB (zC 3 Z (zG (zD [1,2,5,6,9] [_,_,_,_,_] Z (xI Z (fun h9=>?_) (fun h9=>?_)))))))
 ·
  refine qT (zD [1,2,5,6] [_,_,_,_] Z (zE (qJ (zB (zC 1 Z (zF Z (zJ Z zH Z zS Z Z) (zF Z (zQ 0 Z qB Z Z Z) (zF Z (qR Z Z Z (by omega) (by omega)) (zF Z (jL Z Z Z (by omega) (by omega)) (zC 1 Z (zG (zD [1,2,5,6] [_,_,_,_] Z (zB (zC 1 Z (zF Z (qR Z Z Z (by omega) (by omega)) (zC 1 Z (zG (qX (j+1) (by omega) (by omega) (Sub.cons Z (Sub.cons Z (Sub.cons (by rw [pow_cast1 (by omega)];rfl) (Sub.sel [6] Z)))) (fun _ h=>h)))))))))))))))))))
 refine yN Z (zD [5] [_] Z (zE (zB (zC 2 Z (zG (zD [4] [_] Z (qQ (qO Z Z fun w' hw=>?_))))))))
 exact ⟨ret_i (by rw [show j=k from by omega]),hw.below⟩
set_option maxHeartbeats 400000 in
theorem l7Put_ok (va:Value) (xs:List Int) (i:Nat) (x:Int) (w:World) (hva:Ints w va xs) (hi:i<xs.length) (hs:xs.length≤1000) :
    Calls Tryd.prog 134 [va,i6_ (i:Int),i6_ x].toArray w fun en w'=>∃ v,en=.returned v∧Below w.heap.size w w'∧NewRow w.heap.size 3 1 w' v xs.length (ints (xs.set i x)):=by
 refine fnStart (n:=16) (e:=[(0,va),(1,i6_ (i:Int)),(2,i6_ x)]) Tryd.func134 Z Z Z Z Ends.both (zE (zB (zC 1 Z (zG (zD [0,1,2] [_,_,_] Z (zE (zZ (yD (xs:=[]) (vs:=[]) qD Z Z Z Z Z Z (by decide) Z fun p8 hp8=>(qI 1 Z (yI (xs:=[]) (ys:=xs) qD 0 Z Z Z Z Z Z Z Z (by decide) Z (fun w1 hw1=>(Row.own hva hw1)) ((xs).length) (by first | (simp;done) | (simp;omega)) (by first | (simp;done) | (simp;omega) | omega) fun p10 cap10 cur10 hp10 hcp10 hlp10 htp10=>?_))))))))))
 show Ll _ _ (Own _ _ [_]) _ _ ((10,sl_ p10 ((xs).length) cap10)::_) _ _ _;refine qI 1 Z (zI (zD [1,2,7] [_,_,_] Z (zE (zZ (qI 3 Z (zT (v:=pf_ p10 (0+(i:Int).toNat)) Z (yB Z zN zS Z Z (by omega) (by omega)) ?_))))));refine qV (v:=i6_ x) (hs':=[bk_ p10 ((cur10.setIfInBounds ((i:Int).toNat) (i6_ x))) 3]) 0 Z Z Z Z Z Z zS Z (by rw [hcp10];omega) (by simp only [Nat.zero_add];rfl) ?_;refine zI (zD [7] [_] Z (zE (zB (zC 2 Z (zG (zD [6] [_] Z (qQ (qO Z Z fun w' hw=>?_))))))))
 exact ⟨_,rfl,hw.below,hw.newRow (i:=0) (n:=_) rfl (by simpa using hcp10) (by simpa using hlp10) (by simpa using set_takeI (by simpa using htp10))⟩
set_option maxHeartbeats 400000 in
theorem l7At_ok (a:St) (n k:Nat) (w:World) (ha:a.Fine) (hn:n≤1000000) (hk3:k≤3) :
    Calls Tryd.prog 132 [vS a,i6_ (n:Int),i6_ (k:Int)].toArray w fun en w'=>∃ v,en=.returned v∧Below w.heap.size w w'∧NewRow w.heap.size 3 1 w' v k (ints (atP a.n.toNat k n)):=by
 refine fnStart (n:=32) (e:=[(0,vS a),(1,i6_ (n:Int)),(2,i6_ (k:Int))]) Tryd.func132 Z Z Z Z Ends.both ?_
 have hm8:=ha.hi
 have hm1:=ha.lo
 have hsz:a.n+1=((a.n.toNat+1:Nat):Int):=by omega
 refine zE (zZ (xC (v:=vS a) Z Z Z Z Z fun p3 hp3=>?_))
 show Ll _ _ (Own _ _ [_]) _ _ ((3,pt_ p3)::_) _ _ _;refine qI 1 Z (zI (zD [1,2,3] [_,_,_] Z (zE (zZ (qI 1 Z (jR (k:=k) qD Tryd.zeroValue3 Z Z Z Z Z (by omega) fun p10 hp10=>?_))))))
 rw [show madeCells (Value.cells (i6_ 0)) (k*1)=(ints (List.replicate k 0)).toArray from made_ints _];refine qI 1 Z (zI (zD [1,2,3,7] [_,_,_,_] Z (zE (zE (zB (zC 1 Z (zF Z (jJ Z Z Z (by omega) (by omega)) (zC 1 Z (zG (zD [1,3,7,8] [_,_,_,_] Z (qJ (yR (σ:=Nat×Nat×List Int) (fun ⟨j,N,T⟩=>j≤k∧N≤n∧atP a.n.toNat k n=atP a.n.toNat j N++T∧T.length+j=k) (fun ⟨j,N,T⟩=>[(1,i6_ (N:Int)),(3,pt_ p3),(7,sl_ p10 k k),(8,i6_ ((j:Int) - 1))]) (fun ⟨j,N,T⟩=>Own w.heap.size w [bk_ p10 ((ints (List.replicate j 0++T)).toArray) 3,bk_ p3 #[i6_ a.n,str a.set,str a.rel] 24]) (fun ⟨j,N,T⟩=>j) (k,n,[]) ⟨by omega,Nat.le_refl _,by simp,by simp⟩ (Sub.sel [1,3,7,8] Z) (fun _ h=>by dsimp only;rw [List.append_nil];exact h) ?_))))))))))))
 rintro ⟨j,N,T⟩ ⟨hj,hN,ho,hTl⟩
 dsimp only;refine zE (zE (zB (zC 2 Z (zG (zD [1,3,7,8,14] [_,_,_,_,_] Z (yK (b:=decide ((0:Int)≤((j:Int) - 1))) Z (fun h14=>?_) (fun h14=>?_)))))))
 ·
  replace h14:=zW h14
  have hj0:0<j:=by omega
  have hmd:=Nat.mod_lt N (show 0<a.n.toNat+1 by omega)
  have hdv:=Nat.div_le_self N (a.n.toNat+1);refine qT (zD [1,3,7,8] [_,_,_,_] Z (zE (qJ (zE (zZ (qI 3 Z (zT Z (zJ Z zH Z zS Z Z) (zT Z (zQ 1 Z qB Z Z Z) (zT Z (qR Z Z Z (by omega) (by omega)) (zT (v:=i6_ (((N % (a.n.toNat+1):Nat):Int))) Z (qY (by congr 1;rw [hsz];rfl) (vF Z Z Z (by omega) (by omega))) (zT Z (jJ Z Z Z (by omega) (by omega)) (zT (v:=pf_ p10 (j - 1)) Z (qY (by rw [show 0+((j:Int) - 1).toNat=j - 1 from by omega]) (yB Z zN zS Z Z (by omega) (by omega))) ?_))))))))))));refine qV (v:=i6_ ((((N % (a.n.toNat+1):Nat):Int)) - (1:Int))) (hs':=[bk_ p10 ((ints ((List.replicate j 0++T).set (j - 1) ((((N % (a.n.toNat+1):Nat):Int)) - (1:Int)))).toArray) 3,_]) 0 Z Z Z Z Z Z zS Z (by show _<(ints (List.replicate j 0++T)).length;rw [ints_length,zL,List.length_replicate];omega) (by first | (rw [ints_set];rfl) | (simp only [Nat.zero_add];rw [ints_set];rfl)) ?_;refine zI (zD [1,3,7,8] [_,_,_,_] Z (zB (zC 1 Z (zF Z (zJ Z zH Z zS Z Z) (zF Z (zQ 1 Z qB Z Z Z) (zF Z (qR Z Z Z (by omega) (by omega)) (zF (v:=i6_ (((N / (a.n.toNat+1):Nat):Int))) Z (qY (by congr 1;rw [hsz];rfl) (OpQ.quo Z Z Z (by omega) (by omega) (by omega))) (zC 1 Z (zG (zD [1,3,7,8] [_,_,_,_] Z (zB (zC 1 Z (zF Z (jJ Z Z Z (by omega) (by omega)) (zC 1 Z (zG (qX ((j - 1,N / (a.n.toNat+1),(((N % (a.n.toNat+1):Nat):Int) - 1)::T)) ⟨by omega,Nat.le_trans (Nat.div_le_self _ _) hN,by rw [ho,atP_step (by omega)];simp,by rw [qG];omega⟩ (by dsimp only;omega) (Sub.cons Z (Sub.cons Z (Sub.cons Z (Sub.cons (by dsimp only;rw [show ((j - 1:Nat):Int) - 1=(j:Int) - 1 - (1:Int) from by omega];rfl) Sub.nil)))) (fun _ h=>by rw [← rep_set2 (by omega)];exact h)))))))))))))))))
 replace h14:=zU h14;refine yN Z (zD [7] [_] Z (zE (zB (zC 2 Z (zG (zD [6] [_] Z (qQ (qO Z Z fun w' hw=>?_))))))))
 obtain rfl:j=0:=by omega
 have hT:atP a.n.toNat k n=T:=by rw [ho];rfl
 exact ⟨_,rfl,hw.below,by rw [hT];exact hw.newRow (i:=0) (n:=_) rfl (row_full_size (by omega)) (Nat.le_refl _) (row_full (by omega))⟩
set_option maxHeartbeats 400000 in
theorem l7Start_ok (B:Nat) (w0:World) (hs:List (Nat×Obj)) (q c:Nat) (bs:List Bkt) (T:List (List UInt8)) (a:St) (k:Nat) (w:World) (hT:TabOk bs T) (hv:validB a=true) (h1:1≤k) (hk3:k≤3) (hcap:T.length+((a.n.toNat+1) ^ k:Nat)≤1000000) (hw:Own B w0 (tabL 145 3 147 q c bs T++hs) w) :
    Calls Tryd.prog 99 [.agg #[sl_ q 997 997,sl_ c 1 1],vS a,i6_ (k:Int)].toArray w fun en w'=>∃ (g:Nat) (R':List Int) (bs':List Bkt) (T':List (List UInt8)),en=.returned (.slice (some ⟨g,0,none⟩) ((a.n.toNat+1) ^ k:Nat) ((a.n.toNat+1) ^ k:Nat))∧(TabTo T bs' T' ((a.n.toNat+1) ^ k:Nat)∧NumOf T' (text0 a k) R' ((a.n.toNat+1) ^ k:Nat)∧Onto T T' R' ((a.n.toNat+1) ^ k:Nat))∧Own B w0 ((g,.cells (ints R').toArray 3 (0,0))::(tabL 145 3 147 q c bs' T'++hs)) w':=by
 refine fnStartC (Own B w0 (tabL 145 3 147 q c bs T++hs)) (n:=31) (e:=[(0,.agg #[sl_ q 997 997,sl_ c 1 1]),(1,vS a),(2,i6_ (k:Int))]) Tryd.func99 Z Z Z Z Ends.both hw ?_
 have ha:=validB_fine hv
 have hm8:=ha.hi
 have hm1:=ha.lo
 have hm8n:a.n.toNat≤8:=by omega
 have hp9:=pow9 (size:=a.n.toNat) (k:=k) (by omega) hk3;refine zE (zZ (xC (v:=.agg #[sl_ q 997 997,sl_ c 1 1]) Z Z Z Z Z fun p3 hp3=>?_))
 show Ll _ _ (Own _ _ (_::_::_::(blks 147 bs++hs))) _ _ ((3,pt_ p3)::_) _ _ _;refine xC (v:=vS a) Z Z Z Z Z fun p4 hp4=>?_
 show Ll _ _ (Own _ _ (_::_::_::_::(blks 147 bs++hs))) _ _ ((4,pt_ p4)::_) _ _ _;refine qI 1 Z (zI (zD [2,3,4] [_,_,_] Z (zE (zZ (zT Z (zY (cs:=#[i6_ a.n,str a.set,str a.rel]) 0 Z zP Z Z zM) (qI 1 Z (zT (v:=i6_ ((((a.n.toNat+1) ^ k:Nat):Int))) Z (qN Z Tryd.call130 Z qC (fun w1 hw1=>l7Count_ok a k w1 ha hk3)) (jR (k:=((a.n.toNat+1) ^ k:Nat)) qD Tryd.zeroValue3 Z Z Z Z Z (by omega) fun p12 hp12=>?_))))))))
 rw [show madeCells (Value.cells (i6_ 0)) (((a.n.toNat+1) ^ k:Nat)*1)=(ints (List.replicate ((a.n.toNat+1) ^ k:Nat) 0)).toArray from made_ints _];refine qI 1 Z (zI (zD [2,3,4,7] [_,_,_,_] Z (zE (zE (zB (zC 1 Z (zG (zD [2,3,4,7,8] [_,_,_,_,_] Z (qJ (yR (σ:=Nat×List Bkt×List (List UInt8)×List Int) (fun ⟨n,bs1,T1,R'⟩=>n≤((a.n.toNat+1) ^ k:Nat)∧TabTo T bs1 T1 n∧NumTo T1 (text0 a k) R' ((a.n.toNat+1) ^ k:Nat) n∧Onto T T1 R' n) (fun ⟨n,bs1,T1,R'⟩=>[(2,i6_ (k:Int)),(3,pt_ p3),(4,pt_ p4),(7,sl_ p12 ((a.n.toNat+1) ^ k:Nat) ((a.n.toNat+1) ^ k:Nat)),(8,i6_ (n:Int))]) (fun ⟨n,bs1,T1,R'⟩=>Own B w0 (bk_ p12 ((ints R').toArray) 3::bk_ p4 #[i6_ a.n,str a.set,str a.rel] 24::bk_ p3 #[sl_ q 997 997,sl_ c 1 1] 59::bk_ q ((bs1.map bktV).toArray) 145::bk_ c #[i6_ (T1.length:Int)] 3::(blks 147 bs1++hs))) (fun ⟨n,bs1,T1,R'⟩=>((a.n.toNat+1) ^ k:Nat) - n) ((0,bs,T,List.replicate ((a.n.toNat+1) ^ k:Nat) 0)) ⟨by omega,⟨hT,List.prefix_refl _,by omega⟩,NumTo.zero _ _ _,Onto.zero _ _⟩ (Sub.sel [2,3,4,7,8] Z) (fun _ h=>h) ?_))))))))))
 rintro ⟨n,bs1,T1,R'⟩ ⟨hn,hTT,hN,hO⟩
 dsimp only
 have hTl:=hTT.len
 have hRl:=hN.1;refine zE (zE (zB (zC 2 Z (zF Z (jW Z zN Z) (zC 1 Z (zG (zD [2,3,4,7,8,16] [_,_,_,_,_,_] Z (yK (b:=decide ((n:Int)<((((a.n.toNat+1) ^ k:Nat):Int)))) Z (fun h16=>?_) (fun h16=>?_)))))))))
 ·
  replace h16:=zW h16
  have Pa:=peb_pebbles hv h1 hk3 n
  have hPl:=atP_len a.n.toNat k n;refine qT (zD [2,3,4,7,8] [_,_,_,_,_] Z (zE (qJ (jN (S:=Own B w0 [bk_ p4 #[i6_ a.n,str a.set,str a.rel] 24,bk_ p3 #[sl_ q 997 997,sl_ c 1 1] 59]) [(0,true),(1,true),(2,true),(3,true),(4,true),(5,true),(6,true),(7,false),(8,false),(9,false),(10,true),(11,false)] yH (fun _ h=>h.drawn) (by kernel_rfl) (xZ 2 Z (pk [1,2] Z Z) (xR Z Z Z Z Z (zY (cs:=#[sl_ q 997 997,sl_ c 1 1]) 1 Z Tryd.isAgg59 Z Z vD) (pk [1,2] Z Z) (xR Z Z Z Z Z (zY (cs:=#[i6_ a.n,str a.set,str a.rel]) 0 Z zP Z Z zM) (pk [1,2] Z Z) (xR Z Z Z Z Z (zY (cs:=#[i6_ a.n,str a.set,str a.rel]) 0 Z zP Z Z zM) (pk [1,2] Z Z) (xZ 2 Z (pk [1,2] Z Z) (xJ Z (Ll.callRow (xs:=[.tmp 23,.tmp 24,.tmp 25]) (m:=k) (vs:=ints (atP a.n.toNat k n)) (el:=3) (size:=1) Z Z Z Z Tryd.call132 Z (fun w1 hw1=>l7At_ok a n k w1 ha (by omega) hk3) fun p26 cap26 cur26 hp26 hcp26 hlp26 htp26=>(zI (xA (pk [2,3] Z Z) ?_)))))))))))));refine xJ Z (zT (v:=str (signT (atP a.n.toNat k n) (atP a.n.toNat k n).length++atomBits a (placed (atP a.n.toNat k n) (atP a.n.toNat k n).length))) Z (qN Z Tryd.call131 Z qC (fun w1 hw1=>l7Atoms_ok a (sl_ p26 k cap26) (atP a.n.toNat k n) w1 Pa (yC hw1 (i:=0) Z (by simpa using htp26) (by simp) hlp26))) (zI (xA (pk [2,3] Z Z) ?_)));refine xJ Z (Ll.callTab (S:=145) (I:=3) (E:=147) (q:=q) (c:=c) (bs:=bs1) (T:=T1) (hs:=hs) (ok:=fun m bs' T'=>TabTo T1 bs' T' 1∧T'[m]?=some (signT (atP a.n.toNat k n) (atP a.n.toNat k n).length++atomBits a (placed (atP a.n.toNat k n) (atP a.n.toNat k n).length))∧(T'=T1∨T'=T1++[(signT (atP a.n.toNat k n) (atP a.n.toNat k n).length++atomBits a (placed (atP a.n.toNat k n) (atP a.n.toNat k n).length))]∧m=T1.length)) (xs:=[.tmp 21,.tmp 27]) (vs:=[.agg #[sl_ q 997 997,sl_ c 1 1],str (signT (atP a.n.toNat k n) (atP a.n.toNat k n).length++atomBits a (placed (atP a.n.toNat k n) (atP a.n.toNat k n).length))]) [bk_ p26 cur26 3,bk_ p12 ((ints R').toArray) 3,bk_ p4 #[i6_ a.n,str a.set,str a.rel] 24,bk_ p3 #[sl_ q 997 997,sl_ c 1 1] 59] Z Z Z Z Tryd.call86 Z (fun w1 hw1=>number_full B w0 ([bk_ p26 cur26 3,bk_ p12 ((ints R').toArray) 3,bk_ p4 #[i6_ a.n,str a.set,str a.rel] 24,bk_ p3 #[sl_ q 997 997,sl_ c 1 1] 59]++hs) q c bs1 T1 (signT (atP a.n.toNat k n) (atP a.n.toNat k n).length++atomBits a (placed (atP a.n.toNat k n) (atP a.n.toNat k n).length)) w1 hTT.ok (by omega) (by rw [zL,signT_length,atP_len];have:=placed_le (atP a.n.toNat k n) k;have h9:=bits_small (a:=a) (xs:=placed (atP a.n.toNat k n) k) (i:=(placed (atP a.n.toNat k n) k).length) (by omega);unfold atomBits;omega) hw1) fun m bs_ T_ hKm=>?_)
  show Ll _ _ (Own _ _ (_::_::_::_::_::_::(blks 147 bs_++hs))) _ _ ((28,i6_ (m:Int))::_) _ _ _;refine zI (xA (pk [2,3] Z Z) ?_);refine xR (v:=pf_ p12 (0+(n:Int).toNat)) Z Z Z Z Z (yB Z zN zS Z Z (by omega) (by omega)) (pk [2,3] Z Z) (xJ Z ?_);refine qV (v:=i6_ (m:Int)) (hs':=(_::bk_ p12 ((ints (R'.set ((n:Int).toNat) (m:Int))).toArray) 3::_::_::_::_::(blks 147 bs_++hs))) 1 Z Z Z Z Z Z zS Z (by show _<(ints R').length;rw [ints_length,hRl];omega) (by first | (rw [ints_set];rfl) | (simp only [Nat.zero_add];rw [ints_set];rfl)) ?_;refine zI (xA (pk [2,3] Z Z) ?_);refine Ld.nil (zD [2,3,4,7,8] [_,_,_,_,_] Z (zB (zC 1 Z (zF Z (qR Z Z Z (by omega) (by omega)) (zC 1 Z (zG (qX (n+1,bs_,T_,R'.set n (m:Int)) ⟨by omega,hTT.trans hKm.1 (by omega),hN.step hKm.1.pre hKm.2.1 (by omega),hO.step hKm.2.2 (by omega)⟩ (by omega) (Sub.sel [2,3,4,7,8] Z) (fun _ h=>h.sub (zV _ (zA _ (zA _ (zA _ (zA _ (zA _ (qE _)))))))))))))))
 replace h16:=zU h16;refine yN Z (zD [7] [_] Z (zE (zB (zC 2 Z (zG (zD [6] [_] Z (qQ (qO Z Z fun w' hw=>?_))))))))
 obtain rfl:n=((a.n.toNat+1) ^ k:Nat):=by omega
 exact ⟨p12,R',bs1,T1,rfl,⟨hTT,hN.all,hO⟩,hw.sub (zA _ (zV _ (zV _ (zA _ (zA _ (qE _))))))⟩
set_option maxHeartbeats 400000 in
theorem l7Round_ok (B:Nat) (w0:World) (hs:List (Nat×Obj)) (q c:Nat) (bs:List Bkt) (T:List (List UInt8)) (a:St) (vr:Value) (R:List Int) (k:Nat) (w:World) (hvr:∀ w,Own B w0 hs w→Ints w vr R) (hRN:R.length=((a.n.toNat+1) ^ k:Nat)) (hRs:∀ i:Nat,0≤R.getD i 0∧R.getD i 0<1000000) (hT:TabOk bs T) (hv:validB a=true) (h1:1≤k) (hk3:k≤3) (hcap:T.length+((a.n.toNat+1) ^ k:Nat)≤1000000) (hw:Own B w0 (tabL 145 3 147 q c bs T++hs) w) :
    Calls Tryd.prog 100 [.agg #[sl_ q 997 997,sl_ c 1 1],vS a,vr,i6_ (k:Int)].toArray w fun en w'=>∃ (g:Nat) (R':List Int) (bs':List Bkt) (T':List (List UInt8)),en=.returned (.slice (some ⟨g,0,none⟩) R.length R.length)∧(TabTo T bs' T' ((a.n.toNat+1) ^ k:Nat)∧NumOf T' (textS a R k) R' ((a.n.toNat+1) ^ k:Nat)∧Onto T T' R' ((a.n.toNat+1) ^ k:Nat))∧Own B w0 ((g,.cells (ints R').toArray 3 (0,0))::(tabL 145 3 147 q c bs' T'++hs)) w':=by
 refine fnStartC (Own B w0 (tabL 145 3 147 q c bs T++hs)) (n:=82) (e:=[(0,.agg #[sl_ q 997 997,sl_ c 1 1]),(1,vS a),(2,vr),(3,i6_ (k:Int))]) Tryd.func100 Z Z Z Z Ends.both hw ?_
 have ha:=validB_fine hv
 have hm8:=ha.hi
 have hm1:=ha.lo
 have hm8n:a.n.toNat≤8:=by omega
 have hp9:=pow9 (size:=a.n.toNat) (k:=k) (by omega) hk3;refine zE (zZ (xC (v:=.agg #[sl_ q 997 997,sl_ c 1 1]) Z Z Z Z Z fun p4 hp4=>?_))
 show Ll _ _ (Own _ _ (_::_::_::(blks 147 bs++hs))) _ _ ((4,pt_ p4)::_) _ _ _;refine xC (v:=vS a) Z Z Z Z Z fun p5 hp5=>?_
 show Ll _ _ (Own _ _ (_::_::_::_::(blks 147 bs++hs))) _ _ ((5,pt_ p5)::_) _ _ _;refine qI 1 Z (zI (zD [2,3,4,5] [_,_,_,_] Z (zE (zZ (qI 1 Z (zT (v:=i6_ (R.length:Int)) Z (yP Z zN Z (ints_length _) (fun w1 hw1=>hvr _ (qW (f:=bk_ p5 #[i6_ a.n,str a.set,str a.rel] 24::bk_ p4 #[sl_ q 997 997,sl_ c 1 1] 59::bk_ q ((bs.map bktV).toArray) 145::bk_ c #[i6_ (T.length:Int)] 3::blks 147 (bs)) hw1))) (jR (k:=R.length) qD Tryd.zeroValue3 Z Z Z Z Z (by omega) fun p19 hp19=>?_)))))))
 rw [show madeCells (Value.cells (i6_ 0)) (R.length*1)=(ints (List.replicate R.length 0)).toArray from made_ints _];refine qI 1 Z (zI (zD [2,3,4,5,9] [_,_,_,_,_] Z (zE (zE (zB (zC 1 Z (zG (zD [2,3,4,5,9,10] [_,_,_,_,_,_] Z (qJ (yR (σ:=Nat×List Bkt×List (List UInt8)×List Int) (fun ⟨n,bs1,T1,R'⟩=>n≤R.length∧TabTo T bs1 T1 n∧NumTo T1 (textS a R k) R' R.length n∧Onto T T1 R' n) (fun ⟨n,bs1,T1,R'⟩=>[(2,vr),(3,i6_ (k:Int)),(4,pt_ p4),(5,pt_ p5),(9,sl_ p19 R.length R.length),(10,i6_ (n:Int))]) (fun ⟨n,bs1,T1,R'⟩=>Own B w0 (bk_ p19 ((ints R').toArray) 3::bk_ p5 #[i6_ a.n,str a.set,str a.rel] 24::bk_ p4 #[sl_ q 997 997,sl_ c 1 1] 59::bk_ q ((bs1.map bktV).toArray) 145::bk_ c #[i6_ (T1.length:Int)] 3::(blks 147 bs1++hs))) (fun ⟨n,bs1,T1,R'⟩=>R.length - n) (0,bs,T,List.replicate R.length 0) ⟨by omega,⟨hT,List.prefix_refl _,by omega⟩,NumTo.zero _ _ _,Onto.zero _ _⟩ (Sub.sel [2,3,4,5,9,10] Z) (fun _ h=>h) ?_))))))))))
 rintro ⟨n,bs1,T1,R'⟩ ⟨hn,hTT,hN,hO⟩
 dsimp only
 have hTl:=hTT.len
 have hRl:=hN.1
 have hXP:=atP_peb a.n.toNat k n
 have hXl:=atP_len a.n.toNat k n;refine zE (zE (zB (zC 2 Z (zF (v:=i6_ (R.length:Int)) Z (yP Z zN Z (ints_length _) (fun w1 hw1=>hvr _ (qW (f:=bk_ p19 ((ints R').toArray) 3::bk_ p5 #[i6_ a.n,str a.set,str a.rel] 24::bk_ p4 #[sl_ q 997 997,sl_ c 1 1] 59::bk_ q ((bs1.map bktV).toArray) 145::bk_ c #[i6_ (T1.length:Int)] 3::blks 147 (bs1)) hw1))) (zC 1 Z (zG (zD [2,3,4,5,9,10,23] [_,_,_,_,_,_,_] Z (yK (b:=decide ((n:Int)<(R.length:Int))) Z (fun h23=>?_) (fun h23=>?_)))))))))
 ·
  replace h23:=zW h23
  have hnN:n<R.length:=by omega
  have hb0:0≤numP a.n.toNat R (atP a.n.toNat k n)∧numP a.n.toNat R (atP a.n.toNat k n)<1000000:=hRs _
  have hb2:=decS_len (numP a.n.toNat R (atP a.n.toNat k n)).toNat 12 (by omega) (by decide);refine qT (zD [2,3,4,5,9,10] [_,_,_,_,_,_] Z (zE (qJ (zE (zZ (zT Z (zY (cs:=#[i6_ a.n,str a.set,str a.rel]) 1 Z zP Z Z zM) (qI 2 Z (Ll.callRow (xs:=[.tmp 26,.tmp 27,.tmp 28]) (m:=k) (vs:=ints (atP a.n.toNat k n)) (el:=3) (size:=1) Z Z Z Z Tryd.call132 Z (fun w1 hw1=>l7At_ok a n k w1 ha (by omega) hk3) fun p29 cap29 cur29 hp29 hcp29 hlp29 htp29=>(qI 1 Z (zI (zD [2,3,4,5,9,10,11] [_,_,_,_,_,_,_] Z (zE (zB (zC 2 Z (zF (v:=.pointer (some (sAt vr (n:Int)))) Z (yO Z zN zS Z Z (by omega) (by rw [ints_length];omega) (fun w1 hw1=>hvr _ (qW (f:=bk_ p29 cur29 3::bk_ p19 ((ints R').toArray) 3::bk_ p5 #[i6_ a.n,str a.set,str a.rel] 24::bk_ p4 #[sl_ q 997 997,sl_ c 1 1] 59::bk_ q ((bs1.map bktV).toArray) 145::bk_ c #[i6_ (T1.length:Int)] 3::blks 147 (bs1)) hw1))) (zF (v:=i6_ (numP a.n.toNat R (atP a.n.toNat k n))) Z (qY (by rw [num_at (by omega)];rfl) (yA Z qB Z (fun w1 hw1=>Ints.cell (hvr _ (qW (f:=bk_ p29 cur29 3::bk_ p19 ((ints R').toArray) 3::bk_ p5 #[i6_ a.n,str a.set,str a.rel] 24::bk_ p4 #[sl_ q 997 997,sl_ c 1 1] 59::bk_ q ((bs1.map bktV).toArray) 145::bk_ c #[i6_ (T1.length:Int)] 3::blks 147 (bs1)) hw1)) (by omega) (by omega)))) (zF (v:=str (decS (numP a.n.toNat R (atP a.n.toNat k n)).toNat)) Z (qN Z Tryd.call85 Z qC (fun w1 hw1=>l15Dec_ok (numP a.n.toNat R (atP a.n.toNat k n)) w1 (by omega) (by omega))) (zF Z (yE Z Z Z (by first | omega | (simp only [zL,qG,qF];omega))) (zC 1 Z (zG (zD [2,3,4,5,9,10,11,12] [_,_,_,_,_,_,_,_] Z (zE (zE (zB (zC 1 Z (zG (zD [2,3,4,5,9,10,11,12,13] [_,_,_,_,_,_,_,_,_] Z (qJ (yR (σ:=Nat) (fun i=>i≤k) (fun i=>[(2,vr),(3,i6_ (k:Int)),(4,pt_ p4),(5,pt_ p5),(9,sl_ p19 R.length R.length),(10,i6_ (n:Int)),(11,sl_ p29 k cap29),(12,str (([114]++decS (numP a.n.toNat R (atP a.n.toNat k n)).toNat)++descM a.n.toNat R (atP a.n.toNat k n) i)),(13,i6_ (i:Int))]) (fun i=>Own B w0 (bk_ p29 cur29 3::bk_ p19 ((ints R').toArray) 3::bk_ p5 #[i6_ a.n,str a.set,str a.rel] 24::bk_ p4 #[sl_ q 997 997,sl_ c 1 1] 59::bk_ q ((bs1.map bktV).toArray) 145::bk_ c #[i6_ (T1.length:Int)] 3::(blks 147 bs1++hs))) (fun i=>k - i) (0) (by omega) (Sub.cons Z (Sub.cons Z (Sub.cons Z (Sub.cons Z (Sub.cons Z (Sub.cons Z (Sub.cons Z (Sub.cons (by simp [descM,List.lookup]) (Sub.sel [13] Z))))))))) (fun _ h=>h) ?_)))))))))))))))))))))))))))))
  rintro i hi;refine zE (zE (zB (zC 3 Z (zG (zD [2,3,4,5,9,10,11,12,13,38] [_,_,_,_,_,_,_,_,_,_] Z (yK (b:=decide ((i:Int)<(k:Int))) Z (fun h38=>?_) (fun h38=>?_)))))))
  ·
   replace h38:=zW h38
   have hik:i<k:=by omega
   have hdm:=descM_len (R:=R) (xs:=(atP a.n.toNat k n)) hm8n hRs i;refine qT (zD [2,3,4,5,9,10,11,12,13] [_,_,_,_,_,_,_,_,_] Z (zE (qJ (zE (zZ (yD (xs:=[]) (vs:=[]) qD Z Z Z Z Z Z (by decide) Z fun p41 hp41=>(qI 1 Z (zI (zD [2,3,4,5,9,10,11,12,13,14] [_,_,_,_,_,_,_,_,_,_] Z (zE (zE (zB (zC 1 Z (zG (zD [2,3,4,5,9,10,11,12,13,14,15] [_,_,_,_,_,_,_,_,_,_,_] Z (qJ (yR (σ:=Nat×Nat×Nat×Array Value) (fun ⟨x,g,cap,cur⟩=>x≤a.n.toNat∧cur.size=cap*1∧(movesTo a.n.toNat R (atP a.n.toNat k n) i x).length≤cap∧cur.toList.take (movesTo a.n.toNat R (atP a.n.toNat k n) i x).length=ints (movesTo a.n.toNat R (atP a.n.toNat k n) i x)) (fun ⟨x,g,cap,cur⟩=>[(2,vr),(3,i6_ (k:Int)),(4,pt_ p4),(5,pt_ p5),(9,sl_ p19 R.length R.length),(10,i6_ (n:Int)),(11,sl_ p29 k cap29),(12,str (([114]++decS (numP a.n.toNat R (atP a.n.toNat k n)).toNat)++descM a.n.toNat R (atP a.n.toNat k n) i)),(13,i6_ (i:Int)),(14,sl_ g ((movesTo a.n.toNat R (atP a.n.toNat k n) i x).length) cap),(15,i6_ (x:Int))]) (fun ⟨x,g,cap,cur⟩=>Own B w0 (bk_ g cur 3::bk_ p29 cur29 3::bk_ p19 ((ints R').toArray) 3::bk_ p5 #[i6_ a.n,str a.set,str a.rel] 24::bk_ p4 #[sl_ q 997 997,sl_ c 1 1] 59::bk_ q ((bs1.map bktV).toArray) 145::bk_ c #[i6_ (T1.length:Int)] 3::(blks 147 bs1++hs))) (fun ⟨x,g,cap,cur⟩=>a.n.toNat - x) (0,p41,0,#[]) ⟨by omega,rfl,Nat.le_refl _,rfl⟩ (Sub.sel [2,3,4,5,9,10,11,12,13,14,15] Z) (fun _ h=>h) ?_)))))))))))))))))
   rintro ⟨x,g,cap,cur⟩ ⟨hx,hc,hle,ht⟩
   dsimp only
   have hml:=moves_le a.n.toNat R (atP a.n.toNat k n) i x;refine zE (zE (zB (zC 1 Z (zF Z (zJ Z zH Z zS Z Z) (zF Z (zQ 3 Z qB Z Z Z) (zC 1 Z (zG (zD [2,3,4,5,9,10,11,12,13,14,15,45] [_,_,_,_,_,_,_,_,_,_,_,_] Z (yK (b:=decide ((x:Int)<a.n)) Z (fun h45=>?_) (fun h45=>?_))))))))))
   ·
    replace h45:=zW h45
    have hxn:x<a.n.toNat:=by omega
    have hPs:=peb_set (i:=i) hXP hxn
    have hix:=idxP_lt hPs
    have hQs:0≤numP a.n.toNat R ((atP a.n.toNat k n).set i (x:Int))∧numP a.n.toNat R ((atP a.n.toNat k n).set i (x:Int))<1000000:=hRs _;refine qT (zD [2,3,4,5,9,10,11,12,13,14,15] [_,_,_,_,_,_,_,_,_,_,_] Z (zE (qJ (jN (S:=Own B w0 (bk_ p29 cur29 3::bk_ p19 ((ints R').toArray) 3::bk_ p5 #[i6_ a.n,str a.set,str a.rel] 24::bk_ p4 #[sl_ q 997 997,sl_ c 1 1] 59::bk_ q ((bs1.map bktV).toArray) 145::bk_ c #[i6_ (T1.length:Int)] 3::(blks 147 bs1++hs))) [(0,true),(1,true),(2,true),(3,true),(4,true),(5,true),(6,false),(7,false),(8,true),(9,false),(10,false),(11,true)] yH (fun _ h=>h.drawn) (by kernel_rfl) (xZ 2 Z (pT 7 [1,2,3,4,5,6] Z Z) (xR Z Z Z Z Z (zY (cs:=#[i6_ a.n,str a.set,str a.rel]) 2 Z zP Z Z zM) (pT 7 [1,2,3,4,5,6] Z Z) (xZ 3 Z (pT 7 [1,2,3,4,5,6] Z Z) (xJ Z (Ll.callRow (xs:=[.tmp 51,.tmp 52,.tmp 53]) (m:=(atP a.n.toNat k n).length) (vs:=ints ((atP a.n.toNat k n).set i (x:Int))) (el:=3) (size:=1) Z Z Z Z Tryd.call134 Z (fun w1 hw1=>l7Put_ok (sl_ p29 k cap29) (atP a.n.toNat k n) i (x:Int) w1 (yC hw1 (i:=1) Z (by simpa using htp29) (by simp) hlp29) (by rw [hXl];exact hik) (by rw [hXl];omega)) fun p54 cap54 cur54 hp54 hcp54 hlp54 htp54=>(zI (xA (pT 8 [2,3,4,5,6,7] Z Z) ?_)))))))))));refine xJ Z (zT (v:=i6_ (((idxP a.n.toNat ((atP a.n.toNat k n).set i (x:Int)):Nat):Int))) Z (qN Z Tryd.call133 Z qC (fun w1 hw1=>l7Index_ok a (sl_ p54 ((atP a.n.toNat k n).length) cap54) ((atP a.n.toNat k n).set i (x:Int)) w1 ha (yC hw1 (i:=0) Z (by simpa using htp54) (by simp) hlp54) ⟨rfl,hPs.2⟩ (by rw [List.length_set,hXl];exact hk3))) (zI (xA (pT 8 [2,3,4,5,6,7] Z Z) ?_)));refine xR (v:=.pointer (some (sAt vr (((idxP a.n.toNat ((atP a.n.toNat k n).set i (x:Int)):Nat):Int))))) Z Z Z Z Z (yO Z zN zS Z Z (by omega) (by rw [ints_length];omega) (fun w1 hw1=>hvr _ (qW (f:=bk_ p29 cur29 3::bk_ p19 ((ints R').toArray) 3::bk_ p5 #[i6_ a.n,str a.set,str a.rel] 24::bk_ p4 #[sl_ q 997 997,sl_ c 1 1] 59::bk_ q ((bs1.map bktV).toArray) 145::bk_ c #[i6_ (T1.length:Int)] 3::blks 147 (bs1)) hw1))) (pT 8 [2,3,4,5,6,7] Z Z) (xJ Z (zT (v:=i6_ (numP a.n.toNat R ((atP a.n.toNat k n).set i (x:Int)))) Z (qY (by rfl) (yA Z qB Z (fun w1 hw1=>Ints.cell (hvr _ (qW (f:=bk_ p54 cur54 3::bk_ g cur 3::bk_ p29 cur29 3::bk_ p19 ((ints R').toArray) 3::bk_ p5 #[i6_ a.n,str a.set,str a.rel] 24::bk_ p4 #[sl_ q 997 997,sl_ c 1 1] 59::bk_ q ((bs1.map bktV).toArray) 145::bk_ c #[i6_ (T1.length:Int)] 3::blks 147 (bs1)) hw1)) (by omega) (by omega)))) (zI (xA (pT 8 [2,3,4,5,6,7] Z Z) ?_))))
    refine xJ Z (jI (σ:=Nat×Nat×Array Value) (ok:=fun (g,c',u)=>u.size=c'*1∧(insS (movesTo a.n.toNat R (atP a.n.toNat k n) i x) (numP a.n.toNat R ((atP a.n.toNat k n).set i (x:Int)))).length≤c'∧u.toList.take (insS (movesTo a.n.toNat R (atP a.n.toNat k n) i x) (numP a.n.toNat R ((atP a.n.toNat k n).set i (x:Int)))).length=ints (insS (movesTo a.n.toNat R (atP a.n.toNat k n) i x) (numP a.n.toNat R ((atP a.n.toNat k n).set i (x:Int))))) (v:=fun (g,c',u)=>.slice (some ⟨g,0,none⟩) (insS (movesTo a.n.toNat R (atP a.n.toNat k n) i x) (numP a.n.toNat R ((atP a.n.toNat k n).set i (x:Int)))).length c') (xs:=[.tmp 48,.tmp 57]) (vs:=[sl_ g ((movesTo a.n.toNat R (atP a.n.toNat k n) i x).length) cap,i6_ (numP a.n.toNat R ((atP a.n.toNat k n).set i (x:Int)))]) (hs':=fun (g,c',u)=>(bk_ p54 cur54 3::bk_ g u 3::bk_ p29 cur29 3::bk_ p19 ((ints R').toArray) 3::bk_ p5 #[i6_ a.n,str a.set,str a.rel] 24::bk_ p4 #[sl_ q 997 997,sl_ c 1 1] 59::bk_ q ((bs1.map bktV).toArray) 145::bk_ c #[i6_ (T1.length:Int)] 3::(blks 147 bs1++hs))) Z Z Z Z Tryd.call83 Z (fun w1 hw1=>(l5Insert_ok _ _ _ g cap cur (movesTo a.n.toNat R (atP a.n.toNat k n) i x) (numP a.n.toNat R ((atP a.n.toNat k n).set i (x:Int))) w1 hc hle ht (by omega) (hw1.perm (perm_back [bk_ p54 cur54 3] [_] _))).mono fun en w' ⟨g',cap',cur',h1,h2,h3⟩=>⟨(g',cap',cur'),h1,h2,h3.perm (perm_back [_] [bk_ p54 cur54 3] _)⟩) fun ⟨g_,cap_,cur_⟩ ⟨hcg_,hlg_,htg_⟩=>?_)
    show Ll _ _ (Own _ _ (_::_::_::_::_::_::_::_::(blks 147 bs1++hs))) _ _ ((58,sl_ g_ ((insS (movesTo a.n.toNat R (atP a.n.toNat k n) i x) (numP a.n.toNat R ((atP a.n.toNat k n).set i (x:Int)))).length) cap_)::_) _ _ _;refine zI (xA (pT 8 [2,3,4,5,6,7] Z Z) ?_);refine xZ 1 Z (pT 8 [2,3,4,5,6,7] Z Z) (Ld.nil (zD [2,3,4,5,9,10,11,12,13,14,15] [_,_,_,_,_,_,_,_,_,_,_] Z (zB (zC 1 Z (zF Z (qR Z Z Z (by omega) (by omega)) (zC 1 Z (zG (qX (x+1,g_,cap_,cur_) ⟨by omega,hcg_,hlg_,htg_⟩ (by omega) (Sub.sel [2,3,4,5,9,10,11,12,13,14,15] Z) (fun _ h=>h.sub (zV _ (zA _ (zA _ (zA _ (zA _ (zA _ (zA _ (zA _ (qE _))))))))))))))))))
   replace h45:=zU h45
   have hxe:x=a.n.toNat:=by omega
   have hsm:=moves_small (size:=a.n.toNat) (xs:=(atP a.n.toNat k n)) (i:=i) (m:=x) hRs;refine yN Z (zD [2,3,4,5,9,10,11,12,13,14] [_,_,_,_,_,_,_,_,_,_] Z (zE (zE (zB (zC 1 Z (zG (zD [2,3,4,5,9,10,11,12,13,14,16] [_,_,_,_,_,_,_,_,_,_,_] Z (qJ (yR (σ:=Nat) (fun j=>j≤(movesTo a.n.toNat R (atP a.n.toNat k n) i x).length) (fun j=>[(2,vr),(3,i6_ (k:Int)),(4,pt_ p4),(5,pt_ p5),(9,sl_ p19 R.length R.length),(10,i6_ (n:Int)),(11,sl_ p29 k cap29),(12,str ((([114]++decS (numP a.n.toNat R (atP a.n.toNat k n)).toNat)++descM a.n.toNat R (atP a.n.toNat k n) i)++commas ((movesTo a.n.toNat R (atP a.n.toNat k n) i x).take j))),(13,i6_ (i:Int)),(14,sl_ g ((movesTo a.n.toNat R (atP a.n.toNat k n) i x).length) cap),(16,i6_ (j:Int))]) (fun j=>Own B w0 (bk_ g cur 3::bk_ p29 cur29 3::bk_ p19 ((ints R').toArray) 3::bk_ p5 #[i6_ a.n,str a.set,str a.rel] 24::bk_ p4 #[sl_ q 997 997,sl_ c 1 1] 59::bk_ q ((bs1.map bktV).toArray) 145::bk_ c #[i6_ (T1.length:Int)] 3::(blks 147 bs1++hs))) (fun j=>(movesTo a.n.toNat R (atP a.n.toNat k n) i x).length - j) (0) (by omega) (Sub.cons Z (Sub.cons Z (Sub.cons Z (Sub.cons Z (Sub.cons Z (Sub.cons Z (Sub.cons Z (Sub.cons (by simp [commas,List.lookup]) (Sub.sel [13,14,16] Z))))))))) (fun _ h=>h) ?_)))))))))
   rintro j hj;refine zE (zE (zB (zC 2 Z (zF Z (jW Z zN Z) (zC 1 Z (zG (zD [2,3,4,5,9,10,11,12,13,14,16,62] [_,_,_,_,_,_,_,_,_,_,_,_] Z (yK (b:=decide ((j:Int)<(((movesTo a.n.toNat R (atP a.n.toNat k n) i x).length:Int)))) Z (fun h62=>?_) (fun h62=>?_)))))))))
   ·
    replace h62:=zW h62
    have hct:=commas_take (i:=j) hsm (by omega)
    obtain ⟨hs0,hs1⟩:=at_small hsm (i:=j) (by omega)
    have hdi:=decS_len ((movesTo a.n.toNat R (atP a.n.toNat k n) i x).getD j 0).toNat 12 (show _<1000000000000 by omega) (by decide);refine qT (zD [2,3,4,5,9,10,11,12,13,14,16] [_,_,_,_,_,_,_,_,_,_,_] Z (zE (qJ (zB (zC 1 Z (zF Z (yE Z Z Z (by first | omega | (simp only [zL,qG,qF];omega))) (zC 2 Z (zF (v:=pf_ g j) Z (qY (by simp) (yB Z zN zS Z Z (by omega) (by omega))) (zF (v:=i6_ ((movesTo a.n.toNat R (atP a.n.toNat k n) i x).getD (j) 0)) Z (xE 0 Z qB Z Z (cur_at ht (ints_at2 (by omega)))) (zF (v:=str (decS ((movesTo a.n.toNat R (atP a.n.toNat k n) i x).getD (j) 0).toNat)) Z (qN Z Tryd.call85 Z qC (fun w1 hw1=>l15Dec_ok ((movesTo a.n.toNat R (atP a.n.toNat k n) i x).getD (j) 0) w1 (by omega) (by omega))) (zF Z (yE Z Z Z (by first | omega | (simp only [zL,qG,qF];omega))) (zC 1 Z (zG (zD [2,3,4,5,9,10,11,12,13,14,16] [_,_,_,_,_,_,_,_,_,_,_] Z (zB (zC 1 Z (zF Z (qR Z Z Z (by omega) (by omega)) (zC 1 Z (zG (qX (j+1) (by omega) (by omega) (Sub.cons Z (Sub.cons Z (Sub.cons Z (Sub.cons Z (Sub.cons Z (Sub.cons Z (Sub.cons Z (Sub.cons (by rw [commas_step (by omega)];rfl) (Sub.sel [13,14,16] Z))))))))) (fun _ h=>h)))))))))))))))))))))
   replace h62:=zU h62
   obtain rfl:j=(movesTo a.n.toNat R (atP a.n.toNat k n) i x).length:=by omega
   rw [List.take_length]
   have hcl:=commas_len hsm;refine yN Z (zD [2,3,4,5,9,10,11,12,13] [_,_,_,_,_,_,_,_,_] Z (zB (zC 1 Z (zF (v:=str (([114]++decS (numP a.n.toNat R (atP a.n.toNat k n)).toNat)++descM a.n.toNat R (atP a.n.toNat k n) (i+1))) Z (qY (by simp only [descM,hxe,List.append_assoc]) (yE Z Z Z (by first | omega | (simp only [zL,qG,qF];omega)))) (zC 1 Z (zG (zD [2,3,4,5,9,10,11,12,13] [_,_,_,_,_,_,_,_,_] Z (zB (zC 1 Z (zF Z (qR Z Z Z (by omega) (by omega)) (zC 1 Z (zG (qX (i+1) (by omega) (by omega) (Sub.cons Z (Sub.cons Z (Sub.cons Z (Sub.cons Z (Sub.cons Z (Sub.cons Z (Sub.cons Z (Sub.cons (by rfl) (Sub.sel [13] Z))))))))) (fun _ h=>h.sub (zV _ (zA _ (zA _ (zA _ (zA _ (zA _ (zA _ (qE _))))))))))))))))))))))
  replace h38:=zU h38
  obtain rfl:k=i:=by omega
  have hdm:=descM_len (R:=R) (xs:=(atP a.n.toNat k n)) hm8n hRs k;refine yN Z (zD [2,3,4,5,9,10,12] [_,_,_,_,_,_,_] Z (zZ (qI 2 Z (zT Z (zY (cs:=#[sl_ q 997 997,sl_ c 1 1]) 3 Z Tryd.isAgg59 Z Z vD) (qI 1 Z (Ll.callTab (S:=145) (I:=3) (E:=147) (q:=q) (c:=c) (bs:=bs1) (T:=T1) (hs:=hs) (ok:=fun m bs' T'=>TabTo T1 bs' T' 1∧T'[m]?=some (([114]++decS (numP a.n.toNat R (atP a.n.toNat k n)).toNat)++descM a.n.toNat R (atP a.n.toNat k n) k)∧(T'=T1∨T'=T1++[(([114]++decS (numP a.n.toNat R (atP a.n.toNat k n)).toNat)++descM a.n.toNat R (atP a.n.toNat k n) k)]∧m=T1.length)) (xs:=[.tmp 77,.tmp 78]) (vs:=[.agg #[sl_ q 997 997,sl_ c 1 1],str (([114]++decS (numP a.n.toNat R (atP a.n.toNat k n)).toNat)++descM a.n.toNat R (atP a.n.toNat k n) k)]) [bk_ p29 cur29 3,bk_ p19 ((ints R').toArray) 3,bk_ p5 #[i6_ a.n,str a.set,str a.rel] 24,bk_ p4 #[sl_ q 997 997,sl_ c 1 1] 59] Z Z Z Z Tryd.call86 Z (fun w1 hw1=>number_full B w0 ([bk_ p29 cur29 3,bk_ p19 ((ints R').toArray) 3,bk_ p5 #[i6_ a.n,str a.set,str a.rel] 24,bk_ p4 #[sl_ q 997 997,sl_ c 1 1] 59]++hs) q c bs1 T1 (([114]++decS (numP a.n.toNat R (atP a.n.toNat k n)).toNat)++descM a.n.toNat R (atP a.n.toNat k n) k) w1 hTT.ok (by omega) (by simp only [zL,qG,qF];omega) hw1) fun m bs_ T_ hKm=>?_))))))
  show Ll _ _ (Own _ _ (_::_::_::_::_::_::(blks 147 bs_++hs))) _ _ ((79,i6_ (m:Int))::_) _ _ _;refine zT (v:=pf_ p19 (0+(n:Int).toNat)) Z (yB Z zN zS Z Z (by omega) (by omega)) ?_;refine qV (v:=i6_ (m:Int)) (hs':=(_::bk_ p19 ((ints (R'.set ((n:Int).toNat) (m:Int))).toArray) 3::_::_::_::_::(blks 147 bs_++hs))) 1 Z Z Z Z Z Z zS Z (by first | (simp;done) | (simp;omega) | omega) (by first | (rw [ints_set];rfl) | (simp only [Nat.zero_add];rw [ints_set];rfl)) ?_;refine zI (zD [2,3,4,5,9,10] [_,_,_,_,_,_] Z (zB (zC 1 Z (zF Z (qR Z Z Z (by omega) (by omega)) (zC 1 Z (zG (qX (n+1,bs_,T_,R'.set n (m:Int)) ⟨by omega,hTT.trans hKm.1 (by omega),hN.step hKm.1.pre hKm.2.1 (by omega),hO.step hKm.2.2 (by omega)⟩ (by omega) (Sub.sel [2,3,4,5,9,10] Z) (fun _ h=>h.sub (zV _ (zA _ (zA _ (zA _ (zA _ (zA _ (qE _)))))))))))))))
 replace h23:=zU h23;refine yN Z (zD [9] [_] Z (zE (zB (zC 2 Z (zG (zD [8] [_] Z (qQ (qO Z Z fun w' hw=>?_))))))))
 obtain rfl:n=R.length:=by omega
 exact ⟨p19,R',bs1,T1,rfl,⟨hRN ▸ hTT,hRN ▸ hN.all,hRN ▸ hO⟩,hw.sub (zA _ (zV _ (zV _ (zA _ (zA _ (qE _))))))⟩
set_option maxHeartbeats 400000 in
theorem l7Kinds_ok (va vb:Value) (R Q:List Int) (w:World) (hva:Ints w va R) (hvb:Ints w vb Q) (hR1:R.length≤1000) (hQ1:Q.length≤1000) (hsm:∀ i:Nat,i<(R++Q).length→0≤(R++Q).getD i 0∧(R++Q).getD i 0<1000000) :
    Calls Tryd.prog 101 [va,vb].toArray w fun en w'=>en=.returned (.int .i64 (kindsP (R++Q)))∧Below w.heap.size w w':=by
 refine fnStart (n:=27) (e:=[(0,va),(1,vb)]) Tryd.func101 Z Z Z Z Ends.both ?_
 have hRQ:(R++Q).length≤2000:=by rw [zL];omega
 refine zE (zB (zC 1 Z (zG (zD [0,1] [_,_] Z (zE (zB (zC 1 Z (zG (zD [0,1,5] [_,_,_] Z (zE (zZ (yD (xs:=[]) (vs:=[]) qD Z Z Z Z Z Z (by decide) Z fun p8 hp8=>(qI 1 Z (yI (xs:=[]) (ys:=R) qD 0 Z Z Z Z Z Z Z Z (by decide) Z (fun w1 hw1=>(Row.own hva hw1)) ((R).length) (by first | (simp;done) | (simp;omega)) (by first | (simp;done) | (simp;omega) | omega) fun p10 cap10 cur10 hp10 hcp10 hlp10 htp10=>?_))))))))))))))
 show Ll _ _ (Own _ _ [_]) _ _ ((10,sl_ p10 ((R).length) cap10)::_) _ _ _;refine qI 1 Z (yI (xs:=R) (ys:=Q) qD 0 Z Z Z Z Z Z Z hcp10 hlp10 (by simpa using htp10) (fun w1 hw1=>(Row.own hvb hw1)) ((R++Q).length) (by first | (simp;done) | (simp;omega)) (by first | (simp;done) | (simp;omega) | omega) fun p12 cap12 cur12 hp12 hcp12 hlp12 htp12=>?_)
 show Ll _ _ (Own _ _ [_]) _ _ ((12,sl_ p12 ((R++Q).length) cap12)::_) _ _ _;refine qI 1 Z (zI (zD [5,6] [_,_] Z (zE (zE (zB (zC 1 Z (zG (zD [5,6,7] [_,_,_] Z (qJ (yR (σ:=Nat) (fun k=>k≤(R++Q).length∧0≤kindsP ((R++Q).take k)∧kindsP ((R++Q).take k)≤1000000) (fun k=>[(5,i6_ (kindsP ((R++Q).take k))),(6,sl_ p12 ((R++Q).length) cap12),(7,i6_ (k:Int))]) (fun k=>Own w.heap.size w [bk_ p12 cur12 3]) (fun k=>(R++Q).length - k) (0) ⟨Nat.zero_le _,by rw [List.take_zero];decide,by rw [List.take_zero];decide⟩ (Sub.cons (by rfl) (Sub.sel [6,7] Z)) (fun _ h=>h) ?_))))))))))
 rintro k ⟨hk,h0,h1⟩;refine zE (zE (zB (zC 2 Z (zF Z (jW Z zN Z) (zC 1 Z (zG (zD [5,6,7,16] [_,_,_,_] Z (yK (b:=decide ((k:Int)<((((R++Q).length):Int)))) Z (fun h16=>?_) (fun h16=>?_)))))))))
 ·
  replace h16:=zW h16
  have hkl:k<(R++Q).length:=by omega
  obtain ⟨hs0,hs1⟩:=hsm k hkl;refine qT (zD [5,6,7] [_,_,_] Z (zE (qJ (zB (zC 3 Z (zF (v:=pf_ p12 k) Z (qY (by simp) (yB Z zN zS Z Z (by omega) (by omega))) (zF (v:=i6_ ((R++Q).getD k 0)) Z (qY Z (xE 0 Z qB Z Z (cur_at (by simpa using htp12) (ints_at2 hkl)))) (zF Z (qR Z Z Z (by omega) (by omega)) (zF (v:=i6_ (kindsP ((R++Q).take (k+1)))) Z (qY (by rw [kinds_take hkl];congr 1;omega) (OpQ.maxU Z Z Z)) (zC 1 Z (zG (zD [5,6,7] [_,_,_] Z (zB (zC 1 Z (zF Z (qR Z Z Z (by omega) (by omega)) (zC 1 Z (zG (qX (k+1) ⟨by omega,by rw [kinds_take hkl];omega,by rw [kinds_take hkl];omega⟩ (by omega) (Sub.cons (by rfl) (Sub.sel [6,7] Z)) (fun _ h=>h)))))))))))))))))))
 replace h16:=zU h16;refine yN Z (zD [5] [_] Z (zE (zB (zC 2 Z (zG (zD [4] [_] Z (qQ (qO Z Z fun w' hw=>?_))))))))
 exact ⟨ret_i (by rw [List.take_of_length_le (by omega)]),hw.below⟩
end Go.Proofs.YtagbocafnliabaaDoor
namespace Go.Proofs.YtagbocafnliabaaDoor
open Go.RowKit Go.Wk
set_option linter.unusedSimpArgs false
set_option maxHeartbeats 400000 in
theorem l7Levels_ok (B:Nat) (w0:World) (hs:List (Nat×Obj)) (a b:St) (k M:Nat) (w:World) (hVa:validB a=true) (hVb:validB b=true) (h1:1≤k) (hk3:k≤3) (hM:M≤2000) (hw:Own B w0 hs w) :
    Calls Tryd.prog 59 [vS a,vS b,i6_ (k:Int),i6_ (M:Int)].toArray w fun en w'=>∃ (gA cA:Nat) (uA:Array Value) (rrA:List RR) (gB cB:Nat) (uB:Array Value) (rrB:List RR) (m:Nat),en=.returned (.tuple #[.slice (some ⟨gA,0,none⟩) rrA.length cA,.slice (some ⟨gB,0,none⟩) rrB.length cB])∧(RowsOk rrA uA cA∧RowsOk rrB uB cB∧Levs k M a b (rrA.map RR.xs) (rrB.map RR.xs) m (m - 1)∧LevEnds k M a b m∧m≤2000)∧Own B w0 ((gA,.cells uA 27 (0,0))::(gB,.cells uB 27 (0,0))::(rowsB 3 rrA++(rowsB 3 rrB++hs))) w':=by
 refine fnStartC (Own B w0 hs) (n:=83) (e:=[(0,vS a),(1,vS b),(2,i6_ (k:Int)),(3,i6_ (M:Int))]) Tryd.func59 Z Z Z Z Ends.both hw ?_
 have ha:=validB_fine hVa
 have hb:=validB_fine hVb
 have hm8:=ha.hi
 have hm1:=ha.lo
 have hb8:=hb.hi
 have hb1:=hb.lo
 have hpa:=pow9 (size:=a.n.toNat) (k:=k) (by omega) hk3
 have hpb:=pow9 (size:=b.n.toNat) (k:=k) (by omega) hk3;refine zE (zZ (xC (v:=vS a) Z Z Z Z Z fun p4 hp4=>?_))
 show Ll _ _ (Own _ _ (_::hs)) _ _ ((4,pt_ p4)::_) _ _ _;refine xC (v:=vS b) Z Z Z Z Z fun p5 hp5=>?_
 show Ll _ _ (Own _ _ (_::_::hs)) _ _ ((5,pt_ p5)::_) _ _ _;refine qI 2 Z (zI (zD [2,3,4,5] [_,_,_,_] Z (zE (zZ (jI (σ:=Nat×Nat×List Bkt) (ok:=fun s=>TabOk s.2.2 []) (v:=fun s=>.agg #[.slice (some ⟨s.1,0,none⟩) 997 997,.slice (some ⟨s.2.1,0,none⟩) 1 1]) (xs:=[]) (vs:=[]) (hs':=fun s=>[bk_ p5 #[i6_ b.n,str b.set,str b.rel] 24,bk_ p4 #[i6_ a.n,str a.set,str a.rel] 24]++(tabL 145 3 147 s.1 s.2.1 s.2.2 []++hs)) Z Z Z Z Tryd.call40 Z (fun w1 hw1=>(l5New_ok _ _ _ w1 hw1).mono fun en w' ⟨q,c,h1,h2⟩=>⟨(q,c,_),h1,TabOk.new,by dsimp only;exact h2.perm (perm_back _ [bk_ p5 #[i6_ b.n,str b.set,str b.rel] 24,bk_ p4 #[i6_ a.n,str a.set,str a.rel] 24] _)⟩) fun ⟨q,c,bs0⟩ hT0=>?_)))))
 show Ll _ _ (Own _ _ (_::_::_::_::(blks 147 bs0++hs))) _ _ ((15,.agg #[sl_ q 997 997,sl_ c 1 1])::_) _ _ _;refine xO Z Z Z Z Tryd.zeroValue59 fun p10 hp10=>?_
 show Ll _ _ (Own _ _ (bk_ p10 #[.slice none 0 0,.slice none 0 0] 59::_::_::_::_::(blks 147 bs0++hs))) _ _ ((10,pt_ p10)::_) _ _ _;refine qZ (cs':=#[sl_ q 997 997,sl_ c 1 1]) (hs':=(bk_ p10 #[sl_ q 997 997,sl_ c 1 1] 59::_::_::_::_::(blks 147 bs0++hs))) 0 Z Z Z Z Z (by kernel_rfl:_=some Tryd.t59) Z Z Z Z Z (zI (zD [2,3,4,5,10] [_,_,_,_,_] Z (zE (zZ (zT Z (zY (cs:=#[sl_ q 997 997,sl_ c 1 1]) 0 Z Tryd.isAgg59 Z Z vD) (zT Z (zY (cs:=#[i6_ a.n,str a.set,str a.rel]) 2 Z zP Z Z zM) (qI 1 Z (jI (σ:=Nat×List Int×List Bkt×List (List UInt8)) (ok:=fun (g,R',bs',T')=>TabTo ([]:List (List UInt8)) bs' T' ((a.n.toNat+1) ^ k:Nat)∧NumOf T' (text0 a k) R' ((a.n.toNat+1) ^ k:Nat)∧Onto ([]:List (List UInt8)) T' R' ((a.n.toNat+1) ^ k:Nat)) (v:=fun (g,R',bs',T')=>.slice (some ⟨g,0,none⟩) ((a.n.toNat+1) ^ k:Nat) ((a.n.toNat+1) ^ k:Nat)) (xs:=[.tmp 16,.tmp 17,.tmp 18]) (vs:=[.agg #[sl_ q 997 997,sl_ c 1 1],vS a,i6_ (k:Int)]) (hs':=fun (g,R',bs',T')=>(g,.cells (ints R').toArray 3 (0,0))::([bk_ p10 #[sl_ q 997 997,sl_ c 1 1] 59,bk_ p5 #[i6_ b.n,str b.set,str b.rel] 24,bk_ p4 #[i6_ a.n,str a.set,str a.rel] 24]++(tabL 145 3 147 q c bs' T'++hs))) Z Z Z Z Tryd.call99 Z (fun w1 hw1=>(l7Start_ok B w0 ([bk_ p10 #[sl_ q 997 997,sl_ c 1 1] 59,bk_ p5 #[i6_ b.n,str b.set,str b.rel] 24,bk_ p4 #[i6_ a.n,str a.set,str a.rel] 24]++hs) q c bs0 ([]:List (List UInt8)) a  k w1  hT0 hVa h1 hk3 (by simp only [qF];omega) (hw1.perm (perm_back [bk_ p10 #[sl_ q 997 997,sl_ c 1 1] 59,bk_ p5 #[i6_ b.n,str b.set,str b.rel] 24,bk_ p4 #[i6_ a.n,str a.set,str a.rel] 24] (tabL 145 3 147 q c bs0 ([]:List (List UInt8))) hs))).mono fun en w' ⟨g,R',bs',T',h1,h2,h3⟩=>⟨(g,R',bs',T'),h1.trans rfl,h2,h3.perm (List.Perm.cons _ (perm_back _ [bk_ p10 #[sl_ q 997 997,sl_ c 1 1] 59,bk_ p5 #[i6_ b.n,str b.set,str b.rel] 24,bk_ p4 #[i6_ a.n,str a.set,str a.rel] 24] _))⟩) fun ⟨r,R,bs_,T_⟩ hLr=>?_))))))))
 dsimp only at hLr
 show Ll _ _ (Own _ _ (_::_::_::_::_::_::(blks 147 bs_++hs))) _ _ ((19,sl_ r ((a.n.toNat+1) ^ k:Nat) ((a.n.toNat+1) ^ k:Nat))::_) _ _ _;refine yD (xs:=[.tmp 19]) (vs:=[sl_ r ((a.n.toNat+1) ^ k:Nat) ((a.n.toNat+1) ^ k:Nat)]) Base.elem63 Z Z Z Z Z Z (by decide) Z fun p20 hp20=>(qI 1 Z (zI (zD [2,3,4,5,10,11] [_,_,_,_,_,_] Z (zE (zZ (zT Z (zY (cs:=#[sl_ q 997 997,sl_ c 1 1]) 2 Z Tryd.isAgg59 Z Z vD) (zT Z (zY (cs:=#[i6_ b.n,str b.set,str b.rel]) 3 Z zP Z Z zM) (qI 1 Z (jI (σ:=Nat×List Int×List Bkt×List (List UInt8)) (ok:=fun (g,R',bs',T')=>TabTo T_ bs' T' ((b.n.toNat+1) ^ k:Nat)∧NumOf T' (text0 b k) R' ((b.n.toNat+1) ^ k:Nat)∧Onto T_ T' R' ((b.n.toNat+1) ^ k:Nat)) (v:=fun (g,R',bs',T')=>.slice (some ⟨g,0,none⟩) ((b.n.toNat+1) ^ k:Nat) ((b.n.toNat+1) ^ k:Nat)) (xs:=[.tmp 21,.tmp 22,.tmp 23]) (vs:=[.agg #[sl_ q 997 997,sl_ c 1 1],vS b,i6_ (k:Int)]) (hs':=fun (g,R',bs',T')=>(g,.cells (ints R').toArray 3 (0,0))::([bk_ p20 #[sl_ r ((a.n.toNat+1) ^ k:Nat) ((a.n.toNat+1) ^ k:Nat)] 27,bk_ r ((ints R).toArray) 3,bk_ p10 #[sl_ q 997 997,sl_ c 1 1] 59,bk_ p5 #[i6_ b.n,str b.set,str b.rel] 24,bk_ p4 #[i6_ a.n,str a.set,str a.rel] 24]++(tabL 145 3 147 q c bs' T'++hs))) Z Z Z Z Tryd.call99 Z (fun w1 hw1=>(l7Start_ok B w0 ([bk_ p20 #[sl_ r ((a.n.toNat+1) ^ k:Nat) ((a.n.toNat+1) ^ k:Nat)] 27,bk_ r ((ints R).toArray) 3,bk_ p10 #[sl_ q 997 997,sl_ c 1 1] 59,bk_ p5 #[i6_ b.n,str b.set,str b.rel] 24,bk_ p4 #[i6_ a.n,str a.set,str a.rel] 24]++hs) q c bs_ T_ b  k w1  hLr.1.ok hVb h1 hk3 (by have:=hLr.1.len;simp only [qF] at this;omega) (hw1.perm (perm_back [bk_ p20 #[sl_ r ((a.n.toNat+1) ^ k:Nat) ((a.n.toNat+1) ^ k:Nat)] 27,bk_ r ((ints R).toArray) 3,bk_ p10 #[sl_ q 997 997,sl_ c 1 1] 59,bk_ p5 #[i6_ b.n,str b.set,str b.rel] 24,bk_ p4 #[i6_ a.n,str a.set,str a.rel] 24] (tabL 145 3 147 q c bs_ T_) hs))).mono fun en w' ⟨g,R',bs',T',h1,h2,h3⟩=>⟨(g,R',bs',T'),h1.trans rfl,h2,h3.perm (List.Perm.cons _ (perm_back _ [bk_ p20 #[sl_ r ((a.n.toNat+1) ^ k:Nat) ((a.n.toNat+1) ^ k:Nat)] 27,bk_ r ((ints R).toArray) 3,bk_ p10 #[sl_ q 997 997,sl_ c 1 1] 59,bk_ p5 #[i6_ b.n,str b.set,str b.rel] 24,bk_ p4 #[i6_ a.n,str a.set,str a.rel] 24] _))⟩) fun ⟨r_1,R_1,bs__1,T__1⟩ hLr_1=>?_)))))))))
 dsimp only at hLr_1
 show Ll _ _ (Own _ _ (_::_::_::_::_::_::_::_::(blks 147 bs__1++hs))) _ _ ((24,sl_ r_1 ((b.n.toNat+1) ^ k:Nat) ((b.n.toNat+1) ^ k:Nat))::_) _ _ _;refine yD (xs:=[.tmp 24]) (vs:=[sl_ r_1 ((b.n.toNat+1) ^ k:Nat) ((b.n.toNat+1) ^ k:Nat)]) Base.elem63 Z Z Z Z Z Z (by decide) Z fun p25 hp25=>(qI 1 Z (zI (zD [2,3,4,5,11,12] [_,_,_,_,_,_] Z (zE (zE (zB (zC 1 Z (zG (zD [2,3,4,5,11,12,13] [_,_,_,_,_,_,_] Z (qJ (yR (σ:=Nat×Nat×Nat×Array Value×List RR×Nat×Nat×Array Value×List RR) (fun ⟨n,gA,cA,uA,rrA,gB,cB,uB,rrB⟩=>n≤M∧RowsOk rrA uA cA∧RowsOk rrB uB cB∧Levs k M a b (rrA.map RR.xs) (rrB.map RR.xs) n n) (fun ⟨n,gA,cA,uA,rrA,gB,cB,uB,rrB⟩=>[(2,i6_ (k:Int)),(3,i6_ (M:Int)),(4,pt_ p4),(5,pt_ p5),(11,sl_ gA rrA.length cA),(12,sl_ gB rrB.length cB),(13,i6_ (n:Int))]) (fun ⟨n,gA,cA,uA,rrA,gB,cB,uB,rrB⟩=>Own B w0 (bk_ gA uA 27::bk_ gB uB 27::bk_ p5 #[i6_ b.n,str b.set,str b.rel] 24::bk_ p4 #[i6_ a.n,str a.set,str a.rel] 24::(rowsB 3 rrA++(rowsB 3 rrB++hs)))) (fun ⟨n,gA,cA,uA,rrA,gB,cB,uB,rrB⟩=>M - n) ((0,p20,1,_,[⟨r,((a.n.toNat+1) ^ k:Nat),(ints R).toArray,R⟩],p25,1,_,[⟨r_1,((b.n.toNat+1) ^ k:Nat),(ints R_1).toArray,R_1⟩])) ⟨by omega,RowsOk.oneI hLr.2.1.1,RowsOk.oneI hLr_1.2.1.1,levs_zero (lev_zero hLr_1.1.ok.nodup hLr_1.1.pre hLr.2.1 hLr_1.2.1 hLr.2.2 hLr_1.2.2) (by have h7:=hLr.1.len;have h8:=hLr_1.1.len;simp only [qF] at h7;omega)⟩ (Sub.sel [2,3,4,5,11,12,13] Z) (fun _ h=>(jQ (hs:=[_,_,_,_,_,_,_,_,_]) (hs':=[_,_,_,_,_,_]) (tl:=blks 147 bs__1++hs) h [2,0,5,6,3,1] Z (by decide)).sub (zA _ (zA _ (zA _ (zA _ (zA _ (zA _ (List.sublist_append_right _ _)))))))) ?_)))))))))))
 rintro ⟨n,gA,cA,uA,rrA,gB,cB,uB,rrB⟩ ⟨hn,hA,hB,hLv⟩
 dsimp only
 have hrA:rrA.length=n+1:=by simpa using hLv.la
 have hrB:rrB.length=n+1:=by simpa using hLv.lb
 obtain ⟨K,hK,hl⟩:=hLv.at (Nat.le_refl n)
 rw [xs_at,xs_at] at hl
 have hsA:=hl.ma (by omega)
 have hsB:=hl.mb (by omega);refine zE (zE (zB (zC 3 Z (zG (zD [2,3,4,5,11,12,13,28] [_,_,_,_,_,_,_,_] Z (xI Z (fun h28=>?_) (fun h28=>?_)))))))
 ·
  refine qT (zD [2,3,4,5,11,12,13] [_,_,_,_,_,_,_] Z (zE (qJ (zE (zZ (jI (σ:=Nat×Nat×List Bkt) (ok:=fun s=>TabOk s.2.2 []) (v:=fun s=>.agg #[.slice (some ⟨s.1,0,none⟩) 997 997,.slice (some ⟨s.2.1,0,none⟩) 1 1]) (xs:=[]) (vs:=[]) (hs':=fun s=>[bk_ gA uA 27,bk_ gB uB 27,bk_ p5 #[i6_ b.n,str b.set,str b.rel] 24,bk_ p4 #[i6_ a.n,str a.set,str a.rel] 24]++(tabL 145 3 147 s.1 s.2.1 s.2.2 []++(rowsB 3 rrA++(rowsB 3 rrB++hs)))) Z Z Z Z Tryd.call40 Z (fun w1 hw1=>(l5New_ok _ _ _ w1 hw1).mono fun en w' ⟨q,c,h1,h2⟩=>⟨(q,c,_),h1,TabOk.new,by dsimp only;exact h2.perm (perm_back _ [bk_ gA uA 27,bk_ gB uB 27,bk_ p5 #[i6_ b.n,str b.set,str b.rel] 24,bk_ p4 #[i6_ a.n,str a.set,str a.rel] 24] _)⟩) fun ⟨q,c,bs0⟩ hT0=>?_))))))
  show Ll _ _ (Own _ _ (_::_::_::_::_::_::((blks 147 bs0++(rowsB 3 rrA++(rowsB 3 rrB++hs)))))) _ _ ((31,.agg #[sl_ q 997 997,sl_ c 1 1])::_) _ _ _;refine xO Z Z Z Z Tryd.zeroValue59 fun p14 hp14=>?_
  show Ll _ _ (Own _ _ (bk_ p14 #[.slice none 0 0,.slice none 0 0] 59::_::_::_::_::_::_::((blks 147 bs0++(rowsB 3 rrA++(rowsB 3 rrB++hs)))))) _ _ ((14,pt_ p14)::_) _ _ _;refine qZ (cs':=#[sl_ q 997 997,sl_ c 1 1]) (hs':=(bk_ p14 #[sl_ q 997 997,sl_ c 1 1] 59::_::_::_::_::_::_::((blks 147 bs0++(rowsB 3 rrA++(rowsB 3 rrB++hs)))))) 0 Z Z Z Z Z (by kernel_rfl:_=some Tryd.t59) Z Z Z Z Z (zI (zD [2,3,4,5,11,12,13,14] [_,_,_,_,_,_,_,_] Z (zE (jN (S:=Own B w0 [bk_ p14 #[sl_ q 997 997,sl_ c 1 1] 59,bk_ gB uB 27,bk_ p5 #[i6_ b.n,str b.set,str b.rel] 24,bk_ p4 #[i6_ a.n,str a.set,str a.rel] 24]) [(0,true),(1,true),(2,true),(3,true),(4,true),(5,true),(7,true),(6,false),(8,false),(9,false),(10,false),(11,true)] yH (fun _ h=>h.drawn) (by kernel_rfl) (xZ 1 Z (pk [0,2,3,4] Z Z) (xR Z Z Z Z Z (zY (cs:=#[sl_ q 997 997,sl_ c 1 1]) 0 Z Tryd.isAgg59 Z Z vD) (pk [0,2,3,4] Z Z) (xR Z Z Z Z Z (zY (cs:=#[i6_ a.n,str a.set,str a.rel]) 3 Z zP Z Z zM) (pk [0,2,3,4] Z Z) (xZ 2 Z (pk [0,2,3,4] Z Z) (xR (v:=pf_ gA n) Z Z Z Z Z (qY (v':=pf_ gA n) (by simp) (yB (i:=(n:Int)) Z xQ xN Z Z (by omega) (by omega))) (pk [0,2,3,4] Z Z) (xZ 1 Z (pk [0,2,3,4] Z Z) (xJ Z (zT (v:=rv (rrA.getD n rd)) Z (xE (v:=rv (rrA.getD n rd)) 1 Z xG Z Z (hA.cell (i:=n) (by omega))) (zI (xA (pk [0,2,3,4] Z Z) ?_))))))))))))));refine xJ Z (jI (σ:=Nat×List Int×List Bkt×List (List UInt8)) (ok:=fun (g,R',bs',T')=>TabTo ([]:List (List UInt8)) bs' T' ((a.n.toNat+1) ^ k:Nat)∧NumOf T' (textS a ((rrA.getD n rd).xs) k) R' ((a.n.toNat+1) ^ k:Nat)∧Onto ([]:List (List UInt8)) T' R' ((a.n.toNat+1) ^ k:Nat)) (v:=fun (g,R',bs',T')=>.slice (some ⟨g,0,none⟩) ((a.n.toNat+1) ^ k:Nat) ((a.n.toNat+1) ^ k:Nat)) (xs:=[.tmp 33,.tmp 34,.tmp 38,.tmp 39]) (vs:=[.agg #[sl_ q 997 997,sl_ c 1 1],vS a,rv (rrA.getD n rd),i6_ (k:Int)]) (hs':=fun (g,R',bs',T')=>(g,.cells (ints R').toArray 3 (0,0))::([bk_ p14 #[sl_ q 997 997,sl_ c 1 1] 59,bk_ gA uA 27,bk_ gB uB 27,bk_ p5 #[i6_ b.n,str b.set,str b.rel] 24,bk_ p4 #[i6_ a.n,str a.set,str a.rel] 24]++(tabL 145 3 147 q c bs' T'++(rowsB 3 rrA++(rowsB 3 rrB++hs))))) Z Z Z Z Tryd.call100 Z (fun w1 hw1=>(l7Round_ok B w0 ([bk_ p14 #[sl_ q 997 997,sl_ c 1 1] 59,bk_ gA uA 27,bk_ gB uB 27,bk_ p5 #[i6_ b.n,str b.set,str b.rel] 24,bk_ p4 #[i6_ a.n,str a.set,str a.rel] 24]++(rowsB 3 rrA++(rowsB 3 rrB++hs))) q c bs0 ([]:List (List UInt8)) a (rv (rrA.getD n rd)) ((rrA.getD n rd).xs) k w1 (fun w2 hw2=>Own.ofRows (qW (f:=[bk_ p14 #[sl_ q 997 997,sl_ c 1 1] 59,bk_ gA uA 27,bk_ gB uB 27,bk_ p5 #[i6_ b.n,str b.set,str b.rel] 24,bk_ p4 #[i6_ a.n,str a.set,str a.rel] 24]) hw2) hA.ok (i:=n) (by omega)) hl.la hsA hT0 hVa h1 hk3 (by simp only [qF];omega) (hw1.perm (perm_back [bk_ p14 #[sl_ q 997 997,sl_ c 1 1] 59,bk_ gA uA 27,bk_ gB uB 27,bk_ p5 #[i6_ b.n,str b.set,str b.rel] 24,bk_ p4 #[i6_ a.n,str a.set,str a.rel] 24] (tabL 145 3 147 q c bs0 ([]:List (List UInt8))) (rowsB 3 rrA++(rowsB 3 rrB++hs))))).mono fun en w' ⟨g,R',bs',T',h1,h2,h3⟩=>⟨(g,R',bs',T'),h1.trans (by rw [hl.la]),h2,h3.perm (List.Perm.cons _ (perm_back _ [bk_ p14 #[sl_ q 997 997,sl_ c 1 1] 59,bk_ gA uA 27,bk_ gB uB 27,bk_ p5 #[i6_ b.n,str b.set,str b.rel] 24,bk_ p4 #[i6_ a.n,str a.set,str a.rel] 24] _))⟩) fun ⟨r_2,R_2,bs__2,T__2⟩ hLr_2=>?_)
  dsimp only at hLr_2
  show Ll _ _ (Own _ _ (_::_::_::_::_::_::_::_::((blks 147 bs__2++(rowsB 3 rrA++(rowsB 3 rrB++hs)))))) _ _ ((40,sl_ r_2 ((a.n.toNat+1) ^ k:Nat) ((a.n.toNat+1) ^ k:Nat))::_) _ _ _;refine zI (xA (pk [1,3,4,5] Z Z) ?_);refine xJ Z (yD (xs:=[.tmp 40]) (vs:=[sl_ r_2 ((a.n.toNat+1) ^ k:Nat) ((a.n.toNat+1) ^ k:Nat)]) Base.elem63 Z Z Z Z Z Z (by decide) Z fun p41 hp41=>(zI (xA (pk [2,4,5,6] Z Z) ?_)));refine xJ Z (Ll.append Base.elem63 3 [sl_ r_2 ((a.n.toNat+1) ^ k:Nat) ((a.n.toNat+1) ^ k:Nat)] Z Z Z Z Z Z Z hA.size hA.len Z (fun h=>by cases h) (fun w1 hw1 ad had j u hj=>by injection had with had;subst had;rw [Addr.add_lit,Nat.zero_add,hw1.cell (i:=0) rfl];simpa using hj) (by simp [Value.oneCell']) (by omega) fun gq capq curq hgq hcgq hlgq htgq=>?_)
  show Ll _ _ (Own _ _ (_::_::_::_::_::_::_::_::_::((blks 147 bs__2++(rowsB 3 rrA++(rowsB 3 rrB++hs)))))) _ _ ((42,sl_ gq (rrA.length+1) capq)::_) _ _ _
  have hA2:=hA.addI (R:=R_2) hLr_2.2.1.1 hcgq hlgq htgq;refine zI (xA (pk [2,4,5,6] Z Z) ?_);refine xZ 1 Z (pk [2,4,5,6] Z Z) (Ld.nil (zD [2,3,4,5,11,12,13,14] [_,_,_,_,_,_,_,_] Z (zE (jN (S:=Own B w0 [bk_ p41 #[sl_ r_2 ((a.n.toNat+1) ^ k:Nat) ((a.n.toNat+1) ^ k:Nat)] 27,bk_ r_2 ((ints R_2).toArray) 3,bk_ p14 #[sl_ q 997 997,sl_ c 1 1] 59,bk_ gq curq 27,bk_ p5 #[i6_ b.n,str b.set,str b.rel] 24,bk_ p4 #[i6_ a.n,str a.set,str a.rel] 24]) [(0,true),(1,true),(2,true),(3,true),(4,true),(5,true),(7,true),(6,false),(8,false),(9,false),(10,false),(11,true)] yH (fun _ h=>h.drawn) (by kernel_rfl) (xZ 1 Z (pk [0,1,2,3,5,6] Z Z) (xR Z Z Z Z Z (zY (cs:=#[sl_ q 997 997,sl_ c 1 1]) 2 Z Tryd.isAgg59 Z Z vD) (pk [0,1,2,3,5,6] Z Z) (xR Z Z Z Z Z (zY (cs:=#[i6_ b.n,str b.set,str b.rel]) 4 Z zP Z Z zM) (pk [0,1,2,3,5,6] Z Z) (xZ 2 Z (pk [0,1,2,3,5,6] Z Z) (xR (v:=pf_ gB n) Z Z Z Z Z (qY (v':=pf_ gB n) (by simp) (yB (i:=(n:Int)) Z xQ xN Z Z (by omega) (by omega))) (pk [0,1,2,3,5,6] Z Z) (xZ 1 Z (pk [0,1,2,3,5,6] Z Z) (xJ Z (zT (v:=rv (rrB.getD n rd)) Z (xE (v:=rv (rrB.getD n rd)) 4 Z xG Z Z (hB.cell (i:=n) (by omega))) (zI (xA (pk [0,1,2,3,5,6] Z Z) ?_))))))))))))));refine xJ Z (jI (σ:=Nat×List Int×List Bkt×List (List UInt8)) (ok:=fun (g,R',bs',T')=>TabTo T__2 bs' T' ((b.n.toNat+1) ^ k:Nat)∧NumOf T' (textS b ((rrB.getD n rd).xs) k) R' ((b.n.toNat+1) ^ k:Nat)∧Onto T__2 T' R' ((b.n.toNat+1) ^ k:Nat)) (v:=fun (g,R',bs',T')=>.slice (some ⟨g,0,none⟩) ((b.n.toNat+1) ^ k:Nat) ((b.n.toNat+1) ^ k:Nat)) (xs:=[.tmp 44,.tmp 45,.tmp 49,.tmp 50]) (vs:=[.agg #[sl_ q 997 997,sl_ c 1 1],vS b,rv (rrB.getD n rd),i6_ (k:Int)]) (hs':=fun (g,R',bs',T')=>(g,.cells (ints R').toArray 3 (0,0))::([bk_ p41 #[sl_ r_2 ((a.n.toNat+1) ^ k:Nat) ((a.n.toNat+1) ^ k:Nat)] 27,bk_ r_2 ((ints R_2).toArray) 3,bk_ p14 #[sl_ q 997 997,sl_ c 1 1] 59,bk_ gq curq 27,bk_ gB uB 27,bk_ p5 #[i6_ b.n,str b.set,str b.rel] 24,bk_ p4 #[i6_ a.n,str a.set,str a.rel] 24]++(tabL 145 3 147 q c bs' T'++(rowsB 3 rrA++(rowsB 3 rrB++hs))))) Z Z Z Z Tryd.call100 Z (fun w1 hw1=>(l7Round_ok B w0 ([bk_ p41 #[sl_ r_2 ((a.n.toNat+1) ^ k:Nat) ((a.n.toNat+1) ^ k:Nat)] 27,bk_ r_2 ((ints R_2).toArray) 3,bk_ p14 #[sl_ q 997 997,sl_ c 1 1] 59,bk_ gq curq 27,bk_ gB uB 27,bk_ p5 #[i6_ b.n,str b.set,str b.rel] 24,bk_ p4 #[i6_ a.n,str a.set,str a.rel] 24]++(rowsB 3 rrA++(rowsB 3 rrB++hs))) q c bs__2 T__2 b (rv (rrB.getD n rd)) ((rrB.getD n rd).xs) k w1 (fun w2 hw2=>Own.ofRows (qW (f:=rowsB 3 rrA) (qW (f:=[bk_ p41 #[sl_ r_2 ((a.n.toNat+1) ^ k:Nat) ((a.n.toNat+1) ^ k:Nat)] 27,bk_ r_2 ((ints R_2).toArray) 3,bk_ p14 #[sl_ q 997 997,sl_ c 1 1] 59,bk_ gq curq 27,bk_ gB uB 27,bk_ p5 #[i6_ b.n,str b.set,str b.rel] 24,bk_ p4 #[i6_ a.n,str a.set,str a.rel] 24]) hw2)) hB.ok (i:=n) (by omega)) hl.lb hsB hLr_2.1.ok hVb h1 hk3 (by have:=hLr_2.1.len;simp only [qF] at this;omega) (hw1.perm (perm_back [bk_ p41 #[sl_ r_2 ((a.n.toNat+1) ^ k:Nat) ((a.n.toNat+1) ^ k:Nat)] 27,bk_ r_2 ((ints R_2).toArray) 3,bk_ p14 #[sl_ q 997 997,sl_ c 1 1] 59,bk_ gq curq 27,bk_ gB uB 27,bk_ p5 #[i6_ b.n,str b.set,str b.rel] 24,bk_ p4 #[i6_ a.n,str a.set,str a.rel] 24] (tabL 145 3 147 q c bs__2 T__2) (rowsB 3 rrA++(rowsB 3 rrB++hs))))).mono fun en w' ⟨g,R',bs',T',h1,h2,h3⟩=>⟨(g,R',bs',T'),h1.trans (by rw [hl.lb]),h2,h3.perm (List.Perm.cons _ (perm_back _ [bk_ p41 #[sl_ r_2 ((a.n.toNat+1) ^ k:Nat) ((a.n.toNat+1) ^ k:Nat)] 27,bk_ r_2 ((ints R_2).toArray) 3,bk_ p14 #[sl_ q 997 997,sl_ c 1 1] 59,bk_ gq curq 27,bk_ gB uB 27,bk_ p5 #[i6_ b.n,str b.set,str b.rel] 24,bk_ p4 #[i6_ a.n,str a.set,str a.rel] 24] _))⟩) fun ⟨r_3,R_3,bs__3,T__3⟩ hLr_3=>?_)
  dsimp only at hLr_3
  show Ll _ _ (Own _ _ (_::_::_::_::_::_::_::_::_::_::((blks 147 bs__3++(rowsB 3 rrA++(rowsB 3 rrB++hs)))))) _ _ ((51,sl_ r_3 ((b.n.toNat+1) ^ k:Nat) ((b.n.toNat+1) ^ k:Nat))::_) _ _ _;refine zI (xA (pk [1,2,3,4,6,7] Z Z) ?_);refine xJ Z (yD (xs:=[.tmp 51]) (vs:=[sl_ r_3 ((b.n.toNat+1) ^ k:Nat) ((b.n.toNat+1) ^ k:Nat)]) Base.elem63 Z Z Z Z Z Z (by decide) Z fun p52 hp52=>(zI (xA (pk [2,3,4,5,7,8] Z Z) ?_)));refine xJ Z (Ll.append Base.elem63 6 [sl_ r_3 ((b.n.toNat+1) ^ k:Nat) ((b.n.toNat+1) ^ k:Nat)] Z Z Z Z Z Z Z hB.size hB.len Z (fun h=>by cases h) (fun w1 hw1 ad had j u hj=>by injection had with had;subst had;rw [Addr.add_lit,Nat.zero_add,hw1.cell (i:=0) rfl];simpa using hj) (by simp [Value.oneCell']) (by omega) fun gq_1 capq_1 curq_1 hgq_1 hcgq_1 hlgq_1 htgq_1=>?_)
  show Ll _ _ (Own _ _ (_::_::_::_::_::_::_::_::_::_::_::((blks 147 bs__3++(rowsB 3 rrA++(rowsB 3 rrB++hs)))))) _ _ ((53,sl_ gq_1 (rrB.length+1) capq_1)::_) _ _ _
  have hB2:=hB.addI (R:=R_3) hLr_3.2.1.1 hcgq_1 hlgq_1 htgq_1
  have hlv:=lev_step hl hLr_3.1.ok.nodup hLr_3.1.pre hLr_2.2.1 hLr_3.2.1 hLr_2.2.2 hLr_3.2.2
  have hbA:=hLr_2.1.len
  have hbB:=hLr_3.1.len
  simp only [qF] at hbA
  have hLv2:Levs k M a b ((rrA++[(RR.mk r_2 ((a.n.toNat+1) ^ k:Nat) (ints R_2).toArray R_2)]).map RR.xs) ((rrB++[(RR.mk r_3 ((b.n.toNat+1) ^ k:Nat) (ints R_3).toArray R_3)]).map RR.xs) (n+1) n:=by
   rw [List.map_append,List.map_append];exact levs_more hLv hlv (by omega)
  have hlA:=hl.la
  have hlB:=hl.lb
  have hmA:=hlv.la
  have hmB:=hlv.lb;refine zI (xA (pk [2,3,4,5,7,8] Z Z) ?_);refine xZ 1 Z (pk [2,3,4,5,7,8] Z Z) (Ld.nil (zD [2,3,4,5,11,12,13] [_,_,_,_,_,_,_] Z (zE (xV yH (fun _ h=>h.drawn) (by kernel_rfl) (zC 3 Z (yX fun b56 hg56=>?_))))))
  cases b56
  ·
   replace hg56:=zU hg56
   have hgo:=levs_go hLv2 (fun hM4=>by
    first | omega | (rw [xs_at,xs_at,xs_at,xs_at,getA1 (by omega),getA1 (by omega),getA2 (by omega),getA2 (by omega)];exact hg56))
   skip;refine zK Z (zK Z (zK Z (zK Z (zK Z (zK Z (zK Z (zK Z (zK Z (zK Z (zK Z (zK Z (zK Z (zK Z (zK Z (zK Z (zK Z (zK Z (zK Z (zK Z (zK Z (zC 1 Z (zG (zD [2,3,4,5,11,12,13,78] [_,_,_,_,_,_,_,_] Z (Wk.condF Z (qT (zD [2,3,4,5,11,12,13] [_,_,_,_,_,_,_] Z (zB (zC 1 Z (zF Z (qR Z Z Z (by omega) (by omega)) (zC 1 Z (zG (qX ((n+1,gq,capq,curq,rrA++[(RR.mk r_2 ((a.n.toNat+1) ^ k:Nat) (ints R_2).toArray R_2)],gq_1,capq_1,curq_1,rrB++[(RR.mk r_3 ((b.n.toNat+1) ^ k:Nat) (ints R_3).toArray R_3)])) ⟨by omega,hA2,hB2,hgo⟩ (by omega) (Sub.cons Z (Sub.cons Z (Sub.cons Z (Sub.cons Z (Sub.cons (by rw [zL];rfl) (Sub.cons (by rw [zL];rfl) (Sub.sel [13] Z))))))) (fun _ h=>rows_more2 (x:=(RR.mk r_2 ((a.n.toNat+1) ^ k:Nat) (ints R_2).toArray R_2)) (y:=(RR.mk r_3 ((b.n.toNat+1) ^ k:Nat) (ints R_3).toArray R_3)) (f:=[_,_,_,_]) ((jQ (hs:=[_,_,_,_,_,_,_,_,_,_,_]) (hs':=[_,_,_,_,_,_]) (tl:=blks 147 bs__3++(rowsB 3 rrA++(rowsB 3 rrB++hs))) h [5,6,7,8,3,1] Z (by decide)).sub (zA _ (zA _ (zA _ (zA _ (zA _ (zA _ (List.sublist_append_right _ _)))))))))))))))))))))))))))))))))))))))))
  replace hg56:=zW hg56;refine zC 2 Z (zF (v:=pf_ gq n) Z (qY (v':=pf_ gq n) (by simp) (yB (i:=(n:Int)) Z xQ xN Z Z (by omega) (by omega))) (zF (v:=rv (rrA.getD n rd)) Z (xE (v:=rv (rrA.getD n rd)) 5 Z xG Z Z (hA2.old (i:=n) (by omega))) (zC 2 Z (zF (v:=pf_ gq_1 n) Z (qY (v':=pf_ gq_1 n) (by simp) (yB (i:=(n:Int)) Z xQ xN Z Z (by omega) (by omega))) (zF (v:=rv (rrB.getD n rd)) Z (xE (v:=rv (rrB.getD n rd)) 6 Z xG Z Z (hB2.old (i:=n) (by omega))) (zF (v:=i6_ (kindsP ((rrA.getD n rd).xs++(rrB.getD n rd).xs))) Z (qN Z Tryd.call101 Z qC (fun w1 hw1=>l7Kinds_ok (rv (rrA.getD n rd)) (rv (rrB.getD n rd)) ((rrA.getD n rd).xs) ((rrB.getD n rd).xs) w1 (Own.ofRows (qW (f:=bk_ p52 #[sl_ r_3 ((b.n.toNat+1) ^ k:Nat) ((b.n.toNat+1) ^ k:Nat)] 27::bk_ r_3 ((ints R_3).toArray) 3::bk_ p41 #[sl_ r_2 ((a.n.toNat+1) ^ k:Nat) ((a.n.toNat+1) ^ k:Nat)] 27::bk_ r_2 ((ints R_2).toArray) 3::bk_ p14 #[sl_ q 997 997,sl_ c 1 1] 59::bk_ gq curq 27::bk_ gq_1 curq_1 27::bk_ p5 #[i6_ b.n,str b.set,str b.rel] 24::bk_ p4 #[i6_ a.n,str a.set,str a.rel] 24::bk_ q ((bs__3.map bktV).toArray) 145::bk_ c #[i6_ (T__3.length:Int)] 3::blks 147 bs__3) hw1) hA.ok (i:=n) (by omega)) (Own.ofRows (qW (f:=rowsB 3 rrA) (qW (f:=bk_ p52 #[sl_ r_3 ((b.n.toNat+1) ^ k:Nat) ((b.n.toNat+1) ^ k:Nat)] 27::bk_ r_3 ((ints R_3).toArray) 3::bk_ p41 #[sl_ r_2 ((a.n.toNat+1) ^ k:Nat) ((a.n.toNat+1) ^ k:Nat)] 27::bk_ r_2 ((ints R_2).toArray) 3::bk_ p14 #[sl_ q 997 997,sl_ c 1 1] 59::bk_ gq curq 27::bk_ gq_1 curq_1 27::bk_ p5 #[i6_ b.n,str b.set,str b.rel] 24::bk_ p4 #[i6_ a.n,str a.set,str a.rel] 24::bk_ q ((bs__3.map bktV).toArray) 145::bk_ c #[i6_ (T__3.length:Int)] 3::blks 147 bs__3) hw1)) hB.ok (i:=n) (by omega)) (by omega) (by omega) (hl.sm (by omega)))) (zC 2 Z (zF Z (qR Z Z Z (by omega) (by omega)) (zF (v:=pf_ gq (n+1)) Z (qY (v':=pf_ gq (n+1)) (by simp) (yB (i:=((n+1):Int)) Z xQ xN Z Z (by omega) (by omega))) (zF (v:=sl_ r_2 ((a.n.toNat+1) ^ k:Nat) ((a.n.toNat+1) ^ k:Nat)) Z (xE (v:=sl_ r_2 ((a.n.toNat+1) ^ k:Nat) ((a.n.toNat+1) ^ k:Nat)) 5 Z xG Z Z (hA2.newI (i:=n+1) hLr_2.2.1.1 (by omega))) (zC 2 Z (zF Z (qR Z Z Z (by omega) (by omega)) (zF (v:=pf_ gq_1 (n+1)) Z (qY (v':=pf_ gq_1 (n+1)) (by simp) (yB (i:=((n+1):Int)) Z xQ xN Z Z (by omega) (by omega))) (zF (v:=sl_ r_3 ((b.n.toNat+1) ^ k:Nat) ((b.n.toNat+1) ^ k:Nat)) Z (xE (v:=sl_ r_3 ((b.n.toNat+1) ^ k:Nat) ((b.n.toNat+1) ^ k:Nat)) 6 Z xG Z Z (hB2.newI (i:=n+1) hLr_3.2.1.1 (by omega))) (zF (v:=i6_ (kindsP (R_2++R_3))) Z (qN Z Tryd.call101 Z qC (fun w1 hw1=>l7Kinds_ok (sl_ r_2 ((a.n.toNat+1) ^ k:Nat) ((a.n.toNat+1) ^ k:Nat)) (sl_ r_3 ((b.n.toNat+1) ^ k:Nat) ((b.n.toNat+1) ^ k:Nat)) R_2 R_3 w1 (Own.intsR hw1 (i:=3) Z (by omega) (by omega)) (Own.intsR hw1 (i:=1) Z (by omega) (by omega)) (by omega) (by omega) (hlv.sm (by omega)))) (zC 2 Z (zG (zD [2,3,4,5,11,12,13,78] [_,_,_,_,_,_,_,_] Z (yK (b:=decide ((kindsP ((rrA.getD n rd).xs++(rrB.getD n rd).xs))=(kindsP (R_2++R_3)))) Z (fun h78=>?_) (fun h78=>?_))))))))))))))))))))
  ·
   replace h78:=zW h78
   have hst:=levs_stop hLv2 (by
    rw [xs_at,xs_at,xs_at,xs_at,getA1 (by omega),getA1 (by omega),getA2 (by omega),getA2 (by omega)]
    exact h78)
   refine zE (zB (zC 4 Z (zG (zD [8,9] [_,_] Z (qQ (Kt.end2 Z Z Z fun w' hw=>?_))))))
   exact ⟨gq,capq,curq,rrA++[(RR.mk r_2 ((a.n.toNat+1) ^ k:Nat) (ints R_2).toArray R_2)],gq_1,capq_1,curq_1,rrB++[(RR.mk r_3 ((b.n.toNat+1) ^ k:Nat) (ints R_3).toArray R_3)],n+1,by rw [zL,zL];rfl,⟨hA2,hB2,hLv2,.inr ⟨by omega,by omega,hst⟩,by omega⟩,rows_more2 (x:=(RR.mk r_2 ((a.n.toNat+1) ^ k:Nat) (ints R_2).toArray R_2)) (y:=(RR.mk r_3 ((b.n.toNat+1) ^ k:Nat) (ints R_3).toArray R_3)) (f:=[_,_]) ((jQ (hs:=[_,_,_,_,_,_,_,_,_,_,_]) (hs':=[_,_,_,_]) (tl:=blks 147 bs__3++(rowsB 3 rrA++(rowsB 3 rrB++hs))) hw [5,6,3,1] rfl (by decide)).sub (zA _ (zA _ (zA _ (zA _ (List.sublist_append_right _ _))))))⟩
  replace h78:=zU h78
  have hgo:=levs_go hLv2 (fun hM4=>by
   first | omega | (rw [xs_at,xs_at,xs_at,xs_at,getA1 (by omega),getA1 (by omega),getA2 (by omega),getA2 (by omega)];exact h78))
  refine qT (zD [2,3,4,5,11,12,13] [_,_,_,_,_,_,_] Z (zB (zC 1 Z (zF Z (qR Z Z Z (by omega) (by omega)) (zC 1 Z (zG (qX ((n+1,gq,capq,curq,rrA++[(RR.mk r_2 ((a.n.toNat+1) ^ k:Nat) (ints R_2).toArray R_2)],gq_1,capq_1,curq_1,rrB++[(RR.mk r_3 ((b.n.toNat+1) ^ k:Nat) (ints R_3).toArray R_3)])) ⟨by omega,hA2,hB2,hgo⟩ (by omega) (Sub.cons Z (Sub.cons Z (Sub.cons Z (Sub.cons Z (Sub.cons (by rw [zL];rfl) (Sub.cons (by rw [zL];rfl) (Sub.sel [13] Z))))))) (fun _ h=>rows_more2 (x:=(RR.mk r_2 ((a.n.toNat+1) ^ k:Nat) (ints R_2).toArray R_2)) (y:=(RR.mk r_3 ((b.n.toNat+1) ^ k:Nat) (ints R_3).toArray R_3)) (f:=[_,_,_,_]) ((jQ (hs:=[_,_,_,_,_,_,_,_,_,_,_]) (hs':=[_,_,_,_,_,_]) (tl:=blks 147 bs__3++(rowsB 3 rrA++(rowsB 3 rrB++hs))) h [5,6,7,8,3,1] Z (by decide)).sub (zA _ (zA _ (zA _ (zA _ (zA _ (zA _ (List.sublist_append_right _ _))))))))))))))))
 refine yN Z (zD [11,12] [_,_] Z (zE (zB (zC 4 Z (zG (zD [8,9] [_,_] Z (qQ (Kt.end2 Z Z Z fun w' hw=>?_))))))))
 obtain rfl:n=M:=by omega
 exact ⟨gA,cA,uA,rrA,gB,cB,uB,rrB,n,rfl,⟨hA,hB,hLv.less (by omega),.inl rfl,by omega⟩,hw.sub (zA _ (zA _ (zV _ (zV _ (qE _)))))⟩
end Go.Proofs.YtagbocafnliabaaDoor
namespace Go.Proofs.YtagbocafnliabaaDoor
open Go.RowKit Go.Wk
set_option linter.unusedSimpArgs false
set_option maxHeartbeats 400000 in
theorem iTurns_ok (a b:St) (q:Int) (w:World) (hsa:a.Small) (hsb:b.Small) :
    Calls Tryd.prog 20 [vS a,vS b,i6_ q].toArray w fun en w'=>en=.returned (.int .i64 (turnsB a b q))∧Below w.heap.size w w':=by
 refine fnStart (n:=48) (e:=[(0,vS a),(1,vS b),(2,i6_ q)]) Tryd.func20 Z Z Z Z Ends.both (zE (zZ (xC (v:=vS a) Z Z Z Z Z fun p3 hp3=>?_)))
 show Ll _ _ (Own _ _ [_]) _ _ ((3,pt_ p3)::_) _ _ _;refine xC (v:=vS b) Z Z Z Z Z fun p4 hp4=>?_
 show Ll _ _ (Own _ _ [_,_]) _ _ ((4,pt_ p4)::_) _ _ _;refine qI 1 Z (zI (zD [2,3,4] [_,_,_] Z (zE (zE (zB (zF Z (zY (cs:=#[i6_ a.n,str a.set,str a.rel]) 1 Z zP Z Z zM) (zF (v:=bo_ (validB a)) Z (qN Z Tryd.call34 Z qC (fun w1 hw1=>isStructure_ok a w1 hsa)) (zC 2 Z (yX fun b14 hg14=>?_)))))))))
 cases b14
 ·
  replace hg14:=not_false hg14;refine zF Z (zY (cs:=#[i6_ b.n,str b.set,str b.rel]) 0 Z zP Z Z zM) (zF (v:=bo_ (validB b)) Z (qN Z Tryd.call34 Z qC (fun w1 hw1=>isStructure_ok b w1 hsb)) (zC 3 Z (yX fun b19 hg19=>?_)))
  cases b19
  ·
   replace hg19:=not_false hg19;refine zC 4 Z (yX fun b23 hg23=>?_)
   cases b23
   ·
    replace hg23:=zU hg23;refine zC 3 Z (zG (zD [2,3,4,26] [_,_,_,_] Z (yK (b:=decide ((3:Int)<q)) Z (fun h26=>?_) (fun h26=>?_))))
    ·
     replace h26:=zW h26;refine zE (zB (zC 1 Z (zG (zD [6] [_] Z (qQ (qO Z Z fun w' hw=>?_))))))
     exact ⟨ret_i (by unfold turnsB inB;rw [if_neg (by simp_all;try omega)]),hw.below⟩
    replace h26:=zU h26
    obtain ⟨k,rfl⟩:∃ k:Nat,q=(k:Int):=⟨q.toNat,by first | omega | (unfold inB at *;simp_all;omega)⟩
    have hVa:validB a=true:=by simp_all
    have hVb:validB b=true:=by simp_all
    have h1:1≤k:=by omega
    have h3:k≤3:=by omega
    have hk3:k≤3:=h3
    have hr:=bes_ready hVa hVb h1 h3
    have ha:=validB_fine hVa
    have hb:=validB_fine hVb
    have hm8:=ha.hi
    have hm1:=ha.lo
    have hb8:=hb.hi
    have hb1:=hb.lo
    have hpr:=prN_le (a:=a) (b:=b) (by omega) (by omega)
    have hpp:=prN_pos a b;refine qT (zD [2,3,4] [_,_,_] Z (zE (zZ (qI 1 Z (Ll.callRow (xs:=[.tmp 27]) (m:=(bes k).length) (vs:=ints (bes k)) (el:=3) (size:=1) Z Z Z Z Tryd.call56 Z (fun w1 hw1=>besides_ok k w1 (by omega)) fun p28 cap28 cur28 hp28 hcp28 hlp28 htp28=>(qI 1 Z (zI (zD [3,4,7] [_,_,_] Z (zE (zZ (zT Z (zY (cs:=#[i6_ a.n,str a.set,str a.rel]) 2 Z zP Z Z zM) (qI 1 Z (zT Z (zY (cs:=#[i6_ b.n,str b.set,str b.rel]) 1 Z zP Z Z zM) (qI 1 Z (Ll.callNew (σ:=Nat×Nat×Nat×Array Value×Nat×Nat×Array Value) (ok:=fun (p,gf,cf,uf,gw,cw,uw)=>(uf.size=cf*1∧(WL 0 a b k).length≤cf∧uf.toList.take (WL 0 a b k).length=bools (WL 0 a b k))∧(uw.size=cw*1∧(WL 0 a b k).length≤cw∧uw.toList.take (WL 0 a b k).length=bools (WL 0 a b k))) (v:=fun (p,gf,cf,uf,gw,cw,uw)=>.pointer (some ⟨p,0,none⟩)) (new:=fun (p,gf,cf,uf,gw,cw,uw)=>[bk_ p #[i6_ a.n,str a.set,str a.rel,i6_ b.n,str b.set,str b.rel,i6_ (k:Int),i6_ ((prN a b:Nat):Int),sl_ gf ((WL 0 a b k).length) cf,sl_ gw ((WL 0 a b k).length) cw,bo_ false] 76,bk_ gf uf 4,bk_ gw uw 4]) (hs:=[bk_ p28 cur28 3,bk_ p4 #[i6_ b.n,str b.set,str b.rel] 24,bk_ p3 #[i6_ a.n,str a.set,str a.rel] 24]) (xs:=[.tmp 29,.tmp 30,.tmp 31,.tmp 32]) (vs:=[vS a,sl_ p28 ((bes k).length) cap28,vS b,sl_ p28 ((bes k).length) cap28]) Z Z Z Z Tryd.call57 Z (fun w1 hw1=>(newPeb_yes a b (bes k) (bes k) (sl_ p28 ((bes k).length) cap28) (sl_ p28 ((bes k).length) cap28) w1 hsa hsb (yC hw1 (i:=0) Z (by simpa using htp28) (by simp) hlp28) (yC hw1 (i:=0) Z (by simpa using htp28) (by simp) hlp28) (by simp;omega) (by simp;omega) k (bes_len k) hr).mono fun en w' ⟨p,gf,cf,uf,gw,cw,uw,h1,h2,h3,h4⟩=>⟨(p,gf,cf,uf,gw,cw,uw),h1,⟨h2,h3⟩,hw1.merge h4⟩) fun ⟨p,gf,cf,uf,gw,cw,uw⟩ ⟨⟨hcf,hlf,htf⟩,⟨hcw,hlw,htw⟩⟩=>?_)))))))))))))))
    show Ll _ _ (Own _ _ [_,_,_,_,_,_]) _ _ ((33,pt_ p)::_) _ _ _;refine qI 1 Z (zI (zD [8] [_] Z (zE (zB (zC 1 Z (zG (zD [8,9] [_,_] Z (qJ (yR (σ:=Nat×Nat×Nat×Array Value) (fun ⟨n,g,c,u⟩=>pW n a (bes k) b (bes k)∧n+nT (WL n a b k)≤300000∧(WL n a b k).length≤c∧u.toList.take (WL n a b k).length=bools (WL n a b k)) (fun ⟨n,g,c,u⟩=>[(8,pt_ p),(9,i6_ ((n:Int)+1))]) (fun ⟨n,g,c,u⟩=>Own w.heap.size w (bk_ p #[i6_ a.n,str a.set,str a.rel,i6_ b.n,str b.set,str b.rel,i6_ (k:Int),i6_ ((prN a b:Nat):Int),sl_ gf ((WL 0 a b k).length) cf,sl_ g ((WL n a b k).length) c,bo_ false] 76::bk_ gf uf 4::bk_ g u 4::([bk_ p28 cur28 3,bk_ p4 #[i6_ b.n,str b.set,str b.rel] 24,bk_ p3 #[i6_ a.n,str a.set,str a.rel] 24]))) (fun ⟨n,g,c,u⟩=>nT (WL n a b k)) (0,gw,cw,uw) ⟨pW_first,by have:=nT_len (WL 0 a b k);have:=WL_len 0 a b k;have:=pow65 hpr hk3;omega,hlw,htw⟩ (Sub.cons Z (Sub.cons (by simp [List.lookup]) Sub.nil)) (fun _ h=>h) ?_)))))))))
    rintro ⟨n,g,c,u⟩ ⟨hPn,hNT,hlu,htu⟩
    dsimp only;refine zE (qJ (zE (zZ (qI 1 Z (jI (σ:=Nat×Nat×Array Value) (ok:=fun (g,c',u)=>u.size=c'*1∧(WL (n+1) a b k).length≤c'∧u.toList.take (WL (n+1) a b k).length=bools (WL (n+1) a b k)) (v:=fun _=>.bool (!((WL (n+1) a b k)==(WL n a b k)))) (xs:=[.tmp 36]) (vs:=[pt_ p]) (hs':=fun (g,c',u)=>(bk_ p #[i6_ a.n,str a.set,str a.rel,i6_ b.n,str b.set,str b.rel,i6_ (k:Int),i6_ ((prN a b:Nat):Int),sl_ gf ((WL 0 a b k).length) cf,sl_ g ((WL (n+1) a b k).length) c',bo_ false] 76::bk_ gf uf 4::bk_ g u 4::([bk_ p28 cur28 3,bk_ p4 #[i6_ b.n,str b.set,str b.rel] 24,bk_ p3 #[i6_ a.n,str a.set,str a.rel] 24]))) Z Z Z Z Tryd.call58 Z (fun w1 hw1=>(turn_ok _ _ _ a b k n p gf cf uf g c u w1 hVa hVb hk3 hlf htf hlu htu hw1).mono fun en w' ⟨g,c',u,h1,h2,h3⟩=>⟨(g,c',u),h1,h2,h3⟩) fun ⟨gt,ct,ut⟩ ⟨hcgt,hlgt,htgt⟩=>?_)))))
    show Ll _ _ (Own _ _ (_::_::_::([bk_ p28 cur28 3,bk_ p4 #[i6_ b.n,str b.set,str b.rel] 24,bk_ p3 #[i6_ a.n,str a.set,str a.rel] 24]))) _ _ ((37,bo_ (!((WL (n+1) a b k)==(WL n a b k))))::_) _ _ _;refine qI 1 Z (zI (zD [8,9,10] [_,_,_] Z (zE (zE (zB (zC 1 Z (zF (v:=pt_ p) Z (qU Z Z) (zF Z (zJ Z qH Z yQ Z Z) (zF Z (zQ 0 Z jC Z Z Z) (zF (v:=pf_ gt ((0:Int).toNat)) Z (qY (by rw [Nat.zero_add]) (yB (i:=0) Z yM xX Z Z (by decide) (by have:=WL_len (n+1) a b k;have:=Nat.pow_pos (n:=k) hpp;omega))) (zF (v:=bo_ ((WL (n+1) a b k).getD ((0:Int).toNat) false)) Z (xE 2 Z vE Z Z (cur_at htgt (bools_at (c:=(WL (n+1) a b k)) (off:=(0:Int).toNat) (by have:=WL_len (n+1) a b k;have:=Nat.pow_pos (n:=k) hpp;show 0<_;omega)))) (zC 1 Z (zG (zD [8,9,10,44] [_,_,_,_] Z (yK (b:=!((WL (n+1) a b k).getD ((0:Int).toNat) false)) Z (fun h44=>?_) (fun h44=>?_))))))))))))))))
    ·
     replace h44:=not_true h44
     have hW0:¬ pW (n+1) a (bes k) b (bes k):=fun e=>by rw [← wl_first] at e;simp_all
     refine zE (zB (zC 2 Z (zG (zD [6] [_] Z (qQ (qO Z Z fun w' hw=>?_))))))
     exact ⟨ret_i (turnsB_yes hVa hVb h1 h3 (turns_won hW0 hPn)).symm,hw.below⟩
    replace h44:=not_false h44;refine qT (zD [8,9,10] [_,_,_] Z (zE (zB (zC 2 Z (zG (zD [8,9,47] [_,_,_] Z (yK (b:=!(!((WL (n+1) a b k)==(WL n a b k)))) Z (fun h47=>?_) (fun h47=>?_))))))))
    ·
     replace h47:=not_true h47
     have hE:WL (n+1) a b k=WL n a b k:=by simpa using h47
     refine zE (zB (zC 1 Z (zG (zD [6] [_] Z (qQ (qO Z Z fun w' hw=>?_))))))
     exact ⟨ret_i (turnsB_yes hVa hVb h1 h3 (turns_never hE (by simpa using h44))).symm,hw.below⟩
    replace h47:=not_false h47
    have hdn:=wl_down (n:=n) (a:=a) (b:=b) (k:=k) (by simpa using h47);refine qT (zD [8,9] [_,_] Z (zB (zC 1 Z (zF Z (qR Z Z Z (by omega) (by omega)) (zC 1 Z (zG (qX (n+1,gt,ct,ut) ⟨wl_first.1 (by simpa using h44),by dsimp only;omega,hlgt,htgt⟩ (by omega) (Sub.cons Z (Sub.cons (by simp [List.lookup]) Sub.nil)) (fun _ h=>h))))))))
   replace hg23:=zW hg23;refine zK Z (zK Z (zC 1 Z (zG (zD [2,3,4,26] [_,_,_,_] Z (xY Z (zE (zB (zC 1 Z (zG (zD [6] [_] Z (qQ (qO Z Z fun w' hw=>?_))))))))))))
   exact ⟨ret_i (by unfold turnsB inB;rw [if_neg (by simp_all;try omega)]),hw.below⟩
  replace hg19:=not_true hg19;refine zK Z (zK Z (zC 2 Z (zK Z (zK Z (zC 1 Z (zG (zD [2,3,4,26] [_,_,_,_] Z (xY Z (zE (zB (zC 1 Z (zG (zD [6] [_] Z (qQ (qO Z Z fun w' hw=>?_)))))))))))))))
  exact ⟨ret_i (by unfold turnsB inB;rw [if_neg (by simp_all;try omega)]),hw.below⟩
 replace hg14:=not_true hg14;refine zK Z (zK Z (zK Z (zC 2 Z (zK Z (zK Z (zC 2 Z (zK Z (zK Z (zC 1 Z (zG (zD [2,3,4,26] [_,_,_,_] Z (xY Z (zE (zB (zC 1 Z (zG (zD [6] [_] Z (qQ (qO Z Z fun w' hw=>?_)))))))))))))))))))
 exact ⟨ret_i (by unfold turnsB inB;rw [if_neg (by simp_all;try omega)]),hw.below⟩
set_option maxHeartbeats 400000 in
theorem sTurns_ok (a b:St) (q:Int) (w:World) (hsa:a.Small) (hsb:b.Small) (loa : -9223372036854775808≤a.n) (hia:a.n≤9223372036854775807) (lob : -9223372036854775808≤b.n) (hib:b.n≤9223372036854775807) :
    Calls Tryd.prog 21 [vS a,vS b,i6_ q].toArray w fun en w'=>en=.returned (.int .i64 (turnsB a b q))∧Below w.heap.size w w':=by
 refine fnStart (n:=50) (e:=[(0,vS a),(1,vS b),(2,i6_ q)]) Tryd.func21 Z Z Z Z Ends.both (zE (zZ (xC (v:=vS a) Z Z Z Z Z fun p3 hp3=>?_)))
 show Ll _ _ (Own _ _ [_]) _ _ ((3,pt_ p3)::_) _ _ _;refine xC (v:=vS b) Z Z Z Z Z fun p4 hp4=>?_
 show Ll _ _ (Own _ _ [_,_]) _ _ ((4,pt_ p4)::_) _ _ _;refine qI 1 Z (zI (zD [2,3,4] [_,_,_] Z (zE (zE (zB (zF Z (zY (cs:=#[i6_ a.n,str a.set,str a.rel]) 1 Z zP Z Z zM) (zF (v:=bo_ (validB a)) Z (qN Z Tryd.call38 Z qC (fun w1 hw1=>sValid_ok a w1 hsa)) (zC 2 Z (yX fun b13 hg13=>?_)))))))))
 cases b13
 ·
  replace hg13:=not_false hg13;refine zF Z (zY (cs:=#[i6_ b.n,str b.set,str b.rel]) 0 Z zP Z Z zM) (zF (v:=bo_ (validB b)) Z (qN Z Tryd.call38 Z qC (fun w1 hw1=>sValid_ok b w1 hsb)) (zC 3 Z (yX fun b18 hg18=>?_)))
  cases b18
  ·
   replace hg18:=not_false hg18;refine zC 1 Z (zF (v:=bo_ (inB q 1 3)) Z (qN Z Tryd.call39 Z qC (fun w1 hw1=>l1In_ok q 1 3 w1 )) (zC 2 Z (zG (zD [2,3,4,22] [_,_,_,_] Z (yK (b:=!(inB q 1 3)) Z (fun h22=>?_) (fun h22=>?_))))))
   ·
    replace h22:=not_true h22;refine zE (zB (zC 1 Z (zG (zD [6] [_] Z (qQ (qO Z Z fun w' hw=>?_))))))
    exact ⟨ret_i (by unfold turnsB;rw [if_neg (by simp_all)]),hw.below⟩
   replace h22:=not_false h22
   obtain ⟨k,rfl⟩:∃ k:Nat,q=(k:Int):=⟨q.toNat,by first | omega | (unfold inB at *;simp_all;omega)⟩
   have h1:1≤k:=by unfold inB at *;simp_all;omega
   have h3:k≤3:=by unfold inB at *;simp_all;omega
   have hVa:validB a=true:=by simp_all
   have hVb:validB b=true:=by simp_all
   have hk3:k≤3:=h3
   have ha:=validB_fine hVa
   have hb:=validB_fine hVb
   have hm8:=ha.hi
   have hm1:=ha.lo
   have hb8:=hb.hi
   have hb1:=hb.lo
   have hpr:=prN_le (a:=a) (b:=b) (by omega) (by omega)
   have hpp:=prN_pos a b;refine qT (zD [2,3,4] [_,_,_] Z (zE (zZ (zT Z (zY (cs:=#[i6_ a.n,str a.set,str a.rel]) 1 Z zP Z Z zM) (zT Z (zY (cs:=#[i6_ b.n,str b.set,str b.rel]) 0 Z zP Z Z zM) (qI 1 Z (jI (σ:=Nat×Nat×Array Value×List RR×Nat×Nat×Array Value×List RR×Nat) (ok:=fun (gA,cA,uA,rrA,gB,cB,uB,rrB,m)=>RowsOk rrA uA cA∧RowsOk rrB uB cB∧Levs k 2000 a b (rrA.map RR.xs) (rrB.map RR.xs) m (m - 1)∧LevEnds k 2000 a b m∧m≤2000) (v:=fun (gA,cA,uA,rrA,gB,cB,uB,rrB,m)=>.tuple #[.slice (some ⟨gA,0,none⟩) rrA.length cA,.slice (some ⟨gB,0,none⟩) rrB.length cB]) (xs:=[.tmp 24,.tmp 25,.tmp 26,.const (i6_ 2000)]) (vs:=[vS a,vS b,i6_ (k:Int),i6_ 2000]) (hs':=fun (gA,cA,uA,rrA,gB,cB,uB,rrB,m)=>[bk_ p4 #[i6_ b.n,str b.set,str b.rel] 24,bk_ p3 #[i6_ a.n,str a.set,str a.rel] 24]++((gA,.cells uA 27 (0,0))::(gB,.cells uB 27 (0,0))::(rowsB 3 rrA++(rowsB 3 rrB++[])))) Z Z Z Z Tryd.call59 Z (fun w1 hw1=>(l7Levels_ok _ _ _ a b k 2000 w1 hVa hVb h1 h3 (by omega) hw1).mono fun en w' ⟨gA,cA,uA,rrA,gB,cB,uB,rrB,m,h1,h2,h3⟩=>⟨(gA,cA,uA,rrA,gB,cB,uB,rrB,m),h1,h2,h3.perm (rows_behind2 _ _ _ _ _)⟩) fun ⟨gA,cA,uA,rrA,gB,cB,uB,rrB,m⟩ ⟨hA,hB,hLv,hEn,hm2⟩=>?_)))))))
   have hrA:rrA.length=m+1:=by simpa using hLv.la
   have hrB:rrB.length=m+1:=by simpa using hLv.lb
   obtain ⟨K,hK,hl⟩:=hLv.at (Nat.le_refl m)
   rw [xs_at,xs_at] at hl
   have hlA:=hl.la
   have hlB:=hl.lb
   show Ll _ _ (Own _ _ (_::_::_::_::(rowsB 3 rrA++(rowsB 3 rrB++[])))) _ _ ((27,.tuple #[sl_ gA rrA.length cA,sl_ gB rrB.length cB])::_) _ _ _;refine qI 1 Z (zT (v:=sl_ gA rrA.length cA) Z (jB Z Z Z) (zT (v:=sl_ gB rrB.length cB) Z (jB Z Z Z) (qI 2 Z (zI (zD [7,8] [_,_] Z (zE (zE (zB (zC 1 Z (zG (zD [7,8,9] [_,_,_] Z (qJ (yR (σ:=Nat) (fun n=>n≤m+1∧∀ i:Nat,i<n→pW i a (bes k) b (bes k)) (fun n=>[(7,sl_ gA rrA.length cA),(8,sl_ gB rrB.length cB),(9,i6_ (n:Int))]) (fun n=>Own w.heap.size w (bk_ p4 #[i6_ b.n,str b.set,str b.rel] 24::bk_ p3 #[i6_ a.n,str a.set,str a.rel] 24::bk_ gA uA 27::bk_ gB uB 27::(rowsB 3 rrA++(rowsB 3 rrB++[])))) (fun n=>m+1 - n) (0) ⟨by omega,fun i hi=>absurd hi (by omega)⟩ (Sub.sel [7,8,9] Z) (fun _ h=>h) ?_)))))))))))))
   rintro n ⟨hn,hall⟩;refine zE (zE (zB (zC 2 Z (zF Z (jW Z xQ Z) (zC 1 Z (zG (zD [7,8,9,33] [_,_,_,_] Z (yK (b:=decide ((n:Int)<(rrA.length:Int))) Z (fun h33=>?_) (fun h33=>?_)))))))))
   ·
    replace h33:=zW h33
    obtain ⟨Kn,hKn,hln⟩:=hLv.at (i:=n) (by omega)
    rw [xs_at,xs_at] at hln
    have hnA:=hln.la
    have hnB:=hln.lb
    have hkA:=Nat.pow_pos (n:=k) (show 0<a.n.toNat+1 by omega)
    have hkB:=Nat.pow_pos (n:=k) (show 0<b.n.toNat+1 by omega);refine qT (zD [7,8,9] [_,_,_] Z (zE (qJ (zE (xV yH (fun _ h=>h.drawn) (by kernel_rfl) (zC 2 Z (zF (v:=pf_ gA n) Z (qY (v':=pf_ gA n) (by simp) (yB (i:=(n:Int)) Z xQ xN Z Z (by omega) (by omega))) (zF (v:=rv (rrA.getD n rd)) Z (xE (v:=rv (rrA.getD n rd)) 2 Z xG Z Z (hA.cell (i:=n) (by omega))) (zF (v:=.pointer (some (sAt (rv (rrA.getD n rd)) 0))) Z (yO Z zN zS Z Z (by decide) (by rw [ints_length];omega) (fun w1 hw1=>Own.ofRows (qW (f:=[bk_ p4 #[i6_ b.n,str b.set,str b.rel] 24,bk_ p3 #[i6_ a.n,str a.set,str a.rel] 24,bk_ gA uA 27,bk_ gB uB 27]) hw1) hA.ok (i:=n) (by omega))) (zF (v:=i6_ ((rrA.getD n rd).xs.getD ((0:Int).toNat) 0)) Z (yA Z qB Z (fun w1 hw1=>Ints.cell (Own.ofRows (qW (f:=[bk_ p4 #[i6_ b.n,str b.set,str b.rel] 24,bk_ p3 #[i6_ a.n,str a.set,str a.rel] 24,bk_ gA uA 27,bk_ gB uB 27]) hw1) hA.ok (i:=n) (by omega)) (by decide) (by omega))) (zC 2 Z (zF (v:=pf_ gB n) Z (qY (v':=pf_ gB n) (by simp) (yB (i:=(n:Int)) Z xQ xN Z Z (by omega) (by omega))) (zF (v:=rv (rrB.getD n rd)) Z (xE (v:=rv (rrB.getD n rd)) 3 Z xG Z Z (hB.cell (i:=n) (by omega))) (zF (v:=.pointer (some (sAt (rv (rrB.getD n rd)) 0))) Z (yO Z zN zS Z Z (by decide) (by rw [ints_length];omega) (fun w1 hw1=>Own.ofRows (qW (f:=rowsB 3 rrA) (qW (f:=[bk_ p4 #[i6_ b.n,str b.set,str b.rel] 24,bk_ p3 #[i6_ a.n,str a.set,str a.rel] 24,bk_ gA uA 27,bk_ gB uB 27]) hw1)) hB.ok (i:=n) (by omega))) (zF (v:=i6_ ((rrB.getD n rd).xs.getD ((0:Int).toNat) 0)) Z (yA Z qB Z (fun w1 hw1=>Ints.cell (Own.ofRows (qW (f:=rowsB 3 rrA) (qW (f:=[bk_ p4 #[i6_ b.n,str b.set,str b.rel] 24,bk_ p3 #[i6_ a.n,str a.set,str a.rel] 24,bk_ gA uA 27,bk_ gB uB 27]) hw1)) hB.ok (i:=n) (by omega)) (by decide) (by omega))) (zC 1 Z (zG (zD [7,8,9,48] [_,_,_,_] Z (yK (b:=!(decide (((rrA.getD n rd).xs.getD ((0:Int).toNat) 0)=((rrB.getD n rd).xs.getD ((0:Int).toNat) 0)))) Z (fun h48=>?_) (fun h48=>?_))))))))))))))))))))
    ·
     replace h48:=not_true h48
     replace h48:=zU h48
     have hno:¬ pW n a (bes k) b (bes k):=fun e=>absurd ((lev_first hln).2 e) (by simpa using h48);refine zE (zB (zC 2 Z (zG (zD [6] [_] Z (qQ (qO Z Z fun w' hw=>?_))))))
     exact ⟨ret_i (turnsB_yes hVa hVb h1 h3 (turns_at hno hall)).symm,hw.below⟩
    replace h48:=not_false h48
    replace h48:=zW h48
    have hyes:pW n a (bes k) b (bes k):=(lev_first hln).1 (by simpa using h48);refine qT (zD [7,8,9] [_,_,_] Z (zB (zC 1 Z (zF Z (qR Z Z Z (by omega) (by omega)) (zC 1 Z (zG (qX (n+1) ⟨by omega,fun i hi=>(Nat.lt_succ_iff_lt_or_eq.1 hi).elim (hall i) (fun e=>by subst e;exact hyes)⟩ (by omega) (Sub.sel [7,8,9] Z) (fun _ h=>h))))))))
   replace h33:=zU h33;refine yN Z (zD [] [] Z (zE (zB (zC 1 Z (zG (zD [6] [_] Z (qQ (qO Z Z fun w' hw=>?_))))))))
   exact ⟨ret_i (turnsB_yes hVa hVb h1 h3 (levs_never hLv hEn (hall m (by omega)))).symm,hw.below⟩
  replace hg18:=not_true hg18;refine zK Z (zK Z (zK Z (zC 1 Z (zG (zD [2,3,4,22] [_,_,_,_] Z (xY Z (zE (zB (zC 1 Z (zG (zD [6] [_] Z (qQ (qO Z Z fun w' hw=>?_)))))))))))))
  exact ⟨ret_i (by unfold turnsB;rw [if_neg (by simp_all)]),hw.below⟩
 replace hg13:=not_true hg13;refine zK Z (zK Z (zK Z (zC 2 Z (zK Z (zK Z (zK Z (zC 1 Z (zG (zD [2,3,4,22] [_,_,_,_] Z (xY Z (zE (zB (zC 1 Z (zG (zD [6] [_] Z (qQ (qO Z Z fun w' hw=>?_)))))))))))))))))
 exact ⟨ret_i (by unfold turnsB;rw [if_neg (by simp_all)]),hw.below⟩
end Go.Proofs.YtagbocafnliabaaDoor
namespace Go.Proofs.YtagbocafnliabaaDoor
open Go.RowKit Go.Wk
set_option linter.unusedSimpArgs false
set_option maxHeartbeats 400000 in
theorem iEver_yes (a b:St) (xs ys:List Int) (va vb:Value) (w:World) (hsa:a.Small) (hsb:b.Small) (hva:Ints w va xs) (hvb:Ints w vb ys) (hs1:xs.length≤140737488355328) (hs2:ys.length≤140737488355328) (k:Nat) (hk:xs.length=k) (hr:readyB a xs b ys=true) :
    Calls Tryd.prog 23 [vS a,va,vS b,vb].toArray w fun en w'=>en=.returned (.bool (pebEverB a xs b ys))∧Below w.heap.size w w':=by
 refine fnStart (n:=29) (e:=[(0,vS a),(1,va),(2,vS b),(3,vb)]) Tryd.func23 Z Z Z Z Ends.both ?_
 obtain ⟨hVa,hVb,h1,h3,hlen,hx,hy⟩:=ready_peb hr
 have hsg:=signsB_true (readyB_true hr).2.2.2
 have hst:=(ready_state hr).1
 unfold stN at hst
 rw [hk] at h1 h3 hx hy hsg hst
 have hk3:k≤3:=h3
 have ha:=validB_fine hVa
 have hb:=validB_fine hVb
 have hm8:=ha.hi
 have hm1:=ha.lo
 have hb8:=hb.hi
 have hb1:=hb.lo
 have hpr:=prN_le (a:=a) (b:=b) (by omega) (by omega)
 have hpp:=prN_pos a b;refine zE (zZ (xC (v:=vS a) Z Z Z Z Z fun p4 hp4=>?_))
 show Ll _ _ (Own _ _ [_]) _ _ ((4,pt_ p4)::_) _ _ _;refine xC (v:=vS b) Z Z Z Z Z fun p6 hp6=>?_
 show Ll _ _ (Own _ _ [_,_]) _ _ ((6,pt_ p6)::_) _ _ _;refine qI 1 Z (zI (zD [1,3,4,6] [_,_,_,_] Z (zE (zZ (zT Z (zY (cs:=#[i6_ a.n,str a.set,str a.rel]) 1 Z zP Z Z zM) (qI 1 Z (zT Z (zY (cs:=#[i6_ b.n,str b.set,str b.rel]) 0 Z zP Z Z zM) (qI 1 Z (Ll.callNew (σ:=Nat×Nat×Nat×Array Value×Nat×Nat×Array Value) (ok:=fun (p,gf,cf,uf,gw,cw,uw)=>(uf.size=cf*1∧(WL 0 a b k).length≤cf∧uf.toList.take (WL 0 a b k).length=bools (WL 0 a b k))∧(uw.size=cw*1∧(WL 0 a b k).length≤cw∧uw.toList.take (WL 0 a b k).length=bools (WL 0 a b k))) (v:=fun (p,gf,cf,uf,gw,cw,uw)=>.pointer (some ⟨p,0,none⟩)) (new:=fun (p,gf,cf,uf,gw,cw,uw)=>[bk_ p #[i6_ a.n,str a.set,str a.rel,i6_ b.n,str b.set,str b.rel,i6_ (k:Int),i6_ ((prN a b:Nat):Int),sl_ gf ((WL 0 a b k).length) cf,sl_ gw ((WL 0 a b k).length) cw,bo_ false] 76,bk_ gf uf 4,bk_ gw uw 4]) (hs:=[bk_ p6 #[i6_ b.n,str b.set,str b.rel] 24,bk_ p4 #[i6_ a.n,str a.set,str a.rel] 24]) (xs:=[.tmp 10,.tmp 11,.tmp 12,.tmp 13]) (vs:=[vS a,va,vS b,vb]) Z Z Z Z Tryd.call57 Z (fun w1 hw1=>(newPeb_yes a b xs ys va vb w1 hsa hsb (Row.own hva hw1) (Row.own hvb hw1) (by first | (simp;done) | (simp;omega) | omega) (by first | (simp;done) | (simp;omega) | omega) k hk hr).mono fun en w' ⟨p,gf,cf,uf,gw,cw,uw,h1,h2,h3,h4⟩=>⟨(p,gf,cf,uf,gw,cw,uw),h1,⟨h2,h3⟩,hw1.merge h4⟩) fun ⟨p,gf,cf,uf,gw,cw,uw⟩ ⟨⟨hcf,hlf,htf⟩,⟨hcw,hlw,htw⟩⟩=>?_)))))))))
 show Ll _ _ (Own _ _ [_,_,_,_,_]) _ _ ((14,pt_ p)::_) _ _ _;refine qI 1 Z (zI (zD [1,3,9] [_,_,_] Z (zE (zE (zB (zC 1 Z (zF (v:=bo_ false) Z (OpQ.eqNilP (p:=some ⟨p,0,none⟩) Z Tryd.underlying71 Z Z) (zG (zD [1,3,9,16] [_,_,_,_] Z (Wk.condF Z (qT (zD [1,3,9] [_,_,_] Z (zE (qJ (yR (σ:=Nat×Nat×Nat×Array Value) (fun ⟨n,g,c,u⟩=>(WL n a b k).length≤c∧u.toList.take (WL n a b k).length=bools (WL n a b k)) (fun ⟨n,g,c,u⟩=>[(1,va),(3,vb),(9,pt_ p)]) (fun ⟨n,g,c,u⟩=>Own w.heap.size w (bk_ p #[i6_ a.n,str a.set,str a.rel,i6_ b.n,str b.set,str b.rel,i6_ (k:Int),i6_ ((prN a b:Nat):Int),sl_ gf ((WL 0 a b k).length) cf,sl_ g ((WL n a b k).length) c,bo_ false] 76::bk_ gf uf 4::bk_ g u 4::([bk_ p6 #[i6_ b.n,str b.set,str b.rel] 24,bk_ p4 #[i6_ a.n,str a.set,str a.rel] 24]))) (fun ⟨n,g,c,u⟩=>nT (WL n a b k)) (0,gw,cw,uw) ⟨hlw,htw⟩ (Sub.sel [1,3,9] Z) (fun _ h=>h) ?_)))))))))))))))
 rintro ⟨n,g,c,u⟩ ⟨hlu,htu⟩
 dsimp only;refine zE (zE (zZ (qI 1 Z (jI (σ:=Nat×Nat×Array Value) (ok:=fun (g,c',u)=>u.size=c'*1∧(WL (n+1) a b k).length≤c'∧u.toList.take (WL (n+1) a b k).length=bools (WL (n+1) a b k)) (v:=fun _=>.bool (!((WL (n+1) a b k)==(WL n a b k)))) (xs:=[.tmp 17]) (vs:=[pt_ p]) (hs':=fun (g,c',u)=>(bk_ p #[i6_ a.n,str a.set,str a.rel,i6_ b.n,str b.set,str b.rel,i6_ (k:Int),i6_ ((prN a b:Nat):Int),sl_ gf ((WL 0 a b k).length) cf,sl_ g ((WL (n+1) a b k).length) c',bo_ false] 76::bk_ gf uf 4::bk_ g u 4::([bk_ p6 #[i6_ b.n,str b.set,str b.rel] 24,bk_ p4 #[i6_ a.n,str a.set,str a.rel] 24]))) Z Z Z Z Tryd.call58 Z (fun w1 hw1=>(turn_ok _ _ _ a b k n p gf cf uf g c u w1 hVa hVb hk3 hlf htf hlu htu hw1).mono fun en w' ⟨g,c',u,h1,h2,h3⟩=>⟨(g,c',u),h1,h2,h3⟩) fun ⟨gt,ct,ut⟩ ⟨hcgt,hlgt,htgt⟩=>?_))))
 show Ll _ _ (Own _ _ (_::_::_::([bk_ p6 #[i6_ b.n,str b.set,str b.rel] 24,bk_ p4 #[i6_ a.n,str a.set,str a.rel] 24]))) _ _ ((18,bo_ (!((WL (n+1) a b k)==(WL n a b k))))::_) _ _ _;refine zI (zD [1,3,9,18] [_,_,_,_] Z (yK (b:=!((WL (n+1) a b k)==(WL n a b k))) Z (fun h18=>?_) (fun h18=>?_)))
 ·
  have hdn:=wl_down (n:=n) (a:=a) (b:=b) (k:=k) (by simpa using h18);refine qT (zD [1,3,9] [_,_,_] Z (qJ (qT (qX (n+1,gt,ct,ut) ⟨hlgt,htgt⟩ (by omega) (Sub.sel [1,3,9] Z) (fun _ h=>h)))))
 have hE:WL (n+1) a b k=WL n a b k:=by simpa using h18
 have hWt:(WL (n+1) a b k).length=prN a b ^ k:=WL_len _ _ _ _;refine yN Z (zD [1,3,9] [_,_,_] Z (zE (xV yH (fun _ h=>h.drawn) (by kernel_rfl) (zC 1 Z (zF (v:=pt_ p) Z (qU Z Z) (zF Z (zJ Z qH Z yQ Z Z) (zF Z (zQ 0 Z jC Z Z Z) (zC 3 Z (zF (v:=i6_ (((stU b.n.toNat (prN a b) xs ys k k:Nat):Int))) Z (qN Z Tryd.call61 Z qC (fun w1 hw1=>stateOf_ok a b k p 76 (sl_ gf ((WL 0 a b k).length) cf) (sl_ gt ((WL (n+1) a b k).length) ct) va vb xs ys w1 (hw1.has 0 _ _ Z).2 (Row.own hva hw1) (Row.own hvb hw1) hVa hVb hk3 hx hy hsg)) (zF (v:=pf_ gt ((((stU b.n.toNat (prN a b) xs ys k k:Nat):Int)).toNat)) Z (qY (by rw [Nat.zero_add]) (yB (i:=((stU b.n.toNat (prN a b) xs ys k k:Nat):Int)) Z yM xX Z Z (by omega) (by omega))) (zF (v:=bo_ ((WL (n+1) a b k).getD ((((stU b.n.toNat (prN a b) xs ys k k:Nat):Int)).toNat) false)) Z (xE 2 Z vE Z Z (cur_at htgt (bools_at (c:=(WL (n+1) a b k)) (off:=(((stU b.n.toNat (prN a b) xs ys k k:Nat):Int)).toNat) (by first | (simp;done) | (simp;omega) | omega)))) (zC 1 Z (zG (zD [8] [_] Z (qQ (qO Z Z fun w' hw=>?_))))))))))))))))
 subst hk
 exact ⟨ret_b (ever_code hr hE),hw.below⟩
set_option maxHeartbeats 400000 in
theorem iEver_no (a b:St) (xs ys:List Int) (va vb:Value) (w:World) (hsa:a.Small) (hsb:b.Small) (hva:Ints w va xs) (hvb:Ints w vb ys) (hs1:xs.length≤140737488355328) (hs2:ys.length≤140737488355328) (hr:readyB a xs b ys=false) :
    Calls Tryd.prog 23 [vS a,va,vS b,vb].toArray w fun en w'=>en=.returned (.bool (pebEverB a xs b ys))∧Below w.heap.size w w':=by
 refine fnStart (n:=29) (e:=[(0,vS a),(1,va),(2,vS b),(3,vb)]) Tryd.func23 Z Z Z Z Ends.both (zE (zZ (xC (v:=vS a) Z Z Z Z Z fun p4 hp4=>?_)))
 show Ll _ _ (Own _ _ [_]) _ _ ((4,pt_ p4)::_) _ _ _;refine xC (v:=vS b) Z Z Z Z Z fun p6 hp6=>?_
 show Ll _ _ (Own _ _ [_,_]) _ _ ((6,pt_ p6)::_) _ _ _;refine qI 1 Z (zI (zD [1,3,4,6] [_,_,_,_] Z (zE (zZ (zT Z (zY (cs:=#[i6_ a.n,str a.set,str a.rel]) 1 Z zP Z Z zM) (qI 1 Z (zT Z (zY (cs:=#[i6_ b.n,str b.set,str b.rel]) 0 Z zP Z Z zM) (qI 1 Z (zT (v:=.pointer none) Z (qN Z Tryd.call57 Z qC (fun w1 hw1=>newPeb_no a b xs ys va vb w1 hsa hsb (Row.own hva hw1) (Row.own hvb hw1) (by first | (simp;done) | (simp;omega) | omega) (by first | (simp;done) | (simp;omega) | omega) hr)) (qI 1 Z (zI (zD [1,3,9] [_,_,_] Z (zE (zE (zB (zC 1 Z (zF (v:=bo_ true) Z (OpQ.eqNilP (p:=none) Z Tryd.underlying71 Z Z) (zG (zD [1,3,9,16] [_,_,_,_] Z (xY Z (zE (zB (zC 1 Z (zG (zD [8] [_] Z (qQ (qO Z Z fun w' hw=>?_)))))))))))))))))))))))))))
 exact ⟨ret_b (by unfold pebEverB;rw [hr];rfl),hw.below⟩
theorem iEver_ok (a b:St) (xs ys:List Int) (va vb:Value) (w:World) (hsa:a.Small) (hsb:b.Small) (hva:Ints w va xs) (hvb:Ints w vb ys) (hs1:xs.length≤140737488355328) (hs2:ys.length≤140737488355328) :
    Calls Tryd.prog 23 #[vS a,va,vS b,vb] w fun en w'=>en=.returned (.bool (pebEverB a xs b ys))∧Below w.heap.size w w':=by
  cases hr:readyB a xs b ys with
  | true=>exact iEver_yes a b xs ys va vb w hsa hsb hva hvb hs1 hs2 xs.length rfl hr
  | false=>exact iEver_no a b xs ys va vb w hsa hsb hva hvb hs1 hs2 hr
end Go.Proofs.YtagbocafnliabaaDoor
