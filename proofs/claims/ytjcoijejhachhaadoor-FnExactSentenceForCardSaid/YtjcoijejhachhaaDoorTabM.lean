/-
  Walks: the table of descriptions.
-/
import Derived.Test.YtjcoijejhachhaaDoorCore3
import Derived.Test.YtjcoijejhachhaaDoorAtomM
import Derived.Test.YtjcoijejhachhaaDoorBase
namespace Go.Proofs.YtjcoijejhachhaaDoor
open Go.RowKit Go.Wk
set_option linter.unusedSimpArgs false

set_option maxHeartbeats 400000 in
/-- spec.l15Dec -/
theorem l15Dec_ok (x : Int) (w : World) (h0 : 0 ≤ x) (h1 : x < 1000000000000) :
    Calls Tryd.prog 136 [i6_ x].toArray w fun en w' => en = .returned (str (decS x.toNat)) ∧ Below w.heap.size w w' := by
 refine fnStart (n := 31) (e := [(0, i6_ x)]) Tryd.func136 rfl rfl rfl rfl Ends.both ?_
 have hdl := decS_len x.toNat 12 (show x.toNat < 1000000000000 by omega) (by decide)
 refine Wk.seq ?_
 refine Wk.regionQ ?_
 refine Lq.op (v := str ([])) rfl rfl rfl (OpQ.assign rfl rfl) ?_
 refine Lq.nil ?_
 refine Kt.sel [0] [_] rfl ?_
 refine Wk.seq ?_
 refine Wk.seq ?_
 refine Wk.regionQ ?_
 refine Lq.run 2 rfl ?_
 refine Lq.nil ?_
 refine Kt.sel [0, 5] [_, _] rfl ?_
 refine Wk.cond (b := decide (x < (-9223372036854775807 : Int))) rfl (fun h5 => ?_) (fun h5 => ?_)
 ·
  replace h5 := of_decide_eq_true h5
  omega
 ·
  replace h5 := of_decide_eq_false h5
  refine Wk.skip ?_
  refine Kt.sel [0] [_] rfl ?_
  refine Wk.seq ?_
  refine Wk.seq ?_
  refine Wk.regionQ ?_
  refine Lq.run 2 rfl ?_
  refine Lq.nil ?_
  refine Kt.sel [0, 7] [_, _] rfl ?_
  refine Wk.cond (b := decide (x < (0 : Int))) rfl (fun h7 => ?_) (fun h7 => ?_)
  ·
   replace h7 := of_decide_eq_true h7
   omega
  ·
   replace h7 := of_decide_eq_false h7
   refine Wk.skip ?_
   refine Kt.sel [0] [_] rfl ?_
   refine Wk.seq ?_
   refine Wk.regionQ ?_
   refine Lq.op (v := str ([])) rfl rfl rfl (OpQ.assign rfl rfl) ?_
   refine Lq.nil ?_
   refine Kt.sel [0, 3] [_, _] rfl ?_
   refine Wk.seq ?_
   refine Wk.block ?_
   refine Wk.loop (σ := Nat × List UInt8) (fun ⟨n, o⟩ => decS x.toNat = decS n ++ o ∧ n ≤ x.toNat) (fun ⟨n, o⟩ => [(0, i6_ ((n : Int))), (3, str o)]) (fun ⟨n, o⟩ => Own w.heap.size w []) (fun ⟨n, o⟩ => n) ((x.toNat, [])) ⟨by simp, Nat.le_refl _⟩ (Sub.cons (by rw [Int.toNat_of_nonneg h0]; rfl) (Sub.sel [3] rfl)) (fun _ h => h) ?_
   rintro ⟨n, o⟩ ⟨ho, hn⟩
   dsimp only
   have hol := dec_len ho hdl
   refine Wk.seq ?_
   refine Wk.seq ?_
   refine Wk.regionQ ?_
   refine Lq.run 2 rfl ?_
   refine Lq.nil ?_
   refine Kt.sel [0, 3, 13] [_, _, _] rfl ?_
   refine Wk.cond (b := decide ((9 : Int) < ((n : Int)))) rfl (fun h13 => ?_) (fun h13 => ?_)
   ·
    replace h13 := of_decide_eq_true h13
    refine Wk.skip ?_
    refine Kt.sel [0, 3] [_, _] rfl ?_
    refine Wk.block ?_
    refine Wk.seq ?_
    refine Wk.region ?_
    refine Ll.run 1 rfl ?_
    refine Ll.op (v := i6_ (((n : Int)) % (10 : Int))) rfl rfl rfl (OpQ.rem rfl rfl rfl (by omega) (by decide)) ?_
    refine Ll.op rfl rfl rfl (OpQ.add rfl rfl rfl (by omega) (by omega)) ?_
    refine Ll.op (v := .int .u8 ((48 : Int) + (((n : Int)) % (10 : Int)))) rfl rfl rfl (OpQ.convInt .u8 rfl Tryd.underlying3 Tryd.underlying5 rfl (IntWalk.u8_in _ (by omega))) ?_
    refine Ll.slice (xs := [.tmp 17]) (vs := [.int .u8 ((48 : Int) + (((n : Int)) % (10 : Int)))]) Base.elem45 rfl rfl rfl rfl rfl rfl (by decide) rfl fun p18 hp18 => ?_
    refine Ll.op (v := str ([UInt8.ofNat (48 + n % 10)])) rfl rfl rfl (OpQ.byteStr (b := UInt8.ofNat (48 + n % 10)) 0 rfl Tryd.underlying45 Tryd.underlying5 Tryd.underlying9 rfl rfl (by rw [toNat_dig (by omega)]; omega)) ?_
    refine Ll.run 1 rfl ?_
    refine Ll.op rfl rfl rfl (OpQ.sadd rfl rfl rfl (by first | omega | (simp only [List.length_append, List.length_cons, List.length_nil]; omega))) ?_
    refine Ll.run 1 rfl ?_
    refine Ll.nil ?_
    refine Kt.sel [0, 3] [_, _] rfl ?_
    refine Wk.regionQ ?_
    refine Lq.run 1 rfl ?_
    refine Lq.op (v := i6_ (((n / 10 : Nat) : Int))) rfl rfl rfl (OpQ.cast (by simp) (OpQ.quo rfl rfl rfl (by omega) (by omega) (by decide))) ?_
    refine Lq.run 1 rfl ?_
    refine Lq.nil ?_
    refine Kt.again ((n / 10, [UInt8.ofNat (48 + n % 10)] ++ o)) ⟨dec_step ho (by omega), by omega⟩ (by omega) (Sub.sel [0, 3] rfl) (fun _ h => h.tail)
   ·
    replace h13 := of_decide_eq_false h13
    refine Wk.exit rfl ?_
    refine Kt.sel [0, 3] [_, _] rfl ?_
    refine Wk.seq ?_
    refine Wk.region ?_
    refine Ll.run 1 rfl ?_
    refine Ll.op rfl rfl rfl (OpQ.add rfl rfl rfl (by omega) (by omega)) ?_
    refine Ll.op (v := .int .u8 ((48 : Int) + ((n : Int)))) rfl rfl rfl (OpQ.convInt .u8 rfl Tryd.underlying3 Tryd.underlying5 rfl (IntWalk.u8_in _ (by omega))) ?_
    refine Ll.slice (xs := [.tmp 26]) (vs := [.int .u8 ((48 : Int) + ((n : Int)))]) Base.elem45 rfl rfl rfl rfl rfl rfl (by decide) rfl fun p27 hp27 => ?_
    refine Ll.op (v := str ([UInt8.ofNat (48 + n)])) rfl rfl rfl (OpQ.byteStr (b := UInt8.ofNat (48 + n)) 0 rfl Tryd.underlying45 Tryd.underlying5 Tryd.underlying9 rfl rfl (by rw [toNat_dig (by omega)]; omega)) ?_
    refine Ll.run 1 rfl ?_
    refine Ll.op rfl rfl rfl (OpQ.sadd rfl rfl rfl (by first | omega | (simp only [List.length_append, List.length_cons, List.length_nil]; omega))) ?_
    refine Ll.run 1 rfl ?_
    refine Ll.nil ?_
    refine Kt.sel [2] [_] rfl ?_
    refine Wk.ret (Kt.end1 rfl rfl fun w' hw => ?_)
    -- ret 0: str (([UInt8.ofNat (48 + n)]) ++ o)
    exact ⟨ret_s (by rw [ho, decS, if_pos (by omega)]), hw.below⟩

set_option maxHeartbeats 400000 in
/-- spec.l5Insert -/
theorem l5Insert_ok (B : Nat) (w0 : World) (hs : List (Nat × Obj)) (g cap : Nat) (cur : Array Value) (xs : List Int) (m : Int) (w : World) (hc : cur.size = cap * 1) (hle : xs.length ≤ cap) (ht : cur.toList.take xs.length = ints xs) (hs1 : xs.length ≤ 1000) (hw : Own B w0 ((g, .cells cur 3 (0, 0)) :: hs) w) :
    Calls Tryd.prog 62 [sl_ g xs.length cap, i6_ m].toArray w fun en w' => ∃ (g' cap' : Nat) (cur' : Array Value), en = .returned (.slice (some ⟨g', 0, none⟩) (insS xs m).length cap') ∧ (cur'.size = cap' * 1 ∧ (insS xs m).length ≤ cap' ∧ cur'.toList.take (insS xs m).length = ints (insS xs m)) ∧ Own B w0 ((g', .cells cur' 3 (0, 0)) :: hs) w' := by
 refine fnStartC (Own B w0 ((g, .cells cur 3 (0, 0)) :: hs)) (n := 41) (e := [(0, sl_ g xs.length cap), (1, i6_ m)]) Tryd.func62 rfl rfl rfl rfl Ends.both hw ?_
 refine Wk.seq ?_
 refine Wk.regionQ ?_
 refine Lq.run 1 rfl ?_
 refine Lq.nil ?_
 refine Kt.sel [0, 1] [_, _] rfl ?_
 refine Wk.seq ?_
 refine Wk.seq ?_
 refine Wk.regionQ ?_
 refine Lq.run 1 rfl ?_
 refine Lq.nil ?_
 refine Kt.sel [0, 1, 5] [_, _, _] rfl ?_
 refine Wk.block ?_
 refine Wk.loop (σ := Nat) (fun k => k ≤ xs.length ∧ ∀ j : Nat, j < k → ¬ xs.getD j 0 = m ∧ ¬ m < xs.getD j 0) (fun k => [(0, sl_ g xs.length cap), (1, i6_ m), (5, i6_ ((k : Int)))]) (fun k => Own B w0 (bk_ g cur 3 :: hs)) (fun k => xs.length - k) (0) ⟨by omega, fun i hi => absurd hi (by omega)⟩ (Sub.sel [0, 1, 5] rfl) (fun _ h => h) ?_
 rintro k ⟨hk, hall⟩
 refine Wk.seq ?_
 refine Wk.seq ?_
 refine Wk.regionQ ?_
 refine Lq.run 2 rfl ?_
 refine Lq.op rfl rfl rfl (OpQ.lenS rfl Tryd.runUnderlying24 rfl) ?_
 refine Lq.run 1 rfl ?_
 refine Lq.nil ?_
 refine Kt.sel [0, 1, 5, 9] [_, _, _, _] rfl ?_
 refine Wk.cond (b := decide (((k : Int)) < ((xs.length : Int)))) rfl (fun h9 => ?_) (fun h9 => ?_)
 ·
  replace h9 := of_decide_eq_true h9
  have hk2 : k < xs.length := by omega
  refine Wk.skip ?_
  refine Kt.sel [0, 1, 5] [_, _, _] rfl ?_
  refine Wk.seq ?_
  refine Wk.block ?_
  refine Wk.seq ?_
  refine Wk.seq ?_
  refine Wk.regionQ ?_
  refine Lq.run 2 rfl ?_
  refine Lq.op (v := pf_ g k) rfl rfl rfl (OpQ.cast (by simp) (OpQ.indexAddr1 rfl Tryd.runUnderlying24 Tryd.sizeOf3 rfl rfl (by omega) (by omega))) ?_
  refine Lq.op (v := i6_ (xs.getD (k) 0)) rfl rfl rfl (OpQ.loadAt 0 rfl Tryd.isAgg3 rfl rfl (cur_at ht (ints_at2 (by omega)))) ?_
  refine Lq.run 2 rfl ?_
  refine Lq.nil ?_
  refine Kt.sel [0, 1, 5, 17] [_, _, _, _] rfl ?_
  refine Wk.cond (b := decide ((xs.getD (k) 0) = m)) rfl (fun h17 => ?_) (fun h17 => ?_)
  ·
   replace h17 := of_decide_eq_true h17
   refine Wk.seq ?_
   refine Wk.regionQ ?_
   refine Lq.run 2 rfl ?_
   refine Lq.nil ?_
   refine Kt.sel [4] [_] rfl ?_
   refine Wk.ret (Kt.end1 rfl rfl fun w' hw => ?_)
   -- ret 0: sl_ g xs.length cap
   have e := insS_at (n := m) hk2 hall (by simpa using h17)
   exact ⟨g, cap, cur, by rw [e], ⟨hc, by rw [e]; exact hle, by rw [e]; exact ht⟩, hw⟩
  ·
   replace h17 := of_decide_eq_false h17
   refine Wk.skip ?_
   refine Kt.sel [0, 1, 5] [_, _, _] rfl ?_
   refine Wk.seq ?_
   refine Wk.regionQ ?_
   refine Lq.run 2 rfl ?_
   refine Lq.op (v := pf_ g k) rfl rfl rfl (OpQ.cast (by simp) (OpQ.indexAddr1 rfl Tryd.runUnderlying24 Tryd.sizeOf3 rfl rfl (by omega) (by omega))) ?_
   refine Lq.op (v := i6_ (xs.getD (k) 0)) rfl rfl rfl (OpQ.loadAt 0 rfl Tryd.isAgg3 rfl rfl (cur_at ht (ints_at2 (by omega)))) ?_
   refine Lq.run 2 rfl ?_
   refine Lq.nil ?_
   refine Kt.sel [0, 1, 5, 24] [_, _, _, _] rfl ?_
   refine Wk.cond (b := decide (m < (xs.getD (k) 0))) rfl (fun h24 => ?_) (fun h24 => ?_)
   ·
    replace h24 := of_decide_eq_true h24
    refine Wk.seq ?_
    refine Wk.regionT (S := Own B w0 [bk_ g cur 3]) (.take 1 (.take 2 (.take 3 (.take 5 (.take 8 (.take 9 (.take 10 (.two 0 (.two 4 (.one 6 (.one 7 (.one 11 (.take 12 .done)))) 6 (.one 4 (.one 7 (.one 11 (.take 12 .done))))) 6 (.one 0 (.one 4 (.one 7 (.one 11 (.take 12 .done))))))))))))) Base.mixed (fun _ h => h.drawn) (by kernel_rfl) ?_
    refine Lt.run 2 rfl (pk [0] rfl rfl) ?_
    refine Lt.take (v := sl_ g (((k : Int)).toNat) cap) rfl rfl rfl rfl rfl (OpQ.takeS (i := (k : Int)) rfl Tryd.runUnderlying24 Tryd.sizeOf3 rfl rfl (by omega) (by omega)) (pk [0] rfl rfl) ?_
    refine Lt.run 3 rfl (pk [0] rfl rfl) ?_
    refine Lt.take (v := .slice (some ⟨g, ((k : Int)).toNat, none⟩) (xs.length - ((k : Int)).toNat) (cap - ((k : Int)).toNat)) rfl rfl rfl rfl rfl (OpQ.dropS rfl Tryd.runUnderlying24 Tryd.sizeOf3 rfl rfl (by omega) (by omega) (by omega)) (pk [0] rfl rfl) ?_
    refine Lt.two rfl rfl ?_ ?_
    ·
     refine Ll.slice (xs := []) (vs := []) Base.elem24 rfl rfl rfl rfl rfl rfl (by decide) rfl fun p25 hp25 => ?_
     refine Ll.nil (Lt.joint (pk [1] rfl rfl) ?_)
     refine Lt.two rfl rfl ?_ ?_
     ·
      refine Ll.appendInts (xs := []) (ys := (xs).take (((k : Int)).toNat)) Base.elem24 0 rfl rfl rfl rfl rfl rfl rfl rfl (by decide) rfl (fun w1 hw1 => (Own.rowTake hw1 (i := 1) rfl ht (by omega) hle)) (((xs).take (((k : Int)).toNat)).length) (by first | (simp; done) | (simp; omega)) (by first | (simp; done) | (simp; omega) | omega) fun p29 cap29 cur29 hp29 hcp29 hlp29 htp29 => ?_
      show Ll _ _ (Own _ _ (_ :: _ :: hs)) _ _ ((29, sl_ p29 ((((xs).take (((k : Int)).toNat)).length)) cap29) :: _) _ _ _
      refine Ll.nil (Lt.joint (pk [1] rfl rfl) ?_)
      refine Lt.loud rfl ?_
      refine Ll.slice (xs := [.tmp 30]) (vs := [i6_ m]) Base.elem24 rfl rfl rfl rfl rfl rfl (by decide) rfl fun p31 hp31 => ?_
      refine Ll.nil (Lt.joint (pk [2] rfl rfl) ?_)
      refine Lt.loud rfl ?_
      refine Ll.appendInts (xs := (xs).take (((k : Int)).toNat)) (ys := [m]) Base.elem24 1 rfl rfl rfl rfl rfl rfl rfl hcp29 hlp29 (by simpa using htp29) (fun w1 hw1 => (Own.row hw1 (i := 0) rfl (n := 1) (cap := 1) (vs := ints [m]) rfl rfl (by decide))) ((((xs).take (((k : Int)).toNat)) ++ ([m])).length) (by first | (simp; done) | (simp; omega)) (by first | (simp; done) | (simp; omega) | omega) fun p32 cap32 cur32 hp32 hcp32 hlp32 htp32 => ?_
      show Ll _ _ (Own _ _ (_ :: _ :: _ :: hs)) _ _ ((32, sl_ p32 (((((xs).take (((k : Int)).toNat)) ++ ([m])).length)) cap32) :: _) _ _ _
      refine Ll.nil (Lt.joint (pk [2] rfl rfl) ?_)
      refine Lt.loud rfl ?_
      refine Ll.appendInts (xs := ((xs).take (((k : Int)).toNat)) ++ ([m])) (ys := (xs).drop (((k : Int)).toNat)) Base.elem24 1 rfl rfl rfl rfl rfl rfl rfl hcp32 hlp32 (by simpa using htp32) (fun w1 hw1 => (Own.rowDrop hw1 (i := 2) rfl ht (by omega) hle)) (((((xs).take (((k : Int)).toNat)) ++ ([m])) ++ ((xs).drop (((k : Int)).toNat))).length) (by first | (simp; done) | (simp; omega)) (by first | (simp; done) | (simp; omega) | omega) fun p36 cap36 cur36 hp36 hcp36 hlp36 htp36 => ?_
      show Ll _ _ (Own _ _ (_ :: _ :: _ :: hs)) _ _ ((36, sl_ p36 ((((((xs).take (((k : Int)).toNat)) ++ ([m])) ++ ((xs).drop (((k : Int)).toNat))).length)) cap36) :: _) _ _ _
      refine Ll.nil (Lt.joint (pk [2] rfl rfl) ?_)
      refine Lt.run 1 rfl (pk [2] rfl rfl) ?_
      refine Lt.nil ?_
      refine Kt.sel [4] [_] rfl ?_
      refine Wk.ret (Kt.end1 rfl rfl fun w' hw => ?_)
      -- ret 1: sl_ p36 ((((((xs).take (((k : Int)).toNat)) ++ ([m])) ++ ((xs).drop (((k : Int)).toNat))).length)) cap36
      have e := insS_mid (n := m) hk2 hall (by simpa using h24)
      simp only [Int.toNat_natCast, Nat.mul_one] at *
      exact ⟨p36, cap36, cur36, by rw [e], ⟨by simpa using hcp36, by rw [e]; exact hlp36, by rw [e]; exact htp36⟩, hw.sub (List.Sublist.cons _ (List.Sublist.cons_cons _ (List.Sublist.cons _ (List.Sublist.refl _))))⟩
     ·
      refine Ll.slice (xs := [.tmp 30]) (vs := [i6_ m]) Base.elem24 rfl rfl rfl rfl rfl rfl (by decide) rfl fun p31_1 hp31_1 => ?_
      refine Ll.nil (Lt.joint (pk [2] rfl rfl) ?_)
      refine Lt.loud rfl ?_
      refine Ll.appendInts (xs := []) (ys := (xs).take (((k : Int)).toNat)) Base.elem24 1 rfl rfl rfl rfl rfl rfl rfl rfl (by decide) rfl (fun w1 hw1 => (Own.rowTake hw1 (i := 2) rfl ht (by omega) hle)) (((xs).take (((k : Int)).toNat)).length) (by first | (simp; done) | (simp; omega)) (by first | (simp; done) | (simp; omega) | omega) fun p29_1 cap29_1 cur29_1 hp29_1 hcp29_1 hlp29_1 htp29_1 => ?_
      show Ll _ _ (Own _ _ (_ :: _ :: _ :: hs)) _ _ ((29, sl_ p29_1 ((((xs).take (((k : Int)).toNat)).length)) cap29_1) :: _) _ _ _
      refine Ll.nil (Lt.joint (pk [2] rfl rfl) ?_)
      refine Lt.loud rfl ?_
      refine Ll.appendInts (xs := (xs).take (((k : Int)).toNat)) (ys := [m]) Base.elem24 1 rfl rfl rfl rfl rfl rfl rfl hcp29_1 hlp29_1 (by simpa using htp29_1) (fun w1 hw1 => (Own.row hw1 (i := 0) rfl (n := 1) (cap := 1) (vs := ints [m]) rfl rfl (by decide))) ((((xs).take (((k : Int)).toNat)) ++ ([m])).length) (by first | (simp; done) | (simp; omega)) (by first | (simp; done) | (simp; omega) | omega) fun p32_1 cap32_1 cur32_1 hp32_1 hcp32_1 hlp32_1 htp32_1 => ?_
      show Ll _ _ (Own _ _ (_ :: _ :: _ :: hs)) _ _ ((32, sl_ p32_1 (((((xs).take (((k : Int)).toNat)) ++ ([m])).length)) cap32_1) :: _) _ _ _
      refine Ll.nil (Lt.joint (pk [2] rfl rfl) ?_)
      refine Lt.loud rfl ?_
      refine Ll.appendInts (xs := ((xs).take (((k : Int)).toNat)) ++ ([m])) (ys := (xs).drop (((k : Int)).toNat)) Base.elem24 1 rfl rfl rfl rfl rfl rfl rfl hcp32_1 hlp32_1 (by simpa using htp32_1) (fun w1 hw1 => (Own.rowDrop hw1 (i := 2) rfl ht (by omega) hle)) (((((xs).take (((k : Int)).toNat)) ++ ([m])) ++ ((xs).drop (((k : Int)).toNat))).length) (by first | (simp; done) | (simp; omega)) (by first | (simp; done) | (simp; omega) | omega) fun p36_1 cap36_1 cur36_1 hp36_1 hcp36_1 hlp36_1 htp36_1 => ?_
      show Ll _ _ (Own _ _ (_ :: _ :: _ :: hs)) _ _ ((36, sl_ p36_1 ((((((xs).take (((k : Int)).toNat)) ++ ([m])) ++ ((xs).drop (((k : Int)).toNat))).length)) cap36_1) :: _) _ _ _
      refine Ll.nil (Lt.joint (pk [2] rfl rfl) ?_)
      refine Lt.run 1 rfl (pk [2] rfl rfl) ?_
      refine Lt.nil ?_
      refine Kt.sel [4] [_] rfl ?_
      refine Wk.ret (Kt.end1 rfl rfl fun w' hw => ?_)
      -- ret 2: sl_ p36_1 ((((((xs).take (((k : Int)).toNat)) ++ ([m])) ++ ((xs).drop (((k : Int)).toNat))).length)) cap36_1
      have e := insS_mid (n := m) hk2 hall (by simpa using h24)
      simp only [Int.toNat_natCast, Nat.mul_one] at *
      exact ⟨p36_1, cap36_1, cur36_1, by rw [e], ⟨by simpa using hcp36_1, by rw [e]; exact hlp36_1, by rw [e]; exact htp36_1⟩, hw.sub (List.Sublist.cons _ (List.Sublist.cons_cons _ (List.Sublist.cons _ (List.Sublist.refl _))))⟩
    ·
     refine Ll.slice (xs := [.tmp 30]) (vs := [i6_ m]) Base.elem24 rfl rfl rfl rfl rfl rfl (by decide) rfl fun p31_2 hp31_2 => ?_
     refine Ll.nil (Lt.joint (pk [1] rfl rfl) ?_)
     refine Lt.loud rfl ?_
     refine Ll.slice (xs := []) (vs := []) Base.elem24 rfl rfl rfl rfl rfl rfl (by decide) rfl fun p25_1 hp25_1 => ?_
     refine Ll.nil (Lt.joint (pk [2] rfl rfl) ?_)
     refine Lt.loud rfl ?_
     refine Ll.appendInts (xs := []) (ys := (xs).take (((k : Int)).toNat)) Base.elem24 0 rfl rfl rfl rfl rfl rfl rfl rfl (by decide) rfl (fun w1 hw1 => (Own.rowTake hw1 (i := 2) rfl ht (by omega) hle)) (((xs).take (((k : Int)).toNat)).length) (by first | (simp; done) | (simp; omega)) (by first | (simp; done) | (simp; omega) | omega) fun p29_2 cap29_2 cur29_2 hp29_2 hcp29_2 hlp29_2 htp29_2 => ?_
     show Ll _ _ (Own _ _ (_ :: _ :: _ :: hs)) _ _ ((29, sl_ p29_2 ((((xs).take (((k : Int)).toNat)).length)) cap29_2) :: _) _ _ _
     refine Ll.nil (Lt.joint (pk [2] rfl rfl) ?_)
     refine Lt.loud rfl ?_
     refine Ll.appendInts (xs := (xs).take (((k : Int)).toNat)) (ys := [m]) Base.elem24 0 rfl rfl rfl rfl rfl rfl rfl hcp29_2 hlp29_2 (by simpa using htp29_2) (fun w1 hw1 => (Own.row hw1 (i := 1) rfl (n := 1) (cap := 1) (vs := ints [m]) rfl rfl (by decide))) ((((xs).take (((k : Int)).toNat)) ++ ([m])).length) (by first | (simp; done) | (simp; omega)) (by first | (simp; done) | (simp; omega) | omega) fun p32_2 cap32_2 cur32_2 hp32_2 hcp32_2 hlp32_2 htp32_2 => ?_
     show Ll _ _ (Own _ _ (_ :: _ :: _ :: hs)) _ _ ((32, sl_ p32_2 (((((xs).take (((k : Int)).toNat)) ++ ([m])).length)) cap32_2) :: _) _ _ _
     refine Ll.nil (Lt.joint (pk [2] rfl rfl) ?_)
     refine Lt.loud rfl ?_
     refine Ll.appendInts (xs := ((xs).take (((k : Int)).toNat)) ++ ([m])) (ys := (xs).drop (((k : Int)).toNat)) Base.elem24 0 rfl rfl rfl rfl rfl rfl rfl hcp32_2 hlp32_2 (by simpa using htp32_2) (fun w1 hw1 => (Own.rowDrop hw1 (i := 2) rfl ht (by omega) hle)) (((((xs).take (((k : Int)).toNat)) ++ ([m])) ++ ((xs).drop (((k : Int)).toNat))).length) (by first | (simp; done) | (simp; omega)) (by first | (simp; done) | (simp; omega) | omega) fun p36_2 cap36_2 cur36_2 hp36_2 hcp36_2 hlp36_2 htp36_2 => ?_
     show Ll _ _ (Own _ _ (_ :: _ :: _ :: hs)) _ _ ((36, sl_ p36_2 ((((((xs).take (((k : Int)).toNat)) ++ ([m])) ++ ((xs).drop (((k : Int)).toNat))).length)) cap36_2) :: _) _ _ _
     refine Ll.nil (Lt.joint (pk [2] rfl rfl) ?_)
     refine Lt.run 1 rfl (pk [2] rfl rfl) ?_
     refine Lt.nil ?_
     refine Kt.sel [4] [_] rfl ?_
     refine Wk.ret (Kt.end1 rfl rfl fun w' hw => ?_)
     -- ret 3: sl_ p36_2 ((((((xs).take (((k : Int)).toNat)) ++ ([m])) ++ ((xs).drop (((k : Int)).toNat))).length)) cap36_2
     have e := insS_mid (n := m) hk2 hall (by simpa using h24)
     simp only [Int.toNat_natCast, Nat.mul_one] at *
     exact ⟨p36_2, cap36_2, cur36_2, by rw [e], ⟨by simpa using hcp36_2, by rw [e]; exact hlp36_2, by rw [e]; exact htp36_2⟩, hw.sub (List.Sublist.cons_cons _ (List.Sublist.cons _ (List.Sublist.cons _ (List.Sublist.refl _))))⟩
   ·
    replace h24 := of_decide_eq_false h24
    refine Wk.skip ?_
    refine Kt.sel [0, 1, 5] [_, _, _] rfl ?_
    refine Wk.regionQ ?_
    refine Lq.run 1 rfl ?_
    refine Lq.op rfl rfl rfl (OpQ.add rfl rfl rfl (by omega) (by omega)) ?_
    refine Lq.run 1 rfl ?_
    refine Lq.nil ?_
    refine Kt.again (k + 1) ⟨by omega, fun i hi => (Nat.lt_succ_iff_lt_or_eq.1 hi).elim (hall i) (fun e => by subst e; exact ⟨by simpa using h17, by simpa using h24⟩)⟩ (by omega) (Sub.sel [0, 1, 5] rfl) (fun _ h => h)
 ·
  replace h9 := of_decide_eq_false h9
  refine Wk.exit rfl ?_
  refine Kt.sel [0, 1] [_, _] rfl ?_
  refine Wk.seq ?_
  refine Wk.region ?_
  refine Ll.run 2 rfl ?_
  refine Ll.slice (xs := [.tmp 38]) (vs := [i6_ m]) Base.elem24 rfl rfl rfl rfl rfl rfl (by decide) rfl fun p39 hp39 => ?_
  refine Ll.appendInts (xs := xs) (ys := [m]) Base.elem24 1 rfl rfl rfl rfl rfl rfl rfl hc hle ht (fun w1 hw1 => (Own.row hw1 (i := 0) rfl (n := 1) (cap := 1) (vs := ints [m]) rfl rfl (by decide))) ((xs ++ ([m])).length) (by first | (simp; done) | (simp; omega)) (by first | (simp; done) | (simp; omega) | omega) fun p40 cap40 cur40 hp40 hcp40 hlp40 htp40 => ?_
  show Ll _ _ (Own _ _ (_ :: _ :: hs)) _ _ ((40, sl_ p40 (((xs ++ ([m])).length)) cap40) :: _) _ _ _
  refine Ll.run 1 rfl ?_
  refine Ll.nil ?_
  refine Kt.sel [4] [_] rfl ?_
  refine Wk.ret (Kt.end1 rfl rfl fun w' hw => ?_)
  -- ret 4: sl_ p40 (((xs ++ ([m])).length)) cap40
  have e := insS_end (l := xs) (n := m) (fun j hj => hall j (by omega))
  simp only [Int.toNat_natCast, Nat.mul_one] at *
  exact ⟨p40, cap40, cur40, by rw [e], ⟨by simpa using hcp40, by rw [e]; exact hlp40, by rw [e]; exact htp40⟩, hw.sub (List.Sublist.cons _ (List.Sublist.cons_cons _ (List.Sublist.refl _)))⟩

set_option maxHeartbeats 400000 in
/-- spec.l5New -/
theorem l5New_ok (B : Nat) (w0 : World) (hs : List (Nat × Obj)) (w : World) (hw : Own B w0 hs w) :
    Calls Tryd.prog 96 [].toArray w fun en w' => ∃ q c : Nat, en = .returned (.agg #[.slice (some ⟨q, 0, none⟩) 997 997, .slice (some ⟨c, 0, none⟩) 1 1]) ∧ Own B w0 (tabL 143 3 145 q c (List.replicate 997 none) [] ++ hs) w' := by
 refine fnStartC (Own B w0 hs) (n := 4) (e := []) Tryd.func96 rfl rfl rfl rfl Ends.both hw ?_
 refine Wk.seq ?_
 refine Wk.region ?_
 refine Ll.alloc rfl rfl rfl rfl Tryd.zeroValue98 fun p0 hp0 => ?_
 show Ll _ _ (Own _ _ (bk_ p0 #[.slice none 0 0, .slice none 0 0] 98 :: hs)) _ _ ((0, pt_ p0) :: _) _ _ _
 refine Ll.nil ?_
 refine Kt.sel [0] [_] rfl ?_
 refine Wk.seq ?_
 refine Wk.region ?_
 refine Ll.make (k := 997) Base.elem96 Tryd.zeroValue143 rfl rfl rfl rfl rfl (by omega) fun p1 hp1 => ?_
 rw [show madeCells (Value.cells (.slice none 0 0)) (997 * 1) = (List.replicate 997 (.slice none 0 0)).toArray from made_list _ _ rfl]
 refine Ll.slice (xs := [.const (i6_ 0)]) (vs := [i6_ 0]) Base.elem24 rfl rfl rfl rfl rfl rfl (by decide) rfl fun p2 hp2 => ?_
 refine Ll.op (v := .agg #[sl_ p1 997 997, sl_ p2 1 1]) rfl rfl rfl (OpQ.build (xs := [.tmp 1, .tmp 2]) (vs := [sl_ p1 997 997, sl_ p2 1 1]) rfl rfl (by kernel_rfl)) ?_
 refine Ll.storeBox (cs' := #[sl_ p1 997 997, sl_ p2 1 1]) (hs' := (_ :: _ :: bk_ p0 #[sl_ p1 997 997, sl_ p2 1 1] 98 :: hs)) 2 rfl rfl rfl rfl rfl (by kernel_rfl : _ = some Tryd.t98) rfl rfl rfl rfl rfl ?_
 refine Ll.nil ?_
 refine Kt.sel [0] [_] rfl ?_
 refine Wk.ret (Kt.endBox (cs := #[sl_ p1 997 997, sl_ p2 1 1]) 2 rfl rfl rfl Tryd.isAgg98 Tryd.sizeOf98 fun w' hw => ?_)
 -- ret 0: pt_ p0
 refine ⟨p1, p2, rfl, ?_⟩
 show Own B w0 (_ :: _ :: (blks _ _ ++ hs)) w'
 rw [blks_new, ← new_bkts]
 exact (hw.perm (List.Perm.swap _ _ _)).sub (List.Sublist.cons_cons _ (List.Sublist.cons_cons _ (List.Sublist.cons _ (List.Sublist.refl _))))

set_option maxHeartbeats 400000 in
/-- spec.l5Number|nil -/
theorem number_nil (B : Nat) (w0 : World) (hs : List (Nat × Obj)) (q c : Nat) (bs : List Bkt) (T : List (List UInt8)) (s : List UInt8) (w : World) (hT : TabOk bs T) (hlT : T.length ≤ 1000000) (hls : s.length ≤ 1000) (hb : bs.getD (hashS s) none = none) (hw : Own B w0 (bk_ q ((bs.map bktV).toArray) 143 :: bk_ c #[i6_ ((T.length : Int))] 3 :: hs) w) :
    Calls Tryd.prog 137 [.agg #[sl_ q 997 997, sl_ c 1 1], str s].toArray w fun en w' => en = .returned (.int .i64 (T.length : Int)) ∧ s ∉ T ∧ ∃ (g' cap' : Nat) (cur' : Array Value), cur'.size = cap' * 2 ∧ 1 ≤ cap' ∧ cur'.toList.take (1 * 2) = entC (s, T.length) ∧ Own B w0 ((g', .cells cur' 145 (0, 0)) :: (q, .cells ((bs.set (hashS s) (some (g', 1, cap', cur'))).map bktV).toArray 143 (0, 0)) :: (c, .cells #[.int .i64 ((T.length : Int) + 1)] 3 (0, 0)) :: hs) w' := by
 refine fnStartC (Own B w0 (bk_ q ((bs.map bktV).toArray) 143 :: bk_ c #[i6_ ((T.length : Int))] 3 :: hs)) (n := 77) (e := [(0, .agg #[sl_ q 997 997, sl_ c 1 1]), (1, str s)]) Tryd.func137 rfl rfl rfl rfl Ends.both hw ?_
 have h997 := hash_lt s
 have hkl : hashS s < bs.length := by rw [hT.len]; exact h997
 have hE := hT.no _ h997 hb
 have hEl : (ents T (hashS s)).length = 0 := by rw [hE]; rfl
 refine Wk.seq ?_
 refine Wk.region ?_
 refine Ll.box (v := .agg #[sl_ q 997 997, sl_ c 1 1]) rfl rfl rfl rfl rfl fun p2 hp2 => ?_
 show Ll _ _ (Own _ _ (_ :: _ :: _ :: hs)) _ _ ((2, pt_ p2) :: _) _ _ _
 refine Ll.run 1 rfl ?_
 refine Ll.nil ?_
 refine Kt.sel [1, 2] [_, _] rfl ?_
 refine Wk.seq ?_
 refine Wk.regionQ ?_
 refine Lq.run 1 rfl ?_
 refine Lq.nil ?_
 refine Kt.sel [1, 2, 5] [_, _, _] rfl ?_
 refine Wk.seq ?_
 refine Wk.seq ?_
 refine Wk.regionQ ?_
 refine Lq.run 1 rfl ?_
 refine Lq.nil ?_
 refine Kt.sel [1, 2, 5, 6] [_, _, _, _] rfl ?_
 refine Wk.block ?_
 refine Wk.loop (σ := Nat) (fun k => k ≤ s.length) (fun k => [(1, str s), (2, pt_ p2), (5, i6_ (((hashS (s.take k) : Nat) : Int))), (6, i6_ ((k : Int)))]) (fun k => Own B w0 (bk_ p2 #[sl_ q 997 997, sl_ c 1 1] 98 :: bk_ q ((bs.map bktV).toArray) 143 :: bk_ c #[i6_ ((T.length : Int))] 3 :: hs)) (fun k => s.length - k) (0) (by omega) (Sub.cons rfl (Sub.cons rfl (Sub.cons rfl (Sub.sel [6] rfl)))) (fun _ h => h) ?_
 rintro k hk
 refine Wk.seq ?_
 refine Wk.seq ?_
 refine Wk.regionQ ?_
 refine Lq.run 2 rfl ?_
 refine Lq.op (v := i6_ ((s.length : Int))) rfl rfl rfl (OpQ.lenStr rfl Tryd.runUnderlying9 rfl) ?_
 refine Lq.run 1 rfl ?_
 refine Lq.nil ?_
 refine Kt.sel [1, 2, 5, 6, 12] [_, _, _, _, _] rfl ?_
 refine Wk.cond (b := decide (((k : Int)) < ((s.length : Int)))) rfl (fun h12 => ?_) (fun h12 => ?_)
 ·
  replace h12 := of_decide_eq_true h12
  have hk2 : k < s.length := by omega
  have hkh := hash_lt (s.take k)
  have hby := UInt8.toNat_lt (s.getD k 0)
  refine Wk.skip ?_
  refine Kt.sel [1, 2, 5, 6] [_, _, _, _] rfl ?_
  refine Wk.seq ?_
  refine Wk.block ?_
  refine Wk.regionQ ?_
  refine Lq.run 1 rfl ?_
  refine Lq.op rfl rfl rfl (OpQ.mul rfl rfl rfl (by omega) (by omega)) ?_
  refine Lq.run 2 rfl ?_
  refine Lq.op (v := .int .u8 (((s.getD (((k : Int)).toNat) 0).toNat : Int))) rfl rfl rfl (OpQ.indexStr rfl Tryd.runUnderlying9 rfl rfl (by omega) (by omega)) ?_
  refine Lq.op (v := i6_ (((s.getD (((k : Int)).toNat) 0).toNat : Int))) rfl rfl rfl (OpQ.convInt .i64 rfl Tryd.underlying5 Tryd.underlying3 rfl (IntWalk.i64_in _ (by have := UInt8.toNat_lt (s.getD (((k : Int)).toNat) 0); omega))) ?_
  refine Lq.op rfl rfl rfl (OpQ.add rfl rfl rfl (by simp only [Int.toNat_natCast]; omega) (by simp only [Int.toNat_natCast]; omega)) ?_
  refine Lq.op (v := i6_ (((hashS (s.take (k + 1)) : Nat) : Int))) rfl rfl rfl (OpQ.cast (by rw [Wk.hash_step hk2]; simp) (OpQ.rem rfl rfl rfl (by omega) (by decide))) ?_
  refine Lq.run 1 rfl ?_
  refine Lq.nil ?_
  refine Kt.sel [1, 2, 5, 6] [_, _, _, _] rfl ?_
  refine Wk.regionQ ?_
  refine Lq.run 1 rfl ?_
  refine Lq.op rfl rfl rfl (OpQ.add rfl rfl rfl (by omega) (by omega)) ?_
  refine Lq.run 1 rfl ?_
  refine Lq.nil ?_
  refine Kt.again (k + 1) (by omega) (by omega) (Sub.sel [1, 2, 5, 6] rfl) (fun _ h => h)
 ·
  replace h12 := of_decide_eq_false h12
  obtain rfl : k = s.length := by omega
  rw [List.take_length]
  refine Wk.exit rfl ?_
  refine Kt.sel [1, 2, 5] [_, _, _] rfl ?_
  refine Wk.seq ?_
  refine Wk.seq ?_
  refine Wk.regionQ ?_
  refine Lq.run 1 rfl ?_
  refine Lq.nil ?_
  refine Kt.sel [1, 2, 5, 7] [_, _, _, _] rfl ?_
  refine Wk.block ?_
  refine Wk.loop (σ := Nat) (fun j => j ≤ 0 ∧ ∀ i : Nat, i < j → ¬ ((ents T (hashS s)).getD i ([], 0)).1 = s) (fun j => [(1, str s), (2, pt_ p2), (5, i6_ (((hashS s : Nat) : Int))), (7, i6_ ((j : Int)))]) (fun j => Own B w0 (bk_ p2 #[sl_ q 997 997, sl_ c 1 1] 98 :: bk_ q ((bs.map bktV).toArray) 143 :: bk_ c #[i6_ ((T.length : Int))] 3 :: hs)) (fun j => 0 - j) (0) ⟨by omega, fun i hi => absurd hi (by omega)⟩ (Sub.sel [1, 2, 5, 7] rfl) (fun _ h => h) ?_
  rintro j ⟨hj0, hall⟩
  refine Wk.seq ?_
  refine Wk.seq ?_
  refine Wk.regionQ ?_
  refine Lq.run 1 rfl ?_
  refine Lq.op rfl rfl rfl (OpQ.fieldAddr rfl Tryd.runUnderlying98 rfl Tryd.sizeOf96 rfl rfl) ?_
  refine Lq.op rfl rfl rfl (OpQ.loadOwn 0 rfl Tryd.isAgg96 rfl rfl rfl) ?_
  refine Lq.run 1 rfl ?_
  refine Lq.op (v := pf_ q (hashS s)) rfl rfl rfl (OpQ.cast (by simp) (OpQ.indexAddr1 rfl Tryd.runUnderlying96 Tryd.sizeOf143 rfl rfl (by omega) (by omega))) ?_
  refine Lq.op (v := .slice none 0 0) rfl rfl rfl (OpQ.loadAt (v := .slice none 0 0) 1 rfl Tryd.isAgg143 rfl rfl (bkt_at (b := none) hkl hb)) ?_
  refine Lq.op rfl rfl rfl (OpQ.lenS rfl Tryd.runUnderlying143 rfl) ?_
  refine Lq.run 1 rfl ?_
  refine Lq.nil ?_
  refine Kt.sel [1, 2, 5, 7, 30] [_, _, _, _, _] rfl ?_
  refine Wk.cond (b := decide (((j : Int)) < ((0 : Int)))) rfl (fun h30 => ?_) (fun h30 => ?_)
  ·
   replace h30 := of_decide_eq_true h30
   omega
  ·
   replace h30 := of_decide_eq_false h30
   refine Wk.exit rfl ?_
   refine Kt.sel [1, 2, 5] [_, _, _] rfl ?_
   refine Wk.seq ?_
   refine Wk.regionQ ?_
   refine Lq.op rfl rfl rfl (OpQ.fieldAddr rfl Tryd.runUnderlying98 rfl Tryd.sizeOf24 rfl rfl) ?_
   refine Lq.op rfl rfl rfl (OpQ.loadOwn 0 rfl Tryd.isAgg24 rfl rfl rfl) ?_
   refine Lq.op (v := pt_ c) rfl rfl rfl (OpQ.cast rfl (OpQ.indexAddr1 (i := 0) rfl Tryd.runUnderlying24 Tryd.sizeOf3 rfl rfl (by decide) (by decide))) ?_
   refine Lq.op rfl rfl rfl (OpQ.loadOwn 2 rfl Tryd.isAgg3 rfl rfl rfl) ?_
   refine Lq.run 1 rfl ?_
   refine Lq.nil ?_
   refine Kt.sel [1, 2, 5, 8] [_, _, _, _] rfl ?_
   refine Wk.seq ?_
   refine Wk.region ?_
   refine Ll.op rfl rfl rfl (OpQ.fieldAddr rfl Tryd.runUnderlying98 rfl Tryd.sizeOf24 rfl rfl) ?_
   refine Ll.op rfl rfl rfl (OpQ.loadOwn 0 rfl Tryd.isAgg24 rfl rfl rfl) ?_
   refine Ll.run 1 rfl ?_
   refine Ll.op rfl rfl rfl (OpQ.add rfl rfl rfl (by omega) (by omega)) ?_
   refine Ll.op (v := pt_ c) rfl rfl rfl (OpQ.cast rfl (OpQ.indexAddr1 (i := 0) rfl Tryd.runUnderlying24 Tryd.sizeOf3 rfl rfl (by decide) (by decide))) ?_
   refine Ll.store1 (v := i6_ (((T.length : Int)) + (1 : Int))) (hs' := (_ :: _ :: bk_ c #[i6_ (((T.length : Int)) + (1 : Int))] 3 :: hs)) 2 rfl rfl rfl rfl rfl rfl Tryd.sizeOf3 rfl (by simp) rfl ?_
   refine Ll.nil ?_
   refine Kt.sel [1, 2, 5, 8] [_, _, _, _] rfl ?_
   refine Wk.seq ?_
   refine Wk.regionT (S := Own B w0 [bk_ p2 #[sl_ q 997 997, sl_ c 1 1] 98, bk_ c #[i6_ (((T.length : Int)) + (1 : Int))] 3]) (.take 0 (.take 1 (.take 2 (.take 3 (.take 4 (.take 5 (.take 6 (.take 8 (.take 9 (.take 10 (.two 7 (.one 11 (.one 12 (.take 13 (.one 14 .done)))) 11 (.one 7 (.one 12 (.take 13 (.one 14 .done))))))))))))))) Base.mixed (fun _ h => h.drawn) (by kernel_rfl) ?_
   refine Lt.take rfl rfl rfl rfl rfl (OpQ.fieldAddr rfl Tryd.runUnderlying98 rfl Tryd.sizeOf96 rfl rfl) (pk [0, 2] rfl rfl) ?_
   refine Lt.take rfl rfl rfl rfl rfl (OpQ.loadOwn 0 rfl Tryd.isAgg96 rfl rfl rfl) (pk [0, 2] rfl rfl) ?_
   refine Lt.run 1 rfl (pk [0, 2] rfl rfl) ?_
   refine Lt.take rfl rfl rfl rfl rfl (OpQ.fieldAddr rfl Tryd.runUnderlying98 rfl Tryd.sizeOf96 rfl rfl) (pk [0, 2] rfl rfl) ?_
   refine Lt.take rfl rfl rfl rfl rfl (OpQ.loadOwn 0 rfl Tryd.isAgg96 rfl rfl rfl) (pk [0, 2] rfl rfl) ?_
   refine Lt.run 1 rfl (pk [0, 2] rfl rfl) ?_
   refine Lt.take (v := pf_ q (hashS s)) rfl rfl rfl rfl rfl (OpQ.cast (by simp) (OpQ.indexAddr1 rfl Tryd.runUnderlying96 Tryd.sizeOf143 rfl rfl (by omega) (by omega))) (pk [0, 2] rfl rfl) ?_
   refine Lt.run 2 rfl (pk [0, 2] rfl rfl) ?_
   refine Lt.take (v := .agg #[str s, i6_ ((T.length : Int))]) rfl rfl rfl rfl rfl (OpQ.build (xs := [.tmp 70, .tmp 71]) (vs := [str s, i6_ ((T.length : Int))]) rfl rfl (by kernel_rfl)) (pk [0, 2] rfl rfl) ?_
   refine Lt.two rfl rfl ?_ ?_
   ·
    refine Ll.op (v := .slice none 0 0) rfl rfl rfl (OpQ.loadAt (v := .slice none 0 0) 1 rfl Tryd.isAgg143 rfl rfl (bkt_at (b := none) hkl hb)) ?_
    refine Ll.nil (Lt.joint (pk [0, 2] rfl rfl) ?_)
    refine Lt.loud rfl ?_
    refine Ll.slice2 Base.elem143 rfl rfl rfl rfl rfl fun p73 hp73 => ?_
    refine Ll.nil (Lt.joint (pk [1, 3] rfl rfl) ?_)
    refine Lt.loud rfl ?_
    refine Ll.appendNil Base.elem143 (entC (s, T.length)) rfl rfl rfl rfl rfl rfl (by decide) (by simp) rfl (fun w1 hw1 ad had j u hj => by injection had with had; subst had; rw [Addr.add_lit, Nat.zero_add, hw1.cell (i := 0) rfl]; simpa [entC] using hj) (by decide) fun g2 cap2 cur2 hg2 hcg2 hlg2 htg2 => ?_
    show Ll _ _ (Own _ _ (_ :: _ :: _ :: _ :: _ :: hs)) _ _ ((74, sl_ g2 1 cap2) :: _) _ _ _
    refine Ll.nil (Lt.joint (pk [2, 4] rfl rfl) ?_)
    refine Lt.take (v := pf_ q (hashS s)) rfl rfl rfl rfl rfl (OpQ.cast (by simp) (OpQ.indexAddr1 rfl Tryd.runUnderlying96 Tryd.sizeOf143 rfl rfl (by omega) (by omega))) (pk [2, 4] rfl rfl) ?_
    refine Lt.loud rfl ?_
    refine Ll.store1 (v := sl_ g2 1 cap2) (hs' := (_ :: _ :: _ :: bk_ q (((bs.set (hashS s) (some (g2, 1, cap2, cur2))).map bktV).toArray) 143 :: _ :: hs)) 3 rfl rfl rfl rfl rfl rfl Tryd.sizeOf143 rfl (by simpa using hkl) (by rw [← set_bkt]; rfl) ?_
    refine Ll.nil (Lt.joint (pk [2, 4] rfl rfl) ?_)
    refine Lt.nil ?_
    refine Kt.sel [8] [_] rfl ?_
    refine Wk.seq ?_
    refine Wk.regionQ ?_
    refine Lq.run 2 rfl ?_
    refine Lq.nil ?_
    refine Kt.sel [4] [_] rfl ?_
    refine Wk.ret (Kt.end1 rfl rfl fun w' hw => ?_)
    -- ret 0: i6_ ((T.length : Int))
    exact ⟨rfl, ents_not (fun e he => by obtain ⟨i, hi, rfl⟩ := List.mem_iff_getElem.1 he; have := hall i (by omega); rwa [getD_at hi] at this), g2, cap2, cur2, hcg2, hlg2, htg2, hw.sub (List.Sublist.cons_cons _ (List.Sublist.cons _ (List.Sublist.cons _ (List.Sublist.cons_cons _ (List.Sublist.cons_cons _ (List.Sublist.refl _))))))⟩
   ·
    refine Ll.slice2 Base.elem143 rfl rfl rfl rfl rfl fun p73_1 hp73_1 => ?_
    refine Ll.nil (Lt.joint (pk [1, 3] rfl rfl) ?_)
    refine Lt.loud rfl ?_
    refine Ll.op (v := .slice none 0 0) rfl rfl rfl (OpQ.loadAt (v := .slice none 0 0) 2 rfl Tryd.isAgg143 rfl rfl (bkt_at (b := none) hkl hb)) ?_
    refine Ll.nil (Lt.joint (pk [1, 3] rfl rfl) ?_)
    refine Lt.loud rfl ?_
    refine Ll.appendNil Base.elem143 (entC (s, T.length)) rfl rfl rfl rfl rfl rfl (by decide) (by simp) rfl (fun w1 hw1 ad had j u hj => by injection had with had; subst had; rw [Addr.add_lit, Nat.zero_add, hw1.cell (i := 0) rfl]; simpa [entC] using hj) (by decide) fun g2_1 cap2_1 cur2_1 hg2_1 hcg2_1 hlg2_1 htg2_1 => ?_
    show Ll _ _ (Own _ _ (_ :: _ :: _ :: _ :: _ :: hs)) _ _ ((74, sl_ g2_1 1 cap2_1) :: _) _ _ _
    refine Ll.nil (Lt.joint (pk [2, 4] rfl rfl) ?_)
    refine Lt.take (v := pf_ q (hashS s)) rfl rfl rfl rfl rfl (OpQ.cast (by simp) (OpQ.indexAddr1 rfl Tryd.runUnderlying96 Tryd.sizeOf143 rfl rfl (by omega) (by omega))) (pk [2, 4] rfl rfl) ?_
    refine Lt.loud rfl ?_
    refine Ll.store1 (v := sl_ g2_1 1 cap2_1) (hs' := (_ :: _ :: _ :: bk_ q (((bs.set (hashS s) (some (g2_1, 1, cap2_1, cur2_1))).map bktV).toArray) 143 :: _ :: hs)) 3 rfl rfl rfl rfl rfl rfl Tryd.sizeOf143 rfl (by simpa using hkl) (by rw [← set_bkt]; rfl) ?_
    refine Ll.nil (Lt.joint (pk [2, 4] rfl rfl) ?_)
    refine Lt.nil ?_
    refine Kt.sel [8] [_] rfl ?_
    refine Wk.seq ?_
    refine Wk.regionQ ?_
    refine Lq.run 2 rfl ?_
    refine Lq.nil ?_
    refine Kt.sel [4] [_] rfl ?_
    refine Wk.ret (Kt.end1 rfl rfl fun w' hw => ?_)
    -- ret 1: i6_ ((T.length : Int))
    exact ⟨rfl, ents_not (fun e he => by obtain ⟨i, hi, rfl⟩ := List.mem_iff_getElem.1 he; have := hall i (by omega); rwa [getD_at hi] at this), g2_1, cap2_1, cur2_1, hcg2_1, hlg2_1, htg2_1, hw.sub (List.Sublist.cons_cons _ (List.Sublist.cons _ (List.Sublist.cons _ (List.Sublist.cons_cons _ (List.Sublist.cons_cons _ (List.Sublist.refl _))))))⟩

set_option maxHeartbeats 400000 in
/-- spec.l5Number|some -/
theorem number_some (B : Nat) (w0 : World) (hs : List (Nat × Obj)) (q c : Nat) (bs : List Bkt) (T : List (List UInt8)) (s : List UInt8) (w : World) (hT : TabOk bs T) (hlT : T.length ≤ 1000000) (hls : s.length ≤ 1000) (g m cap : Nat) (cur : Array Value) (hb : bs.getD (hashS s) none = some (g, m, cap, cur)) (hw : Own B w0 (bk_ g cur 145 :: bk_ q ((bs.map bktV).toArray) 143 :: bk_ c #[i6_ ((T.length : Int))] 3 :: hs) w) :
    Calls Tryd.prog 137 [.agg #[sl_ q 997 997, sl_ c 1 1], str s].toArray w fun en w' => (∃ n : Nat, en = .returned (.int .i64 (n : Int)) ∧ T[n]? = some s ∧ Own B w0 (bk_ g cur 145 :: bk_ q ((bs.map bktV).toArray) 143 :: bk_ c #[i6_ ((T.length : Int))] 3 :: hs) w') ∨ (en = .returned (.int .i64 (T.length : Int)) ∧ s ∉ T ∧ ∃ (g' cap' : Nat) (cur' : Array Value), cur'.size = cap' * 2 ∧ m + 1 ≤ cap' ∧ cur'.toList.take ((m + 1) * 2) = flatE (ents T (hashS s)) ++ entC (s, T.length) ∧ Own B w0 ((g', .cells cur' 145 (0, 0)) :: (q, .cells ((bs.set (hashS s) (some (g', m + 1, cap', cur'))).map bktV).toArray 143 (0, 0)) :: (c, .cells #[.int .i64 ((T.length : Int) + 1)] 3 (0, 0)) :: hs) w') := by
 refine fnStartC (Own B w0 (bk_ g cur 145 :: bk_ q ((bs.map bktV).toArray) 143 :: bk_ c #[i6_ ((T.length : Int))] 3 :: hs)) (n := 77) (e := [(0, .agg #[sl_ q 997 997, sl_ c 1 1]), (1, str s)]) Tryd.func137 rfl rfl rfl rfl Ends.both hw ?_
 have h997 := hash_lt s
 have hkl : hashS s < bs.length := by rw [hT.len]; exact h997
 obtain ⟨hm, hc, hle, ht⟩ := hT.yes _ h997 _ _ _ _ hb
 have hmT := ents_le T (hashS s)
 refine Wk.seq ?_
 refine Wk.region ?_
 refine Ll.box (v := .agg #[sl_ q 997 997, sl_ c 1 1]) rfl rfl rfl rfl rfl fun p2 hp2 => ?_
 show Ll _ _ (Own _ _ (_ :: _ :: _ :: _ :: hs)) _ _ ((2, pt_ p2) :: _) _ _ _
 refine Ll.run 1 rfl ?_
 refine Ll.nil ?_
 refine Kt.sel [1, 2] [_, _] rfl ?_
 refine Wk.seq ?_
 refine Wk.regionQ ?_
 refine Lq.run 1 rfl ?_
 refine Lq.nil ?_
 refine Kt.sel [1, 2, 5] [_, _, _] rfl ?_
 refine Wk.seq ?_
 refine Wk.seq ?_
 refine Wk.regionQ ?_
 refine Lq.run 1 rfl ?_
 refine Lq.nil ?_
 refine Kt.sel [1, 2, 5, 6] [_, _, _, _] rfl ?_
 refine Wk.block ?_
 refine Wk.loop (σ := Nat) (fun k => k ≤ s.length) (fun k => [(1, str s), (2, pt_ p2), (5, i6_ (((hashS (s.take k) : Nat) : Int))), (6, i6_ ((k : Int)))]) (fun k => Own B w0 (bk_ p2 #[sl_ q 997 997, sl_ c 1 1] 98 :: bk_ g cur 145 :: bk_ q ((bs.map bktV).toArray) 143 :: bk_ c #[i6_ ((T.length : Int))] 3 :: hs)) (fun k => s.length - k) (0) (by omega) (Sub.cons rfl (Sub.cons rfl (Sub.cons rfl (Sub.sel [6] rfl)))) (fun _ h => h) ?_
 rintro k hk
 refine Wk.seq ?_
 refine Wk.seq ?_
 refine Wk.regionQ ?_
 refine Lq.run 2 rfl ?_
 refine Lq.op (v := i6_ ((s.length : Int))) rfl rfl rfl (OpQ.lenStr rfl Tryd.runUnderlying9 rfl) ?_
 refine Lq.run 1 rfl ?_
 refine Lq.nil ?_
 refine Kt.sel [1, 2, 5, 6, 12] [_, _, _, _, _] rfl ?_
 refine Wk.cond (b := decide (((k : Int)) < ((s.length : Int)))) rfl (fun h12 => ?_) (fun h12 => ?_)
 ·
  replace h12 := of_decide_eq_true h12
  have hk2 : k < s.length := by omega
  have hkh := hash_lt (s.take k)
  have hby := UInt8.toNat_lt (s.getD k 0)
  refine Wk.skip ?_
  refine Kt.sel [1, 2, 5, 6] [_, _, _, _] rfl ?_
  refine Wk.seq ?_
  refine Wk.block ?_
  refine Wk.regionQ ?_
  refine Lq.run 1 rfl ?_
  refine Lq.op rfl rfl rfl (OpQ.mul rfl rfl rfl (by omega) (by omega)) ?_
  refine Lq.run 2 rfl ?_
  refine Lq.op (v := .int .u8 (((s.getD (((k : Int)).toNat) 0).toNat : Int))) rfl rfl rfl (OpQ.indexStr rfl Tryd.runUnderlying9 rfl rfl (by omega) (by omega)) ?_
  refine Lq.op (v := i6_ (((s.getD (((k : Int)).toNat) 0).toNat : Int))) rfl rfl rfl (OpQ.convInt .i64 rfl Tryd.underlying5 Tryd.underlying3 rfl (IntWalk.i64_in _ (by have := UInt8.toNat_lt (s.getD (((k : Int)).toNat) 0); omega))) ?_
  refine Lq.op rfl rfl rfl (OpQ.add rfl rfl rfl (by simp only [Int.toNat_natCast]; omega) (by simp only [Int.toNat_natCast]; omega)) ?_
  refine Lq.op (v := i6_ (((hashS (s.take (k + 1)) : Nat) : Int))) rfl rfl rfl (OpQ.cast (by rw [Wk.hash_step hk2]; simp) (OpQ.rem rfl rfl rfl (by omega) (by decide))) ?_
  refine Lq.run 1 rfl ?_
  refine Lq.nil ?_
  refine Kt.sel [1, 2, 5, 6] [_, _, _, _] rfl ?_
  refine Wk.regionQ ?_
  refine Lq.run 1 rfl ?_
  refine Lq.op rfl rfl rfl (OpQ.add rfl rfl rfl (by omega) (by omega)) ?_
  refine Lq.run 1 rfl ?_
  refine Lq.nil ?_
  refine Kt.again (k + 1) (by omega) (by omega) (Sub.sel [1, 2, 5, 6] rfl) (fun _ h => h)
 ·
  replace h12 := of_decide_eq_false h12
  obtain rfl : k = s.length := by omega
  rw [List.take_length]
  refine Wk.exit rfl ?_
  refine Kt.sel [1, 2, 5] [_, _, _] rfl ?_
  refine Wk.seq ?_
  refine Wk.seq ?_
  refine Wk.regionQ ?_
  refine Lq.run 1 rfl ?_
  refine Lq.nil ?_
  refine Kt.sel [1, 2, 5, 7] [_, _, _, _] rfl ?_
  refine Wk.block ?_
  refine Wk.loop (σ := Nat) (fun j => j ≤ m ∧ ∀ i : Nat, i < j → ¬ ((ents T (hashS s)).getD i ([], 0)).1 = s) (fun j => [(1, str s), (2, pt_ p2), (5, i6_ (((hashS s : Nat) : Int))), (7, i6_ ((j : Int)))]) (fun j => Own B w0 (bk_ p2 #[sl_ q 997 997, sl_ c 1 1] 98 :: bk_ g cur 145 :: bk_ q ((bs.map bktV).toArray) 143 :: bk_ c #[i6_ ((T.length : Int))] 3 :: hs)) (fun j => m - j) (0) ⟨by omega, fun i hi => absurd hi (by omega)⟩ (Sub.sel [1, 2, 5, 7] rfl) (fun _ h => h) ?_
  rintro j ⟨hj0, hall⟩
  refine Wk.seq ?_
  refine Wk.seq ?_
  refine Wk.regionQ ?_
  refine Lq.run 1 rfl ?_
  refine Lq.op rfl rfl rfl (OpQ.fieldAddr rfl Tryd.runUnderlying98 rfl Tryd.sizeOf96 rfl rfl) ?_
  refine Lq.op rfl rfl rfl (OpQ.loadOwn 0 rfl Tryd.isAgg96 rfl rfl rfl) ?_
  refine Lq.run 1 rfl ?_
  refine Lq.op (v := pf_ q (hashS s)) rfl rfl rfl (OpQ.cast (by simp) (OpQ.indexAddr1 rfl Tryd.runUnderlying96 Tryd.sizeOf143 rfl rfl (by omega) (by omega))) ?_
  refine Lq.op (v := sl_ g m cap) rfl rfl rfl (OpQ.loadAt (v := sl_ g m cap) 2 rfl Tryd.isAgg143 rfl rfl (bkt_at (b := some (g, m, cap, cur)) hkl hb)) ?_
  refine Lq.op rfl rfl rfl (OpQ.lenS rfl Tryd.runUnderlying143 rfl) ?_
  refine Lq.run 1 rfl ?_
  refine Lq.nil ?_
  refine Kt.sel [1, 2, 5, 7, 30] [_, _, _, _, _] rfl ?_
  refine Wk.cond (b := decide (((j : Int)) < ((m : Int)))) rfl (fun h30 => ?_) (fun h30 => ?_)
  ·
   replace h30 := of_decide_eq_true h30
   have hj : j < m := by omega
   refine Wk.skip ?_
   refine Kt.sel [1, 2, 5, 7] [_, _, _, _] rfl ?_
   refine Wk.seq ?_
   refine Wk.block ?_
   refine Wk.seq ?_
   refine Wk.regionQ ?_
   refine Lq.op rfl rfl rfl (OpQ.fieldAddr rfl Tryd.runUnderlying98 rfl Tryd.sizeOf96 rfl rfl) ?_
   refine Lq.op rfl rfl rfl (OpQ.loadOwn 0 rfl Tryd.isAgg96 rfl rfl rfl) ?_
   refine Lq.run 1 rfl ?_
   refine Lq.op (v := pf_ q (hashS s)) rfl rfl rfl (OpQ.cast (by simp) (OpQ.indexAddr1 rfl Tryd.runUnderlying96 Tryd.sizeOf143 rfl rfl (by omega) (by omega))) ?_
   refine Lq.op (v := sl_ g m cap) rfl rfl rfl (OpQ.loadAt (v := sl_ g m cap) 2 rfl Tryd.isAgg143 rfl rfl (bkt_at (b := some (g, m, cap, cur)) hkl hb)) ?_
   refine Lq.run 1 rfl ?_
   refine Lq.op (v := pf_ g (j * 2)) rfl rfl rfl (OpQ.cast (v' := pf_ g (j * 2)) (by simp) (OpQ.indexAddr (i := (j : Int)) rfl Tryd.runUnderlying143 Tryd.sizeOf145 rfl rfl (by omega) (by omega))) ?_
   refine Lq.op rfl rfl rfl (OpQ.fieldAddr rfl Tryd.runUnderlying145 rfl Tryd.sizeOf9 rfl rfl) ?_
   refine Lq.op (v := str (((ents T (hashS s)).getD j ([], 0)).1)) rfl rfl rfl (OpQ.loadAt (v := str (((ents T (hashS s)).getD j ([], 0)).1)) 1 rfl Tryd.isAgg9 rfl rfl (ent_at ht hm hj).1) ?_
   refine Lq.run 1 rfl ?_
   refine Lq.op rfl rfl rfl (OpQ.seql rfl rfl rfl) ?_
   refine Lq.nil ?_
   refine Kt.sel [1, 2, 5, 7, 43] [_, _, _, _, _] rfl ?_
   refine Wk.cond (b := (((ents T (hashS s)).getD j ([], 0)).1) == s) rfl (fun h43 => ?_) (fun h43 => ?_)
   ·
    refine Wk.seq ?_
    refine Wk.regionQ ?_
    refine Lq.op rfl rfl rfl (OpQ.fieldAddr rfl Tryd.runUnderlying98 rfl Tryd.sizeOf96 rfl rfl) ?_
    refine Lq.op rfl rfl rfl (OpQ.loadOwn 0 rfl Tryd.isAgg96 rfl rfl rfl) ?_
    refine Lq.run 1 rfl ?_
    refine Lq.op (v := pf_ q (hashS s)) rfl rfl rfl (OpQ.cast (by simp) (OpQ.indexAddr1 rfl Tryd.runUnderlying96 Tryd.sizeOf143 rfl rfl (by omega) (by omega))) ?_
    refine Lq.op (v := sl_ g m cap) rfl rfl rfl (OpQ.loadAt (v := sl_ g m cap) 2 rfl Tryd.isAgg143 rfl rfl (bkt_at (b := some (g, m, cap, cur)) hkl hb)) ?_
    refine Lq.run 1 rfl ?_
    refine Lq.op (v := pf_ g (j * 2)) rfl rfl rfl (OpQ.cast (v' := pf_ g (j * 2)) (by simp) (OpQ.indexAddr (i := (j : Int)) rfl Tryd.runUnderlying143 Tryd.sizeOf145 rfl rfl (by omega) (by omega))) ?_
    refine Lq.op rfl rfl rfl (OpQ.fieldAddr rfl Tryd.runUnderlying145 rfl Tryd.sizeOf3 rfl rfl) ?_
    refine Lq.op (v := i6_ ((((ents T (hashS s)).getD j ([], 0)).2 : Int))) rfl rfl rfl (OpQ.loadAt (v := i6_ ((((ents T (hashS s)).getD j ([], 0)).2 : Int))) 1 rfl Tryd.isAgg3 rfl rfl (ent_at ht hm hj).2) ?_
    refine Lq.run 1 rfl ?_
    refine Lq.nil ?_
    refine Kt.sel [4] [_] rfl ?_
    refine Wk.ret (Kt.end1 rfl rfl fun w' hw => ?_)
    -- ret 0: i6_ ((((ents T (hashS s)).getD j ([], 0)).2 : Int))
    exact .inl ⟨_, rfl, ents_mem (e := (ents T (hashS s)).getD j ([], 0)) (by rw [getD_at (by omega)]; exact List.getElem_mem _) |>.trans (by rw [show ((ents T (hashS s)).getD j ([], 0)).1 = s from by simpa using h43]), hw.sub ((List.Sublist.cons _ (List.Sublist.cons_cons _ (List.Sublist.cons_cons _ (List.Sublist.cons_cons _ (List.Sublist.refl _))))))⟩
   ·
    refine Wk.skip ?_
    refine Kt.sel [1, 2, 5, 7] [_, _, _, _] rfl ?_
    refine Wk.regionQ ?_
    refine Lq.run 1 rfl ?_
    refine Lq.op rfl rfl rfl (OpQ.add rfl rfl rfl (by omega) (by omega)) ?_
    refine Lq.run 1 rfl ?_
    refine Lq.nil ?_
    refine Kt.again (j + 1) ⟨by omega, fun i hi => (Nat.lt_succ_iff_lt_or_eq.1 hi).elim (hall i) (fun e => by subst e; simpa using h43)⟩ (by omega) (Sub.sel [1, 2, 5, 7] rfl) (fun _ h => h)
  ·
   replace h30 := of_decide_eq_false h30
   refine Wk.exit rfl ?_
   refine Kt.sel [1, 2, 5] [_, _, _] rfl ?_
   refine Wk.seq ?_
   refine Wk.regionQ ?_
   refine Lq.op rfl rfl rfl (OpQ.fieldAddr rfl Tryd.runUnderlying98 rfl Tryd.sizeOf24 rfl rfl) ?_
   refine Lq.op rfl rfl rfl (OpQ.loadOwn 0 rfl Tryd.isAgg24 rfl rfl rfl) ?_
   refine Lq.op (v := pt_ c) rfl rfl rfl (OpQ.cast rfl (OpQ.indexAddr1 (i := 0) rfl Tryd.runUnderlying24 Tryd.sizeOf3 rfl rfl (by decide) (by decide))) ?_
   refine Lq.op rfl rfl rfl (OpQ.loadOwn 3 rfl Tryd.isAgg3 rfl rfl rfl) ?_
   refine Lq.run 1 rfl ?_
   refine Lq.nil ?_
   refine Kt.sel [1, 2, 5, 8] [_, _, _, _] rfl ?_
   refine Wk.seq ?_
   refine Wk.region ?_
   refine Ll.op rfl rfl rfl (OpQ.fieldAddr rfl Tryd.runUnderlying98 rfl Tryd.sizeOf24 rfl rfl) ?_
   refine Ll.op rfl rfl rfl (OpQ.loadOwn 0 rfl Tryd.isAgg24 rfl rfl rfl) ?_
   refine Ll.run 1 rfl ?_
   refine Ll.op rfl rfl rfl (OpQ.add rfl rfl rfl (by omega) (by omega)) ?_
   refine Ll.op (v := pt_ c) rfl rfl rfl (OpQ.cast rfl (OpQ.indexAddr1 (i := 0) rfl Tryd.runUnderlying24 Tryd.sizeOf3 rfl rfl (by decide) (by decide))) ?_
   refine Ll.store1 (v := i6_ (((T.length : Int)) + (1 : Int))) (hs' := (_ :: _ :: _ :: bk_ c #[i6_ (((T.length : Int)) + (1 : Int))] 3 :: hs)) 3 rfl rfl rfl rfl rfl rfl Tryd.sizeOf3 rfl (by simp) rfl ?_
   refine Ll.nil ?_
   refine Kt.sel [1, 2, 5, 8] [_, _, _, _] rfl ?_
   refine Wk.seq ?_
   refine Wk.regionT (S := Own B w0 [bk_ p2 #[sl_ q 997 997, sl_ c 1 1] 98, bk_ c #[i6_ (((T.length : Int)) + (1 : Int))] 3]) (.take 0 (.take 1 (.take 2 (.take 3 (.take 4 (.take 5 (.take 6 (.take 8 (.take 9 (.take 10 (.two 7 (.one 11 (.one 12 (.take 13 (.one 14 .done)))) 11 (.one 7 (.one 12 (.take 13 (.one 14 .done))))))))))))))) Base.mixed (fun _ h => h.drawn) (by kernel_rfl) ?_
   refine Lt.take rfl rfl rfl rfl rfl (OpQ.fieldAddr rfl Tryd.runUnderlying98 rfl Tryd.sizeOf96 rfl rfl) (pk [0, 3] rfl rfl) ?_
   refine Lt.take rfl rfl rfl rfl rfl (OpQ.loadOwn 0 rfl Tryd.isAgg96 rfl rfl rfl) (pk [0, 3] rfl rfl) ?_
   refine Lt.run 1 rfl (pk [0, 3] rfl rfl) ?_
   refine Lt.take rfl rfl rfl rfl rfl (OpQ.fieldAddr rfl Tryd.runUnderlying98 rfl Tryd.sizeOf96 rfl rfl) (pk [0, 3] rfl rfl) ?_
   refine Lt.take rfl rfl rfl rfl rfl (OpQ.loadOwn 0 rfl Tryd.isAgg96 rfl rfl rfl) (pk [0, 3] rfl rfl) ?_
   refine Lt.run 1 rfl (pk [0, 3] rfl rfl) ?_
   refine Lt.take (v := pf_ q (hashS s)) rfl rfl rfl rfl rfl (OpQ.cast (by simp) (OpQ.indexAddr1 rfl Tryd.runUnderlying96 Tryd.sizeOf143 rfl rfl (by omega) (by omega))) (pk [0, 3] rfl rfl) ?_
   refine Lt.run 2 rfl (pk [0, 3] rfl rfl) ?_
   refine Lt.take (v := .agg #[str s, i6_ ((T.length : Int))]) rfl rfl rfl rfl rfl (OpQ.build (xs := [.tmp 70, .tmp 71]) (vs := [str s, i6_ ((T.length : Int))]) rfl rfl (by kernel_rfl)) (pk [0, 3] rfl rfl) ?_
   refine Lt.two rfl rfl ?_ ?_
   ·
    refine Ll.op (v := sl_ g m cap) rfl rfl rfl (OpQ.loadAt (v := sl_ g m cap) 2 rfl Tryd.isAgg143 rfl rfl (bkt_at (b := some (g, m, cap, cur)) hkl hb)) ?_
    refine Ll.nil (Lt.joint (pk [0, 3] rfl rfl) ?_)
    refine Lt.loud rfl ?_
    refine Ll.slice2 Base.elem143 rfl rfl rfl rfl rfl fun p73 hp73 => ?_
    refine Ll.nil (Lt.joint (pk [1, 4] rfl rfl) ?_)
    refine Lt.loud rfl ?_
    refine Ll.append Base.elem143 2 (entC (s, T.length)) rfl rfl rfl rfl rfl rfl rfl hc hle rfl (fun h => by cases h) (fun w1 hw1 ad had j u hj => by injection had with had; subst had; rw [Addr.add_lit, Nat.zero_add, hw1.cell (i := 0) rfl]; simpa [entC] using hj) (by simp [entC, str, Value.oneCell']) (by omega) fun g2 cap2 cur2 hg2 hcg2 hlg2 htg2 => ?_
    show Ll _ _ (Own _ _ (_ :: _ :: _ :: _ :: _ :: hs)) _ _ ((74, sl_ g2 ((m + 1)) cap2) :: _) _ _ _
    refine Ll.nil (Lt.joint (pk [1, 4] rfl rfl) ?_)
    refine Lt.take (v := pf_ q (hashS s)) rfl rfl rfl rfl rfl (OpQ.cast (by simp) (OpQ.indexAddr1 rfl Tryd.runUnderlying96 Tryd.sizeOf143 rfl rfl (by omega) (by omega))) (pk [1, 4] rfl rfl) ?_
    refine Lt.loud rfl ?_
    refine Ll.store1 (v := sl_ g2 ((m + 1)) cap2) (hs' := (_ :: _ :: _ :: bk_ q (((bs.set (hashS s) (some (g2, (m + 1), cap2, cur2))).map bktV).toArray) 143 :: _ :: hs)) 3 rfl rfl rfl rfl rfl rfl Tryd.sizeOf143 rfl (by simpa using hkl) (by rw [← set_bkt]; rfl) ?_
    refine Ll.nil (Lt.joint (pk [1, 4] rfl rfl) ?_)
    refine Lt.nil ?_
    refine Kt.sel [8] [_] rfl ?_
    refine Wk.seq ?_
    refine Wk.regionQ ?_
    refine Lq.run 2 rfl ?_
    refine Lq.nil ?_
    refine Kt.sel [4] [_] rfl ?_
    refine Wk.ret (Kt.end1 rfl rfl fun w' hw => ?_)
    -- ret 1: i6_ ((T.length : Int))
    exact .inr ⟨rfl, ents_not (fun e he => by obtain ⟨i, hi, rfl⟩ := List.mem_iff_getElem.1 he; have := hall i (by omega); rwa [getD_at hi] at this), g2, cap2, cur2, hcg2, hlg2, by rw [htg2, ht], hw.sub (List.Sublist.cons _ (List.Sublist.cons _ (List.Sublist.cons_cons _ (List.Sublist.cons_cons _ (List.Sublist.cons_cons _ (List.Sublist.refl _))))))⟩
   ·
    refine Ll.slice2 Base.elem143 rfl rfl rfl rfl rfl fun p73_1 hp73_1 => ?_
    refine Ll.nil (Lt.joint (pk [1, 4] rfl rfl) ?_)
    refine Lt.loud rfl ?_
    refine Ll.op (v := sl_ g m cap) rfl rfl rfl (OpQ.loadAt (v := sl_ g m cap) 3 rfl Tryd.isAgg143 rfl rfl (bkt_at (b := some (g, m, cap, cur)) hkl hb)) ?_
    refine Ll.nil (Lt.joint (pk [1, 4] rfl rfl) ?_)
    refine Lt.loud rfl ?_
    refine Ll.append Base.elem143 2 (entC (s, T.length)) rfl rfl rfl rfl rfl rfl rfl hc hle rfl (fun h => by cases h) (fun w1 hw1 ad had j u hj => by injection had with had; subst had; rw [Addr.add_lit, Nat.zero_add, hw1.cell (i := 0) rfl]; simpa [entC] using hj) (by simp [entC, str, Value.oneCell']) (by omega) fun g2_1 cap2_1 cur2_1 hg2_1 hcg2_1 hlg2_1 htg2_1 => ?_
    show Ll _ _ (Own _ _ (_ :: _ :: _ :: _ :: _ :: hs)) _ _ ((74, sl_ g2_1 ((m + 1)) cap2_1) :: _) _ _ _
    refine Ll.nil (Lt.joint (pk [1, 4] rfl rfl) ?_)
    refine Lt.take (v := pf_ q (hashS s)) rfl rfl rfl rfl rfl (OpQ.cast (by simp) (OpQ.indexAddr1 rfl Tryd.runUnderlying96 Tryd.sizeOf143 rfl rfl (by omega) (by omega))) (pk [1, 4] rfl rfl) ?_
    refine Lt.loud rfl ?_
    refine Ll.store1 (v := sl_ g2_1 ((m + 1)) cap2_1) (hs' := (_ :: _ :: _ :: bk_ q (((bs.set (hashS s) (some (g2_1, (m + 1), cap2_1, cur2_1))).map bktV).toArray) 143 :: _ :: hs)) 3 rfl rfl rfl rfl rfl rfl Tryd.sizeOf143 rfl (by simpa using hkl) (by rw [← set_bkt]; rfl) ?_
    refine Ll.nil (Lt.joint (pk [1, 4] rfl rfl) ?_)
    refine Lt.nil ?_
    refine Kt.sel [8] [_] rfl ?_
    refine Wk.seq ?_
    refine Wk.regionQ ?_
    refine Lq.run 2 rfl ?_
    refine Lq.nil ?_
    refine Kt.sel [4] [_] rfl ?_
    refine Wk.ret (Kt.end1 rfl rfl fun w' hw => ?_)
    -- ret 2: i6_ ((T.length : Int))
    exact .inr ⟨rfl, ents_not (fun e he => by obtain ⟨i, hi, rfl⟩ := List.mem_iff_getElem.1 he; have := hall i (by omega); rwa [getD_at hi] at this), g2_1, cap2_1, cur2_1, hcg2_1, hlg2_1, by rw [htg2_1, ht], hw.sub (List.Sublist.cons _ (List.Sublist.cons _ (List.Sublist.cons_cons _ (List.Sublist.cons_cons _ (List.Sublist.cons_cons _ (List.Sublist.refl _))))))⟩

theorem number_ok (B : Nat) (w0 : World) (hs : List (Nat × Obj)) (q c : Nat) (bs : List Bkt) (T : List (List UInt8)) (s : List UInt8) (w : World) (hT : TabOk bs T) (hlT : T.length ≤ 1000000) (hls : s.length ≤ 1000) (hw : Own B w0 (tabL 143 3 145 q c bs T ++ hs) w) :
    Calls Tryd.prog 137 [.agg #[.slice (some ⟨q, 0, none⟩) 997 997, .slice (some ⟨c, 0, none⟩) 1 1], str s].toArray w fun en w' => ∃ (n : Nat) (bs' : List Bkt) (T' : List (List UInt8)), en = .returned (.int .i64 (n : Int)) ∧ (TabTo T bs' T' 1 ∧ T'[n]? = some s) ∧ Own B w0 (tabL 143 3 145 q c bs' T' ++ hs) w' := by
  have h997 := hash_lt s
  have hkl : hashS s < bs.length := by rw [hT.len]; exact h997
  cases hb : bs.getD (hashS s) none with
  | none =>
    refine (number_nil B w0 (blks 145 bs ++ hs) q c bs T s w hT hlT hls hb hw).mono fun en w' ⟨h1, h2, g', cap', cur', h3, h4, h5, h6⟩ => ?_
    refine ⟨T.length, bs.set (hashS s) (some (g', 1, cap', cur')), T ++ [s], h1, ⟨⟨hT.add h2 (by rw [hT.no _ h997 hb]; rfl) h3 h4 (by rw [hT.no _ h997 hb]; exact h5), List.prefix_append _ _, by simp⟩, by simp⟩, ?_⟩
    have hp := (blks_put (E := 145) (g := g') (m := 1) (cap := cap') (cur := cur') hkl)
    rw [blks_none hkl hb] at hp
    have e1 : ((T ++ [s]).length : Int) = (T.length : Int) + 1 := by simp
    show Own B w0 (_ :: (_, .cells #[.int .i64 ((T ++ [s]).length : Int)] _ (0, 0)) :: (blks _ _ ++ hs)) w'
    rw [e1]
    exact h6.perm ((perm_back [_] [_, _] _).trans (List.Perm.cons _ (List.Perm.cons _ ((hp.symm.append_right hs)))))
  | some b =>
    obtain ⟨g, m, cap, cur⟩ := b
    have hp := (blks_take (E := 145) hkl hb)
    have hw2 : Own B w0 ((g, .cells cur 145 (0, 0)) :: (q, .cells (bs.map bktV).toArray 143 (0, 0)) :: (c, .cells #[.int .i64 (T.length : Int)] 3 (0, 0)) :: (blks 145 (bs.set (hashS s) none) ++ hs)) w :=
      hw.perm ((List.Perm.cons _ (List.Perm.cons _ (hp.append_right hs))).trans (perm_back [_, _] [_] _))
    refine (number_some B w0 (blks 145 (bs.set (hashS s) none) ++ hs) q c bs T s w hT hlT hls g m cap cur hb hw2).mono fun en w' h => ?_
    rcases h with ⟨n, h1, h2, h3⟩ | ⟨h1, h2, g', cap', cur', h3, h4, h5, h6⟩
    · exact ⟨n, bs, T, h1, ⟨⟨hT, List.prefix_refl _, by omega⟩, h2⟩, h3.perm ((perm_back [_] [_, _] _).trans (List.Perm.cons _ (List.Perm.cons _ (hp.symm.append_right hs))))⟩
    · refine ⟨T.length, bs.set (hashS s) (some (g', m + 1, cap', cur')), T ++ [s], h1, ⟨⟨hT.add h2 (by rw [(hT.yes _ h997 _ _ _ _ hb).1]) h3 h4 h5, List.prefix_append _ _, by simp⟩, by simp⟩, ?_⟩
      have hp2 := (blks_put (E := 145) (g := g') (m := m + 1) (cap := cap') (cur := cur') hkl)
      have e1 : ((T ++ [s]).length : Int) = (T.length : Int) + 1 := by simp
      show Own B w0 (_ :: (_, .cells #[.int .i64 ((T ++ [s]).length : Int)] _ (0, 0)) :: (blks _ _ ++ hs)) w'
      rw [e1]
      exact h6.perm ((perm_back [_] [_, _] _).trans (List.Perm.cons _ (List.Perm.cons _ (hp2.symm.append_right hs))))

end Go.Proofs.YtjcoijejhachhaaDoor
