/-
  FnPebbleClasses: all that its proof names (part 4)
-/
import Derived.Test.YtjcoijejhachhaaGreatDoorKFnPebbleClassesc
import Derived.Test.YtjcoijejhachhaaGreatDoorKFnPebbleClassesb
namespace Go.Proofs.YtjcoijejhachhaaGreatDoor
open Go.RowKit Go.Wk
set_option linter.unusedSimpArgs false
set_option maxHeartbeats 400000 in
/-- spec.l15Dec -/
theorem l15Dec_ok (x : Int) (w : World) (h0 : 0 ≤ x) (h1 : x < 1000000000000) :
    Calls Tryz.prog 68 [i6_ x].toArray w fun en w' => en = .returned (str (decS x.toNat)) ∧ Below w.heap.size w w' := by
 refine fnStart (n := 31) (e := [(0, i6_ x)]) Tryz.func68 rfl rfl rfl rfl Ends.both ?_
 have hdl := decS_len x.toNat 12 (show x.toNat < 1000000000000 by omega) (by decide)
 refine Wk.seq ?_
 refine Wk.regionQ ?_
 refine Lq.op (v := str ([])) rfl rfl rfl (OpQ.assign rfl rfl) ?_
 refine Lq.nil ?_
 refine Kt.sel [0] [_] rfl ?_
 refine Wk.seq ?_
 refine Wk.seq ?_
 refine Wk.regionQ ?_
 refine Lq.run 2 rfl ?_
 refine Lq.nil ?_
 refine Kt.sel [0, 5] [_, _] rfl ?_
 refine Wk.cond (b := decide (x < (-9223372036854775807 : Int))) rfl (fun h5 => ?_) (fun h5 => ?_)
 ·
  replace h5 := of_decide_eq_true h5
  omega
 ·
  replace h5 := of_decide_eq_false h5
  refine Wk.skip ?_
  refine Kt.sel [0] [_] rfl ?_
  refine Wk.seq ?_
  refine Wk.seq ?_
  refine Wk.regionQ ?_
  refine Lq.run 2 rfl ?_
  refine Lq.nil ?_
  refine Kt.sel [0, 7] [_, _] rfl ?_
  refine Wk.cond (b := decide (x < (0 : Int))) rfl (fun h7 => ?_) (fun h7 => ?_)
  ·
   replace h7 := of_decide_eq_true h7
   omega
  ·
   replace h7 := of_decide_eq_false h7
   refine Wk.skip ?_
   refine Kt.sel [0] [_] rfl ?_
   refine Wk.seq ?_
   refine Wk.regionQ ?_
   refine Lq.op (v := str ([])) rfl rfl rfl (OpQ.assign rfl rfl) ?_
   refine Lq.nil ?_
   refine Kt.sel [0, 3] [_, _] rfl ?_
   refine Wk.seq ?_
   refine Wk.block ?_
   refine Wk.loop (σ := Nat × List UInt8) (fun ⟨n, o⟩ => decS x.toNat = decS n ++ o ∧ n ≤ x.toNat) (fun ⟨n, o⟩ => [(0, i6_ ((n : Int))), (3, str o)]) (fun ⟨n, o⟩ => Own w.heap.size w []) (fun ⟨n, o⟩ => n) ((x.toNat, [])) ⟨by simp, Nat.le_refl _⟩ (Sub.cons (by rw [Int.toNat_of_nonneg h0]; rfl) (Sub.sel [3] rfl)) (fun _ h => h) ?_
   rintro ⟨n, o⟩ ⟨ho, hn⟩
   dsimp only
   have hol := dec_len ho hdl
   refine Wk.seq ?_
   refine Wk.seq ?_
   refine Wk.regionQ ?_
   refine Lq.run 2 rfl ?_
   refine Lq.nil ?_
   refine Kt.sel [0, 3, 13] [_, _, _] rfl ?_
   refine Wk.cond (b := decide ((9 : Int) < ((n : Int)))) rfl (fun h13 => ?_) (fun h13 => ?_)
   ·
    replace h13 := of_decide_eq_true h13
    refine Wk.skip ?_
    refine Kt.sel [0, 3] [_, _] rfl ?_
    refine Wk.block ?_
    refine Wk.seq ?_
    refine Wk.region ?_
    refine Ll.run 1 rfl ?_
    refine Ll.op (v := i6_ (((n : Int)) % (10 : Int))) rfl rfl rfl (OpQ.rem rfl rfl rfl (by omega) (by decide)) ?_
    refine Ll.op rfl rfl rfl (OpQ.add rfl rfl rfl (by omega) (by omega)) ?_
    refine Ll.op (v := .int .u8 ((48 : Int) + (((n : Int)) % (10 : Int)))) rfl rfl rfl (OpQ.convInt .u8 rfl Tryz.underlying3 Tryz.underlying5 rfl (IntWalk.u8_in _ (by omega))) ?_
    refine Ll.slice (xs := [.tmp 17]) (vs := [.int .u8 ((48 : Int) + (((n : Int)) % (10 : Int)))]) Base.elem22 rfl rfl rfl rfl rfl rfl (by decide) rfl fun p18 hp18 => ?_
    refine Ll.op (v := str ([UInt8.ofNat (48 + n % 10)])) rfl rfl rfl (OpQ.byteStr (b := UInt8.ofNat (48 + n % 10)) 0 rfl Tryz.underlying22 Tryz.underlying5 Tryz.underlying9 rfl rfl (by rw [toNat_dig (by omega)]; omega)) ?_
    refine Ll.run 1 rfl ?_
    refine Ll.op rfl rfl rfl (OpQ.sadd rfl rfl rfl (by first | omega | (simp only [List.length_append, List.length_cons, List.length_nil]; omega))) ?_
    refine Ll.run 1 rfl ?_
    refine Ll.nil ?_
    refine Kt.sel [0, 3] [_, _] rfl ?_
    refine Wk.regionQ ?_
    refine Lq.run 1 rfl ?_
    refine Lq.op (v := i6_ (((n / 10 : Nat) : Int))) rfl rfl rfl (OpQ.cast (by simp) (OpQ.quo rfl rfl rfl (by omega) (by omega) (by decide))) ?_
    refine Lq.run 1 rfl ?_
    refine Lq.nil ?_
    refine Kt.again ((n / 10, [UInt8.ofNat (48 + n % 10)] ++ o)) ⟨dec_step ho (by omega), by omega⟩ (by omega) (Sub.sel [0, 3] rfl) (fun _ h => h.tail)
   ·
    replace h13 := of_decide_eq_false h13
    refine Wk.exit rfl ?_
    refine Kt.sel [0, 3] [_, _] rfl ?_
    refine Wk.seq ?_
    refine Wk.region ?_
    refine Ll.run 1 rfl ?_
    refine Ll.op rfl rfl rfl (OpQ.add rfl rfl rfl (by omega) (by omega)) ?_
    refine Ll.op (v := .int .u8 ((48 : Int) + ((n : Int)))) rfl rfl rfl (OpQ.convInt .u8 rfl Tryz.underlying3 Tryz.underlying5 rfl (IntWalk.u8_in _ (by omega))) ?_
    refine Ll.slice (xs := [.tmp 26]) (vs := [.int .u8 ((48 : Int) + ((n : Int)))]) Base.elem22 rfl rfl rfl rfl rfl rfl (by decide) rfl fun p27 hp27 => ?_
    refine Ll.op (v := str ([UInt8.ofNat (48 + n)])) rfl rfl rfl (OpQ.byteStr (b := UInt8.ofNat (48 + n)) 0 rfl Tryz.underlying22 Tryz.underlying5 Tryz.underlying9 rfl rfl (by rw [toNat_dig (by omega)]; omega)) ?_
    refine Ll.run 1 rfl ?_
    refine Ll.op rfl rfl rfl (OpQ.sadd rfl rfl rfl (by first | omega | (simp only [List.length_append, List.length_cons, List.length_nil]; omega))) ?_
    refine Ll.run 1 rfl ?_
    refine Ll.nil ?_
    refine Kt.sel [2] [_] rfl ?_
    refine Wk.ret (Kt.end1 rfl rfl fun w' hw => ?_)
    exact ⟨ret_s (by rw [ho, decS, if_pos (by omega)]), hw.below⟩
set_option maxHeartbeats 400000 in
/-- spec.l5Insert -/
theorem l5Insert_ok (B : Nat) (w0 : World) (hs : List (Nat × Obj)) (g cap : Nat) (cur : Array Value) (xs : List Int) (m : Int) (w : World) (hc : cur.size = cap * 1) (hle : xs.length ≤ cap) (ht : cur.toList.take xs.length = ints xs) (hs1 : xs.length ≤ 1000) (hw : Own B w0 ((g, .cells cur 3 (0, 0)) :: hs) w) :
    Calls Tryz.prog 23 [sl_ g xs.length cap, i6_ m].toArray w fun en w' => ∃ (g' cap' : Nat) (cur' : Array Value), en = .returned (.slice (some ⟨g', 0, none⟩) (insS xs m).length cap') ∧ (cur'.size = cap' * 1 ∧ (insS xs m).length ≤ cap' ∧ cur'.toList.take (insS xs m).length = ints (insS xs m)) ∧ Own B w0 ((g', .cells cur' 3 (0, 0)) :: hs) w' := by
 refine fnStartC (Own B w0 ((g, .cells cur 3 (0, 0)) :: hs)) (n := 41) (e := [(0, sl_ g xs.length cap), (1, i6_ m)]) Tryz.func23 rfl rfl rfl rfl Ends.both hw ?_
 refine Wk.seq ?_
 refine Wk.regionQ ?_
 refine Lq.run 1 rfl ?_
 refine Lq.nil ?_
 refine Kt.sel [0, 1] [_, _] rfl ?_
 refine Wk.seq ?_
 refine Wk.seq ?_
 refine Wk.regionQ ?_
 refine Lq.run 1 rfl ?_
 refine Lq.nil ?_
 refine Kt.sel [0, 1, 5] [_, _, _] rfl ?_
 refine Wk.block ?_
 refine Wk.loop (σ := Nat) (fun k => k ≤ xs.length ∧ ∀ j : Nat, j < k → ¬ xs.getD j 0 = m ∧ ¬ m < xs.getD j 0) (fun k => [(0, sl_ g xs.length cap), (1, i6_ m), (5, i6_ ((k : Int)))]) (fun k => Own B w0 (bk_ g cur 3 :: hs)) (fun k => xs.length - k) (0) ⟨by omega, fun i hi => absurd hi (by omega)⟩ (Sub.sel [0, 1, 5] rfl) (fun _ h => h) ?_
 rintro k ⟨hk, hall⟩
 refine Wk.seq ?_
 refine Wk.seq ?_
 refine Wk.regionQ ?_
 refine Lq.run 2 rfl ?_
 refine Lq.op rfl rfl rfl (OpQ.lenS rfl Tryz.runUnderlying28 rfl) ?_
 refine Lq.run 1 rfl ?_
 refine Lq.nil ?_
 refine Kt.sel [0, 1, 5, 9] [_, _, _, _] rfl ?_
 refine Wk.cond (b := decide (((k : Int)) < ((xs.length : Int)))) rfl (fun h9 => ?_) (fun h9 => ?_)
 ·
  replace h9 := of_decide_eq_true h9
  have hk2 : k < xs.length := by omega
  refine Wk.skip ?_
  refine Kt.sel [0, 1, 5] [_, _, _] rfl ?_
  refine Wk.seq ?_
  refine Wk.block ?_
  refine Wk.seq ?_
  refine Wk.seq ?_
  refine Wk.regionQ ?_
  refine Lq.run 2 rfl ?_
  refine Lq.op (v := pf_ g k) rfl rfl rfl (OpQ.cast (by simp) (OpQ.indexAddr1 rfl Tryz.runUnderlying28 Tryz.sizeOf3 rfl rfl (by omega) (by omega))) ?_
  refine Lq.op (v := i6_ (xs.getD (k) 0)) rfl rfl rfl (OpQ.loadAt 0 rfl Tryz.isAgg3 rfl rfl (cur_at ht (ints_at2 (by omega)))) ?_
  refine Lq.run 2 rfl ?_
  refine Lq.nil ?_
  refine Kt.sel [0, 1, 5, 17] [_, _, _, _] rfl ?_
  refine Wk.cond (b := decide ((xs.getD (k) 0) = m)) rfl (fun h17 => ?_) (fun h17 => ?_)
  ·
   replace h17 := of_decide_eq_true h17
   refine Wk.seq ?_
   refine Wk.regionQ ?_
   refine Lq.run 2 rfl ?_
   refine Lq.nil ?_
   refine Kt.sel [4] [_] rfl ?_
   refine Wk.ret (Kt.end1 rfl rfl fun w' hw => ?_)
   have e := insS_at (n := m) hk2 hall (by simpa using h17)
   exact ⟨g, cap, cur, by rw [e], ⟨hc, by rw [e]; exact hle, by rw [e]; exact ht⟩, hw⟩
  ·
   replace h17 := of_decide_eq_false h17
   refine Wk.skip ?_
   refine Kt.sel [0, 1, 5] [_, _, _] rfl ?_
   refine Wk.seq ?_
   refine Wk.regionQ ?_
   refine Lq.run 2 rfl ?_
   refine Lq.op (v := pf_ g k) rfl rfl rfl (OpQ.cast (by simp) (OpQ.indexAddr1 rfl Tryz.runUnderlying28 Tryz.sizeOf3 rfl rfl (by omega) (by omega))) ?_
   refine Lq.op (v := i6_ (xs.getD (k) 0)) rfl rfl rfl (OpQ.loadAt 0 rfl Tryz.isAgg3 rfl rfl (cur_at ht (ints_at2 (by omega)))) ?_
   refine Lq.run 2 rfl ?_
   refine Lq.nil ?_
   refine Kt.sel [0, 1, 5, 24] [_, _, _, _] rfl ?_
   refine Wk.cond (b := decide (m < (xs.getD (k) 0))) rfl (fun h24 => ?_) (fun h24 => ?_)
   ·
    replace h24 := of_decide_eq_true h24
    refine Wk.seq ?_
    refine Wk.regionT (S := Own B w0 [bk_ g cur 3]) (.take 1 (.take 2 (.take 3 (.take 5 (.take 8 (.take 9 (.take 10 (.two 0 (.two 4 (.one 6 (.one 7 (.one 11 (.take 12 .done)))) 6 (.one 4 (.one 7 (.one 11 (.take 12 .done))))) 6 (.one 0 (.one 4 (.one 7 (.one 11 (.take 12 .done))))))))))))) Base.mixed (fun _ h => h.drawn) (by kernel_rfl) ?_
    refine Lt.run 2 rfl (pk [0] rfl rfl) ?_
    refine Lt.take (v := sl_ g (((k : Int)).toNat) cap) rfl rfl rfl rfl rfl (OpQ.takeS (i := (k : Int)) rfl Tryz.runUnderlying28 Tryz.sizeOf3 rfl rfl (by omega) (by omega)) (pk [0] rfl rfl) ?_
    refine Lt.run 3 rfl (pk [0] rfl rfl) ?_
    refine Lt.take (v := .slice (some ⟨g, ((k : Int)).toNat, none⟩) (xs.length - ((k : Int)).toNat) (cap - ((k : Int)).toNat)) rfl rfl rfl rfl rfl (OpQ.dropS rfl Tryz.runUnderlying28 Tryz.sizeOf3 rfl rfl (by omega) (by omega) (by omega)) (pk [0] rfl rfl) ?_
    refine Lt.two rfl rfl ?_ ?_
    ·
     refine Ll.slice (xs := []) (vs := []) Base.elem28 rfl rfl rfl rfl rfl rfl (by decide) rfl fun p25 hp25 => ?_
     refine Ll.nil (Lt.joint (pk [1] rfl rfl) ?_)
     refine Lt.two rfl rfl ?_ ?_
     ·
      refine Ll.appendInts (xs := []) (ys := (xs).take (((k : Int)).toNat)) Base.elem28 0 rfl rfl rfl rfl rfl rfl rfl rfl (by decide) rfl (fun w1 hw1 => (Own.rowTake hw1 (i := 1) rfl ht (by omega) hle)) (((xs).take (((k : Int)).toNat)).length) (by first | (simp; done) | (simp; omega)) (by first | (simp; done) | (simp; omega) | omega) fun p29 cap29 cur29 hp29 hcp29 hlp29 htp29 => ?_
      show Ll _ _ (Own _ _ (_ :: _ :: hs)) _ _ ((29, sl_ p29 ((((xs).take (((k : Int)).toNat)).length)) cap29) :: _) _ _ _
      refine Ll.nil (Lt.joint (pk [1] rfl rfl) ?_)
      refine Lt.loud rfl ?_
      refine Ll.slice (xs := [.tmp 30]) (vs := [i6_ m]) Base.elem28 rfl rfl rfl rfl rfl rfl (by decide) rfl fun p31 hp31 => ?_
      refine Ll.nil (Lt.joint (pk [2] rfl rfl) ?_)
      refine Lt.loud rfl ?_
      refine Ll.appendInts (xs := (xs).take (((k : Int)).toNat)) (ys := [m]) Base.elem28 1 rfl rfl rfl rfl rfl rfl rfl hcp29 hlp29 (by simpa using htp29) (fun w1 hw1 => (Own.row hw1 (i := 0) rfl (n := 1) (cap := 1) (vs := ints [m]) rfl rfl (by decide))) ((((xs).take (((k : Int)).toNat)) ++ ([m])).length) (by first | (simp; done) | (simp; omega)) (by first | (simp; done) | (simp; omega) | omega) fun p32 cap32 cur32 hp32 hcp32 hlp32 htp32 => ?_
      show Ll _ _ (Own _ _ (_ :: _ :: _ :: hs)) _ _ ((32, sl_ p32 (((((xs).take (((k : Int)).toNat)) ++ ([m])).length)) cap32) :: _) _ _ _
      refine Ll.nil (Lt.joint (pk [2] rfl rfl) ?_)
      refine Lt.loud rfl ?_
      refine Ll.appendInts (xs := ((xs).take (((k : Int)).toNat)) ++ ([m])) (ys := (xs).drop (((k : Int)).toNat)) Base.elem28 1 rfl rfl rfl rfl rfl rfl rfl hcp32 hlp32 (by simpa using htp32) (fun w1 hw1 => (Own.rowDrop hw1 (i := 2) rfl ht (by omega) hle)) (((((xs).take (((k : Int)).toNat)) ++ ([m])) ++ ((xs).drop (((k : Int)).toNat))).length) (by first | (simp; done) | (simp; omega)) (by first | (simp; done) | (simp; omega) | omega) fun p36 cap36 cur36 hp36 hcp36 hlp36 htp36 => ?_
      show Ll _ _ (Own _ _ (_ :: _ :: _ :: hs)) _ _ ((36, sl_ p36 ((((((xs).take (((k : Int)).toNat)) ++ ([m])) ++ ((xs).drop (((k : Int)).toNat))).length)) cap36) :: _) _ _ _
      refine Ll.nil (Lt.joint (pk [2] rfl rfl) ?_)
      refine Lt.run 1 rfl (pk [2] rfl rfl) ?_
      refine Lt.nil ?_
      refine Kt.sel [4] [_] rfl ?_
      refine Wk.ret (Kt.end1 rfl rfl fun w' hw => ?_)
      have e := insS_mid (n := m) hk2 hall (by simpa using h24)
      simp only [Int.toNat_natCast, Nat.mul_one] at *
      exact ⟨p36, cap36, cur36, by rw [e], ⟨by simpa using hcp36, by rw [e]; exact hlp36, by rw [e]; exact htp36⟩, hw.sub (List.Sublist.cons _ (List.Sublist.cons_cons _ (List.Sublist.cons _ (List.Sublist.refl _))))⟩
     ·
      refine Ll.slice (xs := [.tmp 30]) (vs := [i6_ m]) Base.elem28 rfl rfl rfl rfl rfl rfl (by decide) rfl fun p31_1 hp31_1 => ?_
      refine Ll.nil (Lt.joint (pk [2] rfl rfl) ?_)
      refine Lt.loud rfl ?_
      refine Ll.appendInts (xs := []) (ys := (xs).take (((k : Int)).toNat)) Base.elem28 1 rfl rfl rfl rfl rfl rfl rfl rfl (by decide) rfl (fun w1 hw1 => (Own.rowTake hw1 (i := 2) rfl ht (by omega) hle)) (((xs).take (((k : Int)).toNat)).length) (by first | (simp; done) | (simp; omega)) (by first | (simp; done) | (simp; omega) | omega) fun p29_1 cap29_1 cur29_1 hp29_1 hcp29_1 hlp29_1 htp29_1 => ?_
      show Ll _ _ (Own _ _ (_ :: _ :: _ :: hs)) _ _ ((29, sl_ p29_1 ((((xs).take (((k : Int)).toNat)).length)) cap29_1) :: _) _ _ _
      refine Ll.nil (Lt.joint (pk [2] rfl rfl) ?_)
      refine Lt.loud rfl ?_
      refine Ll.appendInts (xs := (xs).take (((k : Int)).toNat)) (ys := [m]) Base.elem28 1 rfl rfl rfl rfl rfl rfl rfl hcp29_1 hlp29_1 (by simpa using htp29_1) (fun w1 hw1 => (Own.row hw1 (i := 0) rfl (n := 1) (cap := 1) (vs := ints [m]) rfl rfl (by decide))) ((((xs).take (((k : Int)).toNat)) ++ ([m])).length) (by first | (simp; done) | (simp; omega)) (by first | (simp; done) | (simp; omega) | omega) fun p32_1 cap32_1 cur32_1 hp32_1 hcp32_1 hlp32_1 htp32_1 => ?_
      show Ll _ _ (Own _ _ (_ :: _ :: _ :: hs)) _ _ ((32, sl_ p32_1 (((((xs).take (((k : Int)).toNat)) ++ ([m])).length)) cap32_1) :: _) _ _ _
      refine Ll.nil (Lt.joint (pk [2] rfl rfl) ?_)
      refine Lt.loud rfl ?_
      refine Ll.appendInts (xs := ((xs).take (((k : Int)).toNat)) ++ ([m])) (ys := (xs).drop (((k : Int)).toNat)) Base.elem28 1 rfl rfl rfl rfl rfl rfl rfl hcp32_1 hlp32_1 (by simpa using htp32_1) (fun w1 hw1 => (Own.rowDrop hw1 (i := 2) rfl ht (by omega) hle)) (((((xs).take (((k : Int)).toNat)) ++ ([m])) ++ ((xs).drop (((k : Int)).toNat))).length) (by first | (simp; done) | (simp; omega)) (by first | (simp; done) | (simp; omega) | omega) fun p36_1 cap36_1 cur36_1 hp36_1 hcp36_1 hlp36_1 htp36_1 => ?_
      show Ll _ _ (Own _ _ (_ :: _ :: _ :: hs)) _ _ ((36, sl_ p36_1 ((((((xs).take (((k : Int)).toNat)) ++ ([m])) ++ ((xs).drop (((k : Int)).toNat))).length)) cap36_1) :: _) _ _ _
      refine Ll.nil (Lt.joint (pk [2] rfl rfl) ?_)
      refine Lt.run 1 rfl (pk [2] rfl rfl) ?_
      refine Lt.nil ?_
      refine Kt.sel [4] [_] rfl ?_
      refine Wk.ret (Kt.end1 rfl rfl fun w' hw => ?_)
      have e := insS_mid (n := m) hk2 hall (by simpa using h24)
      simp only [Int.toNat_natCast, Nat.mul_one] at *
      exact ⟨p36_1, cap36_1, cur36_1, by rw [e], ⟨by simpa using hcp36_1, by rw [e]; exact hlp36_1, by rw [e]; exact htp36_1⟩, hw.sub (List.Sublist.cons _ (List.Sublist.cons_cons _ (List.Sublist.cons _ (List.Sublist.refl _))))⟩
    ·
     refine Ll.slice (xs := [.tmp 30]) (vs := [i6_ m]) Base.elem28 rfl rfl rfl rfl rfl rfl (by decide) rfl fun p31_2 hp31_2 => ?_
     refine Ll.nil (Lt.joint (pk [1] rfl rfl) ?_)
     refine Lt.loud rfl ?_
     refine Ll.slice (xs := []) (vs := []) Base.elem28 rfl rfl rfl rfl rfl rfl (by decide) rfl fun p25_1 hp25_1 => ?_
     refine Ll.nil (Lt.joint (pk [2] rfl rfl) ?_)
     refine Lt.loud rfl ?_
     refine Ll.appendInts (xs := []) (ys := (xs).take (((k : Int)).toNat)) Base.elem28 0 rfl rfl rfl rfl rfl rfl rfl rfl (by decide) rfl (fun w1 hw1 => (Own.rowTake hw1 (i := 2) rfl ht (by omega) hle)) (((xs).take (((k : Int)).toNat)).length) (by first | (simp; done) | (simp; omega)) (by first | (simp; done) | (simp; omega) | omega) fun p29_2 cap29_2 cur29_2 hp29_2 hcp29_2 hlp29_2 htp29_2 => ?_
     show Ll _ _ (Own _ _ (_ :: _ :: _ :: hs)) _ _ ((29, sl_ p29_2 ((((xs).take (((k : Int)).toNat)).length)) cap29_2) :: _) _ _ _
     refine Ll.nil (Lt.joint (pk [2] rfl rfl) ?_)
     refine Lt.loud rfl ?_
     refine Ll.appendInts (xs := (xs).take (((k : Int)).toNat)) (ys := [m]) Base.elem28 0 rfl rfl rfl rfl rfl rfl rfl hcp29_2 hlp29_2 (by simpa using htp29_2) (fun w1 hw1 => (Own.row hw1 (i := 1) rfl (n := 1) (cap := 1) (vs := ints [m]) rfl rfl (by decide))) ((((xs).take (((k : Int)).toNat)) ++ ([m])).length) (by first | (simp; done) | (simp; omega)) (by first | (simp; done) | (simp; omega) | omega) fun p32_2 cap32_2 cur32_2 hp32_2 hcp32_2 hlp32_2 htp32_2 => ?_
     show Ll _ _ (Own _ _ (_ :: _ :: _ :: hs)) _ _ ((32, sl_ p32_2 (((((xs).take (((k : Int)).toNat)) ++ ([m])).length)) cap32_2) :: _) _ _ _
     refine Ll.nil (Lt.joint (pk [2] rfl rfl) ?_)
     refine Lt.loud rfl ?_
     refine Ll.appendInts (xs := ((xs).take (((k : Int)).toNat)) ++ ([m])) (ys := (xs).drop (((k : Int)).toNat)) Base.elem28 0 rfl rfl rfl rfl rfl rfl rfl hcp32_2 hlp32_2 (by simpa using htp32_2) (fun w1 hw1 => (Own.rowDrop hw1 (i := 2) rfl ht (by omega) hle)) (((((xs).take (((k : Int)).toNat)) ++ ([m])) ++ ((xs).drop (((k : Int)).toNat))).length) (by first | (simp; done) | (simp; omega)) (by first | (simp; done) | (simp; omega) | omega) fun p36_2 cap36_2 cur36_2 hp36_2 hcp36_2 hlp36_2 htp36_2 => ?_
     show Ll _ _ (Own _ _ (_ :: _ :: _ :: hs)) _ _ ((36, sl_ p36_2 ((((((xs).take (((k : Int)).toNat)) ++ ([m])) ++ ((xs).drop (((k : Int)).toNat))).length)) cap36_2) :: _) _ _ _
     refine Ll.nil (Lt.joint (pk [2] rfl rfl) ?_)
     refine Lt.run 1 rfl (pk [2] rfl rfl) ?_
     refine Lt.nil ?_
     refine Kt.sel [4] [_] rfl ?_
     refine Wk.ret (Kt.end1 rfl rfl fun w' hw => ?_)
     have e := insS_mid (n := m) hk2 hall (by simpa using h24)
     simp only [Int.toNat_natCast, Nat.mul_one] at *
     exact ⟨p36_2, cap36_2, cur36_2, by rw [e], ⟨by simpa using hcp36_2, by rw [e]; exact hlp36_2, by rw [e]; exact htp36_2⟩, hw.sub (List.Sublist.cons_cons _ (List.Sublist.cons _ (List.Sublist.cons _ (List.Sublist.refl _))))⟩
   ·
    replace h24 := of_decide_eq_false h24
    refine Wk.skip ?_
    refine Kt.sel [0, 1, 5] [_, _, _] rfl ?_
    refine Wk.regionQ ?_
    refine Lq.run 1 rfl ?_
    refine Lq.op rfl rfl rfl (OpQ.add rfl rfl rfl (by omega) (by omega)) ?_
    refine Lq.run 1 rfl ?_
    refine Lq.nil ?_
    refine Kt.again (k + 1) ⟨by omega, fun i hi => (Nat.lt_succ_iff_lt_or_eq.1 hi).elim (hall i) (fun e => by subst e; exact ⟨by simpa using h17, by simpa using h24⟩)⟩ (by omega) (Sub.sel [0, 1, 5] rfl) (fun _ h => h)
 ·
  replace h9 := of_decide_eq_false h9
  refine Wk.exit rfl ?_
  refine Kt.sel [0, 1] [_, _] rfl ?_
  refine Wk.seq ?_
  refine Wk.region ?_
  refine Ll.run 2 rfl ?_
  refine Ll.slice (xs := [.tmp 38]) (vs := [i6_ m]) Base.elem28 rfl rfl rfl rfl rfl rfl (by decide) rfl fun p39 hp39 => ?_
  refine Ll.appendInts (xs := xs) (ys := [m]) Base.elem28 1 rfl rfl rfl rfl rfl rfl rfl hc hle ht (fun w1 hw1 => (Own.row hw1 (i := 0) rfl (n := 1) (cap := 1) (vs := ints [m]) rfl rfl (by decide))) ((xs ++ ([m])).length) (by first | (simp; done) | (simp; omega)) (by first | (simp; done) | (simp; omega) | omega) fun p40 cap40 cur40 hp40 hcp40 hlp40 htp40 => ?_
  show Ll _ _ (Own _ _ (_ :: _ :: hs)) _ _ ((40, sl_ p40 (((xs ++ ([m])).length)) cap40) :: _) _ _ _
  refine Ll.run 1 rfl ?_
  refine Ll.nil ?_
  refine Kt.sel [4] [_] rfl ?_
  refine Wk.ret (Kt.end1 rfl rfl fun w' hw => ?_)
  have e := insS_end (l := xs) (n := m) (fun j hj => hall j (by omega))
  simp only [Int.toNat_natCast, Nat.mul_one] at *
  exact ⟨p40, cap40, cur40, by rw [e], ⟨by simpa using hcp40, by rw [e]; exact hlp40, by rw [e]; exact htp40⟩, hw.sub (List.Sublist.cons _ (List.Sublist.cons_cons _ (List.Sublist.refl _)))⟩
set_option maxHeartbeats 400000 in
/-- spec.l5New -/
theorem l5New_ok (B : Nat) (w0 : World) (hs : List (Nat × Obj)) (w : World) (hw : Own B w0 hs w) :
    Calls Tryz.prog 42 [].toArray w fun en w' => ∃ q c : Nat, en = .returned (.agg #[.slice (some ⟨q, 0, none⟩) 997 997, .slice (some ⟨c, 0, none⟩) 1 1]) ∧ Own B w0 (tabL 110 3 112 q c (List.replicate 997 none) [] ++ hs) w' := by
 refine fnStartC (Own B w0 hs) (n := 4) (e := []) Tryz.func42 rfl rfl rfl rfl Ends.both hw ?_
 refine Wk.seq ?_
 refine Wk.region ?_
 refine Ll.alloc rfl rfl rfl rfl Tryz.zeroValue72 fun p0 hp0 => ?_
 show Ll _ _ (Own _ _ (bk_ p0 #[.slice none 0 0, .slice none 0 0] 72 :: hs)) _ _ ((0, pt_ p0) :: _) _ _ _
 refine Ll.nil ?_
 refine Kt.sel [0] [_] rfl ?_
 refine Wk.seq ?_
 refine Wk.region ?_
 refine Ll.make (k := 997) Base.elem70 Tryz.zeroValue110 rfl rfl rfl rfl rfl (by omega) fun p1 hp1 => ?_
 rw [show madeCells (Value.cells (.slice none 0 0)) (997 * 1) = (List.replicate 997 (.slice none 0 0)).toArray from made_list _ _ rfl]
 refine Ll.slice (xs := [.const (i6_ 0)]) (vs := [i6_ 0]) Base.elem28 rfl rfl rfl rfl rfl rfl (by decide) rfl fun p2 hp2 => ?_
 refine Ll.op (v := .agg #[sl_ p1 997 997, sl_ p2 1 1]) rfl rfl rfl (OpQ.build (xs := [.tmp 1, .tmp 2]) (vs := [sl_ p1 997 997, sl_ p2 1 1]) rfl rfl (by kernel_rfl)) ?_
 refine Ll.storeBox (cs' := #[sl_ p1 997 997, sl_ p2 1 1]) (hs' := (_ :: _ :: bk_ p0 #[sl_ p1 997 997, sl_ p2 1 1] 72 :: hs)) 2 rfl rfl rfl rfl rfl (by kernel_rfl : _ = some Tryz.t72) rfl rfl rfl rfl rfl ?_
 refine Ll.nil ?_
 refine Kt.sel [0] [_] rfl ?_
 refine Wk.ret (Kt.endBox (cs := #[sl_ p1 997 997, sl_ p2 1 1]) 2 rfl rfl rfl Tryz.isAgg72 Tryz.sizeOf72 fun w' hw => ?_)
 refine ⟨p1, p2, rfl, ?_⟩
 show Own B w0 (_ :: _ :: (blks _ _ ++ hs)) w'
 rw [blks_new, ← new_bkts]
 exact (hw.perm (List.Perm.swap _ _ _)).sub (List.Sublist.cons_cons _ (List.Sublist.cons_cons _ (List.Sublist.cons _ (List.Sublist.refl _))))
set_option maxHeartbeats 400000 in
/-- spec.l5Number|nil -/
theorem number_nil (B : Nat) (w0 : World) (hs : List (Nat × Obj)) (q c : Nat) (bs : List Bkt) (T : List (List UInt8)) (s : List UInt8) (w : World) (hT : TabOk bs T) (hlT : T.length ≤ 1000000) (hls : s.length ≤ 1000) (hb : bs.getD (hashS s) none = none) (hw : Own B w0 (bk_ q ((bs.map bktV).toArray) 110 :: bk_ c #[i6_ ((T.length : Int))] 3 :: hs) w) :
    Calls Tryz.prog 65 [.agg #[sl_ q 997 997, sl_ c 1 1], str s].toArray w fun en w' => en = .returned (.int .i64 (T.length : Int)) ∧ s ∉ T ∧ ∃ (g' cap' : Nat) (cur' : Array Value), cur'.size = cap' * 2 ∧ 1 ≤ cap' ∧ cur'.toList.take (1 * 2) = entC (s, T.length) ∧ Own B w0 ((g', .cells cur' 112 (0, 0)) :: (q, .cells ((bs.set (hashS s) (some (g', 1, cap', cur'))).map bktV).toArray 110 (0, 0)) :: (c, .cells #[.int .i64 ((T.length : Int) + 1)] 3 (0, 0)) :: hs) w' := by
 refine fnStartC (Own B w0 (bk_ q ((bs.map bktV).toArray) 110 :: bk_ c #[i6_ ((T.length : Int))] 3 :: hs)) (n := 77) (e := [(0, .agg #[sl_ q 997 997, sl_ c 1 1]), (1, str s)]) Tryz.func65 rfl rfl rfl rfl Ends.both hw ?_
 have h997 := hash_lt s
 have hkl : hashS s < bs.length := by rw [hT.len]; exact h997
 have hE := hT.no _ h997 hb
 have hEl : (ents T (hashS s)).length = 0 := by rw [hE]; rfl
 refine Wk.seq ?_
 refine Wk.region ?_
 refine Ll.box (v := .agg #[sl_ q 997 997, sl_ c 1 1]) rfl rfl rfl rfl rfl fun p2 hp2 => ?_
 show Ll _ _ (Own _ _ (_ :: _ :: _ :: hs)) _ _ ((2, pt_ p2) :: _) _ _ _
 refine Ll.run 1 rfl ?_
 refine Ll.nil ?_
 refine Kt.sel [1, 2] [_, _] rfl ?_
 refine Wk.seq ?_
 refine Wk.regionQ ?_
 refine Lq.run 1 rfl ?_
 refine Lq.nil ?_
 refine Kt.sel [1, 2, 5] [_, _, _] rfl ?_
 refine Wk.seq ?_
 refine Wk.seq ?_
 refine Wk.regionQ ?_
 refine Lq.run 1 rfl ?_
 refine Lq.nil ?_
 refine Kt.sel [1, 2, 5, 6] [_, _, _, _] rfl ?_
 refine Wk.block ?_
 refine Wk.loop (σ := Nat) (fun k => k ≤ s.length) (fun k => [(1, str s), (2, pt_ p2), (5, i6_ (((hashS (s.take k) : Nat) : Int))), (6, i6_ ((k : Int)))]) (fun k => Own B w0 (bk_ p2 #[sl_ q 997 997, sl_ c 1 1] 72 :: bk_ q ((bs.map bktV).toArray) 110 :: bk_ c #[i6_ ((T.length : Int))] 3 :: hs)) (fun k => s.length - k) (0) (by omega) (Sub.cons rfl (Sub.cons rfl (Sub.cons rfl (Sub.sel [6] rfl)))) (fun _ h => h) ?_
 rintro k hk
 refine Wk.seq ?_
 refine Wk.seq ?_
 refine Wk.regionQ ?_
 refine Lq.run 2 rfl ?_
 refine Lq.op (v := i6_ ((s.length : Int))) rfl rfl rfl (OpQ.lenStr rfl Tryz.runUnderlying9 rfl) ?_
 refine Lq.run 1 rfl ?_
 refine Lq.nil ?_
 refine Kt.sel [1, 2, 5, 6, 12] [_, _, _, _, _] rfl ?_
 refine Wk.cond (b := decide (((k : Int)) < ((s.length : Int)))) rfl (fun h12 => ?_) (fun h12 => ?_)
 ·
  replace h12 := of_decide_eq_true h12
  have hk2 : k < s.length := by omega
  have hkh := hash_lt (s.take k)
  have hby := UInt8.toNat_lt (s.getD k 0)
  refine Wk.skip ?_
  refine Kt.sel [1, 2, 5, 6] [_, _, _, _] rfl ?_
  refine Wk.seq ?_
  refine Wk.block ?_
  refine Wk.regionQ ?_
  refine Lq.run 1 rfl ?_
  refine Lq.op rfl rfl rfl (OpQ.mul rfl rfl rfl (by omega) (by omega)) ?_
  refine Lq.run 2 rfl ?_
  refine Lq.op (v := .int .u8 (((s.getD (((k : Int)).toNat) 0).toNat : Int))) rfl rfl rfl (OpQ.indexStr rfl Tryz.runUnderlying9 rfl rfl (by omega) (by omega)) ?_
  refine Lq.op (v := i6_ (((s.getD (((k : Int)).toNat) 0).toNat : Int))) rfl rfl rfl (OpQ.convInt .i64 rfl Tryz.underlying5 Tryz.underlying3 rfl (IntWalk.i64_in _ (by have := UInt8.toNat_lt (s.getD (((k : Int)).toNat) 0); omega))) ?_
  refine Lq.op rfl rfl rfl (OpQ.add rfl rfl rfl (by simp only [Int.toNat_natCast]; omega) (by simp only [Int.toNat_natCast]; omega)) ?_
  refine Lq.op (v := i6_ (((hashS (s.take (k + 1)) : Nat) : Int))) rfl rfl rfl (OpQ.cast (by rw [Wk.hash_step hk2]; simp) (OpQ.rem rfl rfl rfl (by omega) (by decide))) ?_
  refine Lq.run 1 rfl ?_
  refine Lq.nil ?_
  refine Kt.sel [1, 2, 5, 6] [_, _, _, _] rfl ?_
  refine Wk.regionQ ?_
  refine Lq.run 1 rfl ?_
  refine Lq.op rfl rfl rfl (OpQ.add rfl rfl rfl (by omega) (by omega)) ?_
  refine Lq.run 1 rfl ?_
  refine Lq.nil ?_
  refine Kt.again (k + 1) (by omega) (by omega) (Sub.sel [1, 2, 5, 6] rfl) (fun _ h => h)
 ·
  replace h12 := of_decide_eq_false h12
  obtain rfl : k = s.length := by omega
  rw [List.take_length]
  refine Wk.exit rfl ?_
  refine Kt.sel [1, 2, 5] [_, _, _] rfl ?_
  refine Wk.seq ?_
  refine Wk.seq ?_
  refine Wk.regionQ ?_
  refine Lq.run 1 rfl ?_
  refine Lq.nil ?_
  refine Kt.sel [1, 2, 5, 7] [_, _, _, _] rfl ?_
  refine Wk.block ?_
  refine Wk.loop (σ := Nat) (fun j => j ≤ 0 ∧ ∀ i : Nat, i < j → ¬ ((ents T (hashS s)).getD i ([], 0)).1 = s) (fun j => [(1, str s), (2, pt_ p2), (5, i6_ (((hashS s : Nat) : Int))), (7, i6_ ((j : Int)))]) (fun j => Own B w0 (bk_ p2 #[sl_ q 997 997, sl_ c 1 1] 72 :: bk_ q ((bs.map bktV).toArray) 110 :: bk_ c #[i6_ ((T.length : Int))] 3 :: hs)) (fun j => 0 - j) (0) ⟨by omega, fun i hi => absurd hi (by omega)⟩ (Sub.sel [1, 2, 5, 7] rfl) (fun _ h => h) ?_
  rintro j ⟨hj0, hall⟩
  refine Wk.seq ?_
  refine Wk.seq ?_
  refine Wk.regionQ ?_
  refine Lq.run 1 rfl ?_
  refine Lq.op rfl rfl rfl (OpQ.fieldAddr rfl Tryz.runUnderlying72 rfl Tryz.sizeOf70 rfl rfl) ?_
  refine Lq.op rfl rfl rfl (OpQ.loadOwn 0 rfl Tryz.isAgg70 rfl rfl rfl) ?_
  refine Lq.run 1 rfl ?_
  refine Lq.op (v := pf_ q (hashS s)) rfl rfl rfl (OpQ.cast (by simp) (OpQ.indexAddr1 rfl Tryz.runUnderlying70 Tryz.sizeOf110 rfl rfl (by omega) (by omega))) ?_
  refine Lq.op (v := .slice none 0 0) rfl rfl rfl (OpQ.loadAt (v := .slice none 0 0) 1 rfl Tryz.isAgg110 rfl rfl (bkt_at (b := none) hkl hb)) ?_
  refine Lq.op rfl rfl rfl (OpQ.lenS rfl Tryz.runUnderlying110 rfl) ?_
  refine Lq.run 1 rfl ?_
  refine Lq.nil ?_
  refine Kt.sel [1, 2, 5, 7, 30] [_, _, _, _, _] rfl ?_
  refine Wk.cond (b := decide (((j : Int)) < ((0 : Int)))) rfl (fun h30 => ?_) (fun h30 => ?_)
  ·
   replace h30 := of_decide_eq_true h30
   omega
  ·
   replace h30 := of_decide_eq_false h30
   refine Wk.exit rfl ?_
   refine Kt.sel [1, 2, 5] [_, _, _] rfl ?_
   refine Wk.seq ?_
   refine Wk.regionQ ?_
   refine Lq.op rfl rfl rfl (OpQ.fieldAddr rfl Tryz.runUnderlying72 rfl Tryz.sizeOf28 rfl rfl) ?_
   refine Lq.op rfl rfl rfl (OpQ.loadOwn 0 rfl Tryz.isAgg28 rfl rfl rfl) ?_
   refine Lq.op (v := pt_ c) rfl rfl rfl (OpQ.cast rfl (OpQ.indexAddr1 (i := 0) rfl Tryz.runUnderlying28 Tryz.sizeOf3 rfl rfl (by decide) (by decide))) ?_
   refine Lq.op rfl rfl rfl (OpQ.loadOwn 2 rfl Tryz.isAgg3 rfl rfl rfl) ?_
   refine Lq.run 1 rfl ?_
   refine Lq.nil ?_
   refine Kt.sel [1, 2, 5, 8] [_, _, _, _] rfl ?_
   refine Wk.seq ?_
   refine Wk.region ?_
   refine Ll.op rfl rfl rfl (OpQ.fieldAddr rfl Tryz.runUnderlying72 rfl Tryz.sizeOf28 rfl rfl) ?_
   refine Ll.op rfl rfl rfl (OpQ.loadOwn 0 rfl Tryz.isAgg28 rfl rfl rfl) ?_
   refine Ll.run 1 rfl ?_
   refine Ll.op rfl rfl rfl (OpQ.add rfl rfl rfl (by omega) (by omega)) ?_
   refine Ll.op (v := pt_ c) rfl rfl rfl (OpQ.cast rfl (OpQ.indexAddr1 (i := 0) rfl Tryz.runUnderlying28 Tryz.sizeOf3 rfl rfl (by decide) (by decide))) ?_
   refine Ll.store1 (v := i6_ (((T.length : Int)) + (1 : Int))) (hs' := (_ :: _ :: bk_ c #[i6_ (((T.length : Int)) + (1 : Int))] 3 :: hs)) 2 rfl rfl rfl rfl rfl rfl Tryz.sizeOf3 rfl (by simp) rfl ?_
   refine Ll.nil ?_
   refine Kt.sel [1, 2, 5, 8] [_, _, _, _] rfl ?_
   refine Wk.seq ?_
   refine Wk.regionT (S := Own B w0 [bk_ p2 #[sl_ q 997 997, sl_ c 1 1] 72, bk_ c #[i6_ (((T.length : Int)) + (1 : Int))] 3]) (.take 0 (.take 1 (.take 2 (.take 3 (.take 4 (.take 5 (.take 6 (.take 8 (.take 9 (.take 10 (.two 7 (.one 11 (.one 12 (.take 13 (.one 14 .done)))) 11 (.one 7 (.one 12 (.take 13 (.one 14 .done))))))))))))))) Base.mixed (fun _ h => h.drawn) (by kernel_rfl) ?_
   refine Lt.take rfl rfl rfl rfl rfl (OpQ.fieldAddr rfl Tryz.runUnderlying72 rfl Tryz.sizeOf70 rfl rfl) (pk [0, 2] rfl rfl) ?_
   refine Lt.take rfl rfl rfl rfl rfl (OpQ.loadOwn 0 rfl Tryz.isAgg70 rfl rfl rfl) (pk [0, 2] rfl rfl) ?_
   refine Lt.run 1 rfl (pk [0, 2] rfl rfl) ?_
   refine Lt.take rfl rfl rfl rfl rfl (OpQ.fieldAddr rfl Tryz.runUnderlying72 rfl Tryz.sizeOf70 rfl rfl) (pk [0, 2] rfl rfl) ?_
   refine Lt.take rfl rfl rfl rfl rfl (OpQ.loadOwn 0 rfl Tryz.isAgg70 rfl rfl rfl) (pk [0, 2] rfl rfl) ?_
   refine Lt.run 1 rfl (pk [0, 2] rfl rfl) ?_
   refine Lt.take (v := pf_ q (hashS s)) rfl rfl rfl rfl rfl (OpQ.cast (by simp) (OpQ.indexAddr1 rfl Tryz.runUnderlying70 Tryz.sizeOf110 rfl rfl (by omega) (by omega))) (pk [0, 2] rfl rfl) ?_
   refine Lt.run 2 rfl (pk [0, 2] rfl rfl) ?_
   refine Lt.take (v := .agg #[str s, i6_ ((T.length : Int))]) rfl rfl rfl rfl rfl (OpQ.build (xs := [.tmp 70, .tmp 71]) (vs := [str s, i6_ ((T.length : Int))]) rfl rfl (by kernel_rfl)) (pk [0, 2] rfl rfl) ?_
   refine Lt.two rfl rfl ?_ ?_
   ·
    refine Ll.op (v := .slice none 0 0) rfl rfl rfl (OpQ.loadAt (v := .slice none 0 0) 1 rfl Tryz.isAgg110 rfl rfl (bkt_at (b := none) hkl hb)) ?_
    refine Ll.nil (Lt.joint (pk [0, 2] rfl rfl) ?_)
    refine Lt.loud rfl ?_
    refine Ll.slice2 Base.elem110 rfl rfl rfl rfl rfl fun p73 hp73 => ?_
    refine Ll.nil (Lt.joint (pk [1, 3] rfl rfl) ?_)
    refine Lt.loud rfl ?_
    refine Ll.appendNil Base.elem110 (entC (s, T.length)) rfl rfl rfl rfl rfl rfl (by decide) (by simp) rfl (fun w1 hw1 ad had j u hj => by injection had with had; subst had; rw [Addr.add_lit, Nat.zero_add, hw1.cell (i := 0) rfl]; simpa [entC] using hj) (by decide) fun g2 cap2 cur2 hg2 hcg2 hlg2 htg2 => ?_
    show Ll _ _ (Own _ _ (_ :: _ :: _ :: _ :: _ :: hs)) _ _ ((74, sl_ g2 1 cap2) :: _) _ _ _
    refine Ll.nil (Lt.joint (pk [2, 4] rfl rfl) ?_)
    refine Lt.take (v := pf_ q (hashS s)) rfl rfl rfl rfl rfl (OpQ.cast (by simp) (OpQ.indexAddr1 rfl Tryz.runUnderlying70 Tryz.sizeOf110 rfl rfl (by omega) (by omega))) (pk [2, 4] rfl rfl) ?_
    refine Lt.loud rfl ?_
    refine Ll.store1 (v := sl_ g2 1 cap2) (hs' := (_ :: _ :: _ :: bk_ q (((bs.set (hashS s) (some (g2, 1, cap2, cur2))).map bktV).toArray) 110 :: _ :: hs)) 3 rfl rfl rfl rfl rfl rfl Tryz.sizeOf110 rfl (by simpa using hkl) (by rw [← set_bkt]; rfl) ?_
    refine Ll.nil (Lt.joint (pk [2, 4] rfl rfl) ?_)
    refine Lt.nil ?_
    refine Kt.sel [8] [_] rfl ?_
    refine Wk.seq ?_
    refine Wk.regionQ ?_
    refine Lq.run 2 rfl ?_
    refine Lq.nil ?_
    refine Kt.sel [4] [_] rfl ?_
    refine Wk.ret (Kt.end1 rfl rfl fun w' hw => ?_)
    exact ⟨rfl, ents_not (fun e he => by obtain ⟨i, hi, rfl⟩ := List.mem_iff_getElem.1 he; have := hall i (by omega); rwa [getD_at hi] at this), g2, cap2, cur2, hcg2, hlg2, htg2, hw.sub (List.Sublist.cons_cons _ (List.Sublist.cons _ (List.Sublist.cons _ (List.Sublist.cons_cons _ (List.Sublist.cons_cons _ (List.Sublist.refl _))))))⟩
   ·
    refine Ll.slice2 Base.elem110 rfl rfl rfl rfl rfl fun p73_1 hp73_1 => ?_
    refine Ll.nil (Lt.joint (pk [1, 3] rfl rfl) ?_)
    refine Lt.loud rfl ?_
    refine Ll.op (v := .slice none 0 0) rfl rfl rfl (OpQ.loadAt (v := .slice none 0 0) 2 rfl Tryz.isAgg110 rfl rfl (bkt_at (b := none) hkl hb)) ?_
    refine Ll.nil (Lt.joint (pk [1, 3] rfl rfl) ?_)
    refine Lt.loud rfl ?_
    refine Ll.appendNil Base.elem110 (entC (s, T.length)) rfl rfl rfl rfl rfl rfl (by decide) (by simp) rfl (fun w1 hw1 ad had j u hj => by injection had with had; subst had; rw [Addr.add_lit, Nat.zero_add, hw1.cell (i := 0) rfl]; simpa [entC] using hj) (by decide) fun g2_1 cap2_1 cur2_1 hg2_1 hcg2_1 hlg2_1 htg2_1 => ?_
    show Ll _ _ (Own _ _ (_ :: _ :: _ :: _ :: _ :: hs)) _ _ ((74, sl_ g2_1 1 cap2_1) :: _) _ _ _
    refine Ll.nil (Lt.joint (pk [2, 4] rfl rfl) ?_)
    refine Lt.take (v := pf_ q (hashS s)) rfl rfl rfl rfl rfl (OpQ.cast (by simp) (OpQ.indexAddr1 rfl Tryz.runUnderlying70 Tryz.sizeOf110 rfl rfl (by omega) (by omega))) (pk [2, 4] rfl rfl) ?_
    refine Lt.loud rfl ?_
    refine Ll.store1 (v := sl_ g2_1 1 cap2_1) (hs' := (_ :: _ :: _ :: bk_ q (((bs.set (hashS s) (some (g2_1, 1, cap2_1, cur2_1))).map bktV).toArray) 110 :: _ :: hs)) 3 rfl rfl rfl rfl rfl rfl Tryz.sizeOf110 rfl (by simpa using hkl) (by rw [← set_bkt]; rfl) ?_
    refine Ll.nil (Lt.joint (pk [2, 4] rfl rfl) ?_)
    refine Lt.nil ?_
    refine Kt.sel [8] [_] rfl ?_
    refine Wk.seq ?_
    refine Wk.regionQ ?_
    refine Lq.run 2 rfl ?_
    refine Lq.nil ?_
    refine Kt.sel [4] [_] rfl ?_
    refine Wk.ret (Kt.end1 rfl rfl fun w' hw => ?_)
    exact ⟨rfl, ents_not (fun e he => by obtain ⟨i, hi, rfl⟩ := List.mem_iff_getElem.1 he; have := hall i (by omega); rwa [getD_at hi] at this), g2_1, cap2_1, cur2_1, hcg2_1, hlg2_1, htg2_1, hw.sub (List.Sublist.cons_cons _ (List.Sublist.cons _ (List.Sublist.cons _ (List.Sublist.cons_cons _ (List.Sublist.cons_cons _ (List.Sublist.refl _))))))⟩
set_option maxHeartbeats 400000 in
/-- spec.l5Number|some -/
theorem number_some (B : Nat) (w0 : World) (hs : List (Nat × Obj)) (q c : Nat) (bs : List Bkt) (T : List (List UInt8)) (s : List UInt8) (w : World) (hT : TabOk bs T) (hlT : T.length ≤ 1000000) (hls : s.length ≤ 1000) (g m cap : Nat) (cur : Array Value) (hb : bs.getD (hashS s) none = some (g, m, cap, cur)) (hw : Own B w0 (bk_ g cur 112 :: bk_ q ((bs.map bktV).toArray) 110 :: bk_ c #[i6_ ((T.length : Int))] 3 :: hs) w) :
    Calls Tryz.prog 65 [.agg #[sl_ q 997 997, sl_ c 1 1], str s].toArray w fun en w' => (∃ n : Nat, en = .returned (.int .i64 (n : Int)) ∧ T[n]? = some s ∧ Own B w0 (bk_ g cur 112 :: bk_ q ((bs.map bktV).toArray) 110 :: bk_ c #[i6_ ((T.length : Int))] 3 :: hs) w') ∨ (en = .returned (.int .i64 (T.length : Int)) ∧ s ∉ T ∧ ∃ (g' cap' : Nat) (cur' : Array Value), cur'.size = cap' * 2 ∧ m + 1 ≤ cap' ∧ cur'.toList.take ((m + 1) * 2) = flatE (ents T (hashS s)) ++ entC (s, T.length) ∧ Own B w0 ((g', .cells cur' 112 (0, 0)) :: (q, .cells ((bs.set (hashS s) (some (g', m + 1, cap', cur'))).map bktV).toArray 110 (0, 0)) :: (c, .cells #[.int .i64 ((T.length : Int) + 1)] 3 (0, 0)) :: hs) w') := by
 refine fnStartC (Own B w0 (bk_ g cur 112 :: bk_ q ((bs.map bktV).toArray) 110 :: bk_ c #[i6_ ((T.length : Int))] 3 :: hs)) (n := 77) (e := [(0, .agg #[sl_ q 997 997, sl_ c 1 1]), (1, str s)]) Tryz.func65 rfl rfl rfl rfl Ends.both hw ?_
 have h997 := hash_lt s
 have hkl : hashS s < bs.length := by rw [hT.len]; exact h997
 obtain ⟨hm, hc, hle, ht⟩ := hT.yes _ h997 _ _ _ _ hb
 have hmT := ents_le T (hashS s)
 refine Wk.seq ?_
 refine Wk.region ?_
 refine Ll.box (v := .agg #[sl_ q 997 997, sl_ c 1 1]) rfl rfl rfl rfl rfl fun p2 hp2 => ?_
 show Ll _ _ (Own _ _ (_ :: _ :: _ :: _ :: hs)) _ _ ((2, pt_ p2) :: _) _ _ _
 refine Ll.run 1 rfl ?_
 refine Ll.nil ?_
 refine Kt.sel [1, 2] [_, _] rfl ?_
 refine Wk.seq ?_
 refine Wk.regionQ ?_
 refine Lq.run 1 rfl ?_
 refine Lq.nil ?_
 refine Kt.sel [1, 2, 5] [_, _, _] rfl ?_
 refine Wk.seq ?_
 refine Wk.seq ?_
 refine Wk.regionQ ?_
 refine Lq.run 1 rfl ?_
 refine Lq.nil ?_
 refine Kt.sel [1, 2, 5, 6] [_, _, _, _] rfl ?_
 refine Wk.block ?_
 refine Wk.loop (σ := Nat) (fun k => k ≤ s.length) (fun k => [(1, str s), (2, pt_ p2), (5, i6_ (((hashS (s.take k) : Nat) : Int))), (6, i6_ ((k : Int)))]) (fun k => Own B w0 (bk_ p2 #[sl_ q 997 997, sl_ c 1 1] 72 :: bk_ g cur 112 :: bk_ q ((bs.map bktV).toArray) 110 :: bk_ c #[i6_ ((T.length : Int))] 3 :: hs)) (fun k => s.length - k) (0) (by omega) (Sub.cons rfl (Sub.cons rfl (Sub.cons rfl (Sub.sel [6] rfl)))) (fun _ h => h) ?_
 rintro k hk
 refine Wk.seq ?_
 refine Wk.seq ?_
 refine Wk.regionQ ?_
 refine Lq.run 2 rfl ?_
 refine Lq.op (v := i6_ ((s.length : Int))) rfl rfl rfl (OpQ.lenStr rfl Tryz.runUnderlying9 rfl) ?_
 refine Lq.run 1 rfl ?_
 refine Lq.nil ?_
 refine Kt.sel [1, 2, 5, 6, 12] [_, _, _, _, _] rfl ?_
 refine Wk.cond (b := decide (((k : Int)) < ((s.length : Int)))) rfl (fun h12 => ?_) (fun h12 => ?_)
 ·
  replace h12 := of_decide_eq_true h12
  have hk2 : k < s.length := by omega
  have hkh := hash_lt (s.take k)
  have hby := UInt8.toNat_lt (s.getD k 0)
  refine Wk.skip ?_
  refine Kt.sel [1, 2, 5, 6] [_, _, _, _] rfl ?_
  refine Wk.seq ?_
  refine Wk.block ?_
  refine Wk.regionQ ?_
  refine Lq.run 1 rfl ?_
  refine Lq.op rfl rfl rfl (OpQ.mul rfl rfl rfl (by omega) (by omega)) ?_
  refine Lq.run 2 rfl ?_
  refine Lq.op (v := .int .u8 (((s.getD (((k : Int)).toNat) 0).toNat : Int))) rfl rfl rfl (OpQ.indexStr rfl Tryz.runUnderlying9 rfl rfl (by omega) (by omega)) ?_
  refine Lq.op (v := i6_ (((s.getD (((k : Int)).toNat) 0).toNat : Int))) rfl rfl rfl (OpQ.convInt .i64 rfl Tryz.underlying5 Tryz.underlying3 rfl (IntWalk.i64_in _ (by have := UInt8.toNat_lt (s.getD (((k : Int)).toNat) 0); omega))) ?_
  refine Lq.op rfl rfl rfl (OpQ.add rfl rfl rfl (by simp only [Int.toNat_natCast]; omega) (by simp only [Int.toNat_natCast]; omega)) ?_
  refine Lq.op (v := i6_ (((hashS (s.take (k + 1)) : Nat) : Int))) rfl rfl rfl (OpQ.cast (by rw [Wk.hash_step hk2]; simp) (OpQ.rem rfl rfl rfl (by omega) (by decide))) ?_
  refine Lq.run 1 rfl ?_
  refine Lq.nil ?_
  refine Kt.sel [1, 2, 5, 6] [_, _, _, _] rfl ?_
  refine Wk.regionQ ?_
  refine Lq.run 1 rfl ?_
  refine Lq.op rfl rfl rfl (OpQ.add rfl rfl rfl (by omega) (by omega)) ?_
  refine Lq.run 1 rfl ?_
  refine Lq.nil ?_
  refine Kt.again (k + 1) (by omega) (by omega) (Sub.sel [1, 2, 5, 6] rfl) (fun _ h => h)
 ·
  replace h12 := of_decide_eq_false h12
  obtain rfl : k = s.length := by omega
  rw [List.take_length]
  refine Wk.exit rfl ?_
  refine Kt.sel [1, 2, 5] [_, _, _] rfl ?_
  refine Wk.seq ?_
  refine Wk.seq ?_
  refine Wk.regionQ ?_
  refine Lq.run 1 rfl ?_
  refine Lq.nil ?_
  refine Kt.sel [1, 2, 5, 7] [_, _, _, _] rfl ?_
  refine Wk.block ?_
  refine Wk.loop (σ := Nat) (fun j => j ≤ m ∧ ∀ i : Nat, i < j → ¬ ((ents T (hashS s)).getD i ([], 0)).1 = s) (fun j => [(1, str s), (2, pt_ p2), (5, i6_ (((hashS s : Nat) : Int))), (7, i6_ ((j : Int)))]) (fun j => Own B w0 (bk_ p2 #[sl_ q 997 997, sl_ c 1 1] 72 :: bk_ g cur 112 :: bk_ q ((bs.map bktV).toArray) 110 :: bk_ c #[i6_ ((T.length : Int))] 3 :: hs)) (fun j => m - j) (0) ⟨by omega, fun i hi => absurd hi (by omega)⟩ (Sub.sel [1, 2, 5, 7] rfl) (fun _ h => h) ?_
  rintro j ⟨hj0, hall⟩
  refine Wk.seq ?_
  refine Wk.seq ?_
  refine Wk.regionQ ?_
  refine Lq.run 1 rfl ?_
  refine Lq.op rfl rfl rfl (OpQ.fieldAddr rfl Tryz.runUnderlying72 rfl Tryz.sizeOf70 rfl rfl) ?_
  refine Lq.op rfl rfl rfl (OpQ.loadOwn 0 rfl Tryz.isAgg70 rfl rfl rfl) ?_
  refine Lq.run 1 rfl ?_
  refine Lq.op (v := pf_ q (hashS s)) rfl rfl rfl (OpQ.cast (by simp) (OpQ.indexAddr1 rfl Tryz.runUnderlying70 Tryz.sizeOf110 rfl rfl (by omega) (by omega))) ?_
  refine Lq.op (v := sl_ g m cap) rfl rfl rfl (OpQ.loadAt (v := sl_ g m cap) 2 rfl Tryz.isAgg110 rfl rfl (bkt_at (b := some (g, m, cap, cur)) hkl hb)) ?_
  refine Lq.op rfl rfl rfl (OpQ.lenS rfl Tryz.runUnderlying110 rfl) ?_
  refine Lq.run 1 rfl ?_
  refine Lq.nil ?_
  refine Kt.sel [1, 2, 5, 7, 30] [_, _, _, _, _] rfl ?_
  refine Wk.cond (b := decide (((j : Int)) < ((m : Int)))) rfl (fun h30 => ?_) (fun h30 => ?_)
  ·
   replace h30 := of_decide_eq_true h30
   have hj : j < m := by omega
   refine Wk.skip ?_
   refine Kt.sel [1, 2, 5, 7] [_, _, _, _] rfl ?_
   refine Wk.seq ?_
   refine Wk.block ?_
   refine Wk.seq ?_
   refine Wk.regionQ ?_
   refine Lq.op rfl rfl rfl (OpQ.fieldAddr rfl Tryz.runUnderlying72 rfl Tryz.sizeOf70 rfl rfl) ?_
   refine Lq.op rfl rfl rfl (OpQ.loadOwn 0 rfl Tryz.isAgg70 rfl rfl rfl) ?_
   refine Lq.run 1 rfl ?_
   refine Lq.op (v := pf_ q (hashS s)) rfl rfl rfl (OpQ.cast (by simp) (OpQ.indexAddr1 rfl Tryz.runUnderlying70 Tryz.sizeOf110 rfl rfl (by omega) (by omega))) ?_
   refine Lq.op (v := sl_ g m cap) rfl rfl rfl (OpQ.loadAt (v := sl_ g m cap) 2 rfl Tryz.isAgg110 rfl rfl (bkt_at (b := some (g, m, cap, cur)) hkl hb)) ?_
   refine Lq.run 1 rfl ?_
   refine Lq.op (v := pf_ g (j * 2)) rfl rfl rfl (OpQ.cast (v' := pf_ g (j * 2)) (by simp) (OpQ.indexAddr (i := (j : Int)) rfl Tryz.runUnderlying110 Tryz.sizeOf112 rfl rfl (by omega) (by omega))) ?_
   refine Lq.op rfl rfl rfl (OpQ.fieldAddr rfl Tryz.runUnderlying112 rfl Tryz.sizeOf9 rfl rfl) ?_
   refine Lq.op (v := str (((ents T (hashS s)).getD j ([], 0)).1)) rfl rfl rfl (OpQ.loadAt (v := str (((ents T (hashS s)).getD j ([], 0)).1)) 1 rfl Tryz.isAgg9 rfl rfl (ent_at ht hm hj).1) ?_
   refine Lq.run 1 rfl ?_
   refine Lq.op rfl rfl rfl (OpQ.seql rfl rfl rfl) ?_
   refine Lq.nil ?_
   refine Kt.sel [1, 2, 5, 7, 43] [_, _, _, _, _] rfl ?_
   refine Wk.cond (b := (((ents T (hashS s)).getD j ([], 0)).1) == s) rfl (fun h43 => ?_) (fun h43 => ?_)
   ·
    refine Wk.seq ?_
    refine Wk.regionQ ?_
    refine Lq.op rfl rfl rfl (OpQ.fieldAddr rfl Tryz.runUnderlying72 rfl Tryz.sizeOf70 rfl rfl) ?_
    refine Lq.op rfl rfl rfl (OpQ.loadOwn 0 rfl Tryz.isAgg70 rfl rfl rfl) ?_
    refine Lq.run 1 rfl ?_
    refine Lq.op (v := pf_ q (hashS s)) rfl rfl rfl (OpQ.cast (by simp) (OpQ.indexAddr1 rfl Tryz.runUnderlying70 Tryz.sizeOf110 rfl rfl (by omega) (by omega))) ?_
    refine Lq.op (v := sl_ g m cap) rfl rfl rfl (OpQ.loadAt (v := sl_ g m cap) 2 rfl Tryz.isAgg110 rfl rfl (bkt_at (b := some (g, m, cap, cur)) hkl hb)) ?_
    refine Lq.run 1 rfl ?_
    refine Lq.op (v := pf_ g (j * 2)) rfl rfl rfl (OpQ.cast (v' := pf_ g (j * 2)) (by simp) (OpQ.indexAddr (i := (j : Int)) rfl Tryz.runUnderlying110 Tryz.sizeOf112 rfl rfl (by omega) (by omega))) ?_
    refine Lq.op rfl rfl rfl (OpQ.fieldAddr rfl Tryz.runUnderlying112 rfl Tryz.sizeOf3 rfl rfl) ?_
    refine Lq.op (v := i6_ ((((ents T (hashS s)).getD j ([], 0)).2 : Int))) rfl rfl rfl (OpQ.loadAt (v := i6_ ((((ents T (hashS s)).getD j ([], 0)).2 : Int))) 1 rfl Tryz.isAgg3 rfl rfl (ent_at ht hm hj).2) ?_
    refine Lq.run 1 rfl ?_
    refine Lq.nil ?_
    refine Kt.sel [4] [_] rfl ?_
    refine Wk.ret (Kt.end1 rfl rfl fun w' hw => ?_)
    exact .inl ⟨_, rfl, ents_mem (e := (ents T (hashS s)).getD j ([], 0)) (by rw [getD_at (by omega)]; exact List.getElem_mem _) |>.trans (by rw [show ((ents T (hashS s)).getD j ([], 0)).1 = s from by simpa using h43]), hw.sub ((List.Sublist.cons _ (List.Sublist.cons_cons _ (List.Sublist.cons_cons _ (List.Sublist.cons_cons _ (List.Sublist.refl _))))))⟩
   ·
    refine Wk.skip ?_
    refine Kt.sel [1, 2, 5, 7] [_, _, _, _] rfl ?_
    refine Wk.regionQ ?_
    refine Lq.run 1 rfl ?_
    refine Lq.op rfl rfl rfl (OpQ.add rfl rfl rfl (by omega) (by omega)) ?_
    refine Lq.run 1 rfl ?_
    refine Lq.nil ?_
    refine Kt.again (j + 1) ⟨by omega, fun i hi => (Nat.lt_succ_iff_lt_or_eq.1 hi).elim (hall i) (fun e => by subst e; simpa using h43)⟩ (by omega) (Sub.sel [1, 2, 5, 7] rfl) (fun _ h => h)
  ·
   replace h30 := of_decide_eq_false h30
   refine Wk.exit rfl ?_
   refine Kt.sel [1, 2, 5] [_, _, _] rfl ?_
   refine Wk.seq ?_
   refine Wk.regionQ ?_
   refine Lq.op rfl rfl rfl (OpQ.fieldAddr rfl Tryz.runUnderlying72 rfl Tryz.sizeOf28 rfl rfl) ?_
   refine Lq.op rfl rfl rfl (OpQ.loadOwn 0 rfl Tryz.isAgg28 rfl rfl rfl) ?_
   refine Lq.op (v := pt_ c) rfl rfl rfl (OpQ.cast rfl (OpQ.indexAddr1 (i := 0) rfl Tryz.runUnderlying28 Tryz.sizeOf3 rfl rfl (by decide) (by decide))) ?_
   refine Lq.op rfl rfl rfl (OpQ.loadOwn 3 rfl Tryz.isAgg3 rfl rfl rfl) ?_
   refine Lq.run 1 rfl ?_
   refine Lq.nil ?_
   refine Kt.sel [1, 2, 5, 8] [_, _, _, _] rfl ?_
   refine Wk.seq ?_
   refine Wk.region ?_
   refine Ll.op rfl rfl rfl (OpQ.fieldAddr rfl Tryz.runUnderlying72 rfl Tryz.sizeOf28 rfl rfl) ?_
   refine Ll.op rfl rfl rfl (OpQ.loadOwn 0 rfl Tryz.isAgg28 rfl rfl rfl) ?_
   refine Ll.run 1 rfl ?_
   refine Ll.op rfl rfl rfl (OpQ.add rfl rfl rfl (by omega) (by omega)) ?_
   refine Ll.op (v := pt_ c) rfl rfl rfl (OpQ.cast rfl (OpQ.indexAddr1 (i := 0) rfl Tryz.runUnderlying28 Tryz.sizeOf3 rfl rfl (by decide) (by decide))) ?_
   refine Ll.store1 (v := i6_ (((T.length : Int)) + (1 : Int))) (hs' := (_ :: _ :: _ :: bk_ c #[i6_ (((T.length : Int)) + (1 : Int))] 3 :: hs)) 3 rfl rfl rfl rfl rfl rfl Tryz.sizeOf3 rfl (by simp) rfl ?_
   refine Ll.nil ?_
   refine Kt.sel [1, 2, 5, 8] [_, _, _, _] rfl ?_
   refine Wk.seq ?_
   refine Wk.regionT (S := Own B w0 [bk_ p2 #[sl_ q 997 997, sl_ c 1 1] 72, bk_ c #[i6_ (((T.length : Int)) + (1 : Int))] 3]) (.take 0 (.take 1 (.take 2 (.take 3 (.take 4 (.take 5 (.take 6 (.take 8 (.take 9 (.take 10 (.two 7 (.one 11 (.one 12 (.take 13 (.one 14 .done)))) 11 (.one 7 (.one 12 (.take 13 (.one 14 .done))))))))))))))) Base.mixed (fun _ h => h.drawn) (by kernel_rfl) ?_
   refine Lt.take rfl rfl rfl rfl rfl (OpQ.fieldAddr rfl Tryz.runUnderlying72 rfl Tryz.sizeOf70 rfl rfl) (pk [0, 3] rfl rfl) ?_
   refine Lt.take rfl rfl rfl rfl rfl (OpQ.loadOwn 0 rfl Tryz.isAgg70 rfl rfl rfl) (pk [0, 3] rfl rfl) ?_
   refine Lt.run 1 rfl (pk [0, 3] rfl rfl) ?_
   refine Lt.take rfl rfl rfl rfl rfl (OpQ.fieldAddr rfl Tryz.runUnderlying72 rfl Tryz.sizeOf70 rfl rfl) (pk [0, 3] rfl rfl) ?_
   refine Lt.take rfl rfl rfl rfl rfl (OpQ.loadOwn 0 rfl Tryz.isAgg70 rfl rfl rfl) (pk [0, 3] rfl rfl) ?_
   refine Lt.run 1 rfl (pk [0, 3] rfl rfl) ?_
   refine Lt.take (v := pf_ q (hashS s)) rfl rfl rfl rfl rfl (OpQ.cast (by simp) (OpQ.indexAddr1 rfl Tryz.runUnderlying70 Tryz.sizeOf110 rfl rfl (by omega) (by omega))) (pk [0, 3] rfl rfl) ?_
   refine Lt.run 2 rfl (pk [0, 3] rfl rfl) ?_
   refine Lt.take (v := .agg #[str s, i6_ ((T.length : Int))]) rfl rfl rfl rfl rfl (OpQ.build (xs := [.tmp 70, .tmp 71]) (vs := [str s, i6_ ((T.length : Int))]) rfl rfl (by kernel_rfl)) (pk [0, 3] rfl rfl) ?_
   refine Lt.two rfl rfl ?_ ?_
   ·
    refine Ll.op (v := sl_ g m cap) rfl rfl rfl (OpQ.loadAt (v := sl_ g m cap) 2 rfl Tryz.isAgg110 rfl rfl (bkt_at (b := some (g, m, cap, cur)) hkl hb)) ?_
    refine Ll.nil (Lt.joint (pk [0, 3] rfl rfl) ?_)
    refine Lt.loud rfl ?_
    refine Ll.slice2 Base.elem110 rfl rfl rfl rfl rfl fun p73 hp73 => ?_
    refine Ll.nil (Lt.joint (pk [1, 4] rfl rfl) ?_)
    refine Lt.loud rfl ?_
    refine Ll.append Base.elem110 2 (entC (s, T.length)) rfl rfl rfl rfl rfl rfl rfl hc hle rfl (fun h => by cases h) (fun w1 hw1 ad had j u hj => by injection had with had; subst had; rw [Addr.add_lit, Nat.zero_add, hw1.cell (i := 0) rfl]; simpa [entC] using hj) (by simp [entC, str, Value.oneCell']) (by omega) fun g2 cap2 cur2 hg2 hcg2 hlg2 htg2 => ?_
    show Ll _ _ (Own _ _ (_ :: _ :: _ :: _ :: _ :: hs)) _ _ ((74, sl_ g2 ((m + 1)) cap2) :: _) _ _ _
    refine Ll.nil (Lt.joint (pk [1, 4] rfl rfl) ?_)
    refine Lt.take (v := pf_ q (hashS s)) rfl rfl rfl rfl rfl (OpQ.cast (by simp) (OpQ.indexAddr1 rfl Tryz.runUnderlying70 Tryz.sizeOf110 rfl rfl (by omega) (by omega))) (pk [1, 4] rfl rfl) ?_
    refine Lt.loud rfl ?_
    refine Ll.store1 (v := sl_ g2 ((m + 1)) cap2) (hs' := (_ :: _ :: _ :: bk_ q (((bs.set (hashS s) (some (g2, (m + 1), cap2, cur2))).map bktV).toArray) 110 :: _ :: hs)) 3 rfl rfl rfl rfl rfl rfl Tryz.sizeOf110 rfl (by simpa using hkl) (by rw [← set_bkt]; rfl) ?_
    refine Ll.nil (Lt.joint (pk [1, 4] rfl rfl) ?_)
    refine Lt.nil ?_
    refine Kt.sel [8] [_] rfl ?_
    refine Wk.seq ?_
    refine Wk.regionQ ?_
    refine Lq.run 2 rfl ?_
    refine Lq.nil ?_
    refine Kt.sel [4] [_] rfl ?_
    refine Wk.ret (Kt.end1 rfl rfl fun w' hw => ?_)
    exact .inr ⟨rfl, ents_not (fun e he => by obtain ⟨i, hi, rfl⟩ := List.mem_iff_getElem.1 he; have := hall i (by omega); rwa [getD_at hi] at this), g2, cap2, cur2, hcg2, hlg2, by rw [htg2, ht], hw.sub (List.Sublist.cons _ (List.Sublist.cons _ (List.Sublist.cons_cons _ (List.Sublist.cons_cons _ (List.Sublist.cons_cons _ (List.Sublist.refl _))))))⟩
   ·
    refine Ll.slice2 Base.elem110 rfl rfl rfl rfl rfl fun p73_1 hp73_1 => ?_
    refine Ll.nil (Lt.joint (pk [1, 4] rfl rfl) ?_)
    refine Lt.loud rfl ?_
    refine Ll.op (v := sl_ g m cap) rfl rfl rfl (OpQ.loadAt (v := sl_ g m cap) 3 rfl Tryz.isAgg110 rfl rfl (bkt_at (b := some (g, m, cap, cur)) hkl hb)) ?_
    refine Ll.nil (Lt.joint (pk [1, 4] rfl rfl) ?_)
    refine Lt.loud rfl ?_
    refine Ll.append Base.elem110 2 (entC (s, T.length)) rfl rfl rfl rfl rfl rfl rfl hc hle rfl (fun h => by cases h) (fun w1 hw1 ad had j u hj => by injection had with had; subst had; rw [Addr.add_lit, Nat.zero_add, hw1.cell (i := 0) rfl]; simpa [entC] using hj) (by simp [entC, str, Value.oneCell']) (by omega) fun g2_1 cap2_1 cur2_1 hg2_1 hcg2_1 hlg2_1 htg2_1 => ?_
    show Ll _ _ (Own _ _ (_ :: _ :: _ :: _ :: _ :: hs)) _ _ ((74, sl_ g2_1 ((m + 1)) cap2_1) :: _) _ _ _
    refine Ll.nil (Lt.joint (pk [1, 4] rfl rfl) ?_)
    refine Lt.take (v := pf_ q (hashS s)) rfl rfl rfl rfl rfl (OpQ.cast (by simp) (OpQ.indexAddr1 rfl Tryz.runUnderlying70 Tryz.sizeOf110 rfl rfl (by omega) (by omega))) (pk [1, 4] rfl rfl) ?_
    refine Lt.loud rfl ?_
    refine Ll.store1 (v := sl_ g2_1 ((m + 1)) cap2_1) (hs' := (_ :: _ :: _ :: bk_ q (((bs.set (hashS s) (some (g2_1, (m + 1), cap2_1, cur2_1))).map bktV).toArray) 110 :: _ :: hs)) 3 rfl rfl rfl rfl rfl rfl Tryz.sizeOf110 rfl (by simpa using hkl) (by rw [← set_bkt]; rfl) ?_
    refine Ll.nil (Lt.joint (pk [1, 4] rfl rfl) ?_)
    refine Lt.nil ?_
    refine Kt.sel [8] [_] rfl ?_
    refine Wk.seq ?_
    refine Wk.regionQ ?_
    refine Lq.run 2 rfl ?_
    refine Lq.nil ?_
    refine Kt.sel [4] [_] rfl ?_
    refine Wk.ret (Kt.end1 rfl rfl fun w' hw => ?_)
    exact .inr ⟨rfl, ents_not (fun e he => by obtain ⟨i, hi, rfl⟩ := List.mem_iff_getElem.1 he; have := hall i (by omega); rwa [getD_at hi] at this), g2_1, cap2_1, cur2_1, hcg2_1, hlg2_1, by rw [htg2_1, ht], hw.sub (List.Sublist.cons _ (List.Sublist.cons _ (List.Sublist.cons_cons _ (List.Sublist.cons_cons _ (List.Sublist.cons_cons _ (List.Sublist.refl _))))))⟩
end Go.Proofs.YtjcoijejhachhaaGreatDoor
namespace Go.Proofs.YtjcoijejhachhaaGreatDoor
open Go.RowKit Go.Wk
set_option linter.unusedSimpArgs false
set_option maxHeartbeats 400000 in
/-- slices.Max[[]int,int] -/
theorem slMax_ok (va : Value) (xs : List Int) (w : World) (hva : Ints w va xs) (hne : 0 < xs.length) (hs : xs.length ≤ 100000) :
    Calls Tryz.prog 19 [va].toArray w fun en w' => en = .returned (.int .i64 (maxTo xs (xs.length - 1))) ∧ Below w.heap.size w w' := by
 refine fnStart (n := 25) (e := [(0, va)]) Tryz.func19 rfl rfl rfl rfl Ends.both ?_
 refine Wk.seq ?_
 refine Wk.regionQ ?_
 refine Lq.run 1 rfl ?_
 refine Lq.nil ?_
 refine Kt.sel [0] [_] rfl ?_
 refine Wk.seq ?_
 refine Wk.seq ?_
 refine Wk.regionQ ?_
 refine Lq.run 1 rfl ?_
 refine Lq.op (v := i6_ ((xs.length : Int))) rfl rfl rfl (OpQ.lenRow rfl Tryz.runUnderlying28 rfl (ints_length _) (fun w1 hw1 => Row.own hva hw1)) ?_
 refine Lq.run 1 rfl ?_
 refine Lq.nil ?_
 refine Kt.sel [0, 7] [_, _] rfl ?_
 refine Wk.cond (b := decide (((xs.length : Int)) < (1 : Int))) rfl (fun h7 => ?_) (fun h7 => ?_)
 ·
  replace h7 := of_decide_eq_true h7
  omega
 ·
  replace h7 := of_decide_eq_false h7
  refine Wk.skip ?_
  refine Kt.sel [0] [_] rfl ?_
  refine Wk.seq ?_
  refine Wk.regionQ ?_
  refine Lq.run 1 rfl ?_
  refine Lq.op (v := .pointer (some (sAt va 0))) rfl rfl rfl (OpQ.atRow rfl Tryz.runUnderlying28 Tryz.sizeOf3 rfl rfl (by omega) (by rw [ints_length]; omega) (fun w1 hw1 => Row.own hva hw1)) ?_
  refine Lq.op (v := i6_ (xs.getD ((0 : Int).toNat) 0)) rfl rfl rfl (OpQ.load1 rfl Tryz.isAgg3 rfl (fun w1 hw1 => Ints.cell (Row.own hva hw1) (by omega) (by omega))) ?_
  refine Lq.run 1 rfl ?_
  refine Lq.nil ?_
  refine Kt.sel [0, 3] [_, _] rfl ?_
  refine Wk.seq ?_
  refine Wk.seq ?_
  refine Wk.regionQ ?_
  refine Lq.run 1 rfl ?_
  refine Lq.nil ?_
  refine Kt.sel [0, 3, 4] [_, _, _] rfl ?_
  refine Wk.block ?_
  refine Wk.loop (σ := Nat) (fun k => k + 1 ≤ xs.length) (fun k => [(0, va), (3, i6_ (maxTo xs k)), (4, i6_ ((k : Int) + 1))]) (fun k => Own w.heap.size w []) (fun k => xs.length - k) (0) (by omega) (Sub.cons rfl (Sub.cons rfl (Sub.cons rfl Sub.nil))) (fun _ h => h) ?_
  rintro k hk
  refine Wk.seq ?_
  refine Wk.seq ?_
  refine Wk.regionQ ?_
  refine Lq.run 2 rfl ?_
  refine Lq.op (v := i6_ ((xs.length : Int))) rfl rfl rfl (OpQ.lenRow rfl Tryz.runUnderlying28 rfl (ints_length _) (fun w1 hw1 => Row.own hva hw1)) ?_
  refine Lq.run 1 rfl ?_
  refine Lq.nil ?_
  refine Kt.sel [0, 3, 4, 15] [_, _, _, _] rfl ?_
  refine Wk.cond (b := decide (((k : Int) + 1) < ((xs.length : Int)))) rfl (fun h15 => ?_) (fun h15 => ?_)
  ·
   replace h15 := of_decide_eq_true h15
   refine Wk.skip ?_
   refine Kt.sel [0, 3, 4] [_, _, _] rfl ?_
   refine Wk.seq ?_
   refine Wk.block ?_
   refine Wk.regionQ ?_
   refine Lq.run 3 rfl ?_
   refine Lq.op (v := .pointer (some (sAt va ((k : Int) + 1)))) rfl rfl rfl (OpQ.atRow rfl Tryz.runUnderlying28 Tryz.sizeOf3 rfl rfl (by omega) (by rw [ints_length]; omega) (fun w1 hw1 => Row.own hva hw1)) ?_
   refine Lq.op (v := i6_ (xs.getD (k + 1) 0)) rfl rfl rfl (OpQ.cast (by rw [show ((k : Int) + 1).toNat = k + 1 from by omega]) (OpQ.load1 rfl Tryz.isAgg3 rfl (fun w1 hw1 => Ints.cell (Row.own hva hw1) (by omega) (by omega)))) ?_
   refine Lq.op (v := i6_ (if (xs.getD (k + 1) 0) > (maxTo xs k) then (xs.getD (k + 1) 0) else (maxTo xs k))) rfl rfl rfl (OpQ.max2 rfl rfl rfl) ?_
   refine Lq.run 1 rfl ?_
   refine Lq.nil ?_
   refine Kt.sel [0, 3, 4] [_, _, _] rfl ?_
   refine Wk.regionQ ?_
   refine Lq.run 1 rfl ?_
   refine Lq.op rfl rfl rfl (OpQ.add rfl rfl rfl (by omega) (by omega)) ?_
   refine Lq.run 1 rfl ?_
   refine Lq.nil ?_
   refine Kt.again (k + 1) (by omega) (by omega) (Sub.cons rfl (Sub.cons (by rw [maxTo]; rfl) (Sub.cons (by simp [List.lookup]) Sub.nil))) (fun _ h => h)
  ·
   replace h15 := of_decide_eq_false h15
   refine Wk.exit rfl ?_
   refine Kt.sel [3] [_] rfl ?_
   refine Wk.seq ?_
   refine Wk.regionQ ?_
   refine Lq.run 2 rfl ?_
   refine Lq.nil ?_
   refine Kt.sel [2] [_] rfl ?_
   refine Wk.ret (Kt.end1 rfl rfl fun w' hw => ?_)
   exact ⟨ret_i (by rw [show xs.length - 1 = k from by omega]), hw.below⟩
set_option maxHeartbeats 400000 in
/-- impl.classesBy -/
theorem classesBy_ok (N : Int) (w : World) (hN : N ≤ 100000) (F : FuncId) (caps : Array Value) (q : Nat → Nat → Bool) (hF : ∀ args w, (callFunc F args).run Tryz.prog w = .ok (.enter F args) w) (hq : ∀ w1, Below w.heap.size w w1 → ∀ y x : Nat, y < N.toNat → x < N.toNat → Calls Tryz.prog F (#[.int .i64 y, .int .i64 x] ++ caps) w1 fun en w' => en = .returned (.bool (q y x)) ∧ Below w1.heap.size w1 w') :
    Calls Tryz.prog 16 [i6_ N, .func (.func F) #[] caps].toArray w fun en w' => ∃ v, en = .returned v ∧ Below w.heap.size w w' ∧ NewRow w.heap.size 3 1 w' v (clsN q N.toNat).1.length (ints (clsN q N.toNat).1) := by
 refine fnStart (n := 39) (e := [(0, i6_ N), (1, .func (.func F) #[] caps)]) Tryz.func16 rfl rfl rfl rfl Ends.both ?_
 refine Wk.seq ?_
 refine Wk.regionQ ?_
 refine Lq.run 1 rfl ?_
 refine Lq.nil ?_
 refine Kt.sel [0, 1] [_, _] rfl ?_
 refine Wk.seq ?_
 refine Wk.region ?_
 refine Ll.slice (xs := []) (vs := []) Base.elem28 rfl rfl rfl rfl rfl rfl (by decide) rfl fun p10 hp10 => ?_
 refine Ll.run 1 rfl ?_
 refine Ll.nil ?_
 refine Kt.sel [0, 1, 5] [_, _, _] rfl ?_
 refine Wk.seq ?_
 refine Wk.regionQ ?_
 refine Lq.run 1 rfl ?_
 refine Lq.nil ?_
 refine Kt.sel [0, 1, 5, 6] [_, _, _, _] rfl ?_
 refine Wk.seq ?_
 refine Wk.seq ?_
 refine Wk.regionQ ?_
 refine Lq.run 2 rfl ?_
 refine Lq.nil ?_
 refine Kt.sel [1, 5, 6, 11, 12] [_, _, _, _, _] rfl ?_
 refine Wk.block ?_
 refine Wk.loop (σ := Nat × Nat × Nat × Array Value) (fun ⟨x, g, c, cur⟩ => x ≤ N.toNat ∧ cur.size = c * 1 ∧ (clsN q x).1.length ≤ c ∧ cur.toList.take (clsN q x).1.length = ints (clsN q x).1) (fun ⟨x, g, c, cur⟩ => [(1, .func (.func F) #[] caps), (5, sl_ g ((clsN q x).1.length) c), (6, i6_ (((clsN q x).2 : Int))), (11, i6_ N), (12, i6_ ((x : Int)))]) (fun ⟨x, g, c, cur⟩ => Own w.heap.size w [bk_ g cur 3]) (fun ⟨x, g, c, cur⟩ => N.toNat - x) ((0, p10, 0, #[])) ⟨by omega, rfl, Nat.le_refl 0, rfl⟩ (Sub.sel [1, 5, 6, 11, 12] rfl) (fun _ h => h) ?_
 rintro ⟨x, g, c, cur⟩ ⟨hx, hc, hle, ht⟩
 dsimp only
 have hxl := cls_length q x
 have hxs := (cls_small q x).1
 refine Wk.seq ?_
 refine Wk.regionQ ?_
 refine Lq.run 1 rfl ?_
 refine Lq.nil ?_
 refine Kt.sel [1, 5, 6, 11, 12, 13] [_, _, _, _, _, _] rfl ?_
 refine Wk.seq ?_
 refine Wk.cond (b := decide (((x : Int)) < N)) rfl (fun h13 => ?_) (fun h13 => ?_)
 ·
  replace h13 := of_decide_eq_true h13
  refine Wk.skip ?_
  refine Kt.sel [1, 5, 6, 11, 12] [_, _, _, _, _] rfl ?_
  refine Wk.seq ?_
  refine Wk.block ?_
  refine Wk.seq ?_
  refine Wk.regionQ ?_
  refine Lq.run 2 rfl ?_
  refine Lq.nil ?_
  refine Kt.sel [1, 5, 6, 7, 11, 12] [_, _, _, _, _, _] rfl ?_
  refine Wk.seq ?_
  refine Wk.regionQ ?_
  refine Lq.run 1 rfl ?_
  refine Lq.nil ?_
  refine Kt.sel [1, 5, 6, 7, 8, 11, 12] [_, _, _, _, _, _, _] rfl ?_
  refine Wk.seq ?_
  refine Wk.seq ?_
  refine Wk.regionQ ?_
  refine Lq.run 2 rfl ?_
  refine Lq.nil ?_
  refine Kt.sel [1, 5, 6, 7, 8, 11, 12, 15, 16] [_, _, _, _, _, _, _, _, _] rfl ?_
  refine Wk.block ?_
  refine Wk.loop (σ := Nat) (fun y => y ≤ x ∧ ∀ i : Nat, i < y → q i x = false) (fun y => [(1, .func (.func F) #[] caps), (5, sl_ g ((clsN q x).1.length) c), (6, i6_ (((clsN q x).2 : Int))), (7, i6_ ((x : Int))), (8, i6_ (-1)), (11, i6_ N), (12, i6_ ((x : Int))), (15, i6_ ((x : Int))), (16, i6_ ((y : Int)))]) (fun y => Own w.heap.size w [bk_ g cur 3]) (fun y => x - y) (0) ⟨by omega, fun i hi => absurd hi (by omega)⟩ (Sub.sel [1, 5, 6, 7, 8, 11, 12, 15, 16] rfl) (fun _ h => h) ?_
  rintro y ⟨hy, hall2⟩
  refine Wk.seq ?_
  refine Wk.regionQ ?_
  refine Lq.run 1 rfl ?_
  refine Lq.nil ?_
  refine Kt.sel [1, 5, 6, 7, 8, 11, 12, 15, 16, 17] [_, _, _, _, _, _, _, _, _, _] rfl ?_
  refine Wk.seq ?_
  refine Wk.cond (b := decide (((y : Int)) < ((x : Int)))) rfl (fun h17 => ?_) (fun h17 => ?_)
  ·
   replace h17 := of_decide_eq_true h17
   refine Wk.skip ?_
   refine Kt.sel [1, 5, 6, 7, 8, 11, 12, 15, 16] [_, _, _, _, _, _, _, _, _] rfl ?_
   refine Wk.seq ?_
   refine Wk.block ?_
   refine Wk.seq ?_
   refine Wk.regionQ ?_
   refine Lq.run 2 rfl ?_
   refine Lq.nil ?_
   refine Kt.sel [1, 5, 6, 7, 8, 9, 11, 12, 15, 16] [_, _, _, _, _, _, _, _, _, _] rfl ?_
   refine Wk.seq ?_
   refine Wk.regionQ ?_
   refine Lq.run 3 rfl ?_
   refine Lq.op (v := bo_ (q y x)) rfl rfl rfl (OpQ.callFn rfl rfl hF rfl Own.stable (fun w1 hw1 => hq w1 hw1.below y x (by omega) (by omega))) ?_
   refine Lq.nil ?_
   refine Kt.sel [1, 5, 6, 7, 8, 9, 11, 12, 15, 16, 22] [_, _, _, _, _, _, _, _, _, _, _] rfl ?_
   refine Wk.cond (b := q y x) rfl (fun h22 => ?_) (fun h22 => ?_)
   ·
    have hyx : y < x := by omega
    have hyn := cls_at (q := q) hyx
    refine Wk.seq ?_
    refine Wk.regionQ ?_
    refine Lq.run 2 rfl ?_
    refine Lq.op (v := pf_ g y) rfl rfl rfl (OpQ.cast (v' := pf_ g y) (by simp) (OpQ.indexAddr1 (i := (y : Int)) rfl Tryz.runUnderlying28 Tryz.sizeOf3 rfl rfl (by omega) (by omega))) ?_
    refine Lq.op (v := i6_ ((clsN q x).1.getD (y) 0)) rfl rfl rfl (OpQ.loadAt 0 rfl Tryz.isAgg3 rfl rfl (cur_at ht (ints_at2 (by omega)))) ?_
    refine Lq.run 1 rfl ?_
    refine Lq.nil ?_
    refine Kt.sel [1, 5, 6, 8, 11, 12] [_, _, _, _, _, _] rfl ?_
    refine Wk.exit rfl ?_
    refine Kt.sel [1, 5, 6, 8, 11, 12] [_, _, _, _, _, _] rfl ?_
    refine Wk.seq ?_
    refine Wk.seq ?_
    refine Wk.regionQ ?_
    refine Lq.run 2 rfl ?_
    refine Lq.nil ?_
    refine Kt.sel [1, 5, 6, 8, 11, 12, 29] [_, _, _, _, _, _, _] rfl ?_
    refine Wk.cond (b := decide (((clsN q x).1.getD (y) 0) < (0 : Int))) rfl (fun h29 => ?_) (fun h29 => ?_)
    ·
     replace h29 := of_decide_eq_true h29
     omega
    ·
     replace h29 := of_decide_eq_false h29
     refine Wk.skip ?_
     refine Kt.sel [1, 5, 6, 8, 11, 12] [_, _, _, _, _, _] rfl ?_
     refine Wk.region ?_
     refine Ll.run 2 rfl ?_
     refine Ll.slice (xs := [.tmp 34]) (vs := [i6_ ((clsN q x).1.getD (y) 0)]) Base.elem28 rfl rfl rfl rfl rfl rfl (by decide) rfl fun p35 hp35 => ?_
     refine Ll.appendInts (xs := (clsN q x).1) (ys := [(clsN q x).1.getD (y) 0]) Base.elem28 1 rfl rfl rfl rfl rfl rfl rfl hc hle ht (fun w1 hw1 => (Own.row hw1 (i := 0) rfl (n := 1) (cap := 1) (vs := ints [(clsN q x).1.getD (y) 0]) rfl rfl (by decide))) ((((clsN q x).1) ++ ([(clsN q x).1.getD (y) 0])).length) (by first | (simp; done) | (simp; omega)) (by first | (simp; done) | (simp; omega) | omega) fun p36 cap36 cur36 hp36 hcp36 hlp36 htp36 => ?_
     show Ll _ _ (Own _ _ [_, _]) _ _ ((36, sl_ p36 (((((clsN q x).1) ++ ([(clsN q x).1.getD (y) 0])).length)) cap36) :: _) _ _ _
     refine Ll.run 1 rfl ?_
     refine Ll.nil ?_
     refine Kt.sel [1, 5, 6, 11, 12] [_, _, _, _, _] rfl ?_
     refine Wk.regionQ ?_
     refine Lq.op rfl rfl rfl (OpQ.add rfl rfl rfl (by omega) (by omega)) ?_
     refine Lq.run 1 rfl ?_
     refine Lq.nil ?_
     refine Kt.again ((x + 1, p36, cap36, cur36)) ⟨by omega, by simpa using hcp36, by rw [cls_old hyx hall2 h22]; exact hlp36, by rw [cls_old hyx hall2 h22]; simpa using htp36⟩ (by omega) (Sub.cons rfl (Sub.cons (by rw [cls_old hyx hall2 h22]; rfl) (Sub.cons (by rw [cls_old hyx hall2 h22]; first | rfl | (simp [List.lookup]; done)) (Sub.sel [11, 12] rfl)))) (fun _ h => h.tail)
   ·
    refine Wk.skip ?_
    refine Kt.sel [1, 5, 6, 7, 8, 11, 12, 15, 16] [_, _, _, _, _, _, _, _, _] rfl ?_
    refine Wk.regionQ ?_
    refine Lq.op rfl rfl rfl (OpQ.add rfl rfl rfl (by omega) (by omega)) ?_
    refine Lq.run 1 rfl ?_
    refine Lq.nil ?_
    refine Kt.again (y + 1) ⟨by omega, fun i hi => (Nat.lt_succ_iff_lt_or_eq.1 hi).elim (hall2 i) (fun e => by subst e; simpa using h22)⟩ (by omega) (Sub.sel [1, 5, 6, 7, 8, 11, 12, 15, 16] rfl) (fun _ h => h)
  ·
   replace h17 := of_decide_eq_false h17
   refine Wk.exit rfl ?_
   refine Kt.sel [1, 5, 6, 8, 11, 12] [_, _, _, _, _, _] rfl ?_
   refine Wk.seq ?_
   refine Wk.seq ?_
   refine Wk.regionQ ?_
   refine Lq.run 2 rfl ?_
   refine Lq.nil ?_
   refine Kt.sel [1, 5, 6, 8, 11, 12, 29] [_, _, _, _, _, _, _] rfl ?_
   refine Wk.cond (b := decide ((-1 : Int) < (0 : Int))) rfl (fun h29_1 => ?_) (fun h29_1 => ?_)
   ·
    replace h29_1 := of_decide_eq_true h29_1
    refine Wk.seq ?_
    refine Wk.regionQ ?_
    refine Lq.run 2 rfl ?_
    refine Lq.nil ?_
    refine Kt.sel [1, 5, 6, 8, 11, 12] [_, _, _, _, _, _] rfl ?_
    refine Wk.regionQ ?_
    refine Lq.run 1 rfl ?_
    refine Lq.op rfl rfl rfl (OpQ.add rfl rfl rfl (by omega) (by omega)) ?_
    refine Lq.run 1 rfl ?_
    refine Lq.nil ?_
    refine Kt.sel [1, 5, 6, 8, 11, 12] [_, _, _, _, _, _] rfl ?_
    refine Wk.region ?_
    refine Ll.run 2 rfl ?_
    refine Ll.slice (xs := [.tmp 34]) (vs := [i6_ (((clsN q x).2 : Int))]) Base.elem28 rfl rfl rfl rfl rfl rfl (by decide) rfl fun p35_1 hp35_1 => ?_
    refine Ll.appendInts (xs := (clsN q x).1) (ys := [((clsN q x).2 : Int)]) Base.elem28 1 rfl rfl rfl rfl rfl rfl rfl hc hle ht (fun w1 hw1 => (Own.row hw1 (i := 0) rfl (n := 1) (cap := 1) (vs := ints [((clsN q x).2 : Int)]) rfl rfl (by decide))) ((((clsN q x).1) ++ ([((clsN q x).2 : Int)])).length) (by first | (simp; done) | (simp; omega)) (by first | (simp; done) | (simp; omega) | omega) fun p36_1 cap36_1 cur36_1 hp36_1 hcp36_1 hlp36_1 htp36_1 => ?_
    show Ll _ _ (Own _ _ [_, _]) _ _ ((36, sl_ p36_1 (((((clsN q x).1) ++ ([((clsN q x).2 : Int)])).length)) cap36_1) :: _) _ _ _
    refine Ll.run 1 rfl ?_
    refine Ll.nil ?_
    refine Kt.sel [1, 5, 6, 11, 12] [_, _, _, _, _] rfl ?_
    refine Wk.regionQ ?_
    refine Lq.op rfl rfl rfl (OpQ.add rfl rfl rfl (by omega) (by omega)) ?_
    refine Lq.run 1 rfl ?_
    refine Lq.nil ?_
    refine Kt.again ((x + 1, p36_1, cap36_1, cur36_1)) ⟨by omega, by simpa using hcp36_1, by rw [cls_new (fun i hi => hall2 i (by omega))]; exact hlp36_1, by rw [cls_new (fun i hi => hall2 i (by omega))]; simpa using htp36_1⟩ (by omega) (Sub.cons rfl (Sub.cons (by rw [cls_new (fun i hi => hall2 i (by omega))]; rfl) (Sub.cons (by rw [cls_new (fun i hi => hall2 i (by omega))]; first | rfl | (simp [List.lookup]; done)) (Sub.sel [11, 12] rfl)))) (fun _ h => h.tail)
   ·
    replace h29_1 := of_decide_eq_false h29_1
    exact absurd (by decide) h29_1
 ·
  replace h13 := of_decide_eq_false h13
  refine Wk.exit rfl ?_
  refine Kt.sel [5] [_] rfl ?_
  refine Wk.seq ?_
  refine Wk.regionQ ?_
  refine Lq.run 2 rfl ?_
  refine Lq.nil ?_
  refine Kt.sel [4] [_] rfl ?_
  refine Wk.ret (Kt.end1 rfl rfl fun w' hw => ?_)
  obtain rfl : x = N.toNat := by omega
  exact ⟨_, rfl, hw.below, hw.newRow (i := 0) (n := _) rfl hc hle (by simpa using ht)⟩
end Go.Proofs.YtjcoijejhachhaaGreatDoor
namespace Go.Wk
open Go.RowKit
abbrev OptR := Option (Nat × Nat × Array Value)
def optV : OptR → Nat → Value
  | none, _ => .slice none 0 0
  | some (g, c, _), m => .slice (some ⟨g, 0, none⟩) m c
def optB (el : TypeId) : OptR → List (Nat × Obj)
  | none => []
  | some (g, _, u) => [(g, .cells u el (0, 0))]
def OptOk (bs : List Bool) : OptR → Prop
  | none => bs = []
  | some (_, c, u) => u.size = c * 1 ∧ bs.length ≤ c ∧ u.toList.take bs.length = bools bs
section
variable {P : Program} {n : Nat} {B : Nat} {w0 : World} {N R : Act → World → Prop} {X : List (Nat × (Act → World → Prop))} {e : Env} {ops : Array Oper} {l : List Oper} {o : Oper}
theorem Ll.appendOpt {t el d p : Nat} {T : TypeId} {x y : Operand} {q : OptR} {bs : List Bool} {b : Bool} {m : Nat} (hm : bs.length = m) (E : Elem P t el 1) (f r : List (Nat × Obj)) (i : Nat) (hq : OptOk bs q) (hd : Nat.blt d n = true) (hdst : o.dst = some d) (hg : wantE ops e o.guard = some true)
    (h : o.op = .call ⟨.builtin .append, #[x, y], #[t, t]⟩) (hx : opd e x = some (optV q m)) (hy : opd e y = some (.slice (some ⟨p, 0, none⟩) 1 1)) (hi : f[i]? = some (p, .cells #[.bool b] T (0, 0))) (hb : m ≤ 1000000)
    (k : ∀ g' c' u', B ≤ g' → OptOk (bs ++ [b]) (some (g', c', u')) → Ll P n (Own B w0 (f ++ (optB el (some (g', c', u')) ++ r))) ops l ((d, .slice (some ⟨g', 0, none⟩) (m + 1) c') :: e) N R X) : Ll P n (Own B w0 (f ++ (optB el q ++ r))) ops (o :: l) e N R X := by
  subst hm
  have hlt : i < f.length := by
    rcases Nat.lt_or_ge i f.length with h1 | h1
    · exact h1
    · rw [List.getElem?_eq_none h1] at hi; cases hi
  have news : ∀ (hs : List (Nat × Obj)), hs[i]? = some (p, .cells #[.bool b] T (0, 0)) → ∀ w, Own B w0 hs w → ∀ ad, some (⟨p, 0, none⟩ : Addr) = some ad → ∀ j u, ([Value.bool b])[j]? = some u → w.cell? (ad.add j) = some u := fun hs hh w1 hw1 ad had j u hj => by
    injection had with had; subst had
    rw [Addr.add_lit, Nat.zero_add, hw1.cell (i := i) hh]
    simpa using hj
  have bl : bools (bs ++ [b]) = bools bs ++ [Value.bool b] := by simp [bools]
  cases q with
  | none =>
    have hb0 : bs = [] := hq
    subst hb0
    refine Ll.appendNil E [.bool b] hd hdst hg h hx hy (by decide) (by simp) rfl (news _ (by rw [List.getElem?_append_left hlt]; exact hi)) (by decide) fun g' c' u' h1 h2 h3 h4 => ?_
    have := k g' c' u' h1 ⟨h2, by simpa using h3, by simpa [bools] using h4⟩
    unfold Ll at this ⊢
    exact fun a w hf hc => this a w hf (hc.perm (perm_back [_] f r))
  | some q =>
    obtain ⟨g, c, u⟩ := q
    obtain ⟨s1, s2, s3⟩ := hq
    refine Ll.append E f.length [.bool b] hd hdst hg h hx hy (by rw [List.getElem?_append_right (Nat.le_refl _), Nat.sub_self]; rfl) s1 s2 rfl (fun h => by cases h) (news _ (by rw [List.getElem?_append_left hlt]; exact hi)) (by simp [Value.oneCell']) (by omega) fun g' c' u' h1 h2 h3 h4 => ?_
    have := k g' c' u' h1 ⟨h2, by simpa using h3, by rw [List.length_append, List.length_singleton, bl, ← s3]; simpa using h4⟩
    unfold Ll at this ⊢
    intro a w hf hc
    rw [List.set_append_right _ _ (Nat.le_refl _), Nat.sub_self] at hc
    exact this a w hf hc
end
theorem opt_some {bs : List Bool} {q : OptR} (h : OptOk bs q) (h0 : 0 < bs.length) : ∃ (g c : Nat) (u : Array Value), q = some (g, c, u) ∧ u.size = c * 1 ∧ bs.length ≤ c ∧ u.toList.take bs.length = bools bs := by
  cases q with
  | none => rw [show bs = [] from h] at h0; exact absurd h0 (by decide)
  | some q => obtain ⟨g, c, u⟩ := q; exact ⟨g, c, u, rfl, h⟩
theorem fit_next {a b : St} {k s : Nat} (hb : 1 ≤ b.n.toNat) (h : s < prN a b ^ k) : (WL 0 a b k).take (s + 1) = (WL 0 a b k).take s ++ [sameB a (placed (stX a b k s) k) b (placed (stY a b k s) k)] := by
  rw [List.take_succ_eq_append_getElem (by rw [WL_len]; exact h), ← getD_at (d := false), WL_at h, win_zero hb]
theorem Own.merge {B : Nat} {w0 w w' : World} {hs new : List (Nat × Obj)} (h : Own B w0 hs w) (k : Own w.heap.size w new w') : Own B w0 (new ++ hs) w' := by
  have h' := h.calls k.below
  refine Own.of_mem h'.below h'.base (fun x hx => ?_) ?_
  · rcases List.mem_append.1 hx with h1 | h1
    · obtain ⟨h2, h3⟩ := k.mem h1
      exact ⟨Nat.le_trans h.base h2, h3⟩
    · exact h'.mem h1
  · rw [List.map_append, List.nodup_append]
    refine ⟨k.nodup, h.nodup, fun p hp q hq e => ?_⟩
    obtain ⟨x, hx, rfl⟩ := List.mem_map.1 hp
    obtain ⟨y, hy, rfl⟩ := List.mem_map.1 hq
    have h1 := (k.mem hx).1
    have h2 := (h.mem hy).2
    have h3 : y.1 < w.heap.size := by
      rcases Nat.lt_or_ge y.1 w.heap.size with h4 | h4
      · exact h4
      · rw [Array.getElem?_eq_none h4] at h2; cases h2
    omega
section
variable {P : Program} {n : Nat} {C : World → Prop} {e : Env} {o : Oper}
end
end Go.Wk
namespace Go.Proofs.YtjcoijejhachhaaGreatDoor
open Go.RowKit Go.Wk
set_option linter.unusedSimpArgs false
set_option maxHeartbeats 400000 in
/-- spec.l7Atoms -/
theorem l7Atoms_ok (a : St) (va : Value) (xs : List Int) (w : World) (hP : Pebbles a xs) (hva : Ints w va xs) :
    Calls Tryz.prog 66 [vS a, va].toArray w fun en w' => en = .returned (str (signT xs xs.length ++ atomBits a (placed xs xs.length))) ∧ Below w.heap.size w w' := by
 refine fnStart (n := 36) (e := [(0, vS a), (1, va)]) Tryz.func66 rfl rfl rfl rfl Ends.both ?_
 have ha := hP.fine
 have h3 := hP.hi
 have htop := hP.top
 refine Wk.seq ?_
 refine Wk.region ?_
 refine Ll.box (v := vS a) rfl rfl rfl rfl rfl fun p2 hp2 => ?_
 show Ll _ _ (Own _ _ [_]) _ _ ((2, pt_ p2) :: _) _ _ _
 refine Ll.op (v := str ([])) rfl rfl rfl (OpQ.assign rfl rfl) ?_
 refine Ll.nil ?_
 refine Kt.sel [1, 2] [_, _] rfl ?_
 refine Wk.seq ?_
 refine Wk.regionQ ?_
 refine Lq.op (v := str ([])) rfl rfl rfl (OpQ.assign rfl rfl) ?_
 refine Lq.nil ?_
 refine Kt.sel [1, 2, 5] [_, _, _] rfl ?_
 refine Wk.seq ?_
 refine Wk.region ?_
 refine Ll.slice (xs := []) (vs := []) Base.elem28 rfl rfl rfl rfl rfl rfl (by decide) rfl fun p8 hp8 => ?_
 refine Ll.run 1 rfl ?_
 refine Ll.nil ?_
 refine Kt.sel [1, 2, 5, 6] [_, _, _, _] rfl ?_
 refine Wk.seq ?_
 refine Wk.seq ?_
 refine Wk.regionQ ?_
 refine Lq.run 1 rfl ?_
 refine Lq.nil ?_
 refine Kt.sel [1, 2, 5, 6, 7] [_, _, _, _, _] rfl ?_
 refine Wk.block ?_
 refine Wk.loop (σ := Nat × Nat × Nat × Array Value) (fun ⟨k, g, c, cur⟩ => (k ≤ xs.length) ∧ w.heap.size ≤ g ∧ cur.size = c * 1 ∧ (placed xs k).length ≤ c ∧ cur.toList.take ((placed xs k).length * 1) = ints (placed xs k)) (fun ⟨k, g, c, cur⟩ => [(1, va), (2, pt_ p2), (5, str (signT xs k)), (6, sl_ g ((placed xs k).length) c), (7, i6_ ((k : Int)))]) (fun ⟨k, g, c, cur⟩ => Own w.heap.size w [bk_ g cur 3, bk_ p2 #[i6_ a.n, str a.set, str a.rel] 24]) (fun ⟨k, g, c, cur⟩ => xs.length - k) ((0, p8, 0, #[])) ⟨by omega, hp8, rfl, by simp, rfl⟩ (Sub.cons rfl (Sub.cons rfl (Sub.cons rfl (Sub.sel [6, 7] rfl)))) (fun _ h => h) ?_
 rintro ⟨k, g, c, cur⟩ ⟨hk, hg, hc, hl, ht⟩
 dsimp only
 refine Wk.seq ?_
 refine Wk.seq ?_
 refine Wk.regionQ ?_
 refine Lq.run 2 rfl ?_
 refine Lq.op (v := i6_ ((xs.length : Int))) rfl rfl rfl (OpQ.lenRow rfl Tryz.runUnderlying28 rfl (ints_length _) (fun w1 hw1 => Row.own hva hw1)) ?_
 refine Lq.run 1 rfl ?_
 refine Lq.nil ?_
 refine Kt.sel [1, 2, 5, 6, 7, 12] [_, _, _, _, _, _] rfl ?_
 refine Wk.cond (b := decide (((k : Int)) < ((xs.length : Int)))) rfl (fun h12 => ?_) (fun h12 => ?_)
 ·
  replace h12 := of_decide_eq_true h12
  have hple := placed_le xs k
  refine Wk.skip ?_
  refine Kt.sel [1, 2, 5, 6, 7] [_, _, _, _, _] rfl ?_
  refine Wk.seq ?_
  refine Wk.block ?_
  refine Wk.seq ?_
  refine Wk.seq ?_
  refine Wk.regionQ ?_
  refine Lq.run 2 rfl ?_
  refine Lq.op (v := .pointer (some (sAt va ((k : Int))))) rfl rfl rfl (OpQ.atRow rfl Tryz.runUnderlying28 Tryz.sizeOf3 rfl rfl (by omega) (by rw [ints_length]; omega) (fun w1 hw1 => Row.own hva hw1)) ?_
  refine Lq.op (v := i6_ (xs.getD (((k : Int)).toNat) 0)) rfl rfl rfl (OpQ.load1 rfl Tryz.isAgg3 rfl (fun w1 hw1 => Ints.cell (Row.own hva hw1) (by omega) (by omega))) ?_
  refine Lq.run 1 rfl ?_
  refine Lq.nil ?_
  refine Kt.sel [1, 2, 5, 6, 7, 19] [_, _, _, _, _, _] rfl ?_
  refine Wk.cond (b := decide ((xs.getD (((k : Int)).toNat) 0) < (0 : Int))) rfl (fun h19 => ?_) (fun h19 => ?_)
  ·
   replace h19 := of_decide_eq_true h19
   refine Wk.seq ?_
   refine Wk.regionQ ?_
   refine Lq.run 1 rfl ?_
   refine Lq.op rfl rfl rfl (OpQ.sadd rfl rfl rfl (by simp only [signT_length, List.length_cons, List.length_nil]; omega)) ?_
   refine Lq.run 1 rfl ?_
   refine Lq.nil ?_
   refine Kt.sel [1, 2, 5, 6, 7] [_, _, _, _, _] rfl ?_
   refine Wk.exit rfl ?_
   refine Kt.sel [1, 2, 5, 6, 7] [_, _, _, _, _] rfl ?_
   refine Wk.regionQ ?_
   refine Lq.run 1 rfl ?_
   refine Lq.op rfl rfl rfl (OpQ.add rfl rfl rfl (by omega) (by omega)) ?_
   refine Lq.run 1 rfl ?_
   refine Lq.nil ?_
   refine Kt.again ((k + 1, g, c, cur)) ⟨(by omega), hg, hc, (by rw [placed_neg (by assumption)]; exact hl), (by rw [placed_neg (by assumption)]; exact ht)⟩ (by omega) (Sub.cons rfl (Sub.cons rfl (Sub.cons (by first | (rw [signT_neg (by assumption)]; rfl) | (rw [signT_pos (by assumption)]; rfl)) (Sub.cons (by rw [placed_neg (by assumption)]; rfl) (Sub.sel [7] rfl))))) (fun _ h => h)
  ·
   replace h19 := of_decide_eq_false h19
   refine Wk.skip ?_
   refine Kt.sel [1, 2, 5, 6, 7] [_, _, _, _, _] rfl ?_
   refine Wk.seq ?_
   refine Wk.regionQ ?_
   refine Lq.run 1 rfl ?_
   refine Lq.op rfl rfl rfl (OpQ.sadd rfl rfl rfl (by simp only [signT_length, List.length_cons, List.length_nil]; omega)) ?_
   refine Lq.run 1 rfl ?_
   refine Lq.nil ?_
   refine Kt.sel [1, 2, 5, 6, 7] [_, _, _, _, _] rfl ?_
   refine Wk.region ?_
   refine Ll.run 3 rfl ?_
   refine Ll.op (v := .pointer (some (sAt va ((k : Int))))) rfl rfl rfl (OpQ.atRow rfl Tryz.runUnderlying28 Tryz.sizeOf3 rfl rfl (by omega) (by rw [ints_length]; omega) (fun w1 hw1 => Row.own hva hw1)) ?_
   refine Ll.op (v := i6_ (xs.getD (((k : Int)).toNat) 0)) rfl rfl rfl (OpQ.load1 rfl Tryz.isAgg3 rfl (fun w1 hw1 => Ints.cell (Row.own hva hw1) (by omega) (by omega))) ?_
   refine Ll.slice (xs := [.tmp 28]) (vs := [i6_ (xs.getD (((k : Int)).toNat) 0)]) Base.elem28 rfl rfl rfl rfl rfl rfl (by decide) rfl fun p29 hp29 => ?_
   refine Ll.appendInts (xs := placed xs k) (ys := [xs.getD (((k : Int)).toNat) 0]) Base.elem28 1 rfl rfl rfl rfl rfl rfl rfl hc hl (by simpa using ht) (fun w1 hw1 => (Own.row hw1 (i := 0) rfl (n := 1) (cap := 1) (vs := ints [xs.getD (((k : Int)).toNat) 0]) rfl rfl (by decide))) (((placed xs k) ++ ([xs.getD (((k : Int)).toNat) 0])).length) (by first | (simp; done) | (simp; omega)) (by first | (simp; done) | (simp; omega) | omega) fun p30 cap30 cur30 hp30 hcp30 hlp30 htp30 => ?_
   show Ll _ _ (Own _ _ [_, _, _]) _ _ ((30, sl_ p30 ((((placed xs k) ++ ([xs.getD (((k : Int)).toNat) 0])).length)) cap30) :: _) _ _ _
   refine Ll.run 1 rfl ?_
   refine Ll.nil ?_
   refine Kt.sel [1, 2, 5, 6, 7] [_, _, _, _, _] rfl ?_
   refine Wk.regionQ ?_
   refine Lq.run 1 rfl ?_
   refine Lq.op rfl rfl rfl (OpQ.add rfl rfl rfl (by omega) (by omega)) ?_
   refine Lq.run 1 rfl ?_
   refine Lq.nil ?_
   refine Kt.again ((k + 1, p30, cap30, cur30)) ⟨(by omega), (by omega), hcp30, (by rw [placed_pos (by assumption)]; exact hlp30), (by rw [placed_pos (by assumption)]; exact htp30)⟩ (by omega) (Sub.cons rfl (Sub.cons rfl (Sub.cons (by first | (rw [signT_neg (by assumption)]; rfl) | (rw [signT_pos (by assumption)]; rfl)) (Sub.cons (by rw [placed_pos (by assumption)]; rfl) (Sub.sel [7] rfl))))) (fun _ h => h.tail)
 ·
  replace h12 := of_decide_eq_false h12
  have hple := placed_le xs k
  have hbs := bits_small (a := a) (xs := placed xs k) (i := (placed xs k).length) (by omega)
  refine Wk.exit rfl ?_
  refine Kt.sel [2, 5, 6] [_, _, _] rfl ?_
  refine Wk.seq ?_
  refine Wk.regionQ ?_
  refine Lq.run 1 rfl ?_
  refine Lq.op rfl rfl rfl (OpQ.loadBox (cs := #[i6_ a.n, str a.set, str a.rel]) 1 rfl Tryz.isAgg24 rfl rfl Tryz.sizeOf24) ?_
  refine Lq.run 1 rfl ?_
  refine Lq.op (v := str (atomBits a (placed xs k))) rfl rfl rfl (OpQ.call rfl Tryz.call87 rfl Own.stable (fun w1 hw1 => l5Atoms_ok a (sl_ g ((placed xs k).length) c) (placed xs k) w1 ha (Own.row hw1 (i := 0) rfl (by simpa using ht) (by simp) hl) (placed_els hk htop) (by omega))) ?_
  refine Lq.op rfl rfl rfl (OpQ.sadd rfl rfl rfl (by unfold atomBits; simp only [signT_length]; omega)) ?_
  refine Lq.run 1 rfl ?_
  refine Lq.nil ?_
  refine Kt.sel [4] [_] rfl ?_
  refine Wk.ret (Kt.end1 rfl rfl fun w' hw => ?_)
  exact ⟨ret_s (by rw [show k = xs.length from by omega]), hw.below⟩
set_option maxHeartbeats 400000 in
/-- impl.arePebbles$1 -/
theorem noPeb_ok (a : St) (g T : Nat) (x : Int) (w : World) (hg : w.heap[g]? = some (.cells #[.int .i64 a.n, str a.set, str a.rel] T (0, 0))) :
    Calls Tryz.prog 84 [i6_ x, .pointer (some ⟨g, 0, none⟩)].toArray w fun en w' => en = .returned (.bool (!inB x (-1) (a.n - 1))) ∧ Below w.heap.size w w' := by
 refine fnStart (n := 12) (e := [(0, i6_ x), (1, .pointer (some ⟨g, 0, none⟩))]) Tryz.func84 rfl rfl rfl rfl Ends.both ?_
 refine Wk.seq ?_
 refine Wk.regionQ ?_
 refine Lq.run 1 rfl ?_
 refine Lq.nil ?_
 refine Kt.sel [0, 1] [_, _] rfl ?_
 refine Wk.seq ?_
 refine Wk.regionQ ?_
 refine Lq.run 3 rfl ?_
 refine Lq.bool fun b6 hg6 => ?_
 cases b6
 ·
  replace hg6 := of_decide_eq_false hg6
  refine Lq.run 1 rfl ?_
  refine Lq.op rfl rfl rfl (OpQ.fieldAddr rfl Tryz.runUnderlying24 rfl Tryz.sizeOf3 rfl rfl) ?_
  refine Lq.op (v := i6_ a.n) rfl rfl rfl (OpQ.load1 rfl Tryz.isAgg3 rfl (fun w1 hw1 => at_box hg hw1 0 rfl)) ?_
  refine Lq.run 3 rfl ?_
  refine Lq.nil ?_
  refine Kt.sel [3] [_] rfl ?_
  refine Wk.ret (Kt.end1 rfl rfl fun w' hw => ?_)
  exact ⟨ret_b (by first | exact pel_neg (by assumption) | exact pel_geq (by assumption)), hw.below⟩
 ·
  replace hg6 := of_decide_eq_true hg6
  refine Lq.pass rfl rfl rfl ?_
  refine Lq.pass rfl rfl rfl ?_
  refine Lq.pass rfl rfl rfl ?_
  refine Lq.pass rfl rfl rfl ?_
  refine Lq.run 2 rfl ?_
  refine Lq.nil ?_
  refine Kt.sel [3] [_] rfl ?_
  refine Wk.ret (Kt.end1 rfl rfl fun w' hw => ?_)
  exact ⟨ret_b (by first | exact pel_neg (by assumption) | exact pel_geq (by assumption)), hw.below⟩
set_option maxHeartbeats 400000 in
/-- impl.arePebbles -/
theorem arePebbles_ok (a : St) (va : Value) (xs : List Int) (w : World) (hva : Ints w va xs) (hs : xs.length ≤ 140737488355328) :
    Calls Tryz.prog 60 [vS a, va].toArray w fun en w' => en = .returned (.bool (pebL a xs)) ∧ Below w.heap.size w w' := by
 refine fnStart (n := 19) (e := [(0, vS a), (1, va)]) Tryz.func60 rfl rfl rfl rfl Ends.both ?_
 refine Wk.seq ?_
 refine Wk.region ?_
 refine Ll.box (v := vS a) rfl rfl rfl rfl rfl fun p2 hp2 => ?_
 show Ll _ _ (Own _ _ [_]) _ _ ((2, pt_ p2) :: _) _ _ _
 refine Ll.run 1 rfl ?_
 refine Ll.nil ?_
 refine Kt.sel [1, 2] [_, _] rfl ?_
 refine Wk.seq ?_
 refine Wk.regionQ ?_
 refine Lq.run 1 rfl ?_
 refine Lq.op (v := i6_ ((xs.length : Int))) rfl rfl rfl (OpQ.lenRow rfl Tryz.runUnderlying28 rfl (ints_length _) (fun w1 hw1 => Row.own hva hw1)) ?_
 refine Lq.run 2 rfl ?_
 refine Lq.bool fun b8 hg8 => ?_
 cases b8
 ·
  replace hg8 := of_decide_eq_false hg8
  refine Lq.pass rfl rfl rfl ?_
  refine Lq.pass rfl rfl rfl ?_
  refine Lq.pass rfl rfl rfl ?_
  refine Lq.run 2 rfl ?_
  refine Lq.pass rfl rfl rfl ?_
  refine Lq.pass rfl rfl rfl ?_
  refine Lq.pass rfl rfl rfl ?_
  refine Lq.pass rfl rfl rfl ?_
  refine Lq.run 2 rfl ?_
  refine Lq.nil ?_
  refine Kt.sel [4] [_] rfl ?_
  refine Wk.ret (Kt.end1 rfl rfl fun w' hw => ?_)
  exact ⟨ret_b (by unfold pebL; first | (rw [not_any_pel]; simp [*]; done) | (rw [← not_any_pel]; simp [*]; done) | (simp [*]; omega)), hw.below⟩
 ·
  replace hg8 := of_decide_eq_true hg8
  refine Lq.run 1 rfl ?_
  refine Lq.op (v := i6_ ((xs.length : Int))) rfl rfl rfl (OpQ.lenRow rfl Tryz.runUnderlying28 rfl (ints_length _) (fun w1 hw1 => Row.own hva hw1)) ?_
  refine Lq.run 3 rfl ?_
  refine Lq.bool fun b13 hg13 => ?_
  cases b13
  ·
   replace hg13 := of_decide_eq_false hg13
   refine Lq.pass rfl rfl rfl ?_
   refine Lq.pass rfl rfl rfl ?_
   refine Lq.pass rfl rfl rfl ?_
   refine Lq.pass rfl rfl rfl ?_
   refine Lq.run 2 rfl ?_
   refine Lq.nil ?_
   refine Kt.sel [4] [_] rfl ?_
   refine Wk.ret (Kt.end1 rfl rfl fun w' hw => ?_)
   exact ⟨ret_b (by unfold pebL; first | (rw [not_any_pel]; simp [*]; done) | (rw [← not_any_pel]; simp [*]; done) | (simp [*]; omega)), hw.below⟩
  ·
   replace hg13 := of_decide_eq_true hg13
   refine Lq.run 1 rfl ?_
   refine Lq.op (v := .func (.func 84) #[] #[pt_ p2]) rfl rfl rfl (OpQ.func' (cap := [.tmp 2]) rfl rfl) ?_
   refine Lq.op (v := bo_ (xs.any fun x => !inB x (-1) (a.n - 1))) rfl rfl rfl (OpQ.call rfl Tryz.call83 rfl Own.stable (fun w1 hw1 => containsFunc_ok va xs w1 (Row.own hva hw1) hs 84 #[.pointer (some ⟨p2, 0, none⟩)] (fun x => !inB x (-1) (a.n - 1)) Tryz.call84 (fun w2 hb x => noPeb_ok a _ _ x w2 ((hw1.stable _ _ hb).has 0 _ _ rfl).2))) ?_
   refine Lq.run 3 rfl ?_
   refine Lq.nil ?_
   refine Kt.sel [4] [_] rfl ?_
   refine Wk.ret (Kt.end1 rfl rfl fun w' hw => ?_)
   exact ⟨ret_b (by unfold pebL; first | (rw [not_any_pel]; simp [*]; done) | (rw [← not_any_pel]; simp [*]; done) | (simp [*]; omega)), hw.below⟩
set_option maxHeartbeats 400000 in
/-- impl.areReady -/
theorem areReady_ok (a b : St) (xs ys : List Int) (va vb : Value) (w : World) (hsa : a.Small) (hsb : b.Small) (hva : Ints w va xs) (hvb : Ints w vb ys) (hs1 : xs.length ≤ 140737488355328) (hs2 : ys.length ≤ 140737488355328) :
    Calls Tryz.prog 36 [vS a, va, vS b, vb].toArray w fun en w' => en = .returned (.bool (readyB a xs b ys)) ∧ Below w.heap.size w w' := by
 refine fnStart (n := 54) (e := [(0, vS a), (1, va), (2, vS b), (3, vb)]) Tryz.func36 rfl rfl rfl rfl Ends.both ?_
 refine Wk.seq ?_
 refine Wk.region ?_
 refine Ll.box (v := vS a) rfl rfl rfl rfl rfl fun p4 hp4 => ?_
 show Ll _ _ (Own _ _ [_]) _ _ ((4, pt_ p4) :: _) _ _ _
 refine Ll.box (v := vS b) rfl rfl rfl rfl rfl fun p6 hp6 => ?_
 show Ll _ _ (Own _ _ [_, _]) _ _ ((6, pt_ p6) :: _) _ _ _
 refine Ll.run 1 rfl ?_
 refine Ll.nil ?_
 refine Kt.sel [1, 3, 4, 6] [_, _, _, _] rfl ?_
 refine Wk.seq ?_
 refine Wk.seq ?_
 refine Wk.regionQ ?_
 refine Lq.op rfl rfl rfl (OpQ.loadBox (cs := #[i6_ a.n, str a.set, str a.rel]) 1 rfl Tryz.isAgg24 rfl rfl Tryz.sizeOf24) ?_
 refine Lq.op (v := bo_ (validB a)) rfl rfl rfl (OpQ.call rfl Tryz.call12 rfl Own.stable (fun w1 hw1 => isStructure_ok a w1 hsa)) ?_
 refine Lq.run 2 rfl ?_
 refine Lq.bool fun b14 hg14 => ?_
 cases b14
 ·
  replace hg14 := not_false hg14
  refine Lq.op rfl rfl rfl (OpQ.loadBox (cs := #[i6_ b.n, str b.set, str b.rel]) 0 rfl Tryz.isAgg24 rfl rfl Tryz.sizeOf24) ?_
  refine Lq.op (v := bo_ (validB b)) rfl rfl rfl (OpQ.call rfl Tryz.call12 rfl Own.stable (fun w1 hw1 => isStructure_ok b w1 hsb)) ?_
  refine Lq.run 3 rfl ?_
  refine Lq.bool fun b19 hg19 => ?_
  cases b19
  ·
   replace hg19 := not_false hg19
   refine Lq.op rfl rfl rfl (OpQ.loadBox (cs := #[i6_ a.n, str a.set, str a.rel]) 1 rfl Tryz.isAgg24 rfl rfl Tryz.sizeOf24) ?_
   refine Lq.run 1 rfl ?_
   refine Lq.op (v := bo_ (pebL a xs)) rfl rfl rfl (OpQ.call rfl Tryz.call60 rfl Own.stable (fun w1 hw1 => arePebbles_ok a va xs w1 (Row.own hva hw1) (by first | (simp; done) | (simp; omega) | omega))) ?_
   refine Lq.run 3 rfl ?_
   refine Lq.bool fun b25 hg25 => ?_
   cases b25
   ·
    replace hg25 := not_false hg25
    refine Lq.op rfl rfl rfl (OpQ.loadBox (cs := #[i6_ b.n, str b.set, str b.rel]) 0 rfl Tryz.isAgg24 rfl rfl Tryz.sizeOf24) ?_
    refine Lq.run 1 rfl ?_
    refine Lq.op (v := bo_ (pebL b ys)) rfl rfl rfl (OpQ.call rfl Tryz.call60 rfl Own.stable (fun w1 hw1 => arePebbles_ok b vb ys w1 (Row.own hvb hw1) (by first | (simp; done) | (simp; omega) | omega))) ?_
    refine Lq.run 3 rfl ?_
    refine Lq.bool fun b31 hg31 => ?_
    cases b31
    ·
     replace hg31 := not_false hg31
     refine Lq.run 1 rfl ?_
     refine Lq.op (v := i6_ ((xs.length : Int))) rfl rfl rfl (OpQ.lenRow rfl Tryz.runUnderlying28 rfl (ints_length _) (fun w1 hw1 => Row.own hva hw1)) ?_
     refine Lq.run 1 rfl ?_
     refine Lq.op (v := i6_ ((ys.length : Int))) rfl rfl rfl (OpQ.lenRow rfl Tryz.runUnderlying28 rfl (ints_length _) (fun w1 hw1 => Row.own hvb hw1)) ?_
     refine Lq.run 2 rfl ?_
     refine Lq.nil ?_
     refine Kt.sel [1, 3, 37] [_, _, _] rfl ?_
     refine Wk.cond (b := !(decide (((xs.length : Int)) = ((ys.length : Int))))) rfl (fun h37 => ?_) (fun h37 => ?_)
     ·
      replace h37 := not_true h37
      replace h37 := of_decide_eq_false h37
      refine Wk.seq ?_
      refine Wk.regionQ ?_
      refine Lq.run 1 rfl ?_
      refine Lq.nil ?_
      refine Kt.sel [8] [_] rfl ?_
      refine Wk.ret (Kt.end1 rfl rfl fun w' hw => ?_)
      exact ⟨ret_b (by unfold readyB; rw [pebB_eq, pebB_eq]; first | (simp [*]; done) | (rw [signs_no (k := k) (by omega) (beq_of_bneT (by assumption))]; simp; done) | (rw [signs_yes (k := k) (by omega) hall]; simp [*]; done) | (simp [*]; omega)), hw.below⟩
     ·
      replace h37 := not_false h37
      replace h37 := of_decide_eq_true h37
      refine Wk.skip ?_
      refine Kt.sel [1, 3] [_, _] rfl ?_
      refine Wk.seq ?_
      refine Wk.seq ?_
      refine Wk.regionQ ?_
      refine Lq.run 1 rfl ?_
      refine Lq.op (v := i6_ ((xs.length : Int))) rfl rfl rfl (OpQ.lenRow rfl Tryz.runUnderlying28 rfl (ints_length _) (fun w1 hw1 => Row.own hva hw1)) ?_
      refine Lq.run 1 rfl ?_
      refine Lq.nil ?_
      refine Kt.sel [3, 38, 39, 40] [_, _, _, _] rfl ?_
      refine Wk.block ?_
      refine Wk.loop (σ := Nat) (fun k => k ≤ xs.length ∧ ∀ i : Nat, i < k → (decide (xs.getD i 0 < 0) == decide (ys.getD i 0 < 0)) = true) (fun k => [(3, vb), (38, va), (39, i6_ ((xs.length : Int))), (40, i6_ ((k : Int)))]) (fun k => Own w.heap.size w [bk_ p6 #[i6_ b.n, str b.set, str b.rel] 24, bk_ p4 #[i6_ a.n, str a.set, str a.rel] 24]) (fun k => xs.length - k) (0) ⟨by omega, fun i hi => absurd hi (by omega)⟩ (Sub.sel [3, 38, 39, 40] rfl) (fun _ h => h) ?_
      rintro k ⟨hk, hall⟩
      refine Wk.seq ?_
      refine Wk.regionQ ?_
      refine Lq.run 1 rfl ?_
      refine Lq.nil ?_
      refine Kt.sel [3, 38, 39, 40, 41] [_, _, _, _, _] rfl ?_
      refine Wk.seq ?_
      refine Wk.cond (b := decide (((k : Int)) < ((xs.length : Int)))) rfl (fun h41 => ?_) (fun h41 => ?_)
      ·
       replace h41 := of_decide_eq_true h41
       refine Wk.skip ?_
       refine Kt.sel [3, 38, 39, 40] [_, _, _, _] rfl ?_
       refine Wk.seq ?_
       refine Wk.block ?_
       refine Wk.seq ?_
       refine Wk.regionQ ?_
       refine Lq.run 1 rfl ?_
       refine Lq.op (v := .pointer (some (sAt va ((k : Int))))) rfl rfl rfl (OpQ.atRow rfl Tryz.runUnderlying28 Tryz.sizeOf3 rfl rfl (by omega) (by rw [ints_length]; omega) (fun w1 hw1 => Row.own hva hw1)) ?_
       refine Lq.op (v := i6_ (xs.getD (((k : Int)).toNat) 0)) rfl rfl rfl (OpQ.load1 rfl Tryz.isAgg3 rfl (fun w1 hw1 => Ints.cell (Row.own hva hw1) (by omega) (by omega))) ?_
       refine Lq.run 2 rfl ?_
       refine Lq.nil ?_
       refine Kt.sel [3, 9, 10, 38, 39, 40] [_, _, _, _, _, _] rfl ?_
       refine Wk.seq ?_
       refine Wk.regionQ ?_
       refine Lq.run 4 rfl ?_
       refine Lq.op (v := .pointer (some (sAt vb ((k : Int))))) rfl rfl rfl (OpQ.atRow rfl Tryz.runUnderlying28 Tryz.sizeOf3 rfl rfl (by omega) (by rw [ints_length]; omega) (fun w1 hw1 => Row.own hvb hw1)) ?_
       refine Lq.op (v := i6_ (ys.getD (((k : Int)).toNat) 0)) rfl rfl rfl (OpQ.load1 rfl Tryz.isAgg3 rfl (fun w1 hw1 => Ints.cell (Row.own hvb hw1) (by omega) (by omega))) ?_
       refine Lq.run 1 rfl ?_
       refine Lq.op rfl rfl rfl (OpQ.bne rfl Tryz.runUnderlying4 rfl rfl) ?_
       refine Lq.nil ?_
       refine Kt.sel [3, 38, 39, 40, 52] [_, _, _, _, _] rfl ?_
       refine Wk.cond (b := (decide ((xs.getD (((k : Int)).toNat) 0) < (0 : Int))) != (decide ((ys.getD (((k : Int)).toNat) 0) < (0 : Int)))) rfl (fun h52 => ?_) (fun h52 => ?_)
       ·
        refine Wk.seq ?_
        refine Wk.regionQ ?_
        refine Lq.run 1 rfl ?_
        refine Lq.nil ?_
        refine Kt.sel [8] [_] rfl ?_
        refine Wk.ret (Kt.end1 rfl rfl fun w' hw => ?_)
        exact ⟨ret_b (by unfold readyB; rw [pebB_eq, pebB_eq]; first | (simp [*]; done) | (rw [signs_no (k := k) (by omega) (beq_of_bneT (by assumption))]; simp; done) | (rw [signs_yes (k := k) (by omega) hall]; simp [*]; done) | (simp [*]; omega)), hw.below⟩
       ·
        refine Wk.skip ?_
        refine Kt.sel [3, 38, 39, 40] [_, _, _, _] rfl ?_
        refine Wk.regionQ ?_
        refine Lq.op rfl rfl rfl (OpQ.add rfl rfl rfl (by omega) (by omega)) ?_
        refine Lq.run 1 rfl ?_
        refine Lq.nil ?_
        refine Kt.again (k + 1) ⟨by omega, fun i hi => (Nat.lt_succ_iff_lt_or_eq.1 hi).elim (hall i) (fun e => by subst e; exact beq_of_bne h52)⟩ (by omega) (Sub.sel [3, 38, 39, 40] rfl) (fun _ h => h)
      ·
       replace h41 := of_decide_eq_false h41
       refine Wk.exit rfl ?_
       refine Kt.sel [] [] rfl ?_
       refine Wk.seq ?_
       refine Wk.regionQ ?_
       refine Lq.run 1 rfl ?_
       refine Lq.nil ?_
       refine Kt.sel [8] [_] rfl ?_
       refine Wk.ret (Kt.end1 rfl rfl fun w' hw => ?_)
       exact ⟨ret_b (by unfold readyB; rw [pebB_eq, pebB_eq]; first | (simp [*]; done) | (rw [signs_no (k := k) (by omega) (beq_of_bneT (by assumption))]; simp; done) | (rw [signs_yes (k := k) (by omega) hall]; simp [*]; done) | (simp [*]; omega)), hw.below⟩
    ·
     replace hg31 := not_true hg31
     refine Lq.pass rfl rfl rfl ?_
     refine Lq.pass rfl rfl rfl ?_
     refine Lq.pass rfl rfl rfl ?_
     refine Lq.pass rfl rfl rfl ?_
     refine Lq.pass rfl rfl rfl ?_
     refine Lq.run 1 rfl ?_
     refine Lq.nil ?_
     refine Kt.sel [1, 3, 37] [_, _, _] rfl ?_
     refine Wk.condT rfl ?_
     refine Wk.seq ?_
     refine Wk.regionQ ?_
     refine Lq.run 1 rfl ?_
     refine Lq.nil ?_
     refine Kt.sel [8] [_] rfl ?_
     refine Wk.ret (Kt.end1 rfl rfl fun w' hw => ?_)
     exact ⟨ret_b (by unfold readyB; rw [pebB_eq, pebB_eq]; first | (simp [*]; done) | (rw [signs_no (k := k) (by omega) (beq_of_bneT (by assumption))]; simp; done) | (rw [signs_yes (k := k) (by omega) hall]; simp [*]; done) | (simp [*]; omega)), hw.below⟩
   ·
    replace hg25 := not_true hg25
    refine Lq.pass rfl rfl rfl ?_
    refine Lq.pass rfl rfl rfl ?_
    refine Lq.pass rfl rfl rfl ?_
    refine Lq.pass rfl rfl rfl ?_
    refine Lq.run 2 rfl ?_
    refine Lq.pass rfl rfl rfl ?_
    refine Lq.pass rfl rfl rfl ?_
    refine Lq.pass rfl rfl rfl ?_
    refine Lq.pass rfl rfl rfl ?_
    refine Lq.pass rfl rfl rfl ?_
    refine Lq.run 1 rfl ?_
    refine Lq.nil ?_
    refine Kt.sel [1, 3, 37] [_, _, _] rfl ?_
    refine Wk.condT rfl ?_
    refine Wk.seq ?_
    refine Wk.regionQ ?_
    refine Lq.run 1 rfl ?_
    refine Lq.nil ?_
    refine Kt.sel [8] [_] rfl ?_
    refine Wk.ret (Kt.end1 rfl rfl fun w' hw => ?_)
    exact ⟨ret_b (by unfold readyB; rw [pebB_eq, pebB_eq]; first | (simp [*]; done) | (rw [signs_no (k := k) (by omega) (beq_of_bneT (by assumption))]; simp; done) | (rw [signs_yes (k := k) (by omega) hall]; simp [*]; done) | (simp [*]; omega)), hw.below⟩
  ·
   replace hg19 := not_true hg19
   refine Lq.pass rfl rfl rfl ?_
   refine Lq.pass rfl rfl rfl ?_
   refine Lq.pass rfl rfl rfl ?_
   refine Lq.pass rfl rfl rfl ?_
   refine Lq.run 2 rfl ?_
   refine Lq.pass rfl rfl rfl ?_
   refine Lq.pass rfl rfl rfl ?_
   refine Lq.pass rfl rfl rfl ?_
   refine Lq.pass rfl rfl rfl ?_
   refine Lq.run 2 rfl ?_
   refine Lq.pass rfl rfl rfl ?_
   refine Lq.pass rfl rfl rfl ?_
   refine Lq.pass rfl rfl rfl ?_
   refine Lq.pass rfl rfl rfl ?_
   refine Lq.pass rfl rfl rfl ?_
   refine Lq.run 1 rfl ?_
   refine Lq.nil ?_
   refine Kt.sel [1, 3, 37] [_, _, _] rfl ?_
   refine Wk.condT rfl ?_
   refine Wk.seq ?_
   refine Wk.regionQ ?_
   refine Lq.run 1 rfl ?_
   refine Lq.nil ?_
   refine Kt.sel [8] [_] rfl ?_
   refine Wk.ret (Kt.end1 rfl rfl fun w' hw => ?_)
   exact ⟨ret_b (by unfold readyB; rw [pebB_eq, pebB_eq]; first | (simp [*]; done) | (rw [signs_no (k := k) (by omega) (beq_of_bneT (by assumption))]; simp; done) | (rw [signs_yes (k := k) (by omega) hall]; simp [*]; done) | (simp [*]; omega)), hw.below⟩
 ·
  replace hg14 := not_true hg14
  refine Lq.pass rfl rfl rfl ?_
  refine Lq.pass rfl rfl rfl ?_
  refine Lq.pass rfl rfl rfl ?_
  refine Lq.run 2 rfl ?_
  refine Lq.pass rfl rfl rfl ?_
  refine Lq.pass rfl rfl rfl ?_
  refine Lq.pass rfl rfl rfl ?_
  refine Lq.pass rfl rfl rfl ?_
  refine Lq.run 2 rfl ?_
  refine Lq.pass rfl rfl rfl ?_
  refine Lq.pass rfl rfl rfl ?_
  refine Lq.pass rfl rfl rfl ?_
  refine Lq.pass rfl rfl rfl ?_
  refine Lq.run 2 rfl ?_
  refine Lq.pass rfl rfl rfl ?_
  refine Lq.pass rfl rfl rfl ?_
  refine Lq.pass rfl rfl rfl ?_
  refine Lq.pass rfl rfl rfl ?_
  refine Lq.pass rfl rfl rfl ?_
  refine Lq.run 1 rfl ?_
  refine Lq.nil ?_
  refine Kt.sel [1, 3, 37] [_, _, _] rfl ?_
  refine Wk.condT rfl ?_
  refine Wk.seq ?_
  refine Wk.regionQ ?_
  refine Lq.run 1 rfl ?_
  refine Lq.nil ?_
  refine Kt.sel [8] [_] rfl ?_
  refine Wk.ret (Kt.end1 rfl rfl fun w' hw => ?_)
  exact ⟨ret_b (by unfold readyB; rw [pebB_eq, pebB_eq]; first | (simp [*]; done) | (rw [signs_no (k := k) (by omega) (beq_of_bneT (by assumption))]; simp; done) | (rw [signs_yes (k := k) (by omega) hall]; simp [*]; done) | (simp [*]; omega)), hw.below⟩
end Go.Proofs.YtjcoijejhachhaaGreatDoor
namespace Go.Proofs.YtjcoijejhachhaaGreatDoor
open Go.RowKit Go.Wk
set_option linter.unusedSimpArgs false
set_option maxHeartbeats 400000 in
/-- slices.Index[[]bool,bool] -/
theorem indexB_ok (vb : Value) (bs : List Bool) (y : Bool) (w : World) (hvb : Bools w vb bs) (hs1 : bs.length ≤ 1000000) :
    Calls Tryz.prog 86 [vb, bo_ y].toArray w fun en w' => en = .returned (.int .i64 (idxB bs y)) ∧ Below w.heap.size w w' := by
 refine fnStart (n := 19) (e := [(0, vb), (1, bo_ y)]) Tryz.func86 rfl rfl rfl rfl Ends.both ?_
 refine Wk.seq ?_
 refine Wk.regionQ ?_
 refine Lq.run 1 rfl ?_
 refine Lq.nil ?_
 refine Kt.sel [0, 1] [_, _] rfl ?_
 refine Wk.seq ?_
 refine Wk.seq ?_
 refine Wk.regionQ ?_
 refine Lq.run 1 rfl ?_
 refine Lq.op (v := i6_ ((bs.length : Int))) rfl rfl rfl (OpQ.lenRow rfl Tryz.runUnderlying42 rfl (bools_length _) (fun w1 hw1 => Row.own hvb hw1)) ?_
 refine Lq.run 1 rfl ?_
 refine Lq.nil ?_
 refine Kt.sel [0, 1, 7, 8] [_, _, _, _] rfl ?_
 refine Wk.block ?_
 refine Wk.loop (σ := Nat) (fun k => k ≤ bs.length ∧ ∀ i : Nat, i < k → (y == bs.getD i false) = false) (fun k => [(0, vb), (1, bo_ y), (7, i6_ ((bs.length : Int))), (8, i6_ ((k : Int)))]) (fun k => Own w.heap.size w []) (fun k => bs.length - k) (0) ⟨by omega, fun i hi => absurd hi (by omega)⟩ (Sub.sel [0, 1, 7, 8] rfl) (fun _ h => h) ?_
 rintro k ⟨hk, hall⟩
 refine Wk.seq ?_
 refine Wk.regionQ ?_
 refine Lq.run 1 rfl ?_
 refine Lq.nil ?_
 refine Kt.sel [0, 1, 7, 8, 9] [_, _, _, _, _] rfl ?_
 refine Wk.seq ?_
 refine Wk.cond (b := decide (((k : Int)) < ((bs.length : Int)))) rfl (fun h9 => ?_) (fun h9 => ?_)
 ·
  replace h9 := of_decide_eq_true h9
  refine Wk.skip ?_
  refine Kt.sel [0, 1, 7, 8] [_, _, _, _] rfl ?_
  refine Wk.seq ?_
  refine Wk.block ?_
  refine Wk.seq ?_
  refine Wk.regionQ ?_
  refine Lq.run 2 rfl ?_
  refine Lq.nil ?_
  refine Kt.sel [0, 1, 5, 7, 8] [_, _, _, _, _] rfl ?_
  refine Wk.seq ?_
  refine Wk.regionQ ?_
  refine Lq.run 3 rfl ?_
  refine Lq.op (v := .pointer (some (sAt vb ((k : Int))))) rfl rfl rfl (OpQ.atRow rfl Tryz.runUnderlying42 Tryz.sizeOf4 rfl rfl (by omega) (by rw [bools_length]; omega) (fun w1 hw1 => Row.own hvb hw1)) ?_
  refine Lq.op (v := bo_ (bs.getD (((k : Int)).toNat) false)) rfl rfl rfl (OpQ.load1 rfl Tryz.isAgg4 rfl (fun w1 hw1 => Bools.cell (Row.own hvb hw1) (by omega) (by omega))) ?_
  refine Lq.op rfl rfl rfl (OpQ.beq rfl Tryz.runUnderlying4 rfl rfl) ?_
  refine Lq.nil ?_
  refine Kt.sel [0, 1, 5, 7, 8, 16] [_, _, _, _, _, _] rfl ?_
  refine Wk.cond (b := y == (bs.getD (((k : Int)).toNat) false)) rfl (fun h16 => ?_) (fun h16 => ?_)
  ·
   refine Wk.seq ?_
   refine Wk.regionQ ?_
   refine Lq.run 2 rfl ?_
   refine Lq.nil ?_
   refine Kt.sel [4] [_] rfl ?_
   refine Wk.ret (Kt.end1 rfl rfl fun w' hw => ?_)
   exact ⟨ret_i (idxB_at (by omega) hall (by simpa using h16)).symm, hw.below⟩
  ·
   refine Wk.skip ?_
   refine Kt.sel [0, 1, 7, 8] [_, _, _, _] rfl ?_
   refine Wk.regionQ ?_
   refine Lq.op rfl rfl rfl (OpQ.add rfl rfl rfl (by omega) (by omega)) ?_
   refine Lq.run 1 rfl ?_
   refine Lq.nil ?_
   refine Kt.again (k + 1) ⟨by omega, fun i hi => (Nat.lt_succ_iff_lt_or_eq.1 hi).elim (hall i) (fun e => by subst e; simpa using h16)⟩ (by omega) (Sub.sel [0, 1, 7, 8] rfl) (fun _ h => h)
 ·
  replace h9 := of_decide_eq_false h9
  refine Wk.exit rfl ?_
  refine Kt.sel [] [] rfl ?_
  refine Wk.seq ?_
  refine Wk.regionQ ?_
  refine Lq.run 1 rfl ?_
  refine Lq.nil ?_
  refine Kt.sel [4] [_] rfl ?_
  refine Wk.ret (Kt.end1 rfl rfl fun w' hw => ?_)
  exact ⟨ret_i (idxB_none (fun i hi => hall i (by omega))).symm, hw.below⟩
set_option maxHeartbeats 400000 in
/-- slices.Contains[[]bool,bool] -/
theorem containsB_ok (vb : Value) (bs : List Bool) (y : Bool) (w : World) (hvb : Bools w vb bs) (hs1 : bs.length ≤ 1000000) :
    Calls Tryz.prog 63 [vb, bo_ y].toArray w fun en w' => en = .returned (.bool (decide (y ∈ bs))) ∧ Below w.heap.size w w' := by
 refine fnStart (n := 9) (e := [(0, vb), (1, bo_ y)]) Tryz.func63 rfl rfl rfl rfl Ends.both ?_
 refine Wk.seq ?_
 refine Wk.regionQ ?_
 refine Lq.run 1 rfl ?_
 refine Lq.nil ?_
 refine Kt.sel [0, 1] [_, _] rfl ?_
 refine Wk.seq ?_
 refine Wk.regionQ ?_
 refine Lq.run 2 rfl ?_
 refine Lq.op (v := i6_ (idxB bs y)) rfl rfl rfl (OpQ.call rfl Tryz.call86 rfl Own.stable (fun w1 hw1 => indexB_ok vb bs y w1 (Row.own hvb hw1) (by omega))) ?_
 refine Lq.run 2 rfl ?_
 refine Lq.nil ?_
 refine Kt.sel [4] [_] rfl ?_
 refine Wk.ret (Kt.end1 rfl rfl fun w' hw => ?_)
 exact ⟨ret_b (idxB_has bs y), hw.below⟩
set_option maxHeartbeats 400000 in
/-- slices.Equal[[]bool,bool] -/
theorem equalB_ok (va vb : Value) (xs ys : List Bool) (w : World) (hva : Bools w va xs) (hvb : Bools w vb ys) (hs1 : xs.length ≤ 1000000) :
    Calls Tryz.prog 40 [va, vb].toArray w fun en w' => en = .returned (.bool (xs == ys)) ∧ Below w.heap.size w w' := by
 refine fnStart (n := 26) (e := [(0, va), (1, vb)]) Tryz.func40 rfl rfl rfl rfl Ends.both ?_
 refine Wk.seq ?_
 refine Wk.regionQ ?_
 refine Lq.run 1 rfl ?_
 refine Lq.nil ?_
 refine Kt.sel [0, 1] [_, _] rfl ?_
 refine Wk.seq ?_
 refine Wk.seq ?_
 refine Wk.regionQ ?_
 refine Lq.run 1 rfl ?_
 refine Lq.op (v := i6_ ((xs.length : Int))) rfl rfl rfl (OpQ.lenRow rfl Tryz.runUnderlying42 rfl (bools_length _) (fun w1 hw1 => Row.own hva hw1)) ?_
 refine Lq.run 1 rfl ?_
 refine Lq.op (v := i6_ ((ys.length : Int))) rfl rfl rfl (OpQ.lenRow rfl Tryz.runUnderlying42 rfl (bools_length _) (fun w1 hw1 => Row.own hvb hw1)) ?_
 refine Lq.run 1 rfl ?_
 refine Lq.nil ?_
 refine Kt.sel [0, 1, 10] [_, _, _] rfl ?_
 refine Wk.cond (b := !(decide (((xs.length : Int)) = ((ys.length : Int))))) rfl (fun h10 => ?_) (fun h10 => ?_)
 ·
  replace h10 := not_true h10
  replace h10 := of_decide_eq_false h10
  refine Wk.seq ?_
  refine Wk.regionQ ?_
  refine Lq.run 1 rfl ?_
  refine Lq.nil ?_
  refine Kt.sel [4] [_] rfl ?_
  refine Wk.ret (Kt.end1 rfl rfl fun w' hw => ?_)
  exact ⟨ret_b (beq_no (fun e => by simp_all)).symm, hw.below⟩
 ·
  replace h10 := not_false h10
  replace h10 := of_decide_eq_true h10
  have hle : xs.length = ys.length := by omega
  refine Wk.skip ?_
  refine Kt.sel [0, 1] [_, _] rfl ?_
  refine Wk.seq ?_
  refine Wk.seq ?_
  refine Wk.regionQ ?_
  refine Lq.run 1 rfl ?_
  refine Lq.op (v := i6_ ((xs.length : Int))) rfl rfl rfl (OpQ.lenRow rfl Tryz.runUnderlying42 rfl (bools_length _) (fun w1 hw1 => Row.own hva hw1)) ?_
  refine Lq.run 1 rfl ?_
  refine Lq.nil ?_
  refine Kt.sel [0, 1, 12, 13] [_, _, _, _] rfl ?_
  refine Wk.block ?_
  refine Wk.loop (σ := Nat) (fun k => k ≤ xs.length ∧ ∀ i : Nat, i < k → xs.getD i false = ys.getD i false) (fun k => [(0, va), (1, vb), (12, i6_ ((xs.length : Int))), (13, i6_ ((k : Int)))]) (fun k => Own w.heap.size w []) (fun k => xs.length - k) (0) ⟨by omega, fun i hi => absurd hi (by omega)⟩ (Sub.sel [0, 1, 12, 13] rfl) (fun _ h => h) ?_
  rintro k ⟨hk, hall⟩
  refine Wk.seq ?_
  refine Wk.regionQ ?_
  refine Lq.run 1 rfl ?_
  refine Lq.nil ?_
  refine Kt.sel [0, 1, 12, 13, 14] [_, _, _, _, _] rfl ?_
  refine Wk.seq ?_
  refine Wk.cond (b := decide (((k : Int)) < ((xs.length : Int)))) rfl (fun h14 => ?_) (fun h14 => ?_)
  ·
   replace h14 := of_decide_eq_true h14
   refine Wk.skip ?_
   refine Kt.sel [0, 1, 12, 13] [_, _, _, _] rfl ?_
   refine Wk.seq ?_
   refine Wk.block ?_
   refine Wk.seq ?_
   refine Wk.regionQ ?_
   refine Lq.run 2 rfl ?_
   refine Lq.nil ?_
   refine Kt.sel [0, 1, 5, 12, 13] [_, _, _, _, _] rfl ?_
   refine Wk.seq ?_
   refine Wk.regionD Base.mixed (fun _ h => h.drawn) (by kernel_rfl) ?_
   refine Lq.run 2 rfl ?_
   refine Lq.op (v := .pointer (some (sAt va ((k : Int))))) rfl rfl rfl (OpQ.atRow rfl Tryz.runUnderlying42 Tryz.sizeOf4 rfl rfl (by omega) (by rw [bools_length]; omega) (fun w1 hw1 => Row.own hva hw1)) ?_
   refine Lq.op (v := bo_ (xs.getD (((k : Int)).toNat) false)) rfl rfl rfl (OpQ.load1 rfl Tryz.isAgg4 rfl (fun w1 hw1 => Bools.cell (Row.own hva hw1) (by omega) (by omega))) ?_
   refine Lq.run 2 rfl ?_
   refine Lq.op (v := .pointer (some (sAt vb ((k : Int))))) rfl rfl rfl (OpQ.atRow rfl Tryz.runUnderlying42 Tryz.sizeOf4 rfl rfl (by omega) (by rw [bools_length]; omega) (fun w1 hw1 => Row.own hvb hw1)) ?_
   refine Lq.op (v := bo_ (ys.getD (((k : Int)).toNat) false)) rfl rfl rfl (OpQ.load1 rfl Tryz.isAgg4 rfl (fun w1 hw1 => Bools.cell (Row.own hvb hw1) (by omega) (by omega))) ?_
   refine Lq.op rfl rfl rfl (OpQ.bne rfl Tryz.runUnderlying4 rfl rfl) ?_
   refine Lq.nil ?_
   refine Kt.sel [0, 1, 12, 13, 24] [_, _, _, _, _] rfl ?_
   refine Wk.cond (b := (xs.getD (((k : Int)).toNat) false) != (ys.getD (((k : Int)).toNat) false)) rfl (fun h24 => ?_) (fun h24 => ?_)
   ·
    refine Wk.seq ?_
    refine Wk.regionQ ?_
    refine Lq.run 1 rfl ?_
    refine Lq.nil ?_
    refine Kt.sel [4] [_] rfl ?_
    refine Wk.ret (Kt.end1 rfl rfl fun w' hw => ?_)
    exact ⟨ret_b (beq_no (fun e => by simp_all)).symm, hw.below⟩
   ·
    refine Wk.skip ?_
    refine Kt.sel [0, 1, 12, 13] [_, _, _, _] rfl ?_
    refine Wk.regionQ ?_
    refine Lq.op rfl rfl rfl (OpQ.add rfl rfl rfl (by omega) (by omega)) ?_
    refine Lq.run 1 rfl ?_
    refine Lq.nil ?_
    refine Kt.again (k + 1) ⟨by omega, fun i hi => (Nat.lt_succ_iff_lt_or_eq.1 hi).elim (hall i) (fun e => by subst e; simpa using h24)⟩ (by omega) (Sub.sel [0, 1, 12, 13] rfl) (fun _ h => h)
  ·
   replace h14 := of_decide_eq_false h14
   refine Wk.exit rfl ?_
   refine Kt.sel [] [] rfl ?_
   refine Wk.seq ?_
   refine Wk.regionQ ?_
   refine Lq.run 1 rfl ?_
   refine Lq.nil ?_
   refine Kt.sel [4] [_] rfl ?_
   refine Wk.ret (Kt.end1 rfl rfl fun w' hw => ?_)
   exact ⟨ret_b (by rw [bools_same hle (fun i hi => hall i (by omega))]; simp), hw.below⟩
set_option maxHeartbeats 400000 in
/-- (*impl.pebbleGame).stateOf -/
theorem stateOf_ok (a b : St) (k p Tp : Nat) (fv wv : Value) (va vb : Value) (xs ys : List Int) (w : World) (hp : w.heap[p]? = some (.cells #[.int .i64 a.n, str a.set, str a.rel, .int .i64 b.n, str b.set, str b.rel, .int .i64 (k : Int), .int .i64 ((prN a b : Nat) : Int), fv, wv, .bool false] Tp (0, 0))) (hva : Ints w va xs) (hvb : Ints w vb ys) (hVa : validB a = true) (hVb : validB b = true) (hk3 : k ≤ 3) (hx : Peb a.n.toNat k xs) (hy : Peb b.n.toNat k ys) (hsg : ∀ i : Nat, i < k → (xs.getD i 0 < 0 ↔ ys.getD i 0 < 0)) :
    Calls Tryz.prog 18 [.pointer (some ⟨p, 0, none⟩), va, vb].toArray w fun en w' => en = .returned (.int .i64 ((stU b.n.toNat (prN a b) xs ys k (k) : Nat) : Int)) ∧ Below w.heap.size w w' := by
 refine fnStart (n := 48) (e := [(0, .pointer (some ⟨p, 0, none⟩)), (1, va), (2, vb)]) Tryz.func18 rfl rfl rfl rfl Ends.both ?_
 have ha := validB_fine hVa
 have hb := validB_fine hVb
 have hm8 := ha.hi
 have hm1 := ha.lo
 have hb8 := hb.hi
 have hb1 := hb.lo
 have hpr := prN_le (a := a) (b := b) (by omega) (by omega)
 have hpp := prN_pos a b
 have hxl := hx.1
 have hyl := hy.1
 have hcl := code_lt hx hy hsg
 refine Wk.seq ?_
 refine Wk.regionQ ?_
 refine Lq.run 1 rfl ?_
 refine Lq.nil ?_
 refine Kt.sel [0, 1, 2] [_, _, _] rfl ?_
 refine Wk.seq ?_
 refine Wk.regionQ ?_
 refine Lq.run 1 rfl ?_
 refine Lq.nil ?_
 refine Kt.sel [0, 1, 2, 7] [_, _, _, _] rfl ?_
 refine Wk.seq ?_
 refine Wk.seq ?_
 refine Wk.regionQ ?_
 refine Lq.run 1 rfl ?_
 refine Lq.op (v := .pointer (some ⟨p, 0, none⟩)) rfl rfl rfl (OpQ.nilCheck rfl rfl) ?_
 refine Lq.op rfl rfl rfl (OpQ.fieldAddr rfl Tryz.runUnderlying44 rfl Tryz.sizeOf3 rfl rfl) ?_
 refine Lq.op (v := i6_ ((k : Int))) rfl rfl rfl (OpQ.load1 rfl Tryz.isAgg3 rfl (fun w1 hw1 => at_box hp hw1 6 rfl)) ?_
 refine Lq.op rfl rfl rfl (OpQ.sub rfl rfl rfl (by omega) (by omega)) ?_
 refine Lq.run 1 rfl ?_
 refine Lq.nil ?_
 refine Kt.sel [0, 1, 2, 7, 8] [_, _, _, _, _] rfl ?_
 refine Wk.block ?_
 refine Wk.loop (σ := Nat) (fun j => j ≤ k) (fun j => [(0, .pointer (some ⟨p, 0, none⟩)), (1, va), (2, vb), (7, i6_ (((stU b.n.toNat (prN a b) xs ys k (j) : Nat) : Int))), (8, i6_ ((k : Int) - 1 - (j : Int)))]) (fun j => Own w.heap.size w []) (fun j => k - j) (0) (by omega) (Sub.cons rfl (Sub.cons rfl (Sub.cons rfl (Sub.cons (by rfl) (Sub.cons (by simp [List.lookup]) Sub.nil))))) (fun _ h => h) ?_
 rintro j hj
 have hsl := stU_lt hcl j hj
 have hpj := pow65 hpr (show j ≤ 3 by omega)
 have hml := mul65 (x := stU b.n.toNat (prN a b) xs ys k j) (by omega) hpr
 refine Wk.seq ?_
 refine Wk.seq ?_
 refine Wk.regionQ ?_
 refine Lq.run 2 rfl ?_
 refine Lq.nil ?_
 refine Kt.sel [0, 1, 2, 7, 8, 15] [_, _, _, _, _, _] rfl ?_
 refine Wk.cond (b := decide ((0 : Int) ≤ ((k : Int) - 1 - (j : Int)))) rfl (fun h15 => ?_) (fun h15 => ?_)
 ·
  replace h15 := of_decide_eq_true h15
  have hjk : j < k := by omega
  obtain ⟨hx0, hx1⟩ := peb_at hx (i := k - 1 - j) (by omega)
  obtain ⟨hy0, hy1⟩ := peb_at hy (i := k - 1 - j) (by omega)
  have hs1 := hsg (k - 1 - j) (by omega)
  refine Wk.skip ?_
  refine Kt.sel [0, 1, 2, 7, 8] [_, _, _, _, _] rfl ?_
  refine Wk.seq ?_
  refine Wk.block ?_
  refine Wk.seq ?_
  refine Wk.regionQ ?_
  refine Lq.run 2 rfl ?_
  refine Lq.op (v := .pointer (some ⟨p, 0, none⟩)) rfl rfl rfl (OpQ.nilCheck rfl rfl) ?_
  refine Lq.op rfl rfl rfl (OpQ.fieldAddr rfl Tryz.runUnderlying44 rfl Tryz.sizeOf3 rfl rfl) ?_
  refine Lq.op (v := i6_ (((prN a b : Nat) : Int))) rfl rfl rfl (OpQ.load1 rfl Tryz.isAgg3 rfl (fun w1 hw1 => at_box hp hw1 7 rfl)) ?_
  refine Lq.op rfl rfl rfl (OpQ.mul rfl rfl rfl (by omega) (by omega)) ?_
  refine Lq.run 1 rfl ?_
  refine Lq.nil ?_
  refine Kt.sel [0, 1, 2, 7, 8] [_, _, _, _, _] rfl ?_
  refine Wk.seq ?_
  refine Wk.regionQ ?_
  refine Lq.run 2 rfl ?_
  refine Lq.op (v := .pointer (some (sAt va ((k : Int) - 1 - (j : Int))))) rfl rfl rfl (OpQ.atRow rfl Tryz.runUnderlying28 Tryz.sizeOf3 rfl rfl (by omega) (by rw [ints_length]; omega) (fun w1 hw1 => Row.own hva hw1)) ?_
  refine Lq.op (v := i6_ (xs.getD (k - 1 - j) 0)) rfl rfl rfl (OpQ.cast (by congr 2; omega) (OpQ.load1 rfl Tryz.isAgg3 rfl (fun w1 hw1 => Ints.cell (Row.own hva hw1) (by omega) (by omega)))) ?_
  refine Lq.run 1 rfl ?_
  refine Lq.nil ?_
  refine Kt.sel [0, 1, 2, 7, 8, 28] [_, _, _, _, _, _] rfl ?_
  refine Wk.cond (b := decide ((0 : Int) ≤ (xs.getD (k - 1 - j) 0))) rfl (fun h28 => ?_) (fun h28 => ?_)
  ·
   replace h28 := of_decide_eq_true h28
   have hxb := mul8 (x := xs.getD (k - 1 - j) 0) (y := b.n) (by omega) (by omega) (by omega) (by omega)
   refine Wk.regionD Base.mixed (fun _ h => h.drawn) (by kernel_rfl) ?_
   refine Lq.run 3 rfl ?_
   refine Lq.op (v := .pointer (some (sAt va ((k : Int) - 1 - (j : Int))))) rfl rfl rfl (OpQ.atRow rfl Tryz.runUnderlying28 Tryz.sizeOf3 rfl rfl (by omega) (by rw [ints_length]; omega) (fun w1 hw1 => Row.own hva hw1)) ?_
   refine Lq.op (v := i6_ (xs.getD (k - 1 - j) 0)) rfl rfl rfl (OpQ.cast (by congr 2; omega) (OpQ.load1 rfl Tryz.isAgg3 rfl (fun w1 hw1 => Ints.cell (Row.own hva hw1) (by omega) (by omega)))) ?_
   refine Lq.run 1 rfl ?_
   refine Lq.op (v := .pointer (some ⟨p, 0, none⟩)) rfl rfl rfl (OpQ.nilCheck rfl rfl) ?_
   refine Lq.op rfl rfl rfl (OpQ.fieldAddr rfl Tryz.runUnderlying44 rfl Tryz.sizeOf24 rfl rfl) ?_
   refine Lq.op rfl rfl rfl (OpQ.fieldAddr rfl Tryz.runUnderlying24 rfl Tryz.sizeOf3 rfl rfl) ?_
   refine Lq.op (v := i6_ b.n) rfl rfl rfl (OpQ.load1 rfl Tryz.isAgg3 rfl (fun w1 hw1 => at_box hp hw1 3 rfl)) ?_
   refine Lq.op rfl rfl rfl (OpQ.mul rfl rfl rfl (by omega) (by omega)) ?_
   refine Lq.op rfl rfl rfl (OpQ.add rfl rfl rfl (by omega) (by omega)) ?_
   refine Lq.run 2 rfl ?_
   refine Lq.op (v := .pointer (some (sAt vb ((k : Int) - 1 - (j : Int))))) rfl rfl rfl (OpQ.atRow rfl Tryz.runUnderlying28 Tryz.sizeOf3 rfl rfl (by omega) (by rw [ints_length]; omega) (fun w1 hw1 => Row.own hvb hw1)) ?_
   refine Lq.op (v := i6_ (ys.getD (k - 1 - j) 0)) rfl rfl rfl (OpQ.cast (by congr 2; omega) (OpQ.load1 rfl Tryz.isAgg3 rfl (fun w1 hw1 => Ints.cell (Row.own hvb hw1) (by omega) (by omega)))) ?_
   refine Lq.op rfl rfl rfl (OpQ.add rfl rfl rfl (by omega) (by omega)) ?_
   refine Lq.op rfl rfl rfl (OpQ.add rfl rfl rfl (by omega) (by omega)) ?_
   refine Lq.run 1 rfl ?_
   refine Lq.nil ?_
   refine Kt.sel [0, 1, 2, 7, 8] [_, _, _, _, _] rfl ?_
   refine Wk.regionQ ?_
   refine Lq.run 1 rfl ?_
   refine Lq.op rfl rfl rfl (OpQ.sub rfl rfl rfl (by omega) (by omega)) ?_
   refine Lq.run 1 rfl ?_
   refine Lq.nil ?_
   refine Kt.again (j + 1) (by omega) (by omega) (Sub.cons rfl (Sub.cons rfl (Sub.cons rfl (Sub.cons (by first | (rw [stU_pos (by omega) (by omega) (by omega)]; rfl) | (rw [stU_neg (by omega)]; rfl)) (Sub.cons (by simp [List.lookup]; omega) Sub.nil))))) (fun _ h => h)
  ·
   replace h28 := of_decide_eq_false h28
   refine Wk.skip ?_
   refine Kt.sel [0, 1, 2, 7, 8] [_, _, _, _, _] rfl ?_
   refine Wk.regionQ ?_
   refine Lq.run 1 rfl ?_
   refine Lq.op rfl rfl rfl (OpQ.sub rfl rfl rfl (by omega) (by omega)) ?_
   refine Lq.run 1 rfl ?_
   refine Lq.nil ?_
   refine Kt.again (j + 1) (by omega) (by omega) (Sub.cons rfl (Sub.cons rfl (Sub.cons rfl (Sub.cons (by first | (rw [stU_pos (by omega) (by omega) (by omega)]; rfl) | (rw [stU_neg (by omega)]; rfl)) (Sub.cons (by simp [List.lookup]; omega) Sub.nil))))) (fun _ h => h)
 ·
  replace h15 := of_decide_eq_false h15
  refine Wk.exit rfl ?_
  refine Kt.sel [7] [_] rfl ?_
  refine Wk.seq ?_
  refine Wk.regionQ ?_
  refine Lq.run 2 rfl ?_
  refine Lq.nil ?_
  refine Kt.sel [6] [_] rfl ?_
  refine Wk.ret (Kt.end1 rfl rfl fun w' hw => ?_)
  exact ⟨ret_i (by rw [show j = k from by omega]), hw.below⟩
def answered_ok_o3x : OV := (.one 1 (.take 2 (.take 3 (.one 4 (.one 5 (.take 12 (.take 13 .done)))))))
theorem answered_ok_o3x_c : ovB (opsOf 3 Tryz.f39.body) answered_ok_o3x 7 true #[true, false, false, false, false, false, true, true, true, true, true, true, false, false] = true := (ovB_one (by kernel_rfl) (ovB_take (by kernel_rfl) (ovB_take (by kernel_rfl) (ovB_one (by kernel_rfl) (ovB_one (by kernel_rfl) (ovB_take (by kernel_rfl) (ovB_take (by kernel_rfl) (ovB_done (by kernel_rfl)))))))))
def answered_ok_o3_1x : OV := (.one 4 (.one 5 (.take 12 (.take 13 .done))))
theorem answered_ok_o3_1x_c : ovB (opsOf 3 Tryz.f39.body) answered_ok_o3_1x 4 true #[true, true, true, true, false, false, true, true, true, true, true, true, false, false] = true := (ovB_one (by kernel_rfl) (ovB_one (by kernel_rfl) (ovB_take (by kernel_rfl) (ovB_take (by kernel_rfl) (ovB_done (by kernel_rfl))))))
def answered_ok_o3_2x : OV := (.one 5 (.take 12 (.take 13 .done)))
theorem answered_ok_o3_2x_c : ovB (opsOf 3 Tryz.f39.body) answered_ok_o3_2x 3 true #[true, true, true, true, true, false, true, true, true, true, true, true, false, false] = true := (ovB_one (by kernel_rfl) (ovB_take (by kernel_rfl) (ovB_take (by kernel_rfl) (ovB_done (by kernel_rfl)))))
def answered_ok_o3_3x : OV := (.take 12 (.one 11 (.take 13 .done)))
theorem answered_ok_o3_3x_c : ovB (opsOf 3 Tryz.f39.body) answered_ok_o3_3x 3 true #[true, true, true, true, true, true, true, true, true, true, true, false, false, false] = true := (ovB_take (by kernel_rfl) (ovB_one (by kernel_rfl) (ovB_take (by kernel_rfl) (ovB_done (by kernel_rfl)))))
def answered_ok_o3_4x : OV := (.alt 5 answered_ok_o3_3x (.one 11 answered_ok_o3_2x))
theorem answered_ok_o3_4x_c : ovB (opsOf 3 Tryz.f39.body) answered_ok_o3_4x 4 true #[true, true, true, true, true, false, true, true, true, true, true, false, false, false] = true := (ovB_alt (by kernel_rfl) (ovB_at (by kernel_rfl) answered_ok_o3_3x_c) (ovB_last (ovB_at (by kernel_rfl) answered_ok_o3_2x_c)))
def answered_ok_o3_5x : OV := (.take 2 (.take 3 (.alt 4 answered_ok_o3_4x (.one 11 answered_ok_o3_1x))))
theorem answered_ok_o3_5x_c : ovB (opsOf 3 Tryz.f39.body) answered_ok_o3_5x 7 true #[true, true, false, false, false, false, true, true, true, true, true, false, false, false] = true := (ovB_take (by kernel_rfl) (ovB_take (by kernel_rfl) (ovB_alt (by kernel_rfl) (ovB_at (by kernel_rfl) answered_ok_o3_4x_c) (ovB_last (ovB_at (by kernel_rfl) answered_ok_o3_1x_c)))))
def answered_ok_o3_6x : OV := (.alt 1 answered_ok_o3_5x (.one 11 answered_ok_o3x))
theorem answered_ok_o3_6x_c : ovB (opsOf 3 Tryz.f39.body) answered_ok_o3_6x 8 true #[true, false, false, false, false, false, true, true, true, true, true, false, false, false] = true := (ovB_alt (by kernel_rfl) (ovB_at (by kernel_rfl) answered_ok_o3_5x_c) (ovB_last (ovB_at (by kernel_rfl) answered_ok_o3x_c)))
def answered_ok_o3_7x : OV := (.alt 4 answered_ok_o3_4x (.one 11 answered_ok_o3_1x))
theorem answered_ok_o3_7x_c : ovB (opsOf 3 Tryz.f39.body) answered_ok_o3_7x 5 true #[true, true, true, true, false, false, true, true, true, true, true, false, false, false] = true := (ovB_alt (by kernel_rfl) (ovB_at (by kernel_rfl) answered_ok_o3_4x_c) (ovB_last (ovB_at (by kernel_rfl) answered_ok_o3_1x_c)))
def answered_ok_o3_8x : OV := (.take 12 (.one 10 (.one 11 (.take 13 .done))))
theorem answered_ok_o3_8x_c : ovB (opsOf 3 Tryz.f39.body) answered_ok_o3_8x 4 true #[true, true, true, true, true, true, true, true, true, true, false, false, false, false] = true := (ovB_take (by kernel_rfl) (ovB_one (by kernel_rfl) (ovB_one (by kernel_rfl) (ovB_take (by kernel_rfl) (ovB_done (by kernel_rfl))))))
def answered_ok_o3_9x : OV := (.alt 5 answered_ok_o3_8x (.one 10 answered_ok_o3_4x))
theorem answered_ok_o3_9x_c : ovB (opsOf 3 Tryz.f39.body) answered_ok_o3_9x 5 true #[true, true, true, true, true, false, true, true, true, true, false, false, false, false] = true := (ovB_alt (by kernel_rfl) (ovB_at (by kernel_rfl) answered_ok_o3_8x_c) (ovB_last (ovB_at (by kernel_rfl) answered_ok_o3_4x_c)))
def answered_ok_o3_10x : OV := (.take 2 (.take 3 (.alt 4 answered_ok_o3_9x (.one 10 answered_ok_o3_7x))))
theorem answered_ok_o3_10x_c : ovB (opsOf 3 Tryz.f39.body) answered_ok_o3_10x 8 true #[true, true, false, false, false, false, true, true, true, true, false, false, false, false] = true := (ovB_take (by kernel_rfl) (ovB_take (by kernel_rfl) (ovB_alt (by kernel_rfl) (ovB_at (by kernel_rfl) answered_ok_o3_9x_c) (ovB_last (ovB_at (by kernel_rfl) answered_ok_o3_7x_c)))))
def answered_ok_o3_11x : OV := (.take 8 (.take 9 (.alt 1 answered_ok_o3_10x (.one 10 answered_ok_o3_6x))))
theorem answered_ok_o3_11x_c : ovB (opsOf 3 Tryz.f39.body) answered_ok_o3_11x 11 true #[true, false, false, false, false, false, true, true, false, false, false, false, false, false] = true := (ovB_take (by kernel_rfl) (ovB_take (by kernel_rfl) (ovB_alt (by kernel_rfl) (ovB_at (by kernel_rfl) answered_ok_o3_10x_c) (ovB_last (ovB_at (by kernel_rfl) answered_ok_o3_6x_c)))))
def answered_ok_o3_12x : OV := (.take 8 (.take 9 (.alt 4 answered_ok_o3_9x (.one 10 answered_ok_o3_7x))))
theorem answered_ok_o3_12x_c : ovB (opsOf 3 Tryz.f39.body) answered_ok_o3_12x 8 true #[true, true, true, true, false, false, true, true, false, false, false, false, false, false] = true := (ovB_take (by kernel_rfl) (ovB_take (by kernel_rfl) (ovB_alt (by kernel_rfl) (ovB_at (by kernel_rfl) answered_ok_o3_9x_c) (ovB_last (ovB_at (by kernel_rfl) answered_ok_o3_7x_c)))))
def answered_ok_o3_13x : OV := (.take 8 (.take 9 (.alt 5 answered_ok_o3_8x (.one 10 answered_ok_o3_4x))))
theorem answered_ok_o3_13x_c : ovB (opsOf 3 Tryz.f39.body) answered_ok_o3_13x 7 true #[true, true, true, true, true, false, true, true, false, false, false, false, false, false] = true := (ovB_take (by kernel_rfl) (ovB_take (by kernel_rfl) (ovB_alt (by kernel_rfl) (ovB_at (by kernel_rfl) answered_ok_o3_8x_c) (ovB_last (ovB_at (by kernel_rfl) answered_ok_o3_4x_c)))))
def answered_ok_o3_14x : OV := (.take 12 (.one 7 (.take 8 (.take 9 (.one 10 (.one 11 (.take 13 .done)))))))
theorem answered_ok_o3_14x_c : ovB (opsOf 3 Tryz.f39.body) answered_ok_o3_14x 7 true #[true, true, true, true, true, true, true, false, false, false, false, false, false, false] = true := (ovB_take (by kernel_rfl) (ovB_one (by kernel_rfl) (ovB_take (by kernel_rfl) (ovB_take (by kernel_rfl) (ovB_one (by kernel_rfl) (ovB_one (by kernel_rfl) (ovB_take (by kernel_rfl) (ovB_done (by kernel_rfl)))))))))
def answered_ok_o3_15x : OV := (.alt 5 answered_ok_o3_14x (.one 7 answered_ok_o3_13x))
theorem answered_ok_o3_15x_c : ovB (opsOf 3 Tryz.f39.body) answered_ok_o3_15x 8 true #[true, true, true, true, true, false, true, false, false, false, false, false, false, false] = true := (ovB_alt (by kernel_rfl) (ovB_at (by kernel_rfl) answered_ok_o3_14x_c) (ovB_last (ovB_at (by kernel_rfl) answered_ok_o3_13x_c)))
def answered_ok_o3_16x : OV := (.take 2 (.take 3 (.alt 4 answered_ok_o3_15x (.one 7 answered_ok_o3_12x))))
theorem answered_ok_o3_16x_c : ovB (opsOf 3 Tryz.f39.body) answered_ok_o3_16x 11 true #[true, true, false, false, false, false, true, false, false, false, false, false, false, false] = true := (ovB_take (by kernel_rfl) (ovB_take (by kernel_rfl) (ovB_alt (by kernel_rfl) (ovB_at (by kernel_rfl) answered_ok_o3_15x_c) (ovB_last (ovB_at (by kernel_rfl) answered_ok_o3_12x_c)))))
def answered_ok_o3_17x : OV := (.take 0 (.take 6 (.alt 1 answered_ok_o3_16x (.one 7 answered_ok_o3_11x))))
theorem answered_ok_o3_17x_c : ovB (opsOf 3 Tryz.f39.body) answered_ok_o3_17x 14 true #[false, false, false, false, false, false, false, false, false, false, false, false, false, false] = true := (ovB_take (by kernel_rfl) (ovB_take (by kernel_rfl) (ovB_alt (by kernel_rfl) (ovB_at (by kernel_rfl) answered_ok_o3_16x_c) (ovB_last (ovB_at (by kernel_rfl) answered_ok_o3_11x_c)))))
def answered_ok_o3_18x : OV := .done
set_option maxHeartbeats 400000 in
/-- (*impl.pebbleGame).answered -/
theorem answered_ok (a b : St) (k p Tp : Nat) (fv wv : Value) (W : List Bool) (rest step : Nat) (w : World) (hp : w.heap[p]? = some (.cells #[.int .i64 a.n, str a.set, str a.rel, .int .i64 b.n, str b.set, str b.rel, .int .i64 (k : Int), .int .i64 ((prN a b : Nat) : Int), fv, wv, .bool false] Tp (0, 0))) (hwv : Bools w wv W) (hVa : validB a = true) (hVb : validB b = true) (hWl : W.length ≤ 300000) (hq : ∀ q : Nat, q < prN a b → rest + step * q < W.length) :
    Calls Tryz.prog 39 [.pointer (some ⟨p, 0, none⟩), i6_ ((rest : Int)), i6_ ((step : Int))].toArray w fun en w' => en = .returned (.bool (ansB (fun s => W.getD s false) a.n.toNat b.n.toNat rest step)) ∧ Below w.heap.size w w' := by
 refine fnStart (n := 77) (e := [(0, .pointer (some ⟨p, 0, none⟩)), (1, i6_ ((rest : Int))), (2, i6_ ((step : Int)))]) Tryz.func39 rfl rfl rfl rfl Ends.both ?_
 have ha := validB_fine hVa
 have hb := validB_fine hVb
 have hm8 := ha.hi
 have hm1 := ha.lo
 have hb8 := hb.hi
 have hb1 := hb.lo
 have hpr := prN_le (a := a) (b := b) (by omega) (by omega)
 have hpp := prN_pos a b
 refine Wk.seq ?_
 refine Wk.regionQ ?_
 refine Lq.run 1 rfl ?_
 refine Lq.nil ?_
 refine Kt.sel [0, 1, 2] [_, _, _] rfl ?_
 refine Wk.seq ?_
 refine Wk.seq ?_
 refine Wk.regionQ ?_
 refine Lq.run 1 rfl ?_
 refine Lq.op (v := .pointer (some ⟨p, 0, none⟩)) rfl rfl rfl (OpQ.nilCheck rfl rfl) ?_
 refine Lq.op rfl rfl rfl (OpQ.fieldAddr rfl Tryz.runUnderlying44 rfl Tryz.sizeOf4 rfl rfl) ?_
 refine Lq.op (v := bo_ false) rfl rfl rfl (OpQ.load1 rfl Tryz.isAgg4 rfl (fun w1 hw1 => at_box hp hw1 10 rfl)) ?_
 refine Lq.nil ?_
 refine Kt.sel [0, 1, 2, 14] [_, _, _, _] rfl ?_
 refine Wk.condF rfl ?_
 refine Wk.skip ?_
 refine Kt.sel [0, 1, 2] [_, _, _] rfl ?_
 refine Wk.seq ?_
 refine Wk.regionV (S := Own w.heap.size w []) answered_ok_o3_17x Base.mixed (fun _ h => h.drawn) (ovOk_at (by kernel_rfl) (by kernel_rfl) (by kernel_rfl) (by kernel_rfl) answered_ok_o3_17x_c) ?_
 refine Lv.share (σ := Nat × Nat) answered_ok_o3_18x (fun ⟨p24, p30⟩ => True) (fun ⟨p24, p30⟩ => [(0, .pointer (some ⟨p, 0, none⟩)), (1, i6_ ((rest : Int))), (2, i6_ ((step : Int))), (7, sl_ p24 a.n.toNat a.n.toNat), (8, sl_ p30 b.n.toNat b.n.toNat)]) (fun ⟨p24, p30⟩ => Own w.heap.size w [bk_ p24 ((List.replicate a.n.toNat (bo_ false)).toArray) 4, bk_ p30 ((List.replicate b.n.toNat (bo_ false)).toArray) 4]) ?_ fun H3_ => ?_
 ·
  rintro ⟨p24, p30⟩ -
  dsimp only
  refine Lv.nil ?_
  refine Kt.sel [0, 1, 2, 7, 8] [_, _, _, _, _] rfl ?_
  refine Wk.seq ?_
  refine Wk.seq ?_
  refine Wk.regionQ ?_
  refine Lq.run 1 rfl ?_
  refine Lq.op rfl rfl rfl (OpQ.lenS rfl Tryz.runUnderlying42 rfl) ?_
  refine Lq.run 1 rfl ?_
  refine Lq.nil ?_
  refine Kt.sel [0, 1, 2, 7, 8, 32, 33] [_, _, _, _, _, _, _] rfl ?_
  refine Wk.block ?_
  refine Wk.loop (σ := Nat × List Bool × List Bool) (fun ⟨x, R, C⟩ => x ≤ a.n.toNat ∧ Marks (fun x y => W.getD (rest + step * (1 + x * b.n.toNat + y)) false) a.n.toNat b.n.toNat x 0 R C) (fun ⟨x, R, C⟩ => [(0, .pointer (some ⟨p, 0, none⟩)), (1, i6_ ((rest : Int))), (2, i6_ ((step : Int))), (7, sl_ p24 a.n.toNat a.n.toNat), (8, sl_ p30 b.n.toNat b.n.toNat), (32, i6_ ((a.n.toNat : Int))), (33, i6_ ((x : Int)))]) (fun ⟨x, R, C⟩ => Own w.heap.size w [bk_ p24 (((R.map Value.bool)).toArray) 4, bk_ p30 (((C.map Value.bool)).toArray) 4]) (fun ⟨x, R, C⟩ => a.n.toNat - x) ((0, List.replicate a.n.toNat false, List.replicate b.n.toNat false)) ⟨by omega, marks_zero _ _ _⟩ (Sub.sel [0, 1, 2, 7, 8, 32, 33] rfl) (fun _ h => by simpa using h) ?_
  rintro ⟨x, R, C⟩ ⟨hx, hMk⟩
  dsimp only
  have hRl := hMk.rl
  have hCl := hMk.cl
  refine Wk.seq ?_
  refine Wk.regionQ ?_
  refine Lq.run 1 rfl ?_
  refine Lq.nil ?_
  refine Kt.sel [0, 1, 2, 7, 8, 32, 33, 34] [_, _, _, _, _, _, _, _] rfl ?_
  refine Wk.seq ?_
  refine Wk.cond (b := decide (((x : Int)) < ((a.n.toNat : Int)))) rfl (fun h34 => ?_) (fun h34 => ?_)
  ·
   replace h34 := of_decide_eq_true h34
   have hxn : x < a.n.toNat := by omega
   refine Wk.skip ?_
   refine Kt.sel [0, 1, 2, 7, 8, 32, 33] [_, _, _, _, _, _, _] rfl ?_
   refine Wk.seq ?_
   refine Wk.block ?_
   refine Wk.seq ?_
   refine Wk.regionQ ?_
   refine Lq.run 2 rfl ?_
   refine Lq.nil ?_
   refine Kt.sel [0, 1, 2, 7, 8, 9, 32, 33] [_, _, _, _, _, _, _, _] rfl ?_
   refine Wk.seq ?_
   refine Wk.regionQ ?_
   refine Lq.run 1 rfl ?_
   refine Lq.op rfl rfl rfl (OpQ.lenS rfl Tryz.runUnderlying42 rfl) ?_
   refine Lq.run 1 rfl ?_
   refine Lq.nil ?_
   refine Kt.sel [0, 1, 2, 7, 8, 9, 32, 33, 37, 38] [_, _, _, _, _, _, _, _, _, _] rfl ?_
   refine Wk.block ?_
   refine Wk.loop (σ := Nat × List Bool × List Bool) (fun ⟨y, R, C⟩ => y ≤ b.n.toNat ∧ Marks (fun x y => W.getD (rest + step * (1 + x * b.n.toNat + y)) false) a.n.toNat b.n.toNat x y R C) (fun ⟨y, R, C⟩ => [(0, .pointer (some ⟨p, 0, none⟩)), (1, i6_ ((rest : Int))), (2, i6_ ((step : Int))), (7, sl_ p24 a.n.toNat a.n.toNat), (8, sl_ p30 b.n.toNat b.n.toNat), (9, i6_ ((x : Int))), (32, i6_ ((a.n.toNat : Int))), (33, i6_ ((x : Int))), (37, i6_ ((b.n.toNat : Int))), (38, i6_ ((y : Int)))]) (fun ⟨y, R, C⟩ => Own w.heap.size w [bk_ p24 (((R.map Value.bool)).toArray) 4, bk_ p30 (((C.map Value.bool)).toArray) 4]) (fun ⟨y, R, C⟩ => b.n.toNat - y) ((0, R, C)) ⟨by omega, hMk⟩ (Sub.sel [0, 1, 2, 7, 8, 9, 32, 33, 37, 38] rfl) (fun _ h => h) ?_
   rintro ⟨y, R, C⟩ ⟨hy, hMk⟩
   dsimp only
   have hRl := hMk.rl
   have hCl := hMk.cl
   refine Wk.seq ?_
   refine Wk.regionQ ?_
   refine Lq.run 1 rfl ?_
   refine Lq.nil ?_
   refine Kt.sel [0, 1, 2, 7, 8, 9, 32, 33, 37, 38, 39] [_, _, _, _, _, _, _, _, _, _, _] rfl ?_
   refine Wk.seq ?_
   refine Wk.cond (b := decide (((y : Int)) < ((b.n.toNat : Int)))) rfl (fun h39 => ?_) (fun h39 => ?_)
   ·
    replace h39 := of_decide_eq_true h39
    have hyn : y < b.n.toNat := by omega
    have hqq := hq (1 + x * b.n.toNat + y) (pair_lt hxn hyn)
    have hqm : (step : Int) * (((1 + x * b.n.toNat + y) : Nat) : Int) = ((step * (1 + x * b.n.toNat + y) : Nat) : Int) := by rw [Int.natCast_mul]
    have hxb := mul8 (x := (x : Int)) (y := b.n) (by omega) (by omega) (by omega) (by omega)
    have hxc : ((x * b.n.toNat : Nat) : Int) = (x : Int) * b.n := by rw [Int.natCast_mul, Int.toNat_of_nonneg (by omega)]
    refine Wk.skip ?_
    refine Kt.sel [0, 1, 2, 7, 8, 9, 32, 33, 37, 38] [_, _, _, _, _, _, _, _, _, _] rfl ?_
    refine Wk.seq ?_
    refine Wk.block ?_
    refine Wk.seq ?_
    refine Wk.regionQ ?_
    refine Lq.run 2 rfl ?_
    refine Lq.nil ?_
    refine Kt.sel [0, 1, 2, 7, 8, 9, 10, 32, 33, 37, 38] [_, _, _, _, _, _, _, _, _, _, _] rfl ?_
    refine Wk.seq ?_
    refine Wk.regionD Base.mixed (fun _ h => h.drawn) (by kernel_rfl) ?_
    refine Lq.run 1 rfl ?_
    refine Lq.op (v := .pointer (some ⟨p, 0, none⟩)) rfl rfl rfl (OpQ.nilCheck rfl rfl) ?_
    refine Lq.op rfl rfl rfl (OpQ.fieldAddr rfl Tryz.runUnderlying44 rfl Tryz.sizeOf42 rfl rfl) ?_
    refine Lq.op (v := wv) rfl rfl rfl (OpQ.load1 rfl Tryz.isAgg42 rfl (fun w1 hw1 => at_box hp hw1 9 rfl)) ?_
    refine Lq.run 4 rfl ?_
    refine Lq.op (v := .pointer (some ⟨p, 0, none⟩)) rfl rfl rfl (OpQ.nilCheck rfl rfl) ?_
    refine Lq.op rfl rfl rfl (OpQ.fieldAddr rfl Tryz.runUnderlying44 rfl Tryz.sizeOf24 rfl rfl) ?_
    refine Lq.op rfl rfl rfl (OpQ.fieldAddr rfl Tryz.runUnderlying24 rfl Tryz.sizeOf3 rfl rfl) ?_
    refine Lq.op (v := i6_ b.n) rfl rfl rfl (OpQ.load1 rfl Tryz.isAgg3 rfl (fun w1 hw1 => at_box hp hw1 3 rfl)) ?_
    refine Lq.op (v := i6_ (((x * b.n.toNat : Nat) : Int))) rfl rfl rfl (OpQ.cast (by rw [Int.natCast_mul, show ((b.n.toNat : Nat) : Int) = b.n from by omega]) (OpQ.mul rfl rfl rfl (by omega) (by omega))) ?_
    refine Lq.op rfl rfl rfl (OpQ.add rfl rfl rfl (by omega) (by omega)) ?_
    refine Lq.run 1 rfl ?_
    refine Lq.op (v := i6_ ((((1 + x * b.n.toNat + y) : Nat) : Int))) rfl rfl rfl (OpQ.cast (by congr 1) (OpQ.add rfl rfl rfl (by omega) (by omega))) ?_
    refine Lq.op (v := i6_ (((step * (1 + x * b.n.toNat + y) : Nat) : Int))) rfl rfl rfl (OpQ.cast (by rw [← hqm]) (OpQ.mul rfl rfl rfl (by omega) (by omega))) ?_
    refine Lq.op (v := i6_ (((rest + step * (1 + x * b.n.toNat + y) : Nat) : Int))) rfl rfl rfl (OpQ.cast (by congr 1) (OpQ.add rfl rfl rfl (by omega) (by omega))) ?_
    refine Lq.op (v := .pointer (some (sAt wv (((rest + step * (1 + x * b.n.toNat + y) : Nat) : Int))))) rfl rfl rfl (OpQ.atRow rfl Tryz.runUnderlying42 Tryz.sizeOf4 rfl rfl (by omega) (by rw [bools_length]; omega) (fun w1 hw1 => Row.own hwv hw1)) ?_
    refine Lq.op (v := bo_ (W.getD (rest + step * (1 + x * b.n.toNat + y)) false)) rfl rfl rfl (OpQ.cast rfl (OpQ.load1 rfl Tryz.isAgg4 rfl (fun w1 hw1 => Bools.cell (Row.own hwv hw1) (by omega) (by omega)))) ?_
    refine Lq.nil ?_
    refine Kt.sel [0, 1, 2, 7, 8, 9, 10, 32, 33, 37, 38, 60] [_, _, _, _, _, _, _, _, _, _, _, _] rfl ?_
    refine Wk.cond (b := W.getD (rest + step * (1 + x * b.n.toNat + y)) false) rfl (fun h60 => ?_) (fun h60 => ?_)
    ·
     refine Wk.seq ?_
     refine Wk.region ?_
     refine Ll.run 2 rfl ?_
     refine Ll.op (v := pf_ p24 (((x : Int)).toNat)) rfl rfl rfl (OpQ.cast (by rw [Nat.zero_add]) (OpQ.indexAddr1 (i := (x : Int)) rfl Tryz.runUnderlying42 Tryz.sizeOf4 rfl rfl (by omega) (by omega))) ?_
     refine Ll.store1 (v := bo_ true) (hs' := [bk_ p24 ((((R.map Value.bool)).set (((x : Int)).toNat) (bo_ true)).toArray) 4, _]) 0 rfl rfl rfl rfl rfl rfl Tryz.sizeOf4 rfl (by first | (simp; done) | (simp; omega) | omega) (by first | (rw [list_set]; rfl) | (simp only [Nat.zero_add]; rw [list_set]; rfl)) ?_
     refine Ll.nil ?_
     refine Kt.sel [0, 1, 2, 7, 8, 9, 10, 32, 33, 37, 38] [_, _, _, _, _, _, _, _, _, _, _] rfl ?_
     refine Wk.region ?_
     refine Ll.run 2 rfl ?_
     refine Ll.op (v := pf_ p30 (((y : Int)).toNat)) rfl rfl rfl (OpQ.cast (by rw [Nat.zero_add]) (OpQ.indexAddr1 (i := (y : Int)) rfl Tryz.runUnderlying42 Tryz.sizeOf4 rfl rfl (by omega) (by omega))) ?_
     refine Ll.store1 (v := bo_ true) (hs' := [_, bk_ p30 ((((C.map Value.bool)).set (((y : Int)).toNat) (bo_ true)).toArray) 4]) 1 rfl rfl rfl rfl rfl rfl Tryz.sizeOf4 rfl (by first | (simp; done) | (simp; omega) | omega) (by first | (rw [list_set]; rfl) | (simp only [Nat.zero_add]; rw [list_set]; rfl)) ?_
     refine Ll.nil ?_
     refine Kt.sel [0, 1, 2, 7, 8, 9, 32, 33, 37, 38] [_, _, _, _, _, _, _, _, _, _] rfl ?_
     refine Wk.regionQ ?_
     refine Lq.op rfl rfl rfl (OpQ.add rfl rfl rfl (by omega) (by omega)) ?_
     refine Lq.run 1 rfl ?_
     refine Lq.nil ?_
     refine Kt.again ((y + 1, R.set x true, C.set y true)) ⟨by omega, marks_yes hMk (by omega) (by omega) (by simpa using h60)⟩ (by omega) (Sub.sel [0, 1, 2, 7, 8, 9, 32, 33, 37, 38] rfl) (fun _ h => by rw [List.map_set, List.map_set]; exact h)
    ·
     refine Wk.skip ?_
     refine Kt.sel [0, 1, 2, 7, 8, 9, 32, 33, 37, 38] [_, _, _, _, _, _, _, _, _, _] rfl ?_
     refine Wk.regionQ ?_
     refine Lq.op rfl rfl rfl (OpQ.add rfl rfl rfl (by omega) (by omega)) ?_
     refine Lq.run 1 rfl ?_
     refine Lq.nil ?_
     refine Kt.again ((y + 1, R, C)) ⟨by omega, marks_no hMk (by simpa using h60)⟩ (by omega) (Sub.sel [0, 1, 2, 7, 8, 9, 32, 33, 37, 38] rfl) (fun _ h => h)
   ·
    replace h39 := of_decide_eq_false h39
    have hye : y = b.n.toNat := by omega
    refine Wk.exit rfl ?_
    refine Kt.sel [0, 1, 2, 7, 8, 32, 33] [_, _, _, _, _, _, _] rfl ?_
    refine Wk.regionQ ?_
    refine Lq.op rfl rfl rfl (OpQ.add rfl rfl rfl (by omega) (by omega)) ?_
    refine Lq.run 1 rfl ?_
    refine Lq.nil ?_
    refine Kt.again ((x + 1, R, C)) ⟨by omega, marks_next (hye ▸ hMk)⟩ (by omega) (Sub.sel [0, 1, 2, 7, 8, 32, 33] rfl) (fun _ h => h)
  ·
   replace h34 := of_decide_eq_false h34
   obtain rfl : x = a.n.toNat := by omega
   refine Wk.exit rfl ?_
   refine Kt.sel [7, 8] [_, _] rfl ?_
   refine Wk.seq ?_
   refine Wk.regionQ ?_
   refine Lq.run 1 rfl ?_
   refine Lq.op (v := bo_ (decide (false ∈ R))) rfl rfl rfl (OpQ.call rfl Tryz.call63 rfl Own.stable (fun w1 hw1 => containsB_ok (sl_ p24 a.n.toNat a.n.toNat) R false w1 (Own.row hw1 (i := 0) rfl (by rw [← hRl]; exact bools_all R) (by simpa using hRl) (by omega)) (by omega))) ?_
   refine Lq.run 2 rfl ?_
   refine Lq.bool fun b72 hg72 => ?_
   cases b72
   ·
    replace hg72 := not_false hg72
    refine Lq.pass rfl rfl rfl ?_
    refine Lq.pass rfl rfl rfl ?_
    refine Lq.pass rfl rfl rfl ?_
    refine Lq.run 2 rfl ?_
    refine Lq.nil ?_
    refine Kt.sel [6] [_] rfl ?_
    refine Wk.ret (Kt.end1 rfl rfl fun w' hw => ?_)
    exact ⟨ret_b (by rw [← marks_end hMk]; simp [*]), hw.below⟩
   ·
    replace hg72 := not_true hg72
    refine Lq.run 1 rfl ?_
    refine Lq.op (v := bo_ (decide (false ∈ C))) rfl rfl rfl (OpQ.call rfl Tryz.call63 rfl Own.stable (fun w1 hw1 => containsB_ok (sl_ p30 b.n.toNat b.n.toNat) C false w1 (Own.row hw1 (i := 1) rfl (by rw [← hCl]; exact bools_all C) (by simpa using hCl) (by omega)) (by omega))) ?_
    refine Lq.run 3 rfl ?_
    refine Lq.nil ?_
    refine Kt.sel [6] [_] rfl ?_
    refine Wk.ret (Kt.end1 rfl rfl fun w' hw => ?_)
    exact ⟨ret_b (by rw [← marks_end hMk]; simp [*]), hw.below⟩
 refine Lv.share (σ := Nat) answered_ok_o3_8x (fun p24 => True) (fun p24 => [(0, .pointer (some ⟨p, 0, none⟩)), (1, i6_ ((rest : Int))), (2, i6_ ((step : Int))), (24, sl_ p24 a.n.toNat a.n.toNat), (28, .pointer (some (⟨p, 3, none⟩)))]) (fun p24 => Own w.heap.size w [bk_ p24 ((List.replicate a.n.toNat (bo_ false)).toArray) 4]) ?_ fun H3__1 => ?_
 ·
  rintro p24 -
  refine Lv.run 1 rfl (fun _ h => h.tail) ?_
  refine Lv.loud rfl ?_
  refine Ll.op (v := i6_ ((b.n.toNat : Int))) rfl rfl rfl (OpQ.cast (by rw [show ((b.n.toNat : Nat) : Int) = b.n from by omega] <;> rfl) (OpQ.load1 rfl Tryz.isAgg3 rfl (fun w1 hw1 => at_box hp hw1 3 rfl))) ?_
  refine Ll.nil (Lv.joint (fun _ h => h.tail) ?_)
  refine Lv.loud rfl ?_
  refine Ll.make (k := b.n.toNat) Base.elem42 Tryz.zeroValue4 rfl rfl rfl rfl rfl (by omega) fun p30 hp30 => ?_
  rw [show madeCells (Value.cells (bo_ false)) (b.n.toNat * 1) = (List.replicate b.n.toNat (bo_ false)).toArray from made_list _ _ rfl]
  refine Ll.nil (Lv.joint (fun _ h => h.tail.tail) ?_)
  refine Lv.run 1 rfl (fun _ h => h.tail.tail) ?_
  exact Lv.to (H3_ ⟨p24, p30⟩ trivial) (Sub.sel [0, 1, 2, 7, 8] rfl) (fun _ h => Own.pickT (hs := [_, _]) (hs' := [_, _]) h [1, 0] rfl (by decide))
 refine Lv.share (σ := Unit) answered_ok_o3_4x (fun _u => True) (fun _u => [(0, .pointer (some ⟨p, 0, none⟩)), (1, i6_ ((rest : Int))), (2, i6_ ((step : Int))), (23, i6_ ((a.n.toNat : Int))), (29, i6_ ((b.n.toNat : Int)))]) (fun _u => Own w.heap.size w []) ?_ fun H3__2 => ?_
 ·
  rintro _u -
  refine Lv.alt rfl ?_ (Lv.loud rfl ?_)
  ·
   refine Ll.make (k := a.n.toNat) Base.elem42 Tryz.zeroValue4 rfl rfl rfl rfl rfl (by omega) fun p24 hp24 => ?_
   rw [show madeCells (Value.cells (bo_ false)) (a.n.toNat * 1) = (List.replicate a.n.toNat (bo_ false)).toArray from made_list _ _ rfl]
   refine Ll.nil (Lv.joint (fun _ h => h.tail) ?_)
   refine Lv.run 1 rfl (fun _ h => h.tail) ?_
   refine Lv.loud rfl ?_
   refine Ll.make (k := b.n.toNat) Base.elem42 Tryz.zeroValue4 rfl rfl rfl rfl rfl (by omega) fun p30_1 hp30_1 => ?_
   rw [show madeCells (Value.cells (bo_ false)) (b.n.toNat * 1) = (List.replicate b.n.toNat (bo_ false)).toArray from made_list _ _ rfl]
   refine Ll.nil (Lv.joint (fun _ h => h.tail.tail) ?_)
   refine Lv.run 1 rfl (fun _ h => h.tail.tail) ?_
   exact Lv.to (H3_ ⟨p24, p30_1⟩ trivial) (Sub.sel [0, 1, 2, 7, 8] rfl) (fun _ h => Own.pickT (hs := [_, _]) (hs' := [_, _]) h [1, 0] rfl (by decide))
  ·
   refine Ll.make (k := b.n.toNat) Base.elem42 Tryz.zeroValue4 rfl rfl rfl rfl rfl (by omega) fun p30_2 hp30_2 => ?_
   rw [show madeCells (Value.cells (bo_ false)) (b.n.toNat * 1) = (List.replicate b.n.toNat (bo_ false)).toArray from made_list _ _ rfl]
   refine Ll.nil (Lv.joint (fun _ h => h.tail) ?_)
   refine Lv.loud rfl ?_
   refine Ll.make (k := a.n.toNat) Base.elem42 Tryz.zeroValue4 rfl rfl rfl rfl rfl (by omega) fun p24_1 hp24_1 => ?_
   rw [show madeCells (Value.cells (bo_ false)) (a.n.toNat * 1) = (List.replicate a.n.toNat (bo_ false)).toArray from made_list _ _ rfl]
   refine Ll.nil (Lv.joint (fun _ h => h.tail.tail) ?_)
   refine Lv.run 2 rfl (fun _ h => h.tail.tail) ?_
   exact Lv.to (H3_ ⟨p24_1, p30_2⟩ trivial) (Sub.sel [0, 1, 2, 7, 8] rfl) (fun _ h => h)
 refine Lv.share (σ := Nat) answered_ok_o3_1x (fun p30 => True) (fun p30 => [(0, .pointer (some ⟨p, 0, none⟩)), (1, i6_ ((rest : Int))), (2, i6_ ((step : Int))), (22, .pointer (some (⟨p, 0, none⟩))), (30, sl_ p30 b.n.toNat b.n.toNat)]) (fun p30 => Own w.heap.size w [bk_ p30 ((List.replicate b.n.toNat (bo_ false)).toArray) 4]) ?_ fun H3__3 => ?_
 ·
  rintro p30 -
  refine Lv.loud rfl ?_
  refine Ll.op (v := i6_ ((a.n.toNat : Int))) rfl rfl rfl (OpQ.cast (by rw [show ((a.n.toNat : Nat) : Int) = a.n from by omega] <;> rfl) (OpQ.load1 rfl Tryz.isAgg3 rfl (fun w1 hw1 => at_box hp hw1 0 rfl))) ?_
  refine Ll.nil (Lv.joint (fun _ h => h.tail) ?_)
  refine Lv.loud rfl ?_
  refine Ll.make (k := a.n.toNat) Base.elem42 Tryz.zeroValue4 rfl rfl rfl rfl rfl (by omega) fun p24_2 hp24_2 => ?_
  rw [show madeCells (Value.cells (bo_ false)) (a.n.toNat * 1) = (List.replicate a.n.toNat (bo_ false)).toArray from made_list _ _ rfl]
  refine Ll.nil (Lv.joint (fun _ h => h.tail.tail) ?_)
  refine Lv.run 2 rfl (fun _ h => h.tail.tail) ?_
  exact Lv.to (H3_ ⟨p24_2, p30⟩ trivial) (Sub.sel [0, 1, 2, 7, 8] rfl) (fun _ h => h)
 refine Lv.share (σ := Unit) answered_ok_o3_9x (fun _u => True) (fun _u => [(0, .pointer (some ⟨p, 0, none⟩)), (1, i6_ ((rest : Int))), (2, i6_ ((step : Int))), (23, i6_ ((a.n.toNat : Int))), (28, .pointer (some (⟨p, 3, none⟩)))]) (fun _u => Own w.heap.size w []) ?_ fun H3__4 => ?_
 ·
  rintro _u -
  refine Lv.alt rfl ?_ (Lv.loud rfl ?_)
  ·
   refine Ll.make (k := a.n.toNat) Base.elem42 Tryz.zeroValue4 rfl rfl rfl rfl rfl (by omega) fun p24_3 hp24_3 => ?_
   rw [show madeCells (Value.cells (bo_ false)) (a.n.toNat * 1) = (List.replicate a.n.toNat (bo_ false)).toArray from made_list _ _ rfl]
   refine Ll.nil (Lv.joint (fun _ h => h.tail) ?_)
   exact Lv.to (H3__1 p24_3 trivial) (Sub.sel [0, 1, 2, 24, 28] rfl) (fun _ h => h)
  ·
   refine Ll.op (v := i6_ ((b.n.toNat : Int))) rfl rfl rfl (OpQ.cast (by rw [show ((b.n.toNat : Nat) : Int) = b.n from by omega] <;> rfl) (OpQ.load1 rfl Tryz.isAgg3 rfl (fun w1 hw1 => at_box hp hw1 3 rfl))) ?_
   refine Ll.nil (Lv.joint (fun _ h => h) ?_)
   exact Lv.to (H3__2 () trivial) (Sub.sel [0, 1, 2, 23, 29] rfl) (fun _ h => h)
 refine Lv.share (σ := Unit) answered_ok_o3_7x (fun _u => True) (fun _u => [(0, .pointer (some ⟨p, 0, none⟩)), (1, i6_ ((rest : Int))), (2, i6_ ((step : Int))), (22, .pointer (some (⟨p, 0, none⟩))), (29, i6_ ((b.n.toNat : Int)))]) (fun _u => Own w.heap.size w []) ?_ fun H3__5 => ?_
 ·
  rintro _u -
  refine Lv.alt rfl ?_ (Lv.loud rfl ?_)
  ·
   refine Ll.op (v := i6_ ((a.n.toNat : Int))) rfl rfl rfl (OpQ.cast (by rw [show ((a.n.toNat : Nat) : Int) = a.n from by omega] <;> rfl) (OpQ.load1 rfl Tryz.isAgg3 rfl (fun w1 hw1 => at_box hp hw1 0 rfl))) ?_
   refine Ll.nil (Lv.joint (fun _ h => h) ?_)
   exact Lv.to (H3__2 () trivial) (Sub.sel [0, 1, 2, 23, 29] rfl) (fun _ h => h)
  ·
   refine Ll.make (k := b.n.toNat) Base.elem42 Tryz.zeroValue4 rfl rfl rfl rfl rfl (by omega) fun p30_3 hp30_3 => ?_
   rw [show madeCells (Value.cells (bo_ false)) (b.n.toNat * 1) = (List.replicate b.n.toNat (bo_ false)).toArray from made_list _ _ rfl]
   refine Ll.nil (Lv.joint (fun _ h => h.tail) ?_)
   exact Lv.to (H3__3 p30_3 trivial) (Sub.sel [0, 1, 2, 22, 30] rfl) (fun _ h => h)
 refine Lv.run 2 rfl (fun _ h => h) ?_
 refine Lv.alt rfl ?_ (Lv.loud rfl ?_)
 ·
  refine Ll.op (v := .pointer (some ⟨p, 0, none⟩)) rfl rfl rfl (OpQ.nilCheck rfl rfl) ?_
  refine Ll.nil (Lv.joint (fun _ h => h) ?_)
  refine Lv.take rfl rfl rfl rfl rfl (OpQ.fieldAddr rfl Tryz.runUnderlying44 rfl Tryz.sizeOf24 rfl rfl) (fun _ h => h) ?_
  refine Lv.take rfl rfl rfl rfl rfl (OpQ.fieldAddr rfl Tryz.runUnderlying24 rfl Tryz.sizeOf3 rfl rfl) (fun _ h => h) ?_
  refine Lv.alt rfl ?_ (Lv.loud rfl ?_)
  ·
   refine Ll.op (v := i6_ ((a.n.toNat : Int))) rfl rfl rfl (OpQ.cast (by rw [show ((a.n.toNat : Nat) : Int) = a.n from by omega] <;> rfl) (OpQ.load1 rfl Tryz.isAgg3 rfl (fun w1 hw1 => at_box hp hw1 0 rfl))) ?_
   refine Ll.nil (Lv.joint (fun _ h => h) ?_)
   refine Lv.alt rfl ?_ (Lv.loud rfl ?_)
   ·
    refine Ll.make (k := a.n.toNat) Base.elem42 Tryz.zeroValue4 rfl rfl rfl rfl rfl (by omega) fun p24_4 hp24_4 => ?_
    rw [show madeCells (Value.cells (bo_ false)) (a.n.toNat * 1) = (List.replicate a.n.toNat (bo_ false)).toArray from made_list _ _ rfl]
    refine Ll.nil (Lv.joint (fun _ h => h.tail) ?_)
    refine Lv.run 1 rfl (fun _ h => h.tail) ?_
    refine Lv.loud rfl ?_
    refine Ll.op (v := .pointer (some ⟨p, 0, none⟩)) rfl rfl rfl (OpQ.nilCheck rfl rfl) ?_
    refine Ll.nil (Lv.joint (fun _ h => h.tail) ?_)
    refine Lv.take rfl rfl rfl rfl rfl (OpQ.fieldAddr rfl Tryz.runUnderlying44 rfl Tryz.sizeOf24 rfl rfl) (fun _ h => h.tail) ?_
    refine Lv.take rfl rfl rfl rfl rfl (OpQ.fieldAddr rfl Tryz.runUnderlying24 rfl Tryz.sizeOf3 rfl rfl) (fun _ h => h.tail) ?_
    refine Lv.loud rfl ?_
    refine Ll.op (v := i6_ ((b.n.toNat : Int))) rfl rfl rfl (OpQ.cast (by rw [show ((b.n.toNat : Nat) : Int) = b.n from by omega] <;> rfl) (OpQ.load1 rfl Tryz.isAgg3 rfl (fun w1 hw1 => at_box hp hw1 3 rfl))) ?_
    refine Ll.nil (Lv.joint (fun _ h => h.tail) ?_)
    refine Lv.loud rfl ?_
    refine Ll.make (k := b.n.toNat) Base.elem42 Tryz.zeroValue4 rfl rfl rfl rfl rfl (by omega) fun p30_4 hp30_4 => ?_
    rw [show madeCells (Value.cells (bo_ false)) (b.n.toNat * 1) = (List.replicate b.n.toNat (bo_ false)).toArray from made_list _ _ rfl]
    refine Ll.nil (Lv.joint (fun _ h => h.tail.tail) ?_)
    refine Lv.run 1 rfl (fun _ h => h.tail.tail) ?_
    exact Lv.to (H3_ ⟨p24_4, p30_4⟩ trivial) (Sub.sel [0, 1, 2, 7, 8] rfl) (fun _ h => Own.pickT (hs := [_, _]) (hs' := [_, _]) h [1, 0] rfl (by decide))
   ·
    refine Ll.op (v := .pointer (some ⟨p, 0, none⟩)) rfl rfl rfl (OpQ.nilCheck rfl rfl) ?_
    refine Ll.nil (Lv.joint (fun _ h => h) ?_)
    refine Lv.take rfl rfl rfl rfl rfl (OpQ.fieldAddr rfl Tryz.runUnderlying44 rfl Tryz.sizeOf24 rfl rfl) (fun _ h => h) ?_
    refine Lv.take rfl rfl rfl rfl rfl (OpQ.fieldAddr rfl Tryz.runUnderlying24 rfl Tryz.sizeOf3 rfl rfl) (fun _ h => h) ?_
    refine Lv.alt rfl ?_ (Lv.loud rfl ?_)
    ·
     refine Ll.make (k := a.n.toNat) Base.elem42 Tryz.zeroValue4 rfl rfl rfl rfl rfl (by omega) fun p24_5 hp24_5 => ?_
     rw [show madeCells (Value.cells (bo_ false)) (a.n.toNat * 1) = (List.replicate a.n.toNat (bo_ false)).toArray from made_list _ _ rfl]
     refine Ll.nil (Lv.joint (fun _ h => h.tail) ?_)
     exact Lv.to (H3__1 p24_5 trivial) (Sub.sel [0, 1, 2, 24, 28] rfl) (fun _ h => h)
    ·
     refine Ll.op (v := i6_ ((b.n.toNat : Int))) rfl rfl rfl (OpQ.cast (by rw [show ((b.n.toNat : Nat) : Int) = b.n from by omega] <;> rfl) (OpQ.load1 rfl Tryz.isAgg3 rfl (fun w1 hw1 => at_box hp hw1 3 rfl))) ?_
     refine Ll.nil (Lv.joint (fun _ h => h) ?_)
     exact Lv.to (H3__2 () trivial) (Sub.sel [0, 1, 2, 23, 29] rfl) (fun _ h => h)
  ·
   refine Ll.op (v := .pointer (some ⟨p, 0, none⟩)) rfl rfl rfl (OpQ.nilCheck rfl rfl) ?_
   refine Ll.nil (Lv.joint (fun _ h => h) ?_)
   refine Lv.take rfl rfl rfl rfl rfl (OpQ.fieldAddr rfl Tryz.runUnderlying44 rfl Tryz.sizeOf24 rfl rfl) (fun _ h => h) ?_
   refine Lv.take rfl rfl rfl rfl rfl (OpQ.fieldAddr rfl Tryz.runUnderlying24 rfl Tryz.sizeOf3 rfl rfl) (fun _ h => h) ?_
   refine Lv.alt rfl ?_ (Lv.loud rfl ?_)
   ·
    refine Ll.op (v := i6_ ((a.n.toNat : Int))) rfl rfl rfl (OpQ.cast (by rw [show ((a.n.toNat : Nat) : Int) = a.n from by omega] <;> rfl) (OpQ.load1 rfl Tryz.isAgg3 rfl (fun w1 hw1 => at_box hp hw1 0 rfl))) ?_
    refine Ll.nil (Lv.joint (fun _ h => h) ?_)
    exact Lv.to (H3__4 () trivial) (Sub.sel [0, 1, 2, 23, 28] rfl) (fun _ h => h)
   ·
    refine Ll.op (v := i6_ ((b.n.toNat : Int))) rfl rfl rfl (OpQ.cast (by rw [show ((b.n.toNat : Nat) : Int) = b.n from by omega] <;> rfl) (OpQ.load1 rfl Tryz.isAgg3 rfl (fun w1 hw1 => at_box hp hw1 3 rfl))) ?_
    refine Ll.nil (Lv.joint (fun _ h => h) ?_)
    exact Lv.to (H3__5 () trivial) (Sub.sel [0, 1, 2, 22, 29] rfl) (fun _ h => h)
 ·
  refine Ll.op (v := .pointer (some ⟨p, 0, none⟩)) rfl rfl rfl (OpQ.nilCheck rfl rfl) ?_
  refine Ll.nil (Lv.joint (fun _ h => h) ?_)
  refine Lv.take rfl rfl rfl rfl rfl (OpQ.fieldAddr rfl Tryz.runUnderlying44 rfl Tryz.sizeOf24 rfl rfl) (fun _ h => h) ?_
  refine Lv.take rfl rfl rfl rfl rfl (OpQ.fieldAddr rfl Tryz.runUnderlying24 rfl Tryz.sizeOf3 rfl rfl) (fun _ h => h) ?_
  refine Lv.alt rfl ?_ (Lv.loud rfl ?_)
  ·
   refine Ll.op (v := .pointer (some ⟨p, 0, none⟩)) rfl rfl rfl (OpQ.nilCheck rfl rfl) ?_
   refine Ll.nil (Lv.joint (fun _ h => h) ?_)
   refine Lv.take rfl rfl rfl rfl rfl (OpQ.fieldAddr rfl Tryz.runUnderlying44 rfl Tryz.sizeOf24 rfl rfl) (fun _ h => h) ?_
   refine Lv.take rfl rfl rfl rfl rfl (OpQ.fieldAddr rfl Tryz.runUnderlying24 rfl Tryz.sizeOf3 rfl rfl) (fun _ h => h) ?_
   refine Lv.alt rfl ?_ (Lv.loud rfl ?_)
   ·
    refine Ll.op (v := i6_ ((a.n.toNat : Int))) rfl rfl rfl (OpQ.cast (by rw [show ((a.n.toNat : Nat) : Int) = a.n from by omega] <;> rfl) (OpQ.load1 rfl Tryz.isAgg3 rfl (fun w1 hw1 => at_box hp hw1 0 rfl))) ?_
    refine Ll.nil (Lv.joint (fun _ h => h) ?_)
    exact Lv.to (H3__4 () trivial) (Sub.sel [0, 1, 2, 23, 28] rfl) (fun _ h => h)
   ·
    refine Ll.op (v := i6_ ((b.n.toNat : Int))) rfl rfl rfl (OpQ.cast (by rw [show ((b.n.toNat : Nat) : Int) = b.n from by omega] <;> rfl) (OpQ.load1 rfl Tryz.isAgg3 rfl (fun w1 hw1 => at_box hp hw1 3 rfl))) ?_
    refine Ll.nil (Lv.joint (fun _ h => h) ?_)
    exact Lv.to (H3__5 () trivial) (Sub.sel [0, 1, 2, 22, 29] rfl) (fun _ h => h)
  ·
   refine Ll.op (v := i6_ ((b.n.toNat : Int))) rfl rfl rfl (OpQ.cast (by rw [show ((b.n.toNat : Nat) : Int) = b.n from by omega] <;> rfl) (OpQ.load1 rfl Tryz.isAgg3 rfl (fun w1 hw1 => at_box hp hw1 3 rfl))) ?_
   refine Ll.nil (Lv.joint (fun _ h => h) ?_)
   refine Lv.alt rfl ?_ (Lv.loud rfl ?_)
   ·
    refine Ll.op (v := .pointer (some ⟨p, 0, none⟩)) rfl rfl rfl (OpQ.nilCheck rfl rfl) ?_
    refine Ll.nil (Lv.joint (fun _ h => h) ?_)
    refine Lv.take rfl rfl rfl rfl rfl (OpQ.fieldAddr rfl Tryz.runUnderlying44 rfl Tryz.sizeOf24 rfl rfl) (fun _ h => h) ?_
    refine Lv.take rfl rfl rfl rfl rfl (OpQ.fieldAddr rfl Tryz.runUnderlying24 rfl Tryz.sizeOf3 rfl rfl) (fun _ h => h) ?_
    refine Lv.alt rfl ?_ (Lv.loud rfl ?_)
    ·
     refine Ll.op (v := i6_ ((a.n.toNat : Int))) rfl rfl rfl (OpQ.cast (by rw [show ((a.n.toNat : Nat) : Int) = a.n from by omega] <;> rfl) (OpQ.load1 rfl Tryz.isAgg3 rfl (fun w1 hw1 => at_box hp hw1 0 rfl))) ?_
     refine Ll.nil (Lv.joint (fun _ h => h) ?_)
     exact Lv.to (H3__2 () trivial) (Sub.sel [0, 1, 2, 23, 29] rfl) (fun _ h => h)
    ·
     refine Ll.make (k := b.n.toNat) Base.elem42 Tryz.zeroValue4 rfl rfl rfl rfl rfl (by omega) fun p30_5 hp30_5 => ?_
     rw [show madeCells (Value.cells (bo_ false)) (b.n.toNat * 1) = (List.replicate b.n.toNat (bo_ false)).toArray from made_list _ _ rfl]
     refine Ll.nil (Lv.joint (fun _ h => h.tail) ?_)
     exact Lv.to (H3__3 p30_5 trivial) (Sub.sel [0, 1, 2, 22, 30] rfl) (fun _ h => h)
   ·
    refine Ll.make (k := b.n.toNat) Base.elem42 Tryz.zeroValue4 rfl rfl rfl rfl rfl (by omega) fun p30_6 hp30_6 => ?_
    rw [show madeCells (Value.cells (bo_ false)) (b.n.toNat * 1) = (List.replicate b.n.toNat (bo_ false)).toArray from made_list _ _ rfl]
    refine Ll.nil (Lv.joint (fun _ h => h.tail) ?_)
    refine Lv.loud rfl ?_
    refine Ll.op (v := .pointer (some ⟨p, 0, none⟩)) rfl rfl rfl (OpQ.nilCheck rfl rfl) ?_
    refine Ll.nil (Lv.joint (fun _ h => h.tail) ?_)
    refine Lv.take rfl rfl rfl rfl rfl (OpQ.fieldAddr rfl Tryz.runUnderlying44 rfl Tryz.sizeOf24 rfl rfl) (fun _ h => h.tail) ?_
    refine Lv.take rfl rfl rfl rfl rfl (OpQ.fieldAddr rfl Tryz.runUnderlying24 rfl Tryz.sizeOf3 rfl rfl) (fun _ h => h.tail) ?_
    refine Lv.loud rfl ?_
    refine Ll.op (v := i6_ ((a.n.toNat : Int))) rfl rfl rfl (OpQ.cast (by rw [show ((a.n.toNat : Nat) : Int) = a.n from by omega] <;> rfl) (OpQ.load1 rfl Tryz.isAgg3 rfl (fun w1 hw1 => at_box hp hw1 0 rfl))) ?_
    refine Ll.nil (Lv.joint (fun _ h => h.tail) ?_)
    refine Lv.loud rfl ?_
    refine Ll.make (k := a.n.toNat) Base.elem42 Tryz.zeroValue4 rfl rfl rfl rfl rfl (by omega) fun p24_6 hp24_6 => ?_
    rw [show madeCells (Value.cells (bo_ false)) (a.n.toNat * 1) = (List.replicate a.n.toNat (bo_ false)).toArray from made_list _ _ rfl]
    refine Ll.nil (Lv.joint (fun _ h => h.tail.tail) ?_)
    refine Lv.run 2 rfl (fun _ h => h.tail.tail) ?_
    exact Lv.to (H3_ ⟨p24_6, p30_6⟩ trivial) (Sub.sel [0, 1, 2, 7, 8] rfl) (fun _ h => h)
set_option maxHeartbeats 400000 in
/-- (*impl.pebbleGame).listsAt -/
theorem listsAt_ok (a b : St) (k p Tp : Nat) (fv wv : Value) (s : Nat) (w : World) (hp : w.heap[p]? = some (.cells #[.int .i64 a.n, str a.set, str a.rel, .int .i64 b.n, str b.set, str b.rel, .int .i64 (k : Int), .int .i64 ((prN a b : Nat) : Int), fv, wv, .bool false] Tp (0, 0))) (hVa : validB a = true) (hVb : validB b = true) (hk3 : k ≤ 3) (hs : s ≤ 300000) :
    Calls Tryz.prog 37 [.pointer (some ⟨p, 0, none⟩), i6_ ((s : Int))].toArray w fun en w' => ∃ v, en = .returned v ∧ Below w.heap.size w w' ∧ NewRows w.heap.size 3 3 w' v (placed (stX a b k s) k).length (ints (placed (stX a b k s) k)) (placed (stY a b k s) k).length (ints (placed (stY a b k s) k)) := by
 refine fnStart (n := 56) (e := [(0, .pointer (some ⟨p, 0, none⟩)), (1, i6_ ((s : Int)))]) Tryz.func37 rfl rfl rfl rfl Ends.both ?_
 have ha := validB_fine hVa
 have hb := validB_fine hVb
 have hm8 := ha.hi
 have hm1 := ha.lo
 have hb8 := hb.hi
 have hb1 := hb.lo
 have hpr := prN_le (a := a) (b := b) (by omega) (by omega)
 have hpp := prN_pos a b
 refine Wk.seq ?_
 refine Wk.regionQ ?_
 refine Lq.run 2 rfl ?_
 refine Lq.nil ?_
 refine Kt.sel [0, 1] [_, _] rfl ?_
 refine Wk.seq ?_
 refine Wk.region ?_
 refine Ll.slice (xs := []) (vs := []) Base.elem28 rfl rfl rfl rfl rfl rfl (by decide) rfl fun p9 hp9 => ?_
 refine Ll.slice (xs := []) (vs := []) Base.elem28 rfl rfl rfl rfl rfl rfl (by decide) rfl fun p10 hp10 => ?_
 refine Ll.run 2 rfl ?_
 refine Ll.nil ?_
 refine Kt.sel [0, 1, 6, 7] [_, _, _, _] rfl ?_
 refine Wk.seq ?_
 refine Wk.seq ?_
 refine Wk.regionQ ?_
 refine Lq.run 1 rfl ?_
 refine Lq.op (v := .pointer (some ⟨p, 0, none⟩)) rfl rfl rfl (OpQ.nilCheck rfl rfl) ?_
 refine Lq.op rfl rfl rfl (OpQ.fieldAddr rfl Tryz.runUnderlying44 rfl Tryz.sizeOf3 rfl rfl) ?_
 refine Lq.op (v := i6_ ((k : Int))) rfl rfl rfl (OpQ.load1 rfl Tryz.isAgg3 rfl (fun w1 hw1 => at_box hp hw1 6 rfl)) ?_
 refine Lq.run 1 rfl ?_
 refine Lq.nil ?_
 refine Kt.sel [0, 1, 6, 7, 14, 15] [_, _, _, _, _, _] rfl ?_
 refine Wk.block ?_
 refine Wk.loop (σ := Nat × Nat × Nat × Nat × Array Value × Nat × Nat × Array Value) (fun ⟨i, N, g1, c1, u1, g2, c2, u2⟩ => i ≤ k ∧ (N = s / prN a b ^ i ∧ N ≤ 300000) ∧ (u1.size = c1 * 1 ∧ (placed (stX a b k s) i).length ≤ c1 ∧ u1.toList.take (placed (stX a b k s) i).length = ints (placed (stX a b k s) i)) ∧ (u2.size = c2 * 1 ∧ (placed (stY a b k s) i).length ≤ c2 ∧ u2.toList.take (placed (stY a b k s) i).length = ints (placed (stY a b k s) i))) (fun ⟨i, N, g1, c1, u1, g2, c2, u2⟩ => [(0, .pointer (some ⟨p, 0, none⟩)), (1, i6_ ((N : Int))), (6, sl_ g1 ((placed (stX a b k s) i).length) c1), (7, sl_ g2 ((placed (stY a b k s) i).length) c2), (14, i6_ ((k : Int))), (15, i6_ ((i : Int)))]) (fun ⟨i, N, g1, c1, u1, g2, c2, u2⟩ => Own w.heap.size w [bk_ g1 u1 3, bk_ g2 u2 3]) (fun ⟨i, N, g1, c1, u1, g2, c2, u2⟩ => k - i) ((0, s, p9, 0, #[], p10, 0, #[])) ⟨by omega, ⟨by simp, hs⟩, ⟨rfl, Nat.le_refl _, rfl⟩, ⟨rfl, Nat.le_refl _, rfl⟩⟩ (Sub.cons rfl (Sub.cons rfl (Sub.cons rfl (Sub.cons rfl (Sub.sel [14, 15] rfl))))) (fun _ h => h.pick [1, 0] rfl (by decide)) ?_
 rintro ⟨i, N, g1, c1, u1, g2, c2, u2⟩ ⟨hi, ⟨hN, hN3⟩, ⟨hc1, hl1, ht1⟩, ⟨hc2, hl2, ht2⟩⟩
 dsimp only
 have hp1 := placed_le (stX a b k s) i
 have hp2 := placed_le (stY a b k s) i
 have hNd := Nat.div_le_self N (prN a b)
 refine Wk.seq ?_
 refine Wk.regionQ ?_
 refine Lq.run 1 rfl ?_
 refine Lq.nil ?_
 refine Kt.sel [0, 1, 6, 7, 14, 15, 16] [_, _, _, _, _, _, _] rfl ?_
 refine Wk.seq ?_
 refine Wk.cond (b := decide (((i : Int)) < ((k : Int)))) rfl (fun h16 => ?_) (fun h16 => ?_)
 ·
  replace h16 := of_decide_eq_true h16
  have hik : i < k := by omega
  obtain ⟨hdx0, hdx1, hdx2⟩ := dig_x (a := a) (b := b) (s := s) hik
  obtain ⟨hdy0, hdy1, hdy2⟩ := dig_y (a := a) (b := b) (s := s) (by omega) hik
  have hdl := dig_lt (s := s) (i := i) hpp
  refine Wk.skip ?_
  refine Kt.sel [0, 1, 6, 7, 14, 15] [_, _, _, _, _, _] rfl ?_
  refine Wk.seq ?_
  refine Wk.block ?_
  refine Wk.seq ?_
  refine Wk.seq ?_
  refine Wk.regionQ ?_
  refine Lq.run 2 rfl ?_
  refine Lq.op (v := .pointer (some ⟨p, 0, none⟩)) rfl rfl rfl (OpQ.nilCheck rfl rfl) ?_
  refine Lq.op rfl rfl rfl (OpQ.fieldAddr rfl Tryz.runUnderlying44 rfl Tryz.sizeOf3 rfl rfl) ?_
  refine Lq.op (v := i6_ (((prN a b : Nat) : Int))) rfl rfl rfl (OpQ.load1 rfl Tryz.isAgg3 rfl (fun w1 hw1 => at_box hp hw1 7 rfl)) ?_
  refine Lq.op (v := i6_ (((dig (prN a b) s i) : Int))) rfl rfl rfl (OpQ.cast (by rw [show (dig (prN a b) s i) = N % prN a b from by rw [hN]; rfl]; rfl) (OpQ.rem rfl rfl rfl (by omega) (by omega))) ?_
  refine Lq.run 1 rfl ?_
  refine Lq.nil ?_
  refine Kt.sel [0, 1, 6, 7, 8, 14, 15] [_, _, _, _, _, _, _] rfl ?_
  refine Wk.seq ?_
  refine Wk.regionQ ?_
  refine Lq.run 2 rfl ?_
  refine Lq.nil ?_
  refine Kt.sel [0, 1, 6, 7, 8, 14, 15, 24] [_, _, _, _, _, _, _, _] rfl ?_
  refine Wk.cond (b := decide ((0 : Int) < (((dig (prN a b) s i) : Int)))) rfl (fun h24 => ?_) (fun h24 => ?_)
  ·
   replace h24 := of_decide_eq_true h24
   have hpx := placed_pos (xs := stX a b k s) (k := i) (by omega)
   have hpy := placed_pos (xs := stY a b k s) (k := i) (by omega)
   refine Wk.seq ?_
   refine Wk.region ?_
   refine Ll.run 2 rfl ?_
   refine Ll.op rfl rfl rfl (OpQ.sub rfl rfl rfl (by omega) (by omega)) ?_
   refine Ll.run 1 rfl ?_
   refine Ll.op (v := .pointer (some ⟨p, 0, none⟩)) rfl rfl rfl (OpQ.nilCheck rfl rfl) ?_
   refine Ll.op rfl rfl rfl (OpQ.fieldAddr rfl Tryz.runUnderlying44 rfl Tryz.sizeOf24 rfl rfl) ?_
   refine Ll.op rfl rfl rfl (OpQ.fieldAddr rfl Tryz.runUnderlying24 rfl Tryz.sizeOf3 rfl rfl) ?_
   refine Ll.op (v := i6_ b.n) rfl rfl rfl (OpQ.load1 rfl Tryz.isAgg3 rfl (fun w1 hw1 => at_box hp hw1 3 rfl)) ?_
   refine Ll.op (v := i6_ ((stX a b k s).getD i 0)) rfl rfl rfl (OpQ.cast (dig_xv (a := a) (b := b) (k := k) (s := s) hik (by omega) rfl (by omega)) (OpQ.quo rfl rfl rfl (by omega) (by omega) (by omega))) ?_
   refine Ll.slice (xs := [.tmp 33]) (vs := [i6_ ((stX a b k s).getD i 0)]) Base.elem28 rfl rfl rfl rfl rfl rfl (by decide) rfl fun p34 hp34 => ?_
   refine Ll.appendInts (xs := (placed (stX a b k s) i)) (ys := [(stX a b k s).getD i 0]) Base.elem28 1 rfl rfl rfl rfl rfl rfl rfl hc1 hl1 ht1 (fun w1 hw1 => (Own.row hw1 (i := 0) rfl (n := 1) (cap := 1) (vs := ints [(stX a b k s).getD i 0]) rfl rfl (by decide))) ((((placed (stX a b k s) i)) ++ ([(stX a b k s).getD i 0])).length) (by first | (simp; done) | (simp; omega)) (by first | (simp; done) | (simp; omega) | omega) fun p35 cap35 cur35 hp35 hcp35 hlp35 htp35 => ?_
   show Ll _ _ (Own _ _ [_, _, _]) _ _ ((35, sl_ p35 (((((placed (stX a b k s) i)) ++ ([(stX a b k s).getD i 0])).length)) cap35) :: _) _ _ _
   refine Ll.run 1 rfl ?_
   refine Ll.nil ?_
   refine Kt.sel [0, 1, 6, 7, 8, 14, 15] [_, _, _, _, _, _, _] rfl ?_
   refine Wk.region ?_
   refine Ll.run 2 rfl ?_
   refine Ll.op rfl rfl rfl (OpQ.sub rfl rfl rfl (by omega) (by omega)) ?_
   refine Ll.run 1 rfl ?_
   refine Ll.op (v := .pointer (some ⟨p, 0, none⟩)) rfl rfl rfl (OpQ.nilCheck rfl rfl) ?_
   refine Ll.op rfl rfl rfl (OpQ.fieldAddr rfl Tryz.runUnderlying44 rfl Tryz.sizeOf24 rfl rfl) ?_
   refine Ll.op rfl rfl rfl (OpQ.fieldAddr rfl Tryz.runUnderlying24 rfl Tryz.sizeOf3 rfl rfl) ?_
   refine Ll.op (v := i6_ b.n) rfl rfl rfl (OpQ.load1 rfl Tryz.isAgg3 rfl (fun w1 hw1 => at_box hp hw1 3 rfl)) ?_
   refine Ll.op (v := i6_ ((stY a b k s).getD i 0)) rfl rfl rfl (OpQ.cast (dig_yv (a := a) (b := b) (k := k) (s := s) hik (by omega) rfl (by omega)) (OpQ.rem rfl rfl rfl (by omega) (by omega))) ?_
   refine Ll.slice (xs := [.tmp 44]) (vs := [i6_ ((stY a b k s).getD i 0)]) Base.elem28 rfl rfl rfl rfl rfl rfl (by decide) rfl fun p45 hp45 => ?_
   refine Ll.appendInts (xs := (placed (stY a b k s) i)) (ys := [(stY a b k s).getD i 0]) Base.elem28 3 rfl rfl rfl rfl rfl rfl rfl hc2 hl2 ht2 (fun w1 hw1 => (Own.row hw1 (i := 0) rfl (n := 1) (cap := 1) (vs := ints [(stY a b k s).getD i 0]) rfl rfl (by decide))) ((((placed (stY a b k s) i)) ++ ([(stY a b k s).getD i 0])).length) (by first | (simp; done) | (simp; omega)) (by first | (simp; done) | (simp; omega) | omega) fun p46 cap46 cur46 hp46 hcp46 hlp46 htp46 => ?_
   show Ll _ _ (Own _ _ [_, _, _, _]) _ _ ((46, sl_ p46 (((((placed (stY a b k s) i)) ++ ([(stY a b k s).getD i 0])).length)) cap46) :: _) _ _ _
   refine Ll.run 1 rfl ?_
   refine Ll.nil ?_
   refine Kt.sel [0, 1, 6, 7, 14, 15] [_, _, _, _, _, _] rfl ?_
   refine Wk.regionQ ?_
   refine Lq.run 2 rfl ?_
   refine Lq.op (v := .pointer (some ⟨p, 0, none⟩)) rfl rfl rfl (OpQ.nilCheck rfl rfl) ?_
   refine Lq.op rfl rfl rfl (OpQ.fieldAddr rfl Tryz.runUnderlying44 rfl Tryz.sizeOf3 rfl rfl) ?_
   refine Lq.op (v := i6_ (((prN a b : Nat) : Int))) rfl rfl rfl (OpQ.load1 rfl Tryz.isAgg3 rfl (fun w1 hw1 => at_box hp hw1 7 rfl)) ?_
   refine Lq.op (v := i6_ (((N / prN a b : Nat) : Int))) rfl rfl rfl (OpQ.cast (by rfl) (OpQ.quo rfl rfl rfl (by omega) (by omega) (by omega))) ?_
   refine Lq.run 1 rfl ?_
   refine Lq.nil ?_
   refine Kt.sel [0, 1, 6, 7, 14, 15] [_, _, _, _, _, _] rfl ?_
   refine Wk.regionQ ?_
   refine Lq.op rfl rfl rfl (OpQ.add rfl rfl rfl (by omega) (by omega)) ?_
   refine Lq.run 1 rfl ?_
   refine Lq.nil ?_
   refine Kt.again ((i + 1, N / prN a b, p35, cap35, cur35, p46, cap46, cur46)) ⟨by omega, ⟨by rw [hN, dig_down], by dsimp only; omega⟩, ⟨hcp35, by rw [hpx]; simpa using hlp35, by rw [hpx]; simpa using htp35⟩, ⟨hcp46, by rw [hpy]; simpa using hlp46, by rw [hpy]; simpa using htp46⟩⟩ (by omega) (Sub.cons rfl (Sub.cons rfl (Sub.cons (by rw [hpx]; simp [List.lookup]) (Sub.cons (by rw [hpy]; simp [List.lookup]) (Sub.sel [14, 15] rfl))))) (fun _ h => h.pick [2, 3] rfl (by decide))
  ·
   replace h24 := of_decide_eq_false h24
   have hpx := placed_neg (xs := stX a b k s) (k := i) (by omega)
   have hpy := placed_neg (xs := stY a b k s) (k := i) (by omega)
   refine Wk.skip ?_
   refine Kt.sel [0, 1, 6, 7, 14, 15] [_, _, _, _, _, _] rfl ?_
   refine Wk.regionQ ?_
   refine Lq.run 2 rfl ?_
   refine Lq.op (v := .pointer (some ⟨p, 0, none⟩)) rfl rfl rfl (OpQ.nilCheck rfl rfl) ?_
   refine Lq.op rfl rfl rfl (OpQ.fieldAddr rfl Tryz.runUnderlying44 rfl Tryz.sizeOf3 rfl rfl) ?_
   refine Lq.op (v := i6_ (((prN a b : Nat) : Int))) rfl rfl rfl (OpQ.load1 rfl Tryz.isAgg3 rfl (fun w1 hw1 => at_box hp hw1 7 rfl)) ?_
   refine Lq.op (v := i6_ (((N / prN a b : Nat) : Int))) rfl rfl rfl (OpQ.cast (by rfl) (OpQ.quo rfl rfl rfl (by omega) (by omega) (by omega))) ?_
   refine Lq.run 1 rfl ?_
   refine Lq.nil ?_
   refine Kt.sel [0, 1, 6, 7, 14, 15] [_, _, _, _, _, _] rfl ?_
   refine Wk.regionQ ?_
   refine Lq.op rfl rfl rfl (OpQ.add rfl rfl rfl (by omega) (by omega)) ?_
   refine Lq.run 1 rfl ?_
   refine Lq.nil ?_
   refine Kt.again ((i + 1, N / prN a b, g1, c1, u1, g2, c2, u2)) ⟨by omega, ⟨by rw [hN, dig_down], by dsimp only; omega⟩, ⟨hc1, by rw [hpx]; exact hl1, by rw [hpx]; exact ht1⟩, ⟨hc2, by rw [hpy]; exact hl2, by rw [hpy]; exact ht2⟩⟩ (by omega) (Sub.cons rfl (Sub.cons rfl (Sub.cons (by rw [hpx]; rfl) (Sub.cons (by rw [hpy]; rfl) (Sub.sel [14, 15] rfl))))) (fun _ h => h)
 ·
  replace h16 := of_decide_eq_false h16
  refine Wk.exit rfl ?_
  refine Kt.sel [6, 7] [_, _] rfl ?_
  refine Wk.seq ?_
  refine Wk.regionQ ?_
  refine Lq.run 4 rfl ?_
  refine Lq.nil ?_
  refine Kt.sel [4, 5] [_, _] rfl ?_
  refine Wk.ret (Kt.end2 rfl rfl rfl fun w' hw => ?_)
  obtain rfl : k = i := by omega
  exact ⟨_, rfl, hw.below, hw.newRows (i := 0) (j := 1) rfl rfl (by decide) hc1 hl1 (by simpa using ht1) hc2 hl2 (by simpa using ht2)⟩
set_option maxHeartbeats 400000 in
/-- (*impl.pebbleGame).turn -/
theorem turn_ok (B : Nat) (w0 : World) (hs : List (Nat × Obj)) (a b : St) (k n p gf cf : Nat) (uf : Array Value) (gw cw : Nat) (uw : Array Value) (w : World) (hVa : validB a = true) (hVb : validB b = true) (hk3 : k ≤ 3) (hlf : (WL 0 a b k).length ≤ cf) (htf : uf.toList.take (WL 0 a b k).length = bools (WL 0 a b k)) (hlw : (WL n a b k).length ≤ cw) (htw : uw.toList.take (WL n a b k).length = bools (WL n a b k)) (hw : Own B w0 (bk_ p #[i6_ a.n, str a.set, str a.rel, i6_ b.n, str b.set, str b.rel, i6_ ((k : Int)), i6_ (((prN a b : Nat) : Int)), sl_ gf ((WL 0 a b k).length) cf, sl_ gw ((WL n a b k).length) cw, bo_ false] 44 :: bk_ gf uf 4 :: bk_ gw uw 4 :: hs) w) :
    Calls Tryz.prog 15 [pt_ p].toArray w fun en w' => ∃ (g c : Nat) (u : Array Value), en = .returned (.bool (!(WL (n + 1) a b k == WL n a b k))) ∧ (u.size = c * 1 ∧ (WL (n + 1) a b k).length ≤ c ∧ u.toList.take (WL (n + 1) a b k).length = bools (WL (n + 1) a b k)) ∧ Own B w0 (bk_ p #[i6_ a.n, str a.set, str a.rel, i6_ b.n, str b.set, str b.rel, i6_ ((k : Int)), i6_ (((prN a b : Nat) : Int)), sl_ gf ((WL 0 a b k).length) cf, sl_ g ((WL (n + 1) a b k).length) c, bo_ false] 44 :: bk_ gf uf 4 :: bk_ g u 4 :: hs) w' := by
 refine fnStartC (Own B w0 (bk_ p #[i6_ a.n, str a.set, str a.rel, i6_ b.n, str b.set, str b.rel, i6_ ((k : Int)), i6_ (((prN a b : Nat) : Int)), sl_ gf ((WL 0 a b k).length) cf, sl_ gw ((WL n a b k).length) cw, bo_ false] 44 :: bk_ gf uf 4 :: bk_ gw uw 4 :: hs)) (n := 75) (e := [(0, pt_ p)]) Tryz.func15 rfl rfl rfl rfl Ends.both hw ?_
 have ha := validB_fine hVa
 have hb := validB_fine hVb
 have hm8 := ha.hi
 have hm1 := ha.lo
 have hb8 := hb.hi
 have hb1 := hb.lo
 have hpr := prN_le (a := a) (b := b) (by omega) (by omega)
 have hpp := prN_pos a b
 have hNl := pow65 hpr hk3
 have hWl : (WL 0 a b k).length = prN a b ^ k := WL_len _ _ _ _
 have hWn : (WL n a b k).length = prN a b ^ k := WL_len _ _ _ _
 have hWm : (WL (n + 1) a b k).length = prN a b ^ k := WL_len _ _ _ _
 refine Wk.seq ?_
 refine Wk.regionQ ?_
 refine Lq.run 1 rfl ?_
 refine Lq.nil ?_
 refine Kt.sel [0] [_] rfl ?_
 refine Wk.seq ?_
 refine Wk.region ?_
 refine Ll.slice (xs := []) (vs := []) Base.elem42 rfl rfl rfl rfl rfl rfl (by decide) rfl fun p8 hp8 => ?_
 refine Ll.run 1 rfl ?_
 refine Ll.op (v := pt_ p) rfl rfl rfl (OpQ.nilCheck rfl rfl) ?_
 refine Ll.op rfl rfl rfl (OpQ.fieldAddr rfl Tryz.runUnderlying44 rfl Tryz.sizeOf42 rfl rfl) ?_
 refine Ll.op rfl rfl rfl (OpQ.loadOwn 1 rfl Tryz.isAgg42 rfl rfl rfl) ?_
 refine Ll.appendBools (xs := ([] : List Bool)) (ys := (WL 0 a b k)) Base.elem42 0 rfl rfl rfl rfl rfl rfl rfl rfl (by decide) rfl (fun w1 hw1 => (Own.row hw1 (i := 2) rfl htf (by simp) hlf)) (((WL 0 a b k)).length) (by first | (simp; done) | (simp; omega)) (by first | (simp; done) | (simp; omega) | omega) fun p13 cap13 cur13 hp13 hcp13 hlp13 htp13 => ?_
 show Ll _ _ (Own _ _ (_ :: _ :: _ :: _ :: hs)) _ _ ((13, sl_ p13 ((((WL 0 a b k)).length)) cap13) :: _) _ _ _
 refine Ll.run 1 rfl ?_
 refine Ll.nil ?_
 refine Kt.sel [0, 3] [_, _] rfl ?_
 refine Wk.seq ?_
 refine Wk.regionQ ?_
 refine Lq.run 1 rfl ?_
 refine Lq.nil ?_
 refine Kt.sel [0, 3, 4] [_, _, _] rfl ?_
 refine Wk.seq ?_
 refine Wk.seq ?_
 refine Wk.regionQ ?_
 refine Lq.run 1 rfl ?_
 refine Lq.op (v := pt_ p) rfl rfl rfl (OpQ.nilCheck rfl rfl) ?_
 refine Lq.op rfl rfl rfl (OpQ.fieldAddr rfl Tryz.runUnderlying44 rfl Tryz.sizeOf3 rfl rfl) ?_
 refine Lq.op rfl rfl rfl (OpQ.loadOwn 1 rfl Tryz.isAgg3 rfl rfl rfl) ?_
 refine Lq.run 1 rfl ?_
 refine Lq.nil ?_
 refine Kt.sel [0, 3, 4, 17, 18] [_, _, _, _, _] rfl ?_
 refine Wk.block ?_
 refine Wk.loop (σ := Nat × Array Value × List Bool) (fun ⟨i, u, X⟩ => i ≤ k ∧ (u.size = cap13 * 1 ∧ u.toList.take (WL 0 a b k).length = bools X) ∧ TurnAt (fun s => (WL 0 a b k).getD s false) (fun s => (WL n a b k).getD s false) a b k i 0 X) (fun ⟨i, u, X⟩ => [(0, pt_ p), (3, sl_ p13 ((((WL 0 a b k)).length)) cap13), (4, i6_ (((prN a b ^ i : Nat) : Int))), (17, i6_ ((k : Int))), (18, i6_ ((i : Int)))]) (fun ⟨i, u, X⟩ => Own B w0 (bk_ p13 u 4 :: bk_ p #[i6_ a.n, str a.set, str a.rel, i6_ b.n, str b.set, str b.rel, i6_ ((k : Int)), i6_ (((prN a b : Nat) : Int)), sl_ gf ((WL 0 a b k).length) cf, sl_ gw ((WL n a b k).length) cw, bo_ false] 44 :: bk_ gf uf 4 :: bk_ gw uw 4 :: hs)) (fun ⟨i, u, X⟩ => k - i) ((0, cur13, (WL 0 a b k))) ⟨by omega, ⟨hcp13, by simpa using htp13⟩, turn_zero (by simp)⟩ (Sub.cons rfl (Sub.cons rfl (Sub.cons rfl (Sub.sel [17, 18] rfl)))) (fun _ h => h) ?_
 rintro ⟨i, u, X⟩ ⟨hi, ⟨hcu, htu⟩, hX⟩
 dsimp only
 refine Wk.seq ?_
 refine Wk.regionQ ?_
 refine Lq.run 1 rfl ?_
 refine Lq.nil ?_
 refine Kt.sel [0, 3, 4, 17, 18, 19] [_, _, _, _, _, _] rfl ?_
 refine Wk.seq ?_
 refine Wk.cond (b := decide (((i : Int)) < ((k : Int)))) rfl (fun h19 => ?_) (fun h19 => ?_)
 ·
  replace h19 := of_decide_eq_true h19
  have hik : i < k := by omega
  have hpi : 0 < prN a b ^ i := Nat.pow_pos hpp
  have hpi3 := pow65 hpr (show i + 1 ≤ 3 by omega)
  have hpm : ((prN a b ^ i : Nat) : Int) * ((prN a b : Nat) : Int) = ((prN a b ^ (i + 1) : Nat) : Int) := by rw [Nat.pow_succ, Int.natCast_mul]
  refine Wk.skip ?_
  refine Kt.sel [0, 3, 4, 17, 18] [_, _, _, _, _] rfl ?_
  refine Wk.seq ?_
  refine Wk.block ?_
  refine Wk.seq ?_
  refine Wk.seq ?_
  refine Wk.regionQ ?_
  refine Lq.run 1 rfl ?_
  refine Lq.op rfl rfl rfl (OpQ.lenS rfl Tryz.runUnderlying42 rfl) ?_
  refine Lq.run 1 rfl ?_
  refine Lq.nil ?_
  refine Kt.sel [0, 3, 4, 17, 18, 21, 22] [_, _, _, _, _, _, _] rfl ?_
  refine Wk.block ?_
  refine Wk.loop (σ := Nat × Array Value × List Bool) (fun ⟨S, u, X⟩ => S ≤ (prN a b ^ k) ∧ (u.size = cap13 * 1 ∧ u.toList.take (WL 0 a b k).length = bools X) ∧ TurnAt (fun s => (WL 0 a b k).getD s false) (fun s => (WL n a b k).getD s false) a b k i S X) (fun ⟨S, u, X⟩ => [(0, pt_ p), (3, sl_ p13 ((((WL 0 a b k)).length)) cap13), (4, i6_ (((prN a b ^ i : Nat) : Int))), (17, i6_ ((k : Int))), (18, i6_ ((i : Int))), (21, i6_ (((((WL 0 a b k)).length) : Int))), (22, i6_ ((S : Int)))]) (fun ⟨S, u, X⟩ => Own B w0 (bk_ p13 u 4 :: bk_ p #[i6_ a.n, str a.set, str a.rel, i6_ b.n, str b.set, str b.rel, i6_ ((k : Int)), i6_ (((prN a b : Nat) : Int)), sl_ gf ((WL 0 a b k).length) cf, sl_ gw ((WL n a b k).length) cw, bo_ false] 44 :: bk_ gf uf 4 :: bk_ gw uw 4 :: hs)) (fun ⟨S, u, X⟩ => (prN a b ^ k) - S) ((0, u, X)) ⟨by omega, ⟨hcu, htu⟩, hX⟩ (Sub.sel [0, 3, 4, 17, 18, 21, 22] rfl) (fun _ h => h) ?_
  rintro ⟨S, u, X⟩ ⟨hS, ⟨hcu, htu⟩, hX⟩
  dsimp only
  refine Wk.seq ?_
  refine Wk.regionQ ?_
  refine Lq.run 1 rfl ?_
  refine Lq.nil ?_
  refine Kt.sel [0, 3, 4, 17, 18, 21, 22, 23] [_, _, _, _, _, _, _, _] rfl ?_
  refine Wk.seq ?_
  refine Wk.cond (b := decide (((S : Int)) < (((((WL 0 a b k)).length) : Int)))) rfl (fun h23 => ?_) (fun h23 => ?_)
  ·
   replace h23 := of_decide_eq_true h23
   have hSN : S < prN a b ^ k := by omega
   have hS0 : (0 : Int) ≤ ((S / prN a b ^ i : Nat) : Int) := Int.natCast_nonneg _
   refine Wk.skip ?_
   refine Kt.sel [0, 3, 4, 17, 18, 21, 22] [_, _, _, _, _, _, _] rfl ?_
   refine Wk.seq ?_
   refine Wk.block ?_
   refine Wk.seq ?_
   refine Wk.regionQ ?_
   refine Lq.run 2 rfl ?_
   refine Lq.nil ?_
   refine Kt.sel [0, 3, 4, 5, 17, 18, 21, 22] [_, _, _, _, _, _, _, _] rfl ?_
   refine Wk.seq ?_
   refine Wk.seq ?_
   refine Wk.regionD Base.mixed (fun _ h => h.drawn) (by kernel_rfl) ?_
   refine Lq.run 2 rfl ?_
   refine Lq.op (v := i6_ (((S / prN a b ^ i : Nat) : Int))) rfl rfl rfl (OpQ.cast (by rfl) (OpQ.quo rfl rfl rfl (by omega) (by omega) (by omega))) ?_
   refine Lq.run 1 rfl ?_
   refine Lq.op (v := pt_ p) rfl rfl rfl (OpQ.nilCheck rfl rfl) ?_
   refine Lq.op rfl rfl rfl (OpQ.fieldAddr rfl Tryz.runUnderlying44 rfl Tryz.sizeOf3 rfl rfl) ?_
   refine Lq.op rfl rfl rfl (OpQ.loadOwn 1 rfl Tryz.isAgg3 rfl rfl rfl) ?_
   refine Lq.op (v := i6_ ((dig (prN a b) S i : Int))) rfl rfl rfl (OpQ.cast (by rfl) (OpQ.rem rfl rfl rfl (by omega) (by omega))) ?_
   refine Lq.run 2 rfl ?_
   refine Lq.bool fun b34 hg34 => ?_
   cases b34
   ·
    replace hg34 := not_false hg34
    replace hg34 := of_decide_eq_true hg34
    have hd0 : dig (prN a b) S i = 0 := by omega
    have hqs : ∀ q : Nat, q < prN a b → S + prN a b ^ i * q < (WL n a b k).length := fun q hq => by rw [WL_len]; exact put_lt hpp hd0 hq hik hSN
    refine Lq.run 3 rfl ?_
    refine Lq.op (v := bo_ (ansB (fun s => (WL n a b k).getD s false) a.n.toNat b.n.toNat S (prN a b ^ i))) rfl rfl rfl (OpQ.call rfl Tryz.call39 rfl Own.stable (fun w1 hw1 => answered_ok a b k p 44 (sl_ gf ((WL 0 a b k).length) cf) (sl_ gw ((WL n a b k).length) cw) (WL n a b k) S (prN a b ^ i) w1 (hw1.has 1 _ _ rfl).2 (Own.row hw1 (i := 3) rfl htw (by simp) hlw) hVa hVb (by rw [WL_len]; omega) hqs)) ?_
    refine Lq.run 1 rfl ?_
    refine Lq.nil ?_
    refine Kt.sel [0, 3, 4, 5, 17, 18, 21, 22, 39] [_, _, _, _, _, _, _, _, _] rfl ?_
    refine Wk.cond (b := ansB (fun s => (WL n a b k).getD s false) a.n.toNat b.n.toNat S (prN a b ^ i)) rfl (fun h39 => ?_) (fun h39 => ?_)
    ·
     refine Wk.exit rfl ?_
     refine Kt.sel [0, 3, 4, 17, 18, 21, 22] [_, _, _, _, _, _, _] rfl ?_
     refine Wk.regionQ ?_
     refine Lq.op rfl rfl rfl (OpQ.add rfl rfl rfl (by omega) (by omega)) ?_
     refine Lq.run 1 rfl ?_
     refine Lq.nil ?_
     refine Kt.again ((S + 1, u, X)) ⟨by omega, ⟨hcu, htu⟩, by first | exact turn_skip hX (by omega) | exact turn_yes hX (ansB_true.1 (by assumption)) | exact turn_no hX (by omega) (fun e => by have := ansB_true.2 e; simp_all) (hQe ▸ hC)⟩ (by omega) (Sub.sel [0, 3, 4, 17, 18, 21, 22] rfl) (fun _ h => h)
    ·
     refine Wk.skip ?_
     refine Kt.sel [0, 3, 4, 5, 17, 18, 21, 22] [_, _, _, _, _, _, _, _] rfl ?_
     refine Wk.seq ?_
     refine Wk.regionQ ?_
     refine Lq.run 1 rfl ?_
     refine Lq.op (v := pt_ p) rfl rfl rfl (OpQ.nilCheck rfl rfl) ?_
     refine Lq.op rfl rfl rfl (OpQ.fieldAddr rfl Tryz.runUnderlying44 rfl Tryz.sizeOf3 rfl rfl) ?_
     refine Lq.op rfl rfl rfl (OpQ.loadOwn 1 rfl Tryz.isAgg3 rfl rfl rfl) ?_
     refine Lq.run 1 rfl ?_
     refine Lq.nil ?_
     refine Kt.sel [0, 3, 4, 5, 17, 18, 21, 22, 43, 44] [_, _, _, _, _, _, _, _, _, _] rfl ?_
     refine Wk.block ?_
     refine Wk.loop (σ := Nat × Array Value × List Bool) (fun ⟨Q, u, Y⟩ => Q ≤ prN a b ∧ (u.size = cap13 * 1 ∧ u.toList.take (WL 0 a b k).length = bools Y) ∧ Cleared X Y S (prN a b ^ i) Q) (fun ⟨Q, u, Y⟩ => [(0, pt_ p), (3, sl_ p13 ((((WL 0 a b k)).length)) cap13), (4, i6_ (((prN a b ^ i : Nat) : Int))), (5, i6_ ((S : Int))), (17, i6_ ((k : Int))), (18, i6_ ((i : Int))), (21, i6_ (((((WL 0 a b k)).length) : Int))), (22, i6_ ((S : Int))), (43, i6_ (((prN a b : Nat) : Int))), (44, i6_ ((Q : Int)))]) (fun ⟨Q, u, Y⟩ => Own B w0 (bk_ p13 u 4 :: bk_ p #[i6_ a.n, str a.set, str a.rel, i6_ b.n, str b.set, str b.rel, i6_ ((k : Int)), i6_ (((prN a b : Nat) : Int)), sl_ gf ((WL 0 a b k).length) cf, sl_ gw ((WL n a b k).length) cw, bo_ false] 44 :: bk_ gf uf 4 :: bk_ gw uw 4 :: hs)) (fun ⟨Q, u, Y⟩ => prN a b - Q) ((0, u, X)) ⟨by omega, ⟨hcu, htu⟩, clear_zero _ _ _⟩ (Sub.sel [0, 3, 4, 5, 17, 18, 21, 22, 43, 44] rfl) (fun _ h => h) ?_
     rintro ⟨Q, u, Y⟩ ⟨hQ, ⟨hcu, htu⟩, hC⟩
     dsimp only
     refine Wk.seq ?_
     refine Wk.regionQ ?_
     refine Lq.run 1 rfl ?_
     refine Lq.nil ?_
     refine Kt.sel [0, 3, 4, 5, 17, 18, 21, 22, 43, 44, 45] [_, _, _, _, _, _, _, _, _, _, _] rfl ?_
     refine Wk.seq ?_
     refine Wk.cond (b := decide (((Q : Int)) < (((prN a b : Nat) : Int)))) rfl (fun h45 => ?_) (fun h45 => ?_)
     ·
      replace h45 := of_decide_eq_true h45
      have hQp : Q < prN a b := by omega
      have hQQ := hqs Q hQp
      have hQm : ((prN a b ^ i : Nat) : Int) * (Q : Int) = ((prN a b ^ i * Q : Nat) : Int) := by rw [Int.natCast_mul]
      refine Wk.skip ?_
      refine Kt.sel [0, 3, 4, 5, 17, 18, 21, 22, 43, 44] [_, _, _, _, _, _, _, _, _, _] rfl ?_
      refine Wk.seq ?_
      refine Wk.block ?_
      refine Wk.seq ?_
      refine Wk.regionQ ?_
      refine Lq.run 2 rfl ?_
      refine Lq.nil ?_
      refine Kt.sel [0, 3, 4, 5, 6, 17, 18, 21, 22, 43, 44] [_, _, _, _, _, _, _, _, _, _, _] rfl ?_
      refine Wk.region ?_
      refine Ll.run 4 rfl ?_
      refine Ll.op (v := i6_ (((prN a b ^ i * Q : Nat) : Int))) rfl rfl rfl (OpQ.cast (by rw [hQm]) (OpQ.mul rfl rfl rfl (by omega) (by omega))) ?_
      refine Ll.op (v := i6_ (((S + prN a b ^ i * Q : Nat) : Int))) rfl rfl rfl (OpQ.cast (by rfl) (OpQ.add rfl rfl rfl (by omega) (by omega))) ?_
      refine Ll.op (v := pf_ p13 ((((S + prN a b ^ i * Q : Nat) : Int)).toNat)) rfl rfl rfl (OpQ.cast (by rw [Nat.zero_add]) (OpQ.indexAddr1 (i := ((S + prN a b ^ i * Q : Nat) : Int)) rfl Tryz.runUnderlying42 Tryz.sizeOf4 rfl rfl (by omega) (by omega))) ?_
      refine Ll.store1 (v := .bool false) (hs' := (bk_ p13 ((u.setIfInBounds (S + prN a b ^ i * Q) (.bool false))) 4 :: _ :: _ :: _ :: hs)) 0 rfl rfl rfl rfl rfl rfl Tryz.sizeOf4 rfl (by rw [hcu]; have := hqs Q (by omega); omega) (by rfl) ?_
      refine Ll.nil ?_
      refine Kt.sel [0, 3, 4, 5, 17, 18, 21, 22, 43, 44] [_, _, _, _, _, _, _, _, _, _] rfl ?_
      refine Wk.regionQ ?_
      refine Lq.op rfl rfl rfl (OpQ.add rfl rfl rfl (by omega) (by omega)) ?_
      refine Lq.run 1 rfl ?_
      refine Lq.nil ?_
      refine Kt.again ((Q + 1, u.setIfInBounds (S + prN a b ^ i * Q) (.bool false), Y.set (S + prN a b ^ i * Q) false)) ⟨by omega, ⟨by simpa using hcu, row_put htu⟩, clear_next hC (by have := hqs Q (by omega); rw [hX.len]; omega)⟩ (by omega) (Sub.sel [0, 3, 4, 5, 17, 18, 21, 22, 43, 44] rfl) (fun _ h => h)
     ·
      replace h45 := of_decide_eq_false h45
      have hQe : Q = prN a b := by omega
      refine Wk.exit rfl ?_
      refine Kt.sel [0, 3, 4, 17, 18, 21, 22] [_, _, _, _, _, _, _] rfl ?_
      refine Wk.regionQ ?_
      refine Lq.op rfl rfl rfl (OpQ.add rfl rfl rfl (by omega) (by omega)) ?_
      refine Lq.run 1 rfl ?_
      refine Lq.nil ?_
      refine Kt.again ((S + 1, u, Y)) ⟨by omega, ⟨hcu, htu⟩, by first | exact turn_skip hX (by omega) | exact turn_yes hX (ansB_true.1 (by assumption)) | exact turn_no hX (by omega) (fun e => by have := ansB_true.2 e; simp_all) (hQe ▸ hC)⟩ (by omega) (Sub.sel [0, 3, 4, 17, 18, 21, 22] rfl) (fun _ h => h)
   ·
    replace hg34 := not_true hg34
    replace hg34 := of_decide_eq_false hg34
    refine Lq.pass rfl rfl rfl ?_
    refine Lq.pass rfl rfl rfl ?_
    refine Lq.pass rfl rfl rfl ?_
    refine Lq.pass rfl rfl rfl ?_
    refine Lq.run 1 rfl ?_
    refine Lq.nil ?_
    refine Kt.sel [0, 3, 4, 5, 17, 18, 21, 22, 39] [_, _, _, _, _, _, _, _, _] rfl ?_
    refine Wk.condT rfl ?_
    refine Wk.exit rfl ?_
    refine Kt.sel [0, 3, 4, 17, 18, 21, 22] [_, _, _, _, _, _, _] rfl ?_
    refine Wk.regionQ ?_
    refine Lq.op rfl rfl rfl (OpQ.add rfl rfl rfl (by omega) (by omega)) ?_
    refine Lq.run 1 rfl ?_
    refine Lq.nil ?_
    refine Kt.again ((S + 1, u, X)) ⟨by omega, ⟨hcu, htu⟩, by first | exact turn_skip hX (by omega) | exact turn_yes hX (ansB_true.1 (by assumption)) | exact turn_no hX (by omega) (fun e => by have := ansB_true.2 e; simp_all) (hQe ▸ hC)⟩ (by omega) (Sub.sel [0, 3, 4, 17, 18, 21, 22] rfl) (fun _ h => h)
  ·
   replace h23 := of_decide_eq_false h23
   have hSe : S = prN a b ^ k := by omega
   refine Wk.exit rfl ?_
   refine Kt.sel [0, 3, 4, 17, 18] [_, _, _, _, _] rfl ?_
   refine Wk.regionQ ?_
   refine Lq.run 2 rfl ?_
   refine Lq.op (v := pt_ p) rfl rfl rfl (OpQ.nilCheck rfl rfl) ?_
   refine Lq.op rfl rfl rfl (OpQ.fieldAddr rfl Tryz.runUnderlying44 rfl Tryz.sizeOf3 rfl rfl) ?_
   refine Lq.op rfl rfl rfl (OpQ.loadOwn 1 rfl Tryz.isAgg3 rfl rfl rfl) ?_
   refine Lq.op (v := i6_ (((prN a b ^ (i + 1) : Nat) : Int))) rfl rfl rfl (OpQ.cast (by rw [hpm]) (OpQ.mul rfl rfl rfl (by omega) (by omega))) ?_
   refine Lq.run 1 rfl ?_
   refine Lq.nil ?_
   refine Kt.sel [0, 3, 4, 17, 18] [_, _, _, _, _] rfl ?_
   refine Wk.regionQ ?_
   refine Lq.op rfl rfl rfl (OpQ.add rfl rfl rfl (by omega) (by omega)) ?_
   refine Lq.run 1 rfl ?_
   refine Lq.nil ?_
   refine Kt.again ((i + 1, u, X)) ⟨by omega, ⟨hcu, htu⟩, turn_round (hSe ▸ hX)⟩ (by omega) (Sub.cons rfl (Sub.cons rfl (Sub.cons (by rfl) (Sub.sel [17, 18] rfl)))) (fun _ h => h)
 ·
  replace h19 := of_decide_eq_false h19
  have hie : i = k := by omega
  have hXl := hX.len
  refine Wk.exit rfl ?_
  refine Kt.sel [0, 3] [_, _] rfl ?_
  refine Wk.seq ?_
  refine Wk.regionQ ?_
  refine Lq.run 2 rfl ?_
  refine Lq.op (v := pt_ p) rfl rfl rfl (OpQ.nilCheck rfl rfl) ?_
  refine Lq.op rfl rfl rfl (OpQ.fieldAddr rfl Tryz.runUnderlying44 rfl Tryz.sizeOf42 rfl rfl) ?_
  refine Lq.op rfl rfl rfl (OpQ.loadOwn 1 rfl Tryz.isAgg42 rfl rfl rfl) ?_
  refine Lq.op (v := bo_ (X == ((WL n a b k)))) rfl rfl rfl (OpQ.call rfl Tryz.call40 rfl Own.stable (fun w1 hw1 => equalB_ok (sl_ p13 ((((WL 0 a b k)).length)) cap13) (sl_ gw ((WL n a b k).length) cw) X ((WL n a b k)) w1 (Own.row hw1 (i := 0) rfl htu (by simpa using hX.len) (by omega)) (Own.row hw1 (i := 3) rfl htw (by simp) hlw) (by omega))) ?_
  refine Lq.run 2 rfl ?_
  refine Lq.nil ?_
  refine Kt.sel [0, 3, 7] [_, _, _] rfl ?_
  refine Wk.seq ?_
  refine Wk.region ?_
  refine Ll.run 2 rfl ?_
  refine Ll.op (v := pt_ p) rfl rfl rfl (OpQ.nilCheck rfl rfl) ?_
  refine Ll.op rfl rfl rfl (OpQ.fieldAddr rfl Tryz.runUnderlying44 rfl Tryz.sizeOf42 rfl rfl) ?_
  refine Ll.store1 (v := sl_ p13 ((((WL 0 a b k)).length)) cap13) (hs' := (_ :: bk_ p #[i6_ a.n, str a.set, str a.rel, i6_ b.n, str b.set, str b.rel, i6_ ((k : Int)), i6_ (((prN a b : Nat) : Int)), sl_ gf ((WL 0 a b k).length) cf, sl_ p13 ((((WL 0 a b k)).length)) cap13, bo_ false] 44 :: _ :: _ :: hs)) 1 rfl rfl rfl rfl rfl rfl Tryz.sizeOf42 rfl (by simp) rfl ?_
  refine Ll.nil ?_
  refine Kt.sel [7] [_] rfl ?_
  refine Wk.seq ?_
  refine Wk.regionQ ?_
  refine Lq.run 2 rfl ?_
  refine Lq.nil ?_
  refine Kt.sel [2] [_] rfl ?_
  refine Wk.ret (Kt.end1 rfl rfl fun w' hw => ?_)
  have hE := turn_end (hie ▸ hX)
  subst hE
  exact ⟨p13, cap13, u, by simp, ⟨hcu, by omega, by simpa using htu⟩, by rw [hWm, ← hWl]; exact Own.pickT (hs := [_, _, _, _]) (hs' := [_, _, _]) hw [1, 2, 0] rfl (by decide)⟩
end Go.Proofs.YtjcoijejhachhaaGreatDoor
namespace Go.Proofs.YtjcoijejhachhaaGreatDoor
open Go.RowKit Go.Wk
set_option linter.unusedSimpArgs false
set_option maxHeartbeats 400000 in
/-- impl.newPebbles|yes -/
theorem newPeb_yes (a b : St) (xs ys : List Int) (va vb : Value) (w : World) (hsa : a.Small) (hsb : b.Small) (hva : Ints w va xs) (hvb : Ints w vb ys) (hs1 : xs.length ≤ 140737488355328) (hs2 : ys.length ≤ 140737488355328) (k : Nat) (hk : xs.length = k) (hr : readyB a xs b ys = true) :
    Calls Tryz.prog 13 [vS a, va, vS b, vb].toArray w fun en w' => ∃ (p gf cf : Nat) (uf : Array Value) (gw cw : Nat) (uw : Array Value), en = .returned (.pointer (some ⟨p, 0, none⟩)) ∧ (uf.size = cf * 1 ∧ (WL 0 a b k).length ≤ cf ∧ uf.toList.take (WL 0 a b k).length = bools (WL 0 a b k)) ∧ (uw.size = cw * 1 ∧ (WL 0 a b k).length ≤ cw ∧ uw.toList.take (WL 0 a b k).length = bools (WL 0 a b k)) ∧ Own w.heap.size w [bk_ p #[i6_ a.n, str a.set, str a.rel, i6_ b.n, str b.set, str b.rel, i6_ ((k : Int)), i6_ (((prN a b : Nat) : Int)), sl_ gf ((WL 0 a b k).length) cf, sl_ gw ((WL 0 a b k).length) cw, bo_ false] 44, bk_ gf uf 4, bk_ gw uw 4] w' := by
 refine fnStart (n := 78) (e := [(0, vS a), (1, va), (2, vS b), (3, vb)]) Tryz.func13 rfl rfl rfl rfl Ends.both ?_
 obtain ⟨hVa, hVb, h1, h3, hlen, hx, hy⟩ := ready_peb hr
 rw [hk] at h1 h3
 have hk3 : k ≤ 3 := h3
 have ha := validB_fine hVa
 have hb := validB_fine hVb
 have hm8 := ha.hi
 have hm1 := ha.lo
 have hb8 := hb.hi
 have hb1 := hb.lo
 have hpr := prN_le (a := a) (b := b) (by omega) (by omega)
 have hpp := prN_pos a b
 have hprI : ((prN a b : Nat) : Int) = a.n * b.n + 1 := by
  unfold prN; rw [Int.natCast_add, Int.natCast_mul, Int.toNat_of_nonneg (by omega), Int.toNat_of_nonneg (by omega)]; rfl
 have hab : 0 ≤ a.n * b.n ∧ a.n * b.n ≤ 64 := by omega
 refine Wk.seq ?_
 refine Wk.region ?_
 refine Ll.box (v := vS a) rfl rfl rfl rfl rfl fun p4 hp4 => ?_
 show Ll _ _ (Own _ _ [_]) _ _ ((4, pt_ p4) :: _) _ _ _
 refine Ll.box (v := vS b) rfl rfl rfl rfl rfl fun p6 hp6 => ?_
 show Ll _ _ (Own _ _ [_, _]) _ _ ((6, pt_ p6) :: _) _ _ _
 refine Ll.run 1 rfl ?_
 refine Ll.nil ?_
 refine Kt.sel [1, 3, 4, 6] [_, _, _, _] rfl ?_
 refine Wk.seq ?_
 refine Wk.seq ?_
 refine Wk.regionQ ?_
 refine Lq.op rfl rfl rfl (OpQ.loadBox (cs := #[i6_ a.n, str a.set, str a.rel]) 1 rfl Tryz.isAgg24 rfl rfl Tryz.sizeOf24) ?_
 refine Lq.run 1 rfl ?_
 refine Lq.op rfl rfl rfl (OpQ.loadBox (cs := #[i6_ b.n, str b.set, str b.rel]) 0 rfl Tryz.isAgg24 rfl rfl Tryz.sizeOf24) ?_
 refine Lq.run 1 rfl ?_
 refine Lq.op (v := bo_ true) rfl rfl rfl (OpQ.call rfl Tryz.call36 rfl Own.stable (fun w1 hw1 => known_b hr (areReady_ok a b xs ys va vb w1 hsa hsb (Row.own hva hw1) (Row.own hvb hw1) (by first | (simp; done) | (simp; omega) | omega) (by first | (simp; done) | (simp; omega) | omega)))) ?_
 refine Lq.run 1 rfl ?_
 refine Lq.nil ?_
 refine Kt.sel [1, 4, 6, 19] [_, _, _, _] rfl ?_
 refine Wk.condF rfl ?_
 refine Wk.skip ?_
 refine Kt.sel [1, 4, 6] [_, _, _] rfl ?_
 refine Wk.seq ?_
 refine Wk.region ?_
 refine Ll.op rfl rfl rfl (OpQ.loadBox (cs := #[i6_ a.n, str a.set, str a.rel]) 1 rfl Tryz.isAgg24 rfl rfl Tryz.sizeOf24) ?_
 refine Ll.op rfl rfl rfl (OpQ.loadBox (cs := #[i6_ b.n, str b.set, str b.rel]) 0 rfl Tryz.isAgg24 rfl rfl Tryz.sizeOf24) ?_
 refine Ll.run 1 rfl ?_
 refine Ll.op (v := i6_ ((k : Int))) rfl rfl rfl (OpQ.cast (by rw [hk]) (OpQ.lenRow rfl Tryz.runUnderlying28 rfl (ints_length _) (fun w1 hw1 => Row.own hva hw1))) ?_
 refine Ll.op rfl rfl rfl (OpQ.fieldAddr rfl Tryz.runUnderlying24 rfl Tryz.sizeOf3 rfl rfl) ?_
 refine Ll.op rfl rfl rfl (OpQ.loadOwn 1 rfl Tryz.isAgg3 rfl rfl rfl) ?_
 refine Ll.op rfl rfl rfl (OpQ.fieldAddr rfl Tryz.runUnderlying24 rfl Tryz.sizeOf3 rfl rfl) ?_
 refine Ll.op rfl rfl rfl (OpQ.loadOwn 0 rfl Tryz.isAgg3 rfl rfl rfl) ?_
 refine Ll.op rfl rfl rfl (OpQ.mul rfl rfl rfl (by omega) (by omega)) ?_
 refine Ll.op (v := i6_ (((prN a b : Nat) : Int))) rfl rfl rfl (OpQ.cast (by rw [hprI]) (OpQ.add rfl rfl rfl (by omega) (by omega))) ?_
 refine Ll.op (v := .agg #[i6_ a.n, str a.set, str a.rel, i6_ b.n, str b.set, str b.rel, i6_ ((k : Int)), i6_ (((prN a b : Nat) : Int)), .slice none 0 0, .slice none 0 0, bo_ false]) rfl rfl rfl (OpQ.build (xs := [.tmp 20, .tmp 21, .tmp 23, .tmp 29]) (vs := [vS a, vS b, i6_ ((k : Int)), i6_ (((prN a b : Nat) : Int))]) rfl rfl (by kernel_rfl)) ?_
 refine Ll.box (v := .agg #[i6_ a.n, str a.set, str a.rel, i6_ b.n, str b.set, str b.rel, i6_ ((k : Int)), i6_ (((prN a b : Nat) : Int)), .slice none 0 0, .slice none 0 0, bo_ false]) rfl rfl rfl rfl rfl fun p31 hp31 => ?_
 show Ll _ _ (Own _ _ [_, _, _]) _ _ ((31, pt_ p31) :: _) _ _ _
 refine Ll.run 1 rfl ?_
 refine Ll.nil ?_
 refine Kt.sel [1, 4, 6, 9] [_, _, _, _] rfl ?_
 refine Wk.seq ?_
 refine Wk.regionQ ?_
 refine Lq.run 1 rfl ?_
 refine Lq.nil ?_
 refine Kt.sel [1, 4, 6, 9, 10] [_, _, _, _, _] rfl ?_
 refine Wk.seq ?_
 refine Wk.seq ?_
 refine Wk.regionQ ?_
 refine Lq.run 1 rfl ?_
 refine Lq.op (v := i6_ ((k : Int))) rfl rfl rfl (OpQ.cast (by rw [hk]) (OpQ.lenRow rfl Tryz.runUnderlying28 rfl (ints_length _) (fun w1 hw1 => Row.own hva hw1))) ?_
 refine Lq.run 1 rfl ?_
 refine Lq.nil ?_
 refine Kt.sel [4, 6, 9, 10, 33, 34] [_, _, _, _, _, _] rfl ?_
 refine Wk.block ?_
 refine Wk.loop (σ := Nat) (fun j => j ≤ k) (fun j => [(4, pt_ p4), (6, pt_ p6), (9, pt_ p31), (10, i6_ (((prN a b ^ j : Nat) : Int))), (33, i6_ ((k : Int))), (34, i6_ ((j : Int)))]) (fun j => Own w.heap.size w [bk_ p31 #[i6_ a.n, str a.set, str a.rel, i6_ b.n, str b.set, str b.rel, i6_ ((k : Int)), i6_ (((prN a b : Nat) : Int)), .slice none 0 0, .slice none 0 0, bo_ false] 44, bk_ p6 #[i6_ b.n, str b.set, str b.rel] 24, bk_ p4 #[i6_ a.n, str a.set, str a.rel] 24]) (fun j => k - j) (0) (by omega) (Sub.cons rfl (Sub.cons rfl (Sub.cons rfl (Sub.cons (by rfl) (Sub.sel [33, 34] rfl))))) (fun _ h => h) ?_
 rintro j hj
 refine Wk.seq ?_
 refine Wk.regionQ ?_
 refine Lq.run 1 rfl ?_
 refine Lq.nil ?_
 refine Kt.sel [4, 6, 9, 10, 33, 34, 35] [_, _, _, _, _, _, _] rfl ?_
 refine Wk.seq ?_
 refine Wk.cond (b := decide (((j : Int)) < ((k : Int)))) rfl (fun h35 => ?_) (fun h35 => ?_)
 ·
  replace h35 := of_decide_eq_true h35
  have hjk : j < k := by omega
  have hpi3 := pow65 hpr (show j + 1 ≤ 3 by omega)
  have hpm : ((prN a b ^ j : Nat) : Int) * ((prN a b : Nat) : Int) = ((prN a b ^ (j + 1) : Nat) : Int) := by rw [Nat.pow_succ, Int.natCast_mul]
  refine Wk.skip ?_
  refine Kt.sel [4, 6, 9, 10, 33, 34] [_, _, _, _, _, _] rfl ?_
  refine Wk.seq ?_
  refine Wk.block ?_
  refine Wk.regionQ ?_
  refine Lq.run 2 rfl ?_
  refine Lq.op (v := pt_ p31) rfl rfl rfl (OpQ.nilCheck rfl rfl) ?_
  refine Lq.op rfl rfl rfl (OpQ.fieldAddr rfl Tryz.runUnderlying44 rfl Tryz.sizeOf3 rfl rfl) ?_
  refine Lq.op rfl rfl rfl (OpQ.loadOwn 0 rfl Tryz.isAgg3 rfl rfl rfl) ?_
  refine Lq.op (v := i6_ (((prN a b ^ (j + 1) : Nat) : Int))) rfl rfl rfl (OpQ.cast (by rw [hpm]) (OpQ.mul rfl rfl rfl (by omega) (by omega))) ?_
  refine Lq.run 1 rfl ?_
  refine Lq.nil ?_
  refine Kt.sel [4, 6, 9, 10, 33, 34] [_, _, _, _, _, _] rfl ?_
  refine Wk.regionQ ?_
  refine Lq.op rfl rfl rfl (OpQ.add rfl rfl rfl (by omega) (by omega)) ?_
  refine Lq.run 1 rfl ?_
  refine Lq.nil ?_
  refine Kt.again (j + 1) (by omega) (by omega) (Sub.cons rfl (Sub.cons rfl (Sub.cons rfl (Sub.cons (by rfl) (Sub.sel [33, 34] rfl))))) (fun _ h => h)
 ·
  replace h35 := of_decide_eq_false h35
  obtain rfl : k = j := by omega
  have hN0 := pow65 hpr hk3
  refine Wk.exit rfl ?_
  refine Kt.sel [4, 6, 9, 10] [_, _, _, _] rfl ?_
  refine Wk.seq ?_
  refine Wk.seq ?_
  refine Wk.regionQ ?_
  refine Lq.run 2 rfl ?_
  refine Lq.nil ?_
  refine Kt.sel [4, 6, 9, 43, 44] [_, _, _, _, _] rfl ?_
  refine Wk.block ?_
  refine Wk.loop (σ := Nat × OptR) (fun ⟨s, q⟩ => s ≤ prN a b ^ k ∧ OptOk ((WL 0 a b k).take s) q) (fun ⟨s, q⟩ => [(4, pt_ p4), (6, pt_ p6), (9, pt_ p31), (43, i6_ (((prN a b ^ k : Nat) : Int))), (44, i6_ ((s : Int)))]) (fun ⟨s, q⟩ => Own w.heap.size w (bk_ p31 #[i6_ a.n, str a.set, str a.rel, i6_ b.n, str b.set, str b.rel, i6_ ((k : Int)), i6_ (((prN a b : Nat) : Int)), optV q s, .slice none 0 0, bo_ false] 44 :: bk_ p6 #[i6_ b.n, str b.set, str b.rel] 24 :: bk_ p4 #[i6_ a.n, str a.set, str a.rel] 24 :: ((optB 4 q ++ [])))) (fun ⟨s, q⟩ => prN a b ^ k - s) ((0, none)) ⟨by omega, by simp [OptOk]⟩ (Sub.sel [4, 6, 9, 43, 44] rfl) (fun _ h => h) ?_
  rintro ⟨s, q⟩ ⟨hs, hq⟩
  dsimp only
  have hts : ((WL 0 a b k).take s).length = s := by rw [List.length_take, WL_len]; omega
  refine Wk.seq ?_
  refine Wk.regionQ ?_
  refine Lq.run 1 rfl ?_
  refine Lq.nil ?_
  refine Kt.sel [4, 6, 9, 43, 44, 45] [_, _, _, _, _, _] rfl ?_
  refine Wk.seq ?_
  refine Wk.cond (b := decide (((s : Int)) < (((prN a b ^ k : Nat) : Int)))) rfl (fun h45 => ?_) (fun h45 => ?_)
  ·
   replace h45 := of_decide_eq_true h45
   have hsN : s < prN a b ^ k := by omega
   have hEa : a.Els (placed (stX a b k s) k) := placed_els (by simp) fun x hx => by have := (stX_peb (a := a) (b := b) (k := k) (s := s)).2 x hx; omega
   have hEb : b.Els (placed (stY a b k s) k) := placed_els (by simp) fun x hx => by have := (stY_peb (a := a) (k := k) (s := s) (show 1 ≤ b.n.toNat by omega)).2 x hx; omega
   have hpl : (placed (stX a b k s) k).length = (placed (stY a b k s) k).length := placed_len _ (st_signs (by omega))
   have hp4 := placed_le (stX a b k s) k
   refine Wk.skip ?_
   refine Kt.sel [4, 6, 9, 43, 44] [_, _, _, _, _] rfl ?_
   refine Wk.seq ?_
   refine Wk.block ?_
   refine Wk.seq ?_
   refine Wk.regionQ ?_
   refine Lq.run 2 rfl ?_
   refine Lq.nil ?_
   refine Kt.sel [4, 6, 9, 11, 43, 44] [_, _, _, _, _, _] rfl ?_
   refine Wk.seq ?_
   refine Wk.region ?_
   refine Ll.run 2 rfl ?_
   refine Ll.callRows (xs := [.tmp 48, .tmp 49]) (m1 := (placed (stX a b k s) k).length) (vs1 := ints ((placed (stX a b k s) k))) (el1 := 3) (m2 := (placed (stY a b k s) k).length) (vs2 := ints ((placed (stY a b k s) k))) (el2 := 3) rfl rfl rfl rfl Tryz.call37 rfl (fun w1 hw1 => listsAt_ok a b k p31 44 (optV q s) (.slice none 0 0) s w1 (hw1.has 0 _ _ rfl).2 hVa hVb hk3 (by omega)) fun p50a cap50a cur50a p50b cap50b cur50b hp50a hcp50a hlp50a htp50a hp50b hcp50b hlp50b htp50b => ?_
   refine Ll.run 1 rfl ?_
   refine Ll.op (v := sl_ p50a ((placed (stX a b k s) k).length) cap50a) rfl rfl rfl (OpQ.extract rfl rfl rfl) ?_
   refine Ll.op (v := sl_ p50b ((placed (stY a b k s) k).length) cap50b) rfl rfl rfl (OpQ.extract rfl rfl rfl) ?_
   refine Ll.run 2 rfl ?_
   refine Ll.nil ?_
   refine Kt.sel [4, 6, 9, 12, 13, 43, 44] [_, _, _, _, _, _, _] rfl ?_
   refine Wk.regionT (S := Own w.heap.size w [bk_ p50a cur50a 3, bk_ p50b cur50b 3, bk_ p6 #[i6_ b.n, str b.set, str b.rel] 24, bk_ p4 #[i6_ a.n, str a.set, str a.rel] 24]) (.take 0 (.take 1 (.take 5 (.take 6 (.take 7 (.take 8 (.two 2 (.take 3 (.two 4 (.one 9 (.one 10 (.one 11 (.one 12 (.take 13 (.one 14 .done)))))) 9 (.two 4 (.one 10 (.one 11 (.one 12 (.take 13 (.one 14 .done))))) 10 (.one 4 (.one 11 (.one 12 (.take 13 (.one 14 .done)))))))) 9 (.two 2 (.take 3 (.two 4 (.one 10 (.one 11 (.one 12 (.take 13 (.one 14 .done))))) 10 (.one 4 (.one 11 (.one 12 (.take 13 (.one 14 .done))))))) 10 (.one 2 (.take 3 (.one 4 (.one 11 (.one 12 (.take 13 (.one 14 .done))))))))))))))) Base.mixed (fun _ h => h.drawn) (by kernel_rfl) ?_
   refine Lt.run 2 rfl (pk [0, 1, 3, 4] rfl rfl) ?_
   refine Lt.take rfl rfl rfl rfl rfl (OpQ.loadBox (cs := #[i6_ a.n, str a.set, str a.rel]) 3 rfl Tryz.isAgg24 rfl rfl Tryz.sizeOf24) (pk [0, 1, 3, 4] rfl rfl) ?_
   refine Lt.run 1 rfl (pk [0, 1, 3, 4] rfl rfl) ?_
   refine Lt.take rfl rfl rfl rfl rfl (OpQ.loadBox (cs := #[i6_ b.n, str b.set, str b.rel]) 2 rfl Tryz.isAgg24 rfl rfl Tryz.sizeOf24) (pk [0, 1, 3, 4] rfl rfl) ?_
   refine Lt.run 1 rfl (pk [0, 1, 3, 4] rfl rfl) ?_
   refine Lt.two rfl rfl ?_ ?_
   ·
    refine Ll.op (v := pt_ p31) rfl rfl rfl (OpQ.nilCheck rfl rfl) ?_
    refine Ll.nil (Lt.joint (pk [0, 1, 3, 4] rfl rfl) ?_)
    refine Lt.take rfl rfl rfl rfl rfl (OpQ.fieldAddr rfl Tryz.runUnderlying44 rfl Tryz.sizeOf42 rfl rfl) (pk [0, 1, 3, 4] rfl rfl) ?_
    refine Lt.two rfl rfl ?_ ?_
    ·
     refine Ll.op rfl rfl rfl (OpQ.loadOwn 2 rfl Tryz.isAgg42 rfl rfl rfl) ?_
     refine Ll.nil (Lt.joint (pk [0, 1, 3, 4] rfl rfl) ?_)
     refine Lt.loud rfl ?_
     refine Ll.op (v := bo_ (sameB a ((placed (stX a b k s) k)) b ((placed (stY a b k s) k)))) rfl rfl rfl (OpQ.call rfl Tryz.call38 rfl Own.stable (fun w1 hw1 => sameWay_ok a b ((placed (stX a b k s) k)) ((placed (stY a b k s) k)) (sl_ p50a ((placed (stX a b k s) k).length) cap50a) (sl_ p50b ((placed (stY a b k s) k).length) cap50b) w1 ha hb (Own.row hw1 (i := 0) rfl (by simpa using htp50a) (by simp) hlp50a) (Own.row hw1 (i := 1) rfl (by simpa using htp50b) (by simp) hlp50b) hEa hEb hpl (by omega))) ?_
     refine Ll.nil (Lt.joint (pk [0, 1, 3, 4] rfl rfl) ?_)
     refine Lt.loud rfl ?_
     refine Ll.slice (xs := [.tmp 62]) (vs := [bo_ (sameB a ((placed (stX a b k s) k)) b ((placed (stY a b k s) k)))]) Base.elem42 rfl rfl rfl rfl rfl rfl (by decide) rfl fun p63 hp63 => ?_
     refine Ll.nil (Lt.joint (pk [1, 2, 4, 5] rfl rfl) ?_)
     refine Lt.loud rfl ?_
     refine Ll.appendOpt (m := s) (bs := (WL 0 a b k).take s) hts Base.elem42 [bk_ p63 #[bo_ (sameB a ((placed (stX a b k s) k)) b ((placed (stY a b k s) k)))] 4, bk_ p50a cur50a 3, bk_ p50b cur50b 3, bk_ p31 #[i6_ a.n, str a.set, str a.rel, i6_ b.n, str b.set, str b.rel, i6_ ((k : Int)), i6_ (((prN a b : Nat) : Int)), optV q s, .slice none 0 0, bo_ false] 44, bk_ p6 #[i6_ b.n, str b.set, str b.rel] 24, bk_ p4 #[i6_ a.n, str a.set, str a.rel] 24] [] 0 hq rfl rfl rfl rfl rfl rfl rfl (by omega) fun gq cq uq _ hQgq => ?_
     show Ll _ _ (Own _ _ (_ :: _ :: _ :: _ :: _ :: _ :: ((optB 4 (some (gq, cq, uq)) ++ [])))) _ _ ((64, sl_ gq ((s + 1)) cq) :: _) _ _ _
     refine Ll.nil (Lt.joint (pk [1, 2, 4, 5] rfl rfl) ?_)
     refine Lt.loud rfl ?_
     refine Ll.op (v := pt_ p31) rfl rfl rfl (OpQ.nilCheck rfl rfl) ?_
     refine Ll.nil (Lt.joint (pk [1, 2, 4, 5] rfl rfl) ?_)
     refine Lt.take rfl rfl rfl rfl rfl (OpQ.fieldAddr rfl Tryz.runUnderlying44 rfl Tryz.sizeOf42 rfl rfl) (pk [1, 2, 4, 5] rfl rfl) ?_
     refine Lt.loud rfl ?_
     refine Ll.store1 (v := sl_ gq ((s + 1)) cq) (hs' := (_ :: _ :: _ :: bk_ p31 #[i6_ a.n, str a.set, str a.rel, i6_ b.n, str b.set, str b.rel, i6_ ((k : Int)), i6_ (((prN a b : Nat) : Int)), sl_ gq ((s + 1)) cq, .slice none 0 0, bo_ false] 44 :: _ :: _ :: ((optB 4 (some (gq, cq, uq)) ++ [])))) 3 rfl rfl rfl rfl rfl rfl Tryz.sizeOf42 rfl (by simp) rfl ?_
     refine Ll.nil (Lt.joint (pk [1, 2, 4, 5] rfl rfl) ?_)
     refine Lt.nil ?_
     refine Kt.sel [4, 6, 9, 43, 44] [_, _, _, _, _] rfl ?_
     refine Wk.regionQ ?_
     refine Lq.op rfl rfl rfl (OpQ.add rfl rfl rfl (by omega) (by omega)) ?_
     refine Lq.run 1 rfl ?_
     refine Lq.nil ?_
     refine Kt.again ((s + 1, some (gq, cq, uq))) ⟨by omega, by rw [fit_next (by omega) hsN]; exact hQgq⟩ (by omega) (Sub.sel [4, 6, 9, 43, 44] rfl) (fun _ h => Own.pickT (hs := [_, _, _, _, _, _]) (hs' := [_, _, _]) (tl := optB 4 (some (gq, cq, uq)) ++ []) h [3, 4, 5] rfl (by decide))
    ·
     refine Ll.op (v := bo_ (sameB a ((placed (stX a b k s) k)) b ((placed (stY a b k s) k)))) rfl rfl rfl (OpQ.call rfl Tryz.call38 rfl Own.stable (fun w1 hw1 => sameWay_ok a b ((placed (stX a b k s) k)) ((placed (stY a b k s) k)) (sl_ p50a ((placed (stX a b k s) k).length) cap50a) (sl_ p50b ((placed (stY a b k s) k).length) cap50b) w1 ha hb (Own.row hw1 (i := 0) rfl (by simpa using htp50a) (by simp) hlp50a) (Own.row hw1 (i := 1) rfl (by simpa using htp50b) (by simp) hlp50b) hEa hEb hpl (by omega))) ?_
     refine Ll.nil (Lt.joint (pk [0, 1, 3, 4] rfl rfl) ?_)
     refine Lt.two rfl rfl ?_ ?_
     ·
      refine Ll.op rfl rfl rfl (OpQ.loadOwn 2 rfl Tryz.isAgg42 rfl rfl rfl) ?_
      refine Ll.nil (Lt.joint (pk [0, 1, 3, 4] rfl rfl) ?_)
      refine Lt.loud rfl ?_
      refine Ll.slice (xs := [.tmp 62]) (vs := [bo_ (sameB a ((placed (stX a b k s) k)) b ((placed (stY a b k s) k)))]) Base.elem42 rfl rfl rfl rfl rfl rfl (by decide) rfl fun p63_1 hp63_1 => ?_
      refine Ll.nil (Lt.joint (pk [1, 2, 4, 5] rfl rfl) ?_)
      refine Lt.loud rfl ?_
      refine Ll.appendOpt (m := s) (bs := (WL 0 a b k).take s) hts Base.elem42 [bk_ p63_1 #[bo_ (sameB a ((placed (stX a b k s) k)) b ((placed (stY a b k s) k)))] 4, bk_ p50a cur50a 3, bk_ p50b cur50b 3, bk_ p31 #[i6_ a.n, str a.set, str a.rel, i6_ b.n, str b.set, str b.rel, i6_ ((k : Int)), i6_ (((prN a b : Nat) : Int)), optV q s, .slice none 0 0, bo_ false] 44, bk_ p6 #[i6_ b.n, str b.set, str b.rel] 24, bk_ p4 #[i6_ a.n, str a.set, str a.rel] 24] [] 0 hq rfl rfl rfl rfl rfl rfl rfl (by omega) fun gq_1 cq_1 uq_1 _ hQgq_1 => ?_
      show Ll _ _ (Own _ _ (_ :: _ :: _ :: _ :: _ :: _ :: ((optB 4 (some (gq_1, cq_1, uq_1)) ++ [])))) _ _ ((64, sl_ gq_1 ((s + 1)) cq_1) :: _) _ _ _
      refine Ll.nil (Lt.joint (pk [1, 2, 4, 5] rfl rfl) ?_)
      refine Lt.loud rfl ?_
      refine Ll.op (v := pt_ p31) rfl rfl rfl (OpQ.nilCheck rfl rfl) ?_
      refine Ll.nil (Lt.joint (pk [1, 2, 4, 5] rfl rfl) ?_)
      refine Lt.take rfl rfl rfl rfl rfl (OpQ.fieldAddr rfl Tryz.runUnderlying44 rfl Tryz.sizeOf42 rfl rfl) (pk [1, 2, 4, 5] rfl rfl) ?_
      refine Lt.loud rfl ?_
      refine Ll.store1 (v := sl_ gq_1 ((s + 1)) cq_1) (hs' := (_ :: _ :: _ :: bk_ p31 #[i6_ a.n, str a.set, str a.rel, i6_ b.n, str b.set, str b.rel, i6_ ((k : Int)), i6_ (((prN a b : Nat) : Int)), sl_ gq_1 ((s + 1)) cq_1, .slice none 0 0, bo_ false] 44 :: _ :: _ :: ((optB 4 (some (gq_1, cq_1, uq_1)) ++ [])))) 3 rfl rfl rfl rfl rfl rfl Tryz.sizeOf42 rfl (by simp) rfl ?_
      refine Ll.nil (Lt.joint (pk [1, 2, 4, 5] rfl rfl) ?_)
      refine Lt.nil ?_
      refine Kt.sel [4, 6, 9, 43, 44] [_, _, _, _, _] rfl ?_
      refine Wk.regionQ ?_
      refine Lq.op rfl rfl rfl (OpQ.add rfl rfl rfl (by omega) (by omega)) ?_
      refine Lq.run 1 rfl ?_
      refine Lq.nil ?_
      refine Kt.again ((s + 1, some (gq_1, cq_1, uq_1))) ⟨by omega, by rw [fit_next (by omega) hsN]; exact hQgq_1⟩ (by omega) (Sub.sel [4, 6, 9, 43, 44] rfl) (fun _ h => Own.pickT (hs := [_, _, _, _, _, _]) (hs' := [_, _, _]) (tl := optB 4 (some (gq_1, cq_1, uq_1)) ++ []) h [3, 4, 5] rfl (by decide))
     ·
      refine Ll.slice (xs := [.tmp 62]) (vs := [bo_ (sameB a ((placed (stX a b k s) k)) b ((placed (stY a b k s) k)))]) Base.elem42 rfl rfl rfl rfl rfl rfl (by decide) rfl fun p63_2 hp63_2 => ?_
      refine Ll.nil (Lt.joint (pk [1, 2, 4, 5] rfl rfl) ?_)
      refine Lt.loud rfl ?_
      refine Ll.op rfl rfl rfl (OpQ.loadOwn 3 rfl Tryz.isAgg42 rfl rfl rfl) ?_
      refine Ll.nil (Lt.joint (pk [1, 2, 4, 5] rfl rfl) ?_)
      refine Lt.loud rfl ?_
      refine Ll.appendOpt (m := s) (bs := (WL 0 a b k).take s) hts Base.elem42 [bk_ p63_2 #[bo_ (sameB a ((placed (stX a b k s) k)) b ((placed (stY a b k s) k)))] 4, bk_ p50a cur50a 3, bk_ p50b cur50b 3, bk_ p31 #[i6_ a.n, str a.set, str a.rel, i6_ b.n, str b.set, str b.rel, i6_ ((k : Int)), i6_ (((prN a b : Nat) : Int)), optV q s, .slice none 0 0, bo_ false] 44, bk_ p6 #[i6_ b.n, str b.set, str b.rel] 24, bk_ p4 #[i6_ a.n, str a.set, str a.rel] 24] [] 0 hq rfl rfl rfl rfl rfl rfl rfl (by omega) fun gq_2 cq_2 uq_2 _ hQgq_2 => ?_
      show Ll _ _ (Own _ _ (_ :: _ :: _ :: _ :: _ :: _ :: ((optB 4 (some (gq_2, cq_2, uq_2)) ++ [])))) _ _ ((64, sl_ gq_2 ((s + 1)) cq_2) :: _) _ _ _
      refine Ll.nil (Lt.joint (pk [1, 2, 4, 5] rfl rfl) ?_)
      refine Lt.loud rfl ?_
      refine Ll.op (v := pt_ p31) rfl rfl rfl (OpQ.nilCheck rfl rfl) ?_
      refine Ll.nil (Lt.joint (pk [1, 2, 4, 5] rfl rfl) ?_)
      refine Lt.take rfl rfl rfl rfl rfl (OpQ.fieldAddr rfl Tryz.runUnderlying44 rfl Tryz.sizeOf42 rfl rfl) (pk [1, 2, 4, 5] rfl rfl) ?_
      refine Lt.loud rfl ?_
      refine Ll.store1 (v := sl_ gq_2 ((s + 1)) cq_2) (hs' := (_ :: _ :: _ :: bk_ p31 #[i6_ a.n, str a.set, str a.rel, i6_ b.n, str b.set, str b.rel, i6_ ((k : Int)), i6_ (((prN a b : Nat) : Int)), sl_ gq_2 ((s + 1)) cq_2, .slice none 0 0, bo_ false] 44 :: _ :: _ :: ((optB 4 (some (gq_2, cq_2, uq_2)) ++ [])))) 3 rfl rfl rfl rfl rfl rfl Tryz.sizeOf42 rfl (by simp) rfl ?_
      refine Ll.nil (Lt.joint (pk [1, 2, 4, 5] rfl rfl) ?_)
      refine Lt.nil ?_
      refine Kt.sel [4, 6, 9, 43, 44] [_, _, _, _, _] rfl ?_
      refine Wk.regionQ ?_
      refine Lq.op rfl rfl rfl (OpQ.add rfl rfl rfl (by omega) (by omega)) ?_
      refine Lq.run 1 rfl ?_
      refine Lq.nil ?_
      refine Kt.again ((s + 1, some (gq_2, cq_2, uq_2))) ⟨by omega, by rw [fit_next (by omega) hsN]; exact hQgq_2⟩ (by omega) (Sub.sel [4, 6, 9, 43, 44] rfl) (fun _ h => Own.pickT (hs := [_, _, _, _, _, _]) (hs' := [_, _, _]) (tl := optB 4 (some (gq_2, cq_2, uq_2)) ++ []) h [3, 4, 5] rfl (by decide))
   ·
    refine Ll.op (v := bo_ (sameB a ((placed (stX a b k s) k)) b ((placed (stY a b k s) k)))) rfl rfl rfl (OpQ.call rfl Tryz.call38 rfl Own.stable (fun w1 hw1 => sameWay_ok a b ((placed (stX a b k s) k)) ((placed (stY a b k s) k)) (sl_ p50a ((placed (stX a b k s) k).length) cap50a) (sl_ p50b ((placed (stY a b k s) k).length) cap50b) w1 ha hb (Own.row hw1 (i := 0) rfl (by simpa using htp50a) (by simp) hlp50a) (Own.row hw1 (i := 1) rfl (by simpa using htp50b) (by simp) hlp50b) hEa hEb hpl (by omega))) ?_
    refine Ll.nil (Lt.joint (pk [0, 1, 3, 4] rfl rfl) ?_)
    refine Lt.two rfl rfl ?_ ?_
    ·
     refine Ll.op (v := pt_ p31) rfl rfl rfl (OpQ.nilCheck rfl rfl) ?_
     refine Ll.nil (Lt.joint (pk [0, 1, 3, 4] rfl rfl) ?_)
     refine Lt.take rfl rfl rfl rfl rfl (OpQ.fieldAddr rfl Tryz.runUnderlying44 rfl Tryz.sizeOf42 rfl rfl) (pk [0, 1, 3, 4] rfl rfl) ?_
     refine Lt.two rfl rfl ?_ ?_
     ·
      refine Ll.op rfl rfl rfl (OpQ.loadOwn 2 rfl Tryz.isAgg42 rfl rfl rfl) ?_
      refine Ll.nil (Lt.joint (pk [0, 1, 3, 4] rfl rfl) ?_)
      refine Lt.loud rfl ?_
      refine Ll.slice (xs := [.tmp 62]) (vs := [bo_ (sameB a ((placed (stX a b k s) k)) b ((placed (stY a b k s) k)))]) Base.elem42 rfl rfl rfl rfl rfl rfl (by decide) rfl fun p63_3 hp63_3 => ?_
      refine Ll.nil (Lt.joint (pk [1, 2, 4, 5] rfl rfl) ?_)
      refine Lt.loud rfl ?_
      refine Ll.appendOpt (m := s) (bs := (WL 0 a b k).take s) hts Base.elem42 [bk_ p63_3 #[bo_ (sameB a ((placed (stX a b k s) k)) b ((placed (stY a b k s) k)))] 4, bk_ p50a cur50a 3, bk_ p50b cur50b 3, bk_ p31 #[i6_ a.n, str a.set, str a.rel, i6_ b.n, str b.set, str b.rel, i6_ ((k : Int)), i6_ (((prN a b : Nat) : Int)), optV q s, .slice none 0 0, bo_ false] 44, bk_ p6 #[i6_ b.n, str b.set, str b.rel] 24, bk_ p4 #[i6_ a.n, str a.set, str a.rel] 24] [] 0 hq rfl rfl rfl rfl rfl rfl rfl (by omega) fun gq_3 cq_3 uq_3 _ hQgq_3 => ?_
      show Ll _ _ (Own _ _ (_ :: _ :: _ :: _ :: _ :: _ :: ((optB 4 (some (gq_3, cq_3, uq_3)) ++ [])))) _ _ ((64, sl_ gq_3 ((s + 1)) cq_3) :: _) _ _ _
      refine Ll.nil (Lt.joint (pk [1, 2, 4, 5] rfl rfl) ?_)
      refine Lt.loud rfl ?_
      refine Ll.op (v := pt_ p31) rfl rfl rfl (OpQ.nilCheck rfl rfl) ?_
      refine Ll.nil (Lt.joint (pk [1, 2, 4, 5] rfl rfl) ?_)
      refine Lt.take rfl rfl rfl rfl rfl (OpQ.fieldAddr rfl Tryz.runUnderlying44 rfl Tryz.sizeOf42 rfl rfl) (pk [1, 2, 4, 5] rfl rfl) ?_
      refine Lt.loud rfl ?_
      refine Ll.store1 (v := sl_ gq_3 ((s + 1)) cq_3) (hs' := (_ :: _ :: _ :: bk_ p31 #[i6_ a.n, str a.set, str a.rel, i6_ b.n, str b.set, str b.rel, i6_ ((k : Int)), i6_ (((prN a b : Nat) : Int)), sl_ gq_3 ((s + 1)) cq_3, .slice none 0 0, bo_ false] 44 :: _ :: _ :: ((optB 4 (some (gq_3, cq_3, uq_3)) ++ [])))) 3 rfl rfl rfl rfl rfl rfl Tryz.sizeOf42 rfl (by simp) rfl ?_
      refine Ll.nil (Lt.joint (pk [1, 2, 4, 5] rfl rfl) ?_)
      refine Lt.nil ?_
      refine Kt.sel [4, 6, 9, 43, 44] [_, _, _, _, _] rfl ?_
      refine Wk.regionQ ?_
      refine Lq.op rfl rfl rfl (OpQ.add rfl rfl rfl (by omega) (by omega)) ?_
      refine Lq.run 1 rfl ?_
      refine Lq.nil ?_
      refine Kt.again ((s + 1, some (gq_3, cq_3, uq_3))) ⟨by omega, by rw [fit_next (by omega) hsN]; exact hQgq_3⟩ (by omega) (Sub.sel [4, 6, 9, 43, 44] rfl) (fun _ h => Own.pickT (hs := [_, _, _, _, _, _]) (hs' := [_, _, _]) (tl := optB 4 (some (gq_3, cq_3, uq_3)) ++ []) h [3, 4, 5] rfl (by decide))
     ·
      refine Ll.slice (xs := [.tmp 62]) (vs := [bo_ (sameB a ((placed (stX a b k s) k)) b ((placed (stY a b k s) k)))]) Base.elem42 rfl rfl rfl rfl rfl rfl (by decide) rfl fun p63_4 hp63_4 => ?_
      refine Ll.nil (Lt.joint (pk [1, 2, 4, 5] rfl rfl) ?_)
      refine Lt.loud rfl ?_
      refine Ll.op rfl rfl rfl (OpQ.loadOwn 3 rfl Tryz.isAgg42 rfl rfl rfl) ?_
      refine Ll.nil (Lt.joint (pk [1, 2, 4, 5] rfl rfl) ?_)
      refine Lt.loud rfl ?_
      refine Ll.appendOpt (m := s) (bs := (WL 0 a b k).take s) hts Base.elem42 [bk_ p63_4 #[bo_ (sameB a ((placed (stX a b k s) k)) b ((placed (stY a b k s) k)))] 4, bk_ p50a cur50a 3, bk_ p50b cur50b 3, bk_ p31 #[i6_ a.n, str a.set, str a.rel, i6_ b.n, str b.set, str b.rel, i6_ ((k : Int)), i6_ (((prN a b : Nat) : Int)), optV q s, .slice none 0 0, bo_ false] 44, bk_ p6 #[i6_ b.n, str b.set, str b.rel] 24, bk_ p4 #[i6_ a.n, str a.set, str a.rel] 24] [] 0 hq rfl rfl rfl rfl rfl rfl rfl (by omega) fun gq_4 cq_4 uq_4 _ hQgq_4 => ?_
      show Ll _ _ (Own _ _ (_ :: _ :: _ :: _ :: _ :: _ :: ((optB 4 (some (gq_4, cq_4, uq_4)) ++ [])))) _ _ ((64, sl_ gq_4 ((s + 1)) cq_4) :: _) _ _ _
      refine Ll.nil (Lt.joint (pk [1, 2, 4, 5] rfl rfl) ?_)
      refine Lt.loud rfl ?_
      refine Ll.op (v := pt_ p31) rfl rfl rfl (OpQ.nilCheck rfl rfl) ?_
      refine Ll.nil (Lt.joint (pk [1, 2, 4, 5] rfl rfl) ?_)
      refine Lt.take rfl rfl rfl rfl rfl (OpQ.fieldAddr rfl Tryz.runUnderlying44 rfl Tryz.sizeOf42 rfl rfl) (pk [1, 2, 4, 5] rfl rfl) ?_
      refine Lt.loud rfl ?_
      refine Ll.store1 (v := sl_ gq_4 ((s + 1)) cq_4) (hs' := (_ :: _ :: _ :: bk_ p31 #[i6_ a.n, str a.set, str a.rel, i6_ b.n, str b.set, str b.rel, i6_ ((k : Int)), i6_ (((prN a b : Nat) : Int)), sl_ gq_4 ((s + 1)) cq_4, .slice none 0 0, bo_ false] 44 :: _ :: _ :: ((optB 4 (some (gq_4, cq_4, uq_4)) ++ [])))) 3 rfl rfl rfl rfl rfl rfl Tryz.sizeOf42 rfl (by simp) rfl ?_
      refine Ll.nil (Lt.joint (pk [1, 2, 4, 5] rfl rfl) ?_)
      refine Lt.nil ?_
      refine Kt.sel [4, 6, 9, 43, 44] [_, _, _, _, _] rfl ?_
      refine Wk.regionQ ?_
      refine Lq.op rfl rfl rfl (OpQ.add rfl rfl rfl (by omega) (by omega)) ?_
      refine Lq.run 1 rfl ?_
      refine Lq.nil ?_
      refine Kt.again ((s + 1, some (gq_4, cq_4, uq_4))) ⟨by omega, by rw [fit_next (by omega) hsN]; exact hQgq_4⟩ (by omega) (Sub.sel [4, 6, 9, 43, 44] rfl) (fun _ h => Own.pickT (hs := [_, _, _, _, _, _]) (hs' := [_, _, _]) (tl := optB 4 (some (gq_4, cq_4, uq_4)) ++ []) h [3, 4, 5] rfl (by decide))
    ·
     refine Ll.slice (xs := [.tmp 62]) (vs := [bo_ (sameB a ((placed (stX a b k s) k)) b ((placed (stY a b k s) k)))]) Base.elem42 rfl rfl rfl rfl rfl rfl (by decide) rfl fun p63_5 hp63_5 => ?_
     refine Ll.nil (Lt.joint (pk [1, 2, 4, 5] rfl rfl) ?_)
     refine Lt.loud rfl ?_
     refine Ll.op (v := pt_ p31) rfl rfl rfl (OpQ.nilCheck rfl rfl) ?_
     refine Ll.nil (Lt.joint (pk [1, 2, 4, 5] rfl rfl) ?_)
     refine Lt.take rfl rfl rfl rfl rfl (OpQ.fieldAddr rfl Tryz.runUnderlying44 rfl Tryz.sizeOf42 rfl rfl) (pk [1, 2, 4, 5] rfl rfl) ?_
     refine Lt.loud rfl ?_
     refine Ll.op rfl rfl rfl (OpQ.loadOwn 3 rfl Tryz.isAgg42 rfl rfl rfl) ?_
     refine Ll.nil (Lt.joint (pk [1, 2, 4, 5] rfl rfl) ?_)
     refine Lt.loud rfl ?_
     refine Ll.appendOpt (m := s) (bs := (WL 0 a b k).take s) hts Base.elem42 [bk_ p63_5 #[bo_ (sameB a ((placed (stX a b k s) k)) b ((placed (stY a b k s) k)))] 4, bk_ p50a cur50a 3, bk_ p50b cur50b 3, bk_ p31 #[i6_ a.n, str a.set, str a.rel, i6_ b.n, str b.set, str b.rel, i6_ ((k : Int)), i6_ (((prN a b : Nat) : Int)), optV q s, .slice none 0 0, bo_ false] 44, bk_ p6 #[i6_ b.n, str b.set, str b.rel] 24, bk_ p4 #[i6_ a.n, str a.set, str a.rel] 24] [] 0 hq rfl rfl rfl rfl rfl rfl rfl (by omega) fun gq_5 cq_5 uq_5 _ hQgq_5 => ?_
     show Ll _ _ (Own _ _ (_ :: _ :: _ :: _ :: _ :: _ :: ((optB 4 (some (gq_5, cq_5, uq_5)) ++ [])))) _ _ ((64, sl_ gq_5 ((s + 1)) cq_5) :: _) _ _ _
     refine Ll.nil (Lt.joint (pk [1, 2, 4, 5] rfl rfl) ?_)
     refine Lt.loud rfl ?_
     refine Ll.op (v := pt_ p31) rfl rfl rfl (OpQ.nilCheck rfl rfl) ?_
     refine Ll.nil (Lt.joint (pk [1, 2, 4, 5] rfl rfl) ?_)
     refine Lt.take rfl rfl rfl rfl rfl (OpQ.fieldAddr rfl Tryz.runUnderlying44 rfl Tryz.sizeOf42 rfl rfl) (pk [1, 2, 4, 5] rfl rfl) ?_
     refine Lt.loud rfl ?_
     refine Ll.store1 (v := sl_ gq_5 ((s + 1)) cq_5) (hs' := (_ :: _ :: _ :: bk_ p31 #[i6_ a.n, str a.set, str a.rel, i6_ b.n, str b.set, str b.rel, i6_ ((k : Int)), i6_ (((prN a b : Nat) : Int)), sl_ gq_5 ((s + 1)) cq_5, .slice none 0 0, bo_ false] 44 :: _ :: _ :: ((optB 4 (some (gq_5, cq_5, uq_5)) ++ [])))) 3 rfl rfl rfl rfl rfl rfl Tryz.sizeOf42 rfl (by simp) rfl ?_
     refine Ll.nil (Lt.joint (pk [1, 2, 4, 5] rfl rfl) ?_)
     refine Lt.nil ?_
     refine Kt.sel [4, 6, 9, 43, 44] [_, _, _, _, _] rfl ?_
     refine Wk.regionQ ?_
     refine Lq.op rfl rfl rfl (OpQ.add rfl rfl rfl (by omega) (by omega)) ?_
     refine Lq.run 1 rfl ?_
     refine Lq.nil ?_
     refine Kt.again ((s + 1, some (gq_5, cq_5, uq_5))) ⟨by omega, by rw [fit_next (by omega) hsN]; exact hQgq_5⟩ (by omega) (Sub.sel [4, 6, 9, 43, 44] rfl) (fun _ h => Own.pickT (hs := [_, _, _, _, _, _]) (hs' := [_, _, _]) (tl := optB 4 (some (gq_5, cq_5, uq_5)) ++ []) h [3, 4, 5] rfl (by decide))
  ·
   replace h45 := of_decide_eq_false h45
   have hsN : s = prN a b ^ k := by omega
   have hWl : (WL 0 a b k).length = prN a b ^ k := WL_len _ _ _ _
   have hNp : 0 < prN a b ^ k := Nat.pow_pos hpp
   have hN0 := pow65 hpr hk3
   rw [List.take_of_length_le (by omega)] at hq
   obtain ⟨gf, cf, uf, hqe, hcf, hlf, htf⟩ := opt_some hq (by omega)
   subst hqe
   show Wk _ _ (Own _ _ [bk_ p31 #[i6_ a.n, str a.set, str a.rel, i6_ b.n, str b.set, str b.rel, i6_ ((k : Int)), i6_ (((prN a b : Nat) : Int)), sl_ gf s cf, .slice none 0 0, bo_ false] 44, bk_ p6 #[i6_ b.n, str b.set, str b.rel] 24, bk_ p4 #[i6_ a.n, str a.set, str a.rel] 24, bk_ gf uf 4]) _ _ _ _ _
   refine Wk.exit rfl ?_
   refine Kt.sel [9] [_] rfl ?_
   refine Wk.seq ?_
   refine Wk.region ?_
   refine Ll.run 1 rfl ?_
   refine Ll.slice (xs := []) (vs := []) Base.elem42 rfl rfl rfl rfl rfl rfl (by decide) rfl fun p69 hp69 => ?_
   refine Ll.run 1 rfl ?_
   refine Ll.op (v := pt_ p31) rfl rfl rfl (OpQ.nilCheck rfl rfl) ?_
   refine Ll.op rfl rfl rfl (OpQ.fieldAddr rfl Tryz.runUnderlying44 rfl Tryz.sizeOf42 rfl rfl) ?_
   refine Ll.op rfl rfl rfl (OpQ.loadOwn 1 rfl Tryz.isAgg42 rfl rfl rfl) ?_
   refine Ll.appendBools (xs := ([] : List Bool)) (ys := (WL 0 a b k)) Base.elem42 0 rfl rfl rfl rfl rfl rfl rfl rfl (by decide) rfl (fun w1 hw1 => (Own.row hw1 (i := 4) rfl (by rw [hsN, ← hWl]; exact htf) (by rw [bools_length, hWl, hsN]) (by omega))) (((WL 0 a b k)).length) (by first | (simp; done) | (simp; omega)) (by first | (simp; done) | (simp; omega) | omega) fun p74 cap74 cur74 hp74 hcp74 hlp74 htp74 => ?_
   show Ll _ _ (Own _ _ [_, _, _, _, _]) _ _ ((74, sl_ p74 ((((WL 0 a b k)).length)) cap74) :: _) _ _ _
   refine Ll.op (v := pt_ p31) rfl rfl rfl (OpQ.nilCheck rfl rfl) ?_
   refine Ll.op rfl rfl rfl (OpQ.fieldAddr rfl Tryz.runUnderlying44 rfl Tryz.sizeOf42 rfl rfl) ?_
   refine Ll.store1 (v := sl_ p74 ((((WL 0 a b k)).length)) cap74) (hs' := [_, bk_ p31 #[i6_ a.n, str a.set, str a.rel, i6_ b.n, str b.set, str b.rel, i6_ ((k : Int)), i6_ (((prN a b : Nat) : Int)), sl_ gf s cf, sl_ p74 ((((WL 0 a b k)).length)) cap74, bo_ false] 44, _, _, _]) 1 rfl rfl rfl rfl rfl rfl Tryz.sizeOf42 rfl (by simp) rfl ?_
   refine Ll.nil ?_
   refine Kt.sel [9] [_] rfl ?_
   refine Wk.seq ?_
   refine Wk.regionQ ?_
   refine Lq.run 2 rfl ?_
   refine Lq.nil ?_
   refine Kt.sel [8] [_] rfl ?_
   refine Wk.ret (Kt.end1 rfl rfl fun w' hw => ?_)
   rw [hsN, ← hWl] at hw
   exact ⟨p31, gf, cf, uf, p74, cap74, cur74, rfl, ⟨hcf, hlf, htf⟩, ⟨by simpa using hcp74, by simpa using hlp74, by simpa using htp74⟩, hw.pick [1, 4, 0] rfl (by decide)⟩
end Go.Proofs.YtjcoijejhachhaaGreatDoor
namespace Go.Proofs.YtjcoijejhachhaaGreatDoor
open Go.RowKit Go.Wk
set_option linter.unusedSimpArgs false
set_option maxHeartbeats 400000 in
/-- impl.besides -/
theorem besides_ok (k : Nat) (w : World) (hk : k ≤ 1000) :
    Calls Tryz.prog 14 [i6_ ((k : Int))].toArray w fun en w' => ∃ v, en = .returned v ∧ Below w.heap.size w w' ∧ NewRow w.heap.size 3 1 w' v (bes k).length (ints (bes k)) := by
 refine fnStart (n := 13) (e := [(0, i6_ ((k : Int)))]) Tryz.func14 rfl rfl rfl rfl Ends.both ?_
 refine Wk.seq ?_
 refine Wk.regionQ ?_
 refine Lq.run 1 rfl ?_
 refine Lq.nil ?_
 refine Kt.sel [0] [_] rfl ?_
 refine Wk.seq ?_
 refine Wk.region ?_
 refine Ll.slice (xs := []) (vs := []) Base.elem28 rfl rfl rfl rfl rfl rfl (by decide) rfl fun p4 hp4 => ?_
 refine Ll.run 1 rfl ?_
 refine Ll.nil ?_
 refine Kt.sel [0, 3] [_, _] rfl ?_
 refine Wk.seq ?_
 refine Wk.seq ?_
 refine Wk.regionQ ?_
 refine Lq.run 2 rfl ?_
 refine Lq.nil ?_
 refine Kt.sel [3, 5, 6] [_, _, _] rfl ?_
 refine Wk.block ?_
 refine Wk.loop (σ := Nat × Nat × Nat × Array Value) (fun ⟨j, g, c, cur⟩ => (j ≤ k) ∧ w.heap.size ≤ g ∧ cur.size = c * 1 ∧ (bes j).length ≤ c ∧ cur.toList.take ((bes j).length * 1) = ints (bes j)) (fun ⟨j, g, c, cur⟩ => [(3, sl_ g ((bes j).length) c), (5, i6_ ((k : Int))), (6, i6_ ((j : Int)))]) (fun ⟨j, g, c, cur⟩ => Own w.heap.size w [bk_ g cur 3]) (fun ⟨j, g, c, cur⟩ => k - j) ((0, p4, 0, #[])) ⟨by omega, by omega, rfl, Nat.le_refl _, rfl⟩ (Sub.sel [3, 5, 6] rfl) (fun _ h => h) ?_
 rintro ⟨j, g, c, cur⟩ ⟨hk, hg, hc, hl, ht⟩
 dsimp only
 refine Wk.seq ?_
 refine Wk.regionQ ?_
 refine Lq.run 1 rfl ?_
 refine Lq.nil ?_
 refine Kt.sel [3, 5, 6, 7] [_, _, _, _] rfl ?_
 refine Wk.seq ?_
 refine Wk.cond (b := decide (((j : Int)) < ((k : Int)))) rfl (fun h7 => ?_) (fun h7 => ?_)
 ·
  replace h7 := of_decide_eq_true h7
  refine Wk.skip ?_
  refine Kt.sel [3, 5, 6] [_, _, _] rfl ?_
  refine Wk.seq ?_
  refine Wk.block ?_
  refine Wk.region ?_
  refine Ll.run 1 rfl ?_
  refine Ll.slice (xs := [.const (i6_ (-1))]) (vs := [i6_ (-1)]) Base.elem28 rfl rfl rfl rfl rfl rfl (by decide) rfl fun p9 hp9 => ?_
  refine Ll.appendInts (xs := bes j) (ys := [-1]) Base.elem28 1 rfl rfl rfl rfl rfl rfl rfl hc hl (by simpa using ht) (fun w1 hw1 => (Own.row hw1 (i := 0) rfl (n := 1) (cap := 1) (vs := ints [-1]) rfl rfl (by decide))) (((bes j) ++ ([-1])).length) (by first | (simp; done) | (simp; omega)) (by first | (simp; done) | (simp; omega) | omega) fun p10 cap10 cur10 hp10 hcp10 hlp10 htp10 => ?_
  show Ll _ _ (Own _ _ [_, _]) _ _ ((10, sl_ p10 ((((bes j) ++ ([-1])).length)) cap10) :: _) _ _ _
  refine Ll.run 1 rfl ?_
  refine Ll.nil ?_
  refine Kt.sel [3, 5, 6] [_, _, _] rfl ?_
  refine Wk.regionQ ?_
  refine Lq.op rfl rfl rfl (OpQ.add rfl rfl rfl (by omega) (by omega)) ?_
  refine Lq.run 1 rfl ?_
  refine Lq.nil ?_
  refine Kt.again ((j + 1, p10, cap10, cur10)) ⟨(by omega), (by omega), hcp10, (by rw [bes_snoc]; exact hlp10), (by rw [bes_snoc]; exact htp10)⟩ (by omega) (Sub.cons (by rw [bes_snoc]; rfl) (Sub.sel [5, 6] rfl)) (fun _ h => h.tail)
 ·
  replace h7 := of_decide_eq_false h7
  refine Wk.exit rfl ?_
  refine Kt.sel [3] [_] rfl ?_
  refine Wk.seq ?_
  refine Wk.regionQ ?_
  refine Lq.run 2 rfl ?_
  refine Lq.nil ?_
  refine Kt.sel [2] [_] rfl ?_
  refine Wk.ret (Kt.end1 rfl rfl fun w' hw => ?_)
  obtain rfl : k = j := by omega
  exact ⟨_, rfl, hw.below, hw.newRow (i := 0) rfl hc hl ht⟩
end Go.Proofs.YtjcoijejhachhaaGreatDoor
