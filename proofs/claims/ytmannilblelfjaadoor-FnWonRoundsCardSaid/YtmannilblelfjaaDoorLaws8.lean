/-
  Walks: the law of won rounds.
-/
import Derived.Test.YtmannilblelfjaaDoorPlain33
import Derived.Test.YtmannilblelfjaaDoorShapeM
import Derived.Test.YtmannilblelfjaaDoorGamesM
import Derived.Test.YtmannilblelfjaaDoorDrawsD
import Derived.Test.YtmannilblelfjaaDoorBase
namespace Go.Proofs.YtmannilblelfjaaDoor
open Go.RowKit Go.Wk
set_option linter.unusedSimpArgs false

set_option maxHeartbeats 400000 in
/-- impl.WonRounds -/
theorem iWon_ok (a b : St) (xs ys : List Int) (va vb : Value) (w : World) (hsa : a.Small) (hsb : b.Small) (hva : Ints w va xs) (hvb : Ints w vb ys) (hs1 : xs.length ≤ 140737488355328) (hs2 : ys.length ≤ 140737488355328) :
    Calls Tryd.prog 48 [vS a, va, vS b, vb].toArray w fun en w' => en = .returned (.int .i64 (wonI a xs b ys)) ∧ Below w.heap.size w w' := by
 refine fnStart (n := 29) (e := [(0, vS a), (1, va), (2, vS b), (3, vb)]) Tryd.func48 rfl rfl rfl rfl Ends.both ?_
 refine Wk.seq ?_
 refine Wk.region ?_
 refine Ll.box (v := vS a) rfl rfl rfl rfl rfl fun p4 hp4 => ?_
 show Ll _ _ (Own _ _ [_]) _ _ ((4, pt_ p4) :: _) _ _ _
 refine Ll.box (v := vS b) rfl rfl rfl rfl rfl fun p6 hp6 => ?_
 show Ll _ _ (Own _ _ [_, _]) _ _ ((6, pt_ p6) :: _) _ _ _
 refine Ll.run 1 rfl ?_
 refine Ll.nil ?_
 refine Kt.sel [1, 3, 4, 6] [_, _, _, _] rfl ?_
 refine Wk.seq ?_
 refine Wk.seq ?_
 refine Wk.regionQ ?_
 refine Lq.op rfl rfl rfl (OpQ.loadBox (cs := #[i6_ a.n, str a.set, str a.rel]) 1 rfl Tryd.isAgg24 rfl rfl Tryd.sizeOf24) ?_
 refine Lq.run 1 rfl ?_
 refine Lq.op rfl rfl rfl (OpQ.loadBox (cs := #[i6_ b.n, str b.set, str b.rel]) 0 rfl Tryd.isAgg24 rfl rfl Tryd.sizeOf24) ?_
 refine Lq.run 1 rfl ?_
 refine Lq.op (v := bo_ (listsB a xs b ys)) rfl rfl rfl (OpQ.call rfl Tryd.call69 rfl Own.stable (fun w1 hw1 => areLists_ok a b xs ys va vb w1 hsa hsb (Row.own hva hw1) (Row.own hvb hw1) (by first | (simp; done) | (simp; omega) | omega) (by first | (simp; done) | (simp; omega) | omega))) ?_
 refine Lq.run 1 rfl ?_
 refine Lq.nil ?_
 refine Kt.sel [1, 3, 4, 6, 16] [_, _, _, _, _] rfl ?_
 refine Wk.cond (b := !(listsB a xs b ys)) rfl (fun h16 => ?_) (fun h16 => ?_)
 ·
  replace h16 := not_true h16
  refine Wk.seq ?_
  refine Wk.regionQ ?_
  refine Lq.run 1 rfl ?_
  refine Lq.nil ?_
  refine Kt.sel [8] [_] rfl ?_
  refine Wk.ret (Kt.end1 rfl rfl fun w' hw => ?_)
  -- ret 0: i6_ (-2)
  exact ⟨ret_i (by unfold wonI; simp [*]), hw.below⟩
 ·
  replace h16 := not_false h16
  replace h16 : listsB a xs b ys = true := by simpa using h16
  obtain ⟨LA, LB, hlen⟩ := listsB_true h16
  have ha := LA.fine
  have hb := LB.fine
  have hA := LA.els
  have hB := LB.els
  have hl4 := LA.len
  refine Wk.skip ?_
  refine Kt.sel [1, 3, 4, 6] [_, _, _, _] rfl ?_
  refine Wk.seq ?_
  refine Wk.regionQ ?_
  refine Lq.run 1 rfl ?_
  refine Lq.nil ?_
  refine Kt.sel [1, 3, 4, 6, 9] [_, _, _, _, _] rfl ?_
  refine Wk.seq ?_
  refine Wk.seq ?_
  refine Wk.regionQ ?_
  refine Lq.run 1 rfl ?_
  refine Lq.nil ?_
  refine Kt.sel [1, 3, 4, 6, 9, 17] [_, _, _, _, _, _] rfl ?_
  refine Wk.block ?_
  refine Wk.loop (σ := Nat) (fun k => k ≤ 4) (fun k => [(1, va), (3, vb), (4, pt_ p4), (6, pt_ p6), (9, i6_ (lastW (fun n => winB n a xs b ys) k)), (17, i6_ ((k : Int)))]) (fun k => Own w.heap.size w [bk_ p6 #[i6_ b.n, str b.set, str b.rel] 24, bk_ p4 #[i6_ a.n, str a.set, str a.rel] 24]) (fun k => 4 - k) (0) (by omega) (Sub.cons rfl (Sub.cons rfl (Sub.cons rfl (Sub.cons rfl (Sub.cons rfl (Sub.sel [17] rfl)))))) (fun _ h => h) ?_
  rintro k hk
  refine Wk.seq ?_
  refine Wk.regionQ ?_
  refine Lq.run 1 rfl ?_
  refine Lq.nil ?_
  refine Kt.sel [1, 3, 4, 6, 9, 17, 18] [_, _, _, _, _, _, _] rfl ?_
  refine Wk.seq ?_
  refine Wk.cond (b := decide (((k : Int)) < (4 : Int))) rfl (fun h18 => ?_) (fun h18 => ?_)
  ·
   replace h18 := of_decide_eq_true h18
   refine Wk.skip ?_
   refine Kt.sel [1, 3, 4, 6, 9, 17] [_, _, _, _, _, _] rfl ?_
   refine Wk.seq ?_
   refine Wk.block ?_
   refine Wk.seq ?_
   refine Wk.regionQ ?_
   refine Lq.run 2 rfl ?_
   refine Lq.nil ?_
   refine Kt.sel [1, 3, 4, 6, 9, 10, 17] [_, _, _, _, _, _, _] rfl ?_
   refine Wk.seq ?_
   refine Wk.regionQ ?_
   refine Lq.op rfl rfl rfl (OpQ.loadBox (cs := #[i6_ a.n, str a.set, str a.rel]) 1 rfl Tryd.isAgg24 rfl rfl Tryd.sizeOf24) ?_
   refine Lq.run 1 rfl ?_
   refine Lq.op rfl rfl rfl (OpQ.loadBox (cs := #[i6_ b.n, str b.set, str b.rel]) 0 rfl Tryd.isAgg24 rfl rfl Tryd.sizeOf24) ?_
   refine Lq.run 2 rfl ?_
   refine Lq.op (v := bo_ (winB k a xs b ys)) rfl rfl rfl (OpQ.call rfl Tryd.call81 rfl Own.stable (fun w1 hw1 => wins_ok a b xs ys va vb w1 ha hb (Row.own hva hw1) (Row.own hvb hw1) hA hB (by first | (simp; done) | (simp; omega) | omega) (by first | (simp; done) | (simp; omega) | omega) ((k : Int)) (by omega) (by omega))) ?_
   refine Lq.nil ?_
   refine Kt.sel [1, 3, 4, 6, 9, 10, 17, 25] [_, _, _, _, _, _, _, _] rfl ?_
   refine Wk.cond (b := winB k a xs b ys) rfl (fun h25 => ?_) (fun h25 => ?_)
   ·
    refine Wk.regionQ ?_
    refine Lq.run 2 rfl ?_
    refine Lq.nil ?_
    refine Kt.sel [1, 3, 4, 6, 9, 17] [_, _, _, _, _, _] rfl ?_
    refine Wk.regionQ ?_
    refine Lq.op rfl rfl rfl (OpQ.add rfl rfl rfl (by omega) (by omega)) ?_
    refine Lq.run 1 rfl ?_
    refine Lq.nil ?_
    refine Kt.again (k + 1) (by omega) (by omega) (Sub.cons rfl (Sub.cons rfl (Sub.cons rfl (Sub.cons rfl (Sub.cons (by rw [lastW_yes (f := fun n => winB n a xs b ys) h25]; rfl) (Sub.sel [17] rfl)))))) (fun _ h => h)
   ·
    refine Wk.skip ?_
    refine Kt.sel [1, 3, 4, 6, 9, 17] [_, _, _, _, _, _] rfl ?_
    refine Wk.regionQ ?_
    refine Lq.op rfl rfl rfl (OpQ.add rfl rfl rfl (by omega) (by omega)) ?_
    refine Lq.run 1 rfl ?_
    refine Lq.nil ?_
    refine Kt.again (k + 1) (by omega) (by omega) (Sub.cons rfl (Sub.cons rfl (Sub.cons rfl (Sub.cons rfl (Sub.cons (by rw [lastW_no (f := fun n => winB n a xs b ys) h25]; rfl) (Sub.sel [17] rfl)))))) (fun _ h => h)
  ·
   replace h18 := of_decide_eq_false h18
   refine Wk.exit rfl ?_
   refine Kt.sel [9] [_] rfl ?_
   refine Wk.seq ?_
   refine Wk.regionQ ?_
   refine Lq.run 2 rfl ?_
   refine Lq.nil ?_
   refine Kt.sel [8] [_] rfl ?_
   refine Wk.ret (Kt.end1 rfl rfl fun w' hw => ?_)
   -- ret 1: i6_ (lastW (fun n => winB n a xs b ys) k)
   exact ⟨ret_i (by unfold wonI; rw [h16, if_pos rfl, show k = 4 from by omega]), hw.below⟩

set_option maxHeartbeats 400000 in
/-- spec.WonRounds -/
theorem sWon_ok (a b : St) (xs ys : List Int) (va vb : Value) (w : World) (hsa : a.Small) (hsb : b.Small) (hva : Ints w va xs) (hvb : Ints w vb ys) (hs1 : xs.length ≤ 140737488355328) (hs2 : ys.length ≤ 140737488355328) (loa : -9223372036854775808 ≤ a.n) (hia : a.n ≤ 9223372036854775807) (lob : -9223372036854775808 ≤ b.n) (hib : b.n ≤ 9223372036854775807) :
    Calls Tryd.prog 49 [vS a, va, vS b, vb].toArray w fun en w' => en = .returned (.int .i64 (wonI a xs b ys)) ∧ Below w.heap.size w w' := by
 refine fnStart (n := 30) (e := [(0, vS a), (1, va), (2, vS b), (3, vb)]) Tryd.func49 rfl rfl rfl rfl Ends.both ?_
 refine Wk.seq ?_
 refine Wk.region ?_
 refine Ll.box (v := vS a) rfl rfl rfl rfl rfl fun p4 hp4 => ?_
 show Ll _ _ (Own _ _ [_]) _ _ ((4, pt_ p4) :: _) _ _ _
 refine Ll.box (v := vS b) rfl rfl rfl rfl rfl fun p6 hp6 => ?_
 show Ll _ _ (Own _ _ [_, _]) _ _ ((6, pt_ p6) :: _) _ _ _
 refine Ll.run 1 rfl ?_
 refine Ll.nil ?_
 refine Kt.sel [1, 3, 4, 6] [_, _, _, _] rfl ?_
 refine Wk.seq ?_
 refine Wk.regionQ ?_
 refine Lq.run 1 rfl ?_
 refine Lq.nil ?_
 refine Kt.sel [1, 3, 4, 6, 9] [_, _, _, _, _] rfl ?_
 refine Wk.seq ?_
 refine Wk.seq ?_
 refine Wk.regionQ ?_
 refine Lq.op rfl rfl rfl (OpQ.loadBox (cs := #[i6_ a.n, str a.set, str a.rel]) 1 rfl Tryd.isAgg24 rfl rfl Tryd.sizeOf24) ?_
 refine Lq.run 1 rfl ?_
 refine Lq.op rfl rfl rfl (OpQ.loadBox (cs := #[i6_ b.n, str b.set, str b.rel]) 0 rfl Tryd.isAgg24 rfl rfl Tryd.sizeOf24) ?_
 refine Lq.run 1 rfl ?_
 refine Lq.op (v := bo_ (listsB a xs b ys)) rfl rfl rfl (OpQ.call rfl Tryd.call74 rfl Own.stable (fun w1 hw1 => l4Lists_ok a b xs ys va vb w1 hsa hsb (Row.own hva hw1) (Row.own hvb hw1) (by first | (simp; done) | (simp; omega) | omega) (by first | (simp; done) | (simp; omega) | omega) loa hia lob hib)) ?_
 refine Lq.run 1 rfl ?_
 refine Lq.nil ?_
 refine Kt.sel [1, 3, 4, 6, 9, 15] [_, _, _, _, _, _] rfl ?_
 refine Wk.cond (b := !(listsB a xs b ys)) rfl (fun h15 => ?_) (fun h15 => ?_)
 ·
  replace h15 := not_true h15
  refine Wk.seq ?_
  refine Wk.regionQ ?_
  refine Lq.run 1 rfl ?_
  refine Lq.nil ?_
  refine Kt.sel [8] [_] rfl ?_
  refine Wk.ret (Kt.end1 rfl rfl fun w' hw => ?_)
  -- ret 0: i6_ (-2)
  exact ⟨ret_i (by unfold wonI; simp_all), hw.below⟩
 ·
  replace h15 := not_false h15
  replace h15 : listsB a xs b ys = true := by simpa using h15
  obtain ⟨LA, LB, hlen⟩ := listsB_true h15
  have ha := LA.fine
  have hb := LB.fine
  have hA := LA.els
  have hB := LB.els
  have hl4 := LA.len
  refine Wk.skip ?_
  refine Kt.sel [1, 3, 4, 6, 9] [_, _, _, _, _] rfl ?_
  refine Wk.seq ?_
  refine Wk.block ?_
  refine Wk.loop (σ := Nat) (fun k => k ≤ 4 ∧ ∀ i : Nat, i < k → winB i a xs b ys = true) (fun k => [(1, va), (3, vb), (4, pt_ p4), (6, pt_ p6), (9, i6_ ((k : Int) - 1))]) (fun k => Own w.heap.size w [bk_ p6 #[i6_ b.n, str b.set, str b.rel] 24, bk_ p4 #[i6_ a.n, str a.set, str a.rel] 24]) (fun k => 5 - k) (0) ⟨by omega, fun i hi => absurd hi (by omega)⟩ (Sub.cons rfl (Sub.cons rfl (Sub.cons rfl (Sub.cons rfl (Sub.cons rfl Sub.nil))))) (fun _ h => h) ?_
  rintro k ⟨hk, hall⟩
  refine Wk.seq ?_
  refine Wk.seq ?_
  refine Wk.regionQ ?_
  refine Lq.run 3 rfl ?_
  refine Lq.bool fun b18 hg18 => ?_
  cases b18
  ·
   replace hg18 := of_decide_eq_false hg18
   refine Lq.pass rfl rfl rfl ?_
   refine Lq.pass rfl rfl rfl ?_
   refine Lq.pass rfl rfl rfl ?_
   refine Lq.pass rfl rfl rfl ?_
   refine Lq.pass rfl rfl rfl ?_
   refine Lq.pass rfl rfl rfl ?_
   refine Lq.pass rfl rfl rfl ?_
   refine Lq.run 1 rfl ?_
   refine Lq.nil ?_
   refine Kt.sel [1, 3, 4, 6, 9, 26] [_, _, _, _, _, _] rfl ?_
   refine Wk.condF rfl ?_
   refine Wk.exit rfl ?_
   refine Kt.sel [9] [_] rfl ?_
   refine Wk.seq ?_
   refine Wk.regionQ ?_
   refine Lq.run 2 rfl ?_
   refine Lq.nil ?_
   refine Kt.sel [8] [_] rfl ?_
   refine Wk.ret (Kt.end1 rfl rfl fun w' hw => ?_)
   -- ret 1: i6_ ((k : Int) - 1)
   exact ⟨ret_i (by unfold wonI; rw [h15, if_pos rfl, lastW_of (f := fun n => winB n a xs b ys) (fun n h => win_less hlen h) hk hall (fun hk4 => by first | assumption | omega)]), hw.below⟩
  ·
   replace hg18 := of_decide_eq_true hg18
   refine Lq.op rfl rfl rfl (OpQ.loadBox (cs := #[i6_ a.n, str a.set, str a.rel]) 1 rfl Tryd.isAgg24 rfl rfl Tryd.sizeOf24) ?_
   refine Lq.run 1 rfl ?_
   refine Lq.op rfl rfl rfl (OpQ.loadBox (cs := #[i6_ b.n, str b.set, str b.rel]) 0 rfl Tryd.isAgg24 rfl rfl Tryd.sizeOf24) ?_
   refine Lq.run 2 rfl ?_
   refine Lq.op (v := i6_ ((k : Int))) rfl rfl rfl (OpQ.cast (by congr 1; omega) (OpQ.add rfl rfl rfl (by omega) (by omega))) ?_
   refine Lq.op (v := bo_ (winB k a xs b ys)) rfl rfl rfl (OpQ.call rfl Tryd.call83 rfl Own.stable (fun w1 hw1 => l5Wins_ok a b xs ys va vb w1 ha hb (Row.own hva hw1) (Row.own hvb hw1) hA hB (by first | (simp; done) | (simp; omega) | omega) (by first | (simp; done) | (simp; omega) | omega) ((k : Int)) (by omega) (by omega))) ?_
   refine Lq.run 1 rfl ?_
   refine Lq.nil ?_
   refine Kt.sel [1, 3, 4, 6, 9, 26] [_, _, _, _, _, _] rfl ?_
   refine Wk.cond (b := winB k a xs b ys) rfl (fun h26 => ?_) (fun h26 => ?_)
   ·
    refine Wk.skip ?_
    refine Kt.sel [1, 3, 4, 6, 9] [_, _, _, _, _] rfl ?_
    refine Wk.block ?_
    refine Wk.regionQ ?_
    refine Lq.run 1 rfl ?_
    refine Lq.op rfl rfl rfl (OpQ.add rfl rfl rfl (by omega) (by omega)) ?_
    refine Lq.run 1 rfl ?_
    refine Lq.nil ?_
    refine Kt.again (k + 1) ⟨by omega, fun i hi => (Nat.lt_succ_iff_lt_or_eq.1 hi).elim (hall i) (fun e => by subst e; assumption)⟩ (by omega) (Sub.cons rfl (Sub.cons rfl (Sub.cons rfl (Sub.cons rfl (Sub.cons (by first | (simp [List.lookup]; done) | (simp [List.lookup]; omega)) Sub.nil))))) (fun _ h => h)
   ·
    refine Wk.exit rfl ?_
    refine Kt.sel [9] [_] rfl ?_
    refine Wk.seq ?_
    refine Wk.regionQ ?_
    refine Lq.run 2 rfl ?_
    refine Lq.nil ?_
    refine Kt.sel [8] [_] rfl ?_
    refine Wk.ret (Kt.end1 rfl rfl fun w' hw => ?_)
    -- ret 2: i6_ ((k : Int) - 1)
    exact ⟨ret_i (by unfold wonI; rw [h15, if_pos rfl, lastW_of (f := fun n => winB n a xs b ys) (fun n h => win_less hlen h) hk hall (fun hk4 => by first | assumption | omega)]), hw.below⟩

set_option maxHeartbeats 400000 in
/-- spec.DrawWonRounds -/
theorem drawWon_ok (B : Nat) (w0 : World) (hs : List (Nat × Obj)) (bv : Value) (L : List Int) (w : World) (hb : ∀ w, Own B w0 hs w → Row w bv (u8s L)) (hL8 : Bytes8 L) (hLs : L.length ≤ 1048576) (hw : Own B w0 hs w) :
    Calls Tryd.prog 47 [bv].toArray w fun en w' => ∃ a : St, ∃ b : St, ∃ v : Value, ∃ xs : List Int, ∃ u : Value, ∃ ys : List Int, ∃ new : List (Nat × Obj), en = .returned (.tuple #[vS a, v, vS b, u]) ∧ (((a.Tame ∧ b.Tame) ∧ (xs.length ≤ 40 ∧ ys.length ≤ 40) ∧ ∀ w1, Own B w0 new w1 → Ints w1 v xs ∧ Ints w1 u ys) ∧ True) ∧ Own B w0 (new ++ hs) w' := by
 refine fnStartC (Own B w0 hs) (n := 24) (e := [(0, bv)]) Tryd.func47 rfl rfl rfl rfl Ends.both hw ?_
 refine Wk.seq ?_
 refine Wk.region ?_
 refine Ll.alloc rfl rfl rfl rfl Tryd.zeroValue24 fun p2 hp2 => ?_
 show Ll _ _ (Own _ _ (bk_ p2 #[i6_ 0, str ([]), str ([])] 24 :: hs)) _ _ ((2, pt_ p2) :: _) _ _ _
 refine Ll.run 1 rfl ?_
 refine Ll.alloc rfl rfl rfl rfl Tryd.zeroValue24 fun p4 hp4 => ?_
 show Ll _ _ (Own _ _ (bk_ p4 #[i6_ 0, str ([]), str ([])] 24 :: _ :: hs)) _ _ ((4, pt_ p4) :: _) _ _ _
 refine Ll.run 1 rfl ?_
 refine Ll.nil ?_
 refine Kt.sel [0, 2, 4] [_, _, _] rfl ?_
 refine Wk.seq ?_
 refine Wk.region ?_
 refine Ll.run 1 rfl ?_
 refine Ll.callBack (ok := fun ((rp, v, M) : Nat × Value × List Int) => M.length ≤ 2000 ∧ Bytes8 M ∧ ∀ w1, Own B w0 hs w1 → Row w1 v (u8s M)) (v := fun ((rp, v, M) : Nat × Value × List Int) => .pointer (some ⟨rp, 0, none⟩)) (new := fun ((rp, v, M) : Nat × Value × List Int) => [(rp, .cells #[v, .int .i64 ((0 : Nat) : Int)] 119 (0, 0))]) (hs := hs) (xs := [.tmp 12]) (vs := [bv]) ([bk_ p4 #[i6_ 0, str ([]), str ([])] 24, bk_ p2 #[i6_ 0, str ([]), str ([])] 24] : List (Nat × Obj)) rfl rfl rfl rfl Tryd.call60 rfl (fun w1 hw1 => (open_ok B w0 ([bk_ p4 #[i6_ 0, str ([]), str ([])] 24, bk_ p2 #[i6_ 0, str ([]), str ([])] 24] : List (Nat × Obj)) hs _ _ w1 hb hL8 hLs hw1).mono fun en w' ⟨rp, v, M, h1, h2, h3⟩ => ⟨(rp, v, M), h1, h2, h3⟩) fun ⟨rp, dv, M⟩ hO => ?_
 dsimp only at hO
 obtain ⟨hM2, hM8, hMb⟩ := hO
 show Ll _ _ (Own _ _ (_ :: _ :: _ :: hs)) _ _ ((13, pt_ rp) :: _) _ _ _
 refine Ll.callRdL (rp := rp) (RT := 119) (p := 0) (bv := dv) (hs := hs) (ok := fun ((a, b, v, xs, u, ys, new, r) : St × St × Value × List Int × Value × List Int × List (Nat × Obj) × Int) p' => ((a.Tame ∧ b.Tame) ∧ (xs.length ≤ 40 ∧ ys.length ≤ 40) ∧ ∀ w1, Own B w0 new w1 → Ints w1 v xs ∧ Ints w1 u ys) ∧ (-1 ≤ r ∧ r ≤ 4) ∧ p' ≤ 0 + 2010) (v := fun ((a, b, v, xs, u, ys, new, r) : St × St × Value × List Int × Value × List Int × List (Nat × Obj) × Int) => .tuple #[vS a, v, vS b, u, .int .i64 r]) (new := fun ((a, b, v, xs, u, ys, new, r) : St × St × Value × List Int × Value × List Int × List (Nat × Obj) × Int) => new) (xs := [.tmp 13]) (vs := [pt_ rp]) ([bk_ p4 #[i6_ 0, str ([]), str ([])] 24, bk_ p2 #[i6_ 0, str ([]), str ([])] 24] : List (Nat × Obj)) rfl rfl rfl rfl Tryd.call79 rfl (fun w1 hw1 => (l5Draw_ok B w0 (([bk_ p4 #[i6_ 0, str ([]), str ([])] 24, bk_ p2 #[i6_ 0, str ([]), str ([])] 24] : List (Nat × Obj)) ++ hs) rp 0 dv M w1 (fun w2 hw2 => hMb w2 (Own.drop (f := ([bk_ p4 #[i6_ 0, str ([]), str ([])] 24, bk_ p2 #[i6_ 0, str ([]), str ([])] 24] : List (Nat × Obj))) hw2)) hM8 hM2 (by omega) hw1).mono fun en w' ⟨a, b, v, xs, u, ys, new, r, p', h1, h2, h3⟩ => ⟨(a, b, v, xs, u, ys, new, r), p', h1, h2, h3⟩) fun ⟨a14, b14, v14, xs14, u14, ys14, new14, r14⟩ p_14 hK => ?_
 dsimp only at hK
 obtain ⟨⟨⟨hta14, htb14⟩, ⟨hlxs14, hlys14⟩, hrw⟩, ⟨hlor14, hhir14⟩, hep_14⟩ := hK
 have hIv14 : ∀ w1, Own B w0 new14 w1 → Ints w1 v14 xs14 := fun w1 h => (hrw w1 h).1
 have hIu14 : ∀ w1, Own B w0 new14 w1 → Ints w1 u14 ys14 := fun w1 h => (hrw w1 h).2
 show Ll _ _ (Own _ _ (_ :: _ :: _ :: (new14 ++ hs))) _ _ ((14, .tuple #[vS a14, v14, vS b14, u14, i6_ r14]) :: _) _ _ _
 refine Ll.run 1 rfl ?_
 refine Ll.op (v := vS a14) rfl rfl rfl (OpQ.extract rfl rfl rfl) ?_
 refine Ll.op (v := v14) rfl rfl rfl (OpQ.extract rfl rfl rfl) ?_
 refine Ll.op (v := vS b14) rfl rfl rfl (OpQ.extract rfl rfl rfl) ?_
 refine Ll.op (v := u14) rfl rfl rfl (OpQ.extract rfl rfl rfl) ?_
 refine Ll.op (v := i6_ r14) rfl rfl rfl (OpQ.extract rfl rfl rfl) ?_
 refine Ll.alloc rfl rfl rfl rfl Tryd.zeroValue24 fun p6 hp6 => ?_
 show Ll _ _ (Own _ _ (bk_ p6 #[i6_ 0, str ([]), str ([])] 24 :: _ :: _ :: _ :: (new14 ++ hs))) _ _ ((6, pt_ p6) :: _) _ _ _
 refine Ll.alloc rfl rfl rfl rfl Tryd.zeroValue24 fun p8 hp8 => ?_
 show Ll _ _ (Own _ _ (bk_ p8 #[i6_ 0, str ([]), str ([])] 24 :: _ :: _ :: _ :: _ :: (new14 ++ hs))) _ _ ((8, pt_ p8) :: _) _ _ _
 refine Ll.storeBox (cs' := #[i6_ a14.n, str a14.set, str a14.rel]) (hs' := (_ :: bk_ p6 #[i6_ a14.n, str a14.set, str a14.rel] 24 :: _ :: _ :: _ :: (new14 ++ hs))) 1 rfl rfl rfl rfl rfl (by kernel_rfl : _ = some Tryd.t24) rfl rfl rfl rfl rfl ?_
 refine Ll.run 1 rfl ?_
 refine Ll.storeBox (cs' := #[i6_ b14.n, str b14.set, str b14.rel]) (hs' := (bk_ p8 #[i6_ b14.n, str b14.set, str b14.rel] 24 :: _ :: _ :: _ :: _ :: (new14 ++ hs))) 0 rfl rfl rfl rfl rfl (by kernel_rfl : _ = some Tryd.t24) rfl rfl rfl rfl rfl ?_
 refine Ll.run 2 rfl ?_
 refine Ll.nil ?_
 refine Kt.sel [2, 4, 6, 7, 8, 9] [_, _, _, _, _, _] rfl ?_
 refine Wk.seq ?_
 refine Wk.regionS (S := Own B w0 [bk_ p8 #[i6_ b14.n, str b14.set, str b14.rel] 24, bk_ p6 #[i6_ a14.n, str a14.set, str a14.rel] 24, bk_ rp #[dv, i6_ ((p_14 : Int))] 119]) [(0, true), (1, true), (2, true), (3, true), (4, false), (5, true), (6, false), (7, true)] Base.mixed (fun _ h => h.drawn) (by kernel_rfl) ?_
 refine Ld.take rfl rfl rfl rfl rfl (OpQ.loadBox (cs := #[i6_ a14.n, str a14.set, str a14.rel]) 1 rfl Tryd.isAgg24 rfl rfl Tryd.sizeOf24) (pk [0, 1, 4] rfl rfl) ?_
 refine Ld.run 1 rfl (pk [0, 1, 4] rfl rfl) ?_
 refine Ld.take rfl rfl rfl rfl rfl (OpQ.loadBox (cs := #[i6_ b14.n, str b14.set, str b14.rel]) 0 rfl Tryd.isAgg24 rfl rfl Tryd.sizeOf24) (pk [0, 1, 4] rfl rfl) ?_
 refine Ld.run 1 rfl (pk [0, 1, 4] rfl rfl) ?_
 refine Ld.loud rfl ?_
 refine Ll.storeBox (cs' := #[i6_ a14.n, str a14.set, str a14.rel]) (hs' := (_ :: _ :: _ :: bk_ p2 #[i6_ a14.n, str a14.set, str a14.rel] 24 :: _ :: (new14 ++ hs))) 3 rfl rfl rfl rfl rfl (by kernel_rfl : _ = some Tryd.t24) rfl rfl rfl rfl rfl ?_
 refine Ll.nil (Ld.joint (pk [0, 1, 4] rfl rfl) ?_)
 refine Ld.run 1 rfl (pk [0, 1, 4] rfl rfl) ?_
 refine Ld.loud rfl ?_
 refine Ll.storeBox (cs' := #[i6_ b14.n, str b14.set, str b14.rel]) (hs' := (_ :: _ :: bk_ p4 #[i6_ b14.n, str b14.set, str b14.rel] 24 :: _ :: _ :: (new14 ++ hs))) 2 rfl rfl rfl rfl rfl (by kernel_rfl : _ = some Tryd.t24) rfl rfl rfl rfl rfl ?_
 refine Ll.nil (Ld.joint (pk [0, 1, 4] rfl rfl) ?_)
 refine Ld.run 1 rfl (pk [0, 1, 4] rfl rfl) ?_
 refine Ld.nil ?_
 refine Kt.sel [2, 3, 4, 5] [_, _, _, _] rfl ?_
 refine Wk.ret (Kt.endMany rfl (.cell (cs := #[i6_ a14.n, str a14.set, str a14.rel]) rfl (fun w1 hw1 => hw1.loadBox 3 rfl Tryd.isAgg24 Tryd.sizeOf24) (.tmp (v := v14) rfl (.cell (cs := #[i6_ b14.n, str b14.set, str b14.rel]) rfl (fun w1 hw1 => hw1.loadBox 2 rfl Tryd.isAgg24 Tryd.sizeOf24) (.tmp (v := u14) rfl ResAt.nil)))) (by simp) fun w' hw => ?_)
 -- ret 0: vS a14; v14; vS b14; u14
 exact ⟨a14, b14, v14, xs14, u14, ys14, ([bk_ p8 #[i6_ b14.n, str b14.set, str b14.rel] 24, bk_ p6 #[i6_ a14.n, str a14.set, str a14.rel] 24, bk_ p4 #[i6_ b14.n, str b14.set, str b14.rel] 24, bk_ p2 #[i6_ a14.n, str a14.set, str a14.rel] 24, bk_ rp #[dv, i6_ ((p_14 : Int))] 119] : List (Nat × Obj)) ++ new14, rfl, ⟨⟨⟨hta14, htb14⟩, ⟨(by first | omega | (simp only [List.length_append, List.length_cons, List.length_nil, List.length_take, List.length_set]; omega)), (by first | omega | (simp only [List.length_append, List.length_cons, List.length_nil, List.length_take, List.length_set]; omega))⟩, fun w1 h1 => ⟨(hIv14 _ (Own.drop (f := [_, _, _, _, _]) h1)), (hIu14 _ (Own.drop (f := [_, _, _, _, _]) h1))⟩⟩, trivial⟩, hw⟩

set_option maxHeartbeats 400000 in
/-- laws.FnWonRounds -/
theorem lawFnWon (bv : Value) (L : List Int) (w : World) (hbv : Row w bv (u8s L)) (hL8 : Bytes8 L) (hLm : L.length ≤ 9223372036854775807) :
    Calls Tryd.prog 12 [bv].toArray w fun en w' => en = .returned (.bool true) ∧ Below w.heap.size w w' := by
 refine fnStart (n := 75) (e := [(0, bv)]) Tryd.func12 rfl rfl rfl rfl Ends.both ?_
 refine Wk.seq ?_
 refine Wk.regionQ ?_
 refine Lq.run 1 rfl ?_
 refine Lq.nil ?_
 refine Kt.sel [0] [_] rfl ?_
 refine Wk.seq ?_
 refine Wk.seq ?_
 refine Wk.regionQ ?_
 refine Lq.run 1 rfl ?_
 refine Lq.op rfl rfl rfl (OpQ.lenRow rfl Tryd.runUnderlying22 rfl (u8s_length _) (fun w1 hw1 => Row.own hbv hw1)) ?_
 refine Lq.run 1 rfl ?_
 refine Lq.nil ?_
 refine Kt.sel [0, 13] [_, _] rfl ?_
 refine Wk.cond (b := decide ((1048576 : Int) < ((L.length : Int)))) rfl (fun h13 => ?_) (fun h13 => ?_)
 ·
  replace h13 := of_decide_eq_true h13
  refine Wk.seq ?_
  refine Wk.regionQ ?_
  refine Lq.run 1 rfl ?_
  refine Lq.nil ?_
  refine Kt.sel [2] [_] rfl ?_
  refine Wk.ret (Kt.end1 rfl rfl fun w' hw => ?_)
  -- ret 0: bo_ true
  exact ⟨ret_b (by first | rfl | (simp_all; done)), hw.below⟩
 ·
  replace h13 := of_decide_eq_false h13
  refine Wk.skip ?_
  refine Kt.sel [0] [_] rfl ?_
  refine Wk.seq ?_
  refine Wk.region ?_
  refine Ll.run 1 rfl ?_
  refine Ll.callBack (ok := fun ((a, b, v, xs, u, ys, new) : St × St × Value × List Int × Value × List Int × List (Nat × Obj)) => ((a.Tame ∧ b.Tame) ∧ (xs.length ≤ 40 ∧ ys.length ≤ 40) ∧ ∀ w1, Own w.heap.size w new w1 → Ints w1 v xs ∧ Ints w1 u ys) ∧ True) (v := fun ((a, b, v, xs, u, ys, new) : St × St × Value × List Int × Value × List Int × List (Nat × Obj)) => .tuple #[vS a, v, vS b, u]) (new := fun ((a, b, v, xs, u, ys, new) : St × St × Value × List Int × Value × List Int × List (Nat × Obj)) => new) (hs := []) (xs := [.tmp 15]) (vs := [bv]) ([] : List (Nat × Obj)) rfl rfl rfl rfl Tryd.call47 rfl (fun w1 hw1 => (drawWon_ok w.heap.size w (([] : List (Nat × Obj)) ++ ([])) bv L w1 (fun w2 hw2 => Row.own hbv hw2) hL8 (by omega) hw1).mono fun en w' ⟨a, b, v, xs, u, ys, new, h1, h2, h3⟩ => ⟨(a, b, v, xs, u, ys, new), h1, h2, h3⟩) fun ⟨a16, b16, v16, xs16, u16, ys16, new16⟩ hK => ?_
  dsimp only at hK
  obtain ⟨⟨⟨hta16, htb16⟩, ⟨hlxs16, hlys16⟩, hrw⟩, -⟩ := hK
  have hIv16 : ∀ w1, Own w.heap.size w new16 w1 → Ints w1 v16 xs16 := fun w1 h => (hrw w1 h).1
  have hIu16 : ∀ w1, Own w.heap.size w new16 w1 → Ints w1 u16 ys16 := fun w1 h => (hrw w1 h).2
  have hsa16 := hta16.small
  have loa16 := hta16.lo
  have hia16 := hta16.hi
  have hsb16 := htb16.small
  have lob16 := htb16.lo
  have hib16 := htb16.hi
  show Ll _ _ (Own _ _ ((new16 ++ ([])))) _ _ ((16, .tuple #[vS a16, v16, vS b16, u16]) :: _) _ _ _
  refine Ll.run 1 rfl ?_
  refine Ll.op (v := vS a16) rfl rfl rfl (OpQ.extract rfl rfl rfl) ?_
  refine Ll.op (v := v16) rfl rfl rfl (OpQ.extract rfl rfl rfl) ?_
  refine Ll.op (v := vS b16) rfl rfl rfl (OpQ.extract rfl rfl rfl) ?_
  refine Ll.op (v := u16) rfl rfl rfl (OpQ.extract rfl rfl rfl) ?_
  refine Ll.alloc rfl rfl rfl rfl Tryd.zeroValue24 fun p3 hp3 => ?_
  show Ll _ _ (Own _ _ (bk_ p3 #[i6_ 0, str ([]), str ([])] 24 :: (new16 ++ ([])))) _ _ ((3, pt_ p3) :: _) _ _ _
  refine Ll.alloc rfl rfl rfl rfl Tryd.zeroValue24 fun p5 hp5 => ?_
  show Ll _ _ (Own _ _ (bk_ p5 #[i6_ 0, str ([]), str ([])] 24 :: _ :: (new16 ++ ([])))) _ _ ((5, pt_ p5) :: _) _ _ _
  refine Ll.storeBox (cs' := #[i6_ a16.n, str a16.set, str a16.rel]) (hs' := (_ :: bk_ p3 #[i6_ a16.n, str a16.set, str a16.rel] 24 :: (new16 ++ ([])))) 1 rfl rfl rfl rfl rfl (by kernel_rfl : _ = some Tryd.t24) rfl rfl rfl rfl rfl ?_
  refine Ll.run 1 rfl ?_
  refine Ll.storeBox (cs' := #[i6_ b16.n, str b16.set, str b16.rel]) (hs' := (bk_ p5 #[i6_ b16.n, str b16.set, str b16.rel] 24 :: _ :: (new16 ++ ([])))) 0 rfl rfl rfl rfl rfl (by kernel_rfl : _ = some Tryd.t24) rfl rfl rfl rfl rfl ?_
  refine Ll.run 1 rfl ?_
  refine Ll.nil ?_
  refine Kt.sel [3, 4, 5, 6] [_, _, _, _] rfl ?_
  refine Wk.seq ?_
  refine Wk.regionQ ?_
  refine Lq.op rfl rfl rfl (OpQ.loadBox (cs := #[i6_ a16.n, str a16.set, str a16.rel]) 1 rfl Tryd.isAgg24 rfl rfl Tryd.sizeOf24) ?_
  refine Lq.run 1 rfl ?_
  refine Lq.op rfl rfl rfl (OpQ.loadBox (cs := #[i6_ b16.n, str b16.set, str b16.rel]) 0 rfl Tryd.isAgg24 rfl rfl Tryd.sizeOf24) ?_
  refine Lq.run 1 rfl ?_
  refine Lq.op (v := i6_ (wonI a16 xs16 b16 ys16)) rfl rfl rfl (OpQ.call rfl Tryd.call48 rfl Own.stable (fun w1 hw1 => iWon_ok a16 b16 xs16 ys16 v16 u16 w1 hsa16 hsb16 (hIv16 _ (Own.dropR (Own.drop (f := [_, _]) hw1))) (hIu16 _ (Own.dropR (Own.drop (f := [_, _]) hw1))) (by first | (simp; done) | (simp; omega) | omega) (by first | (simp; done) | (simp; omega) | omega))) ?_
  refine Lq.run 1 rfl ?_
  refine Lq.nil ?_
  refine Kt.sel [3, 4, 5, 6, 7] [_, _, _, _, _] rfl ?_
  refine Wk.seq ?_
  refine Wk.seq ?_
  refine Wk.regionQ ?_
  refine Lq.run 1 rfl ?_
  refine Lq.op rfl rfl rfl (OpQ.loadBox (cs := #[i6_ a16.n, str a16.set, str a16.rel]) 1 rfl Tryd.isAgg24 rfl rfl Tryd.sizeOf24) ?_
  refine Lq.run 1 rfl ?_
  refine Lq.op rfl rfl rfl (OpQ.loadBox (cs := #[i6_ b16.n, str b16.set, str b16.rel]) 0 rfl Tryd.isAgg24 rfl rfl Tryd.sizeOf24) ?_
  refine Lq.run 1 rfl ?_
  refine Lq.op (v := i6_ (wonI a16 xs16 b16 ys16)) rfl rfl rfl (OpQ.call rfl Tryd.call49 rfl Own.stable (fun w1 hw1 => sWon_ok a16 b16 xs16 ys16 v16 u16 w1 hsa16 hsb16 (hIv16 _ (Own.dropR (Own.drop (f := [_, _]) hw1))) (hIu16 _ (Own.dropR (Own.drop (f := [_, _]) hw1))) (by first | (simp; done) | (simp; omega) | omega) (by first | (simp; done) | (simp; omega) | omega) loa16 hia16 lob16 hib16)) ?_
  refine Lq.run 2 rfl ?_
  refine Lq.bool fun b33 hg33 => ?_
  cases b33
  ·
   replace hg33 := not_false hg33
   replace hg33 := of_decide_eq_true hg33
   refine Lq.run 3 rfl ?_
   refine Lq.nil ?_
   refine Kt.sel [3, 4, 5, 6, 7, 36] [_, _, _, _, _, _] rfl ?_
   refine Wk.cond (b := decide ((wonI a16 xs16 b16 ys16) < (-1 : Int))) rfl (fun h36 => ?_) (fun h36 => ?_)
   ·
    replace h36 := of_decide_eq_true h36
    refine Wk.seq ?_
    refine Wk.regionQ ?_
    refine Lq.run 1 rfl ?_
    refine Lq.op rfl rfl rfl (OpQ.loadBox (cs := #[i6_ a16.n, str a16.set, str a16.rel]) 1 rfl Tryd.isAgg24 rfl rfl Tryd.sizeOf24) ?_
    refine Lq.run 1 rfl ?_
    refine Lq.op rfl rfl rfl (OpQ.loadBox (cs := #[i6_ b16.n, str b16.set, str b16.rel]) 0 rfl Tryd.isAgg24 rfl rfl Tryd.sizeOf24) ?_
    refine Lq.run 1 rfl ?_
    refine Lq.op (v := i6_ (wonI a16 xs16 b16 ys16)) rfl rfl rfl (OpQ.call rfl Tryd.call49 rfl Own.stable (fun w1 hw1 => sWon_ok a16 b16 xs16 ys16 v16 u16 w1 hsa16 hsb16 (hIv16 _ (Own.dropR (Own.drop (f := [_, _]) hw1))) (hIu16 _ (Own.dropR (Own.drop (f := [_, _]) hw1))) (by first | (simp; done) | (simp; omega) | omega) (by first | (simp; done) | (simp; omega) | omega) loa16 hia16 lob16 hib16)) ?_
    refine Lq.run 2 rfl ?_
    refine Lq.nil ?_
    refine Kt.sel [2] [_] rfl ?_
    refine Wk.ret (Kt.end1 rfl rfl fun w' hw => ?_)
    -- ret 1: bo_ (decide ((wonI a16 xs16 b16 ys16) = (wonI a16 xs16 b16 ys16)))
    exact ⟨ret_b (by first | rfl | (simp_all; done)), hw.below⟩
   ·
    replace h36 := of_decide_eq_false h36
    have hLL := won_listed h36
    obtain ⟨LA, LB, hlen⟩ := listsB_true hLL
    have ha := LA.fine
    have hb := LB.fine
    have hA := LA.els
    have hB := LB.els
    have hl4 := LA.len
    have hlo1 := ha.lo
    have hlo2 := hb.lo
    have hhi1 := ha.hi
    have hhi2 := hb.hi
    refine Wk.skip ?_
    refine Kt.sel [3, 4, 5, 6, 7] [_, _, _, _, _] rfl ?_
    refine Wk.seq ?_
    refine Wk.seq ?_
    refine Wk.regionQ ?_
    refine Lq.run 1 rfl ?_
    refine Lq.nil ?_
    refine Kt.sel [3, 4, 5, 6, 7, 8] [_, _, _, _, _, _] rfl ?_
    refine Wk.block ?_
    refine Wk.loop (σ := Nat) (fun k => k ≤ 4) (fun k => [(3, pt_ p3), (4, v16), (5, pt_ p5), (6, u16), (7, i6_ (wonI a16 xs16 b16 ys16)), (8, i6_ ((k : Int)))]) (fun k => Own w.heap.size w (bk_ p5 #[i6_ b16.n, str b16.set, str b16.rel] 24 :: bk_ p3 #[i6_ a16.n, str a16.set, str a16.rel] 24 :: (new16 ++ ([])))) (fun k => 4 - k) (0) (by omega) (Sub.sel [3, 4, 5, 6, 7, 8] rfl) (fun _ h => h) ?_
    rintro k hk
    refine Wk.seq ?_
    refine Wk.seq ?_
    refine Wk.regionQ ?_
    refine Lq.run 2 rfl ?_
    refine Lq.nil ?_
    refine Kt.sel [3, 4, 5, 6, 7, 8, 45] [_, _, _, _, _, _, _] rfl ?_
    refine Wk.cond (b := decide (((k : Int)) ≤ (3 : Int))) rfl (fun h45 => ?_) (fun h45 => ?_)
    ·
     replace h45 := of_decide_eq_true h45
     refine Wk.skip ?_
     refine Kt.sel [3, 4, 5, 6, 7, 8] [_, _, _, _, _, _] rfl ?_
     refine Wk.seq ?_
     refine Wk.block ?_
     refine Wk.seq ?_
     refine Wk.regionQ ?_
     refine Lq.op rfl rfl rfl (OpQ.loadBox (cs := #[i6_ a16.n, str a16.set, str a16.rel]) 1 rfl Tryd.isAgg24 rfl rfl Tryd.sizeOf24) ?_
     refine Lq.run 1 rfl ?_
     refine Lq.op rfl rfl rfl (OpQ.loadBox (cs := #[i6_ b16.n, str b16.set, str b16.rel]) 0 rfl Tryd.isAgg24 rfl rfl Tryd.sizeOf24) ?_
     refine Lq.run 2 rfl ?_
     refine Lq.op (v := bo_ (secB a16 xs16 b16 ys16 ((k : Int)))) rfl rfl rfl (OpQ.call rfl Tryd.call26 rfl Own.stable (fun w1 hw1 => iWins_ok a16 b16 xs16 ys16 v16 u16 w1 hsa16 hsb16 (hIv16 _ (Own.dropR (Own.drop (f := [_, _]) hw1))) (hIu16 _ (Own.dropR (Own.drop (f := [_, _]) hw1))) (by first | (simp; done) | (simp; omega) | omega) (by first | (simp; done) | (simp; omega) | omega) ((k : Int)))) ?_
     refine Lq.run 3 rfl ?_
     refine Lq.op rfl rfl rfl (OpQ.bne rfl Tryd.runUnderlying4 rfl rfl) ?_
     refine Lq.nil ?_
     refine Kt.sel [3, 4, 5, 6, 7, 8, 57] [_, _, _, _, _, _, _] rfl ?_
     refine Wk.cond (b := (secB a16 xs16 b16 ys16 ((k : Int))) != (decide (((k : Int)) ≤ (wonI a16 xs16 b16 ys16)))) rfl (fun h57 => ?_) (fun h57 => ?_)
     ·
      exact absurd h57 (by rw [won_le hLL (by omega)]; simp)
     ·
      refine Wk.skip ?_
      refine Kt.sel [3, 4, 5, 6, 7, 8] [_, _, _, _, _, _] rfl ?_
      refine Wk.regionQ ?_
      refine Lq.run 1 rfl ?_
      refine Lq.op rfl rfl rfl (OpQ.add rfl rfl rfl (by omega) (by omega)) ?_
      refine Lq.run 1 rfl ?_
      refine Lq.nil ?_
      refine Kt.again (k + 1) (by omega) (by omega) (Sub.sel [3, 4, 5, 6, 7, 8] rfl) (fun _ h => h)
    ·
     replace h45 := of_decide_eq_false h45
     refine Wk.exit rfl ?_
     refine Kt.sel [3, 4, 5, 7] [_, _, _, _] rfl ?_
     refine Wk.seq ?_
     refine Wk.region ?_
     refine Ll.op rfl rfl rfl (OpQ.loadBox (cs := #[i6_ a16.n, str a16.set, str a16.rel]) 1 rfl Tryd.isAgg24 rfl rfl Tryd.sizeOf24) ?_
     refine Ll.op rfl rfl rfl (OpQ.loadBox (cs := #[i6_ b16.n, str b16.set, str b16.rel]) 0 rfl Tryd.isAgg24 rfl rfl Tryd.sizeOf24) ?_
     refine Ll.callSome (ok := fun ((v, y) : Value × Bool) => y = true → Shaped a16 b16) (v := fun ((v, y) : Value × Bool) => .tuple #[v, bo_ y]) (xs := [.tmp 59, .tmp 60]) (vs := [vS a16, vS b16]) rfl rfl rfl rfl Tryd.call50 rfl (fun w1 hw1 => (iShape_ok a16 b16 w1 hsa16 hsb16).mono fun en w' ⟨v, y, h1, h2, h3⟩ => ⟨(v, y), h1, h2, h3⟩) fun ⟨v61, y61⟩ hS61 => ?_
     show Ll _ _ (Own _ _ (_ :: _ :: (new16 ++ ([])))) _ _ ((61, .tuple #[v61, bo_ y61]) :: _) _ _ _
     have hshy61 := hS61
     refine Ll.run 1 rfl ?_
     refine Ll.op (v := v61) rfl rfl rfl (OpQ.extract rfl rfl rfl) ?_
     refine Ll.op (v := bo_ y61) rfl rfl rfl (OpQ.extract rfl rfl rfl) ?_
     refine Ll.run 2 rfl ?_
     refine Ll.nil ?_
     refine Kt.sel [4, 7, 10] [_, _, _] rfl ?_
     refine Wk.seq ?_
     refine Wk.regionQ ?_
     refine Lq.run 1 rfl ?_
     refine Lq.op rfl rfl rfl (OpQ.lenRow rfl Tryd.runUnderlying25 rfl (ints_length _) (fun w1 hw1 => hIv16 _ (Own.dropR (Own.drop (f := [_, _]) hw1)))) ?_
     refine Lq.run 2 rfl ?_
     refine Lq.bool fun b67 hg67 => ?_
     cases b67
     ·
      replace hg67 := of_decide_eq_false hg67
      refine Lq.run 4 rfl ?_
      refine Lq.bool fun b71 hg71 => ?_
      cases b71
      ·
       replace hg71 := not_false hg71
       refine Lq.run 4 rfl ?_
       refine Lq.nil ?_
       refine Kt.sel [2] [_] rfl ?_
       refine Wk.ret (Kt.end1 rfl rfl fun w' hw => ?_)
       -- ret 2: bo_ (decide ((wonI a16 xs16 b16 ys16) = (3 : Int)))
       exact ⟨ret_b (decide_eq_true (won_shape (hshy61 (by assumption)) hLL (by assumption))), hw.below⟩
      ·
       replace hg71 := not_true hg71
       refine Lq.pass rfl rfl rfl ?_
       refine Lq.pass rfl rfl rfl ?_
       refine Lq.run 2 rfl ?_
       refine Lq.nil ?_
       refine Kt.sel [2] [_] rfl ?_
       refine Wk.ret (Kt.end1 rfl rfl fun w' hw => ?_)
       -- ret 3: bo_ true
       exact ⟨ret_b (by first | rfl | (simp_all; done)), hw.below⟩
     ·
      replace hg67 := of_decide_eq_true hg67
      refine Lq.pass rfl rfl rfl ?_
      refine Lq.pass rfl rfl rfl ?_
      refine Lq.run 2 rfl ?_
      refine Lq.pass rfl rfl rfl ?_
      refine Lq.pass rfl rfl rfl ?_
      refine Lq.run 2 rfl ?_
      refine Lq.nil ?_
      refine Kt.sel [2] [_] rfl ?_
      refine Wk.ret (Kt.end1 rfl rfl fun w' hw => ?_)
      -- ret 4: bo_ true
      exact ⟨ret_b (by first | rfl | (simp_all; done)), hw.below⟩
  ·
   replace hg33 := not_true hg33
   replace hg33 := of_decide_eq_false hg33
   exact absurd rfl hg33

end Go.Proofs.YtmannilblelfjaaDoor
