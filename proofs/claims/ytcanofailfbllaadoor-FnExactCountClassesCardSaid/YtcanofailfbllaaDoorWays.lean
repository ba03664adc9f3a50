/-
  All lists of elements, ways of lists, by walks.
-/
import Derived.Test.YtcanofailfbllaaDoorPlain20
import Derived.Test.YtcanofailfbllaaDoorGames
import Derived.Test.YtcanofailfbllaaDoorBase
namespace Go.Proofs.YtcanofailfbllaaDoor
open Go.RowKit Go.Wk
set_option linter.unusedSimpArgs false

set_option maxHeartbeats 400000 in
/-- impl.listsOf -/
theorem listsOf_ok (B : Nat) (w0 : World) (hs : List (Nat × Obj)) (N W : Int) (w : World) (hN0 : 0 ≤ N) (hN8 : N ≤ 8) (hW0 : 0 ≤ W) (hW3 : W ≤ 3) (hw : Own B w0 hs w) :
    Calls Tryd.prog 58 [.int .i64 N, .int .i64 W].toArray w fun en w' => ∃ (g cap : Nat) (cur : Array Value) (rr : List RR), en = .returned (.slice (some ⟨g, 0, none⟩) rr.length cap) ∧ (RowsOk rr cur cap ∧ rr.map RR.xs = listsL N.toNat W.toNat) ∧ Own B w0 ((g, .cells cur 31 (0, 0)) :: (rowsB 3 rr ++ hs)) w' := by
  refine fnStartC (Own B w0 hs) (n := 40) (e := [(0, .int .i64 N), (1, .int .i64 W)]) Tryd.func58 rfl rfl rfl rfl Ends.both hw ?_
  refine Wk.seq ?_
  refine Wk.regionQ ?_
  refine Lq.op (v := .slice none 0 0) rfl rfl rfl (OpQ.assign rfl rfl) ?_
  refine Lq.nil ?_
  refine Kt.onSub (e' := [(0, .int .i64 N), (1, .int .i64 W)]) (Sub.cons rfl (Sub.cons rfl Sub.nil)) ?_
  refine Wk.seq ?_
  refine Wk.region ?_
  refine Ll.slice (xs := []) (vs := []) Base.elem31 rfl rfl rfl rfl rfl rfl (by decide) rfl fun p10 hp10 => ?_
  refine Ll.slice (xs := [.tmp 10]) (vs := [.slice (some ⟨p10, 0, none⟩) 0 0]) Base.elem66 rfl rfl rfl rfl rfl rfl (by decide) rfl fun p11 hp11 => ?_
  refine Ll.op (v := .slice (some ⟨p11, 0, none⟩) 1 1) rfl rfl rfl (OpQ.assign rfl rfl) ?_
  refine Ll.nil ?_
  refine Kt.onSub (e' := [(0, .int .i64 N), (1, .int .i64 W), (5, .slice (some ⟨p11, 0, none⟩) 1 1)]) (Sub.cons rfl (Sub.cons rfl (Sub.cons rfl Sub.nil))) ?_
  refine Wk.seq ?_
  refine Wk.seq ?_
  refine Wk.regionQ ?_
  refine Lq.op (v := .int .i64 W) rfl rfl rfl (OpQ.move rfl rfl) ?_
  refine Lq.op (v := .int .i64 0) rfl rfl rfl (OpQ.move rfl rfl) ?_
  refine Lq.nil ?_
  refine Kt.onSub (e' := [(0, .int .i64 N), (5, .slice (some ⟨p11, 0, none⟩) 1 1), (12, .int .i64 W), (13, .int .i64 0)]) (Sub.cons rfl (Sub.cons rfl (Sub.cons rfl (Sub.cons rfl Sub.nil)))) ?_
  refine Wk.block ?_
  refine Wk.loop (σ := Nat × Nat × Nat × Array Value × List RR) (fun ⟨r, gO, cO, uO, rr⟩ => r ≤ W.toNat ∧ RowsOk rr uO cO ∧ rr.map RR.xs = listsL N.toNat r) (fun ⟨r, gO, cO, uO, rr⟩ => [(0, .int .i64 N), (5, .slice (some ⟨gO, 0, none⟩) rr.length cO), (12, .int .i64 W), (13, .int .i64 ((r : Int)))]) (fun ⟨r, gO, cO, uO, rr⟩ => Own B w0 ((gO, .cells uO 31 (0, 0)) :: ((rowsB 3 rr ++ hs)))) (fun ⟨r, gO, cO, uO, rr⟩ => W.toNat - r) ((0, p11, 1, _, [⟨p10, 0, #[], []⟩])) ⟨by omega, RowsOk.one p10, rfl⟩ (Sub.cons rfl (Sub.cons rfl (Sub.cons rfl (Sub.cons rfl Sub.nil)))) (fun _ h => h) ?_
  rintro ⟨r, gO, cO, uO, rr⟩ ⟨hr, hR, hXr⟩
  dsimp only
  have hrl : rr.length = N.toNat ^ r := by rw [← listsL_length N.toNat r, ← hXr, List.length_map]
  have h512 := pow8 (size := N.toNat) (w := r) (by omega) (by omega)
  refine Wk.seq ?_
  refine Wk.regionQ ?_
  refine Lq.op (v := .bool (decide (((r : Int)) < W))) rfl rfl rfl (OpQ.lss rfl rfl rfl) ?_
  refine Lq.nil ?_
  refine Kt.onSub (e' := [(0, .int .i64 N), (5, .slice (some ⟨gO, 0, none⟩) rr.length cO), (12, .int .i64 W), (13, .int .i64 ((r : Int))), (14, .bool (decide (((r : Int)) < W)))]) (Sub.cons rfl (Sub.cons rfl (Sub.cons rfl (Sub.cons rfl (Sub.cons rfl Sub.nil))))) ?_
  refine Wk.seq ?_
  refine Wk.cond (b := decide (((r : Int)) < W)) rfl (fun h14 => ?_) (fun h14 => ?_)
  · skip
    replace h14 := of_decide_eq_true h14
    refine Wk.skip ?_
    refine Kt.onSub (e' := [(0, .int .i64 N), (5, .slice (some ⟨gO, 0, none⟩) rr.length cO), (12, .int .i64 W), (13, .int .i64 ((r : Int)))]) (Sub.cons rfl (Sub.cons rfl (Sub.cons rfl (Sub.cons rfl Sub.nil)))) ?_
    refine Wk.seq ?_
    refine Wk.block ?_
    refine Wk.seq ?_
    refine Wk.region ?_
    refine Ll.slice (xs := []) (vs := []) Base.elem66 rfl rfl rfl rfl rfl rfl (by decide) rfl fun p15 hp15 => ?_
    refine Ll.op (v := .slice (some ⟨p15, 0, none⟩) 0 0) rfl rfl rfl (OpQ.assign rfl rfl) ?_
    refine Ll.nil ?_
    refine Kt.onSub (e' := [(0, .int .i64 N), (5, .slice (some ⟨gO, 0, none⟩) rr.length cO), (6, .slice (some ⟨p15, 0, none⟩) 0 0), (12, .int .i64 W), (13, .int .i64 ((r : Int)))]) (Sub.cons rfl (Sub.cons rfl (Sub.cons rfl (Sub.cons rfl (Sub.cons rfl Sub.nil))))) ?_
    refine Wk.seq ?_
    refine Wk.seq ?_
    refine Wk.regionQ ?_
    refine Lq.op (v := .slice (some ⟨gO, 0, none⟩) rr.length cO) rfl rfl rfl (OpQ.move rfl rfl) ?_
    refine Lq.op (v := .int .i64 ((rr.length : Int))) rfl rfl rfl (OpQ.lenS rfl Tryd.runUnderlying66 rfl) ?_
    refine Lq.op (v := .int .i64 0) rfl rfl rfl (OpQ.move rfl rfl) ?_
    refine Lq.nil ?_
    refine Kt.onSub (e' := [(0, .int .i64 N), (6, .slice (some ⟨p15, 0, none⟩) 0 0), (12, .int .i64 W), (13, .int .i64 ((r : Int))), (16, .slice (some ⟨gO, 0, none⟩) rr.length cO), (17, .int .i64 ((rr.length : Int))), (18, .int .i64 0)]) (Sub.cons rfl (Sub.cons rfl (Sub.cons rfl (Sub.cons rfl (Sub.cons rfl (Sub.cons rfl (Sub.cons rfl Sub.nil))))))) ?_
    refine Wk.block ?_
    refine Wk.loop (σ := Nat × Nat × Nat × Array Value × List RR) (fun ⟨i, gN, cN, uN, nn⟩ => i ≤ rr.length ∧ RowsOk nn uN cN ∧ nn.map RR.xs = nextL N.toNat ((listsL N.toNat r).take i)) (fun ⟨i, gN, cN, uN, nn⟩ => [(0, .int .i64 N), (6, .slice (some ⟨gN, 0, none⟩) nn.length cN), (12, .int .i64 W), (13, .int .i64 ((r : Int))), (16, .slice (some ⟨gO, 0, none⟩) rr.length cO), (17, .int .i64 ((rr.length : Int))), (18, .int .i64 ((i : Int)))]) (fun ⟨i, gN, cN, uN, nn⟩ => Own B w0 ((gN, .cells uN 31 (0, 0)) :: (gO, .cells uO 31 (0, 0)) :: ((rowsB 3 nn ++ (rowsB 3 rr ++ hs))))) (fun ⟨i, gN, cN, uN, nn⟩ => rr.length - i) ((0, p15, 0, #[], [])) ⟨by omega, RowsOk.nil, rfl⟩ (Sub.cons rfl (Sub.cons rfl (Sub.cons rfl (Sub.cons rfl (Sub.cons rfl (Sub.cons rfl (Sub.cons rfl Sub.nil))))))) (fun _ h => h) ?_
    rintro ⟨i, gN, cN, uN, nn⟩ ⟨hi, hN, hX⟩
    dsimp only
    refine Wk.seq ?_
    refine Wk.regionQ ?_
    refine Lq.op (v := .bool (decide (((i : Int)) < ((rr.length : Int))))) rfl rfl rfl (OpQ.lss rfl rfl rfl) ?_
    refine Lq.nil ?_
    refine Kt.onSub (e' := [(0, .int .i64 N), (6, .slice (some ⟨gN, 0, none⟩) nn.length cN), (12, .int .i64 W), (13, .int .i64 ((r : Int))), (16, .slice (some ⟨gO, 0, none⟩) rr.length cO), (17, .int .i64 ((rr.length : Int))), (18, .int .i64 ((i : Int))), (19, .bool (decide (((i : Int)) < ((rr.length : Int)))))]) (Sub.cons rfl (Sub.cons rfl (Sub.cons rfl (Sub.cons rfl (Sub.cons rfl (Sub.cons rfl (Sub.cons rfl (Sub.cons rfl Sub.nil)))))))) ?_
    refine Wk.seq ?_
    refine Wk.cond (b := decide (((i : Int)) < ((rr.length : Int)))) rfl (fun h19 => ?_) (fun h19 => ?_)
    · skip
      replace h19 := of_decide_eq_true h19
      refine Wk.skip ?_
      refine Kt.onSub (e' := [(0, .int .i64 N), (6, .slice (some ⟨gN, 0, none⟩) nn.length cN), (12, .int .i64 W), (13, .int .i64 ((r : Int))), (16, .slice (some ⟨gO, 0, none⟩) rr.length cO), (17, .int .i64 ((rr.length : Int))), (18, .int .i64 ((i : Int)))]) (Sub.cons rfl (Sub.cons rfl (Sub.cons rfl (Sub.cons rfl (Sub.cons rfl (Sub.cons rfl (Sub.cons rfl Sub.nil))))))) ?_
      refine Wk.seq ?_
      refine Wk.block ?_
      refine Wk.seq ?_
      refine Wk.regionQ ?_
      refine Lq.op (v := .pointer (some ⟨gO, i, none⟩)) rfl rfl rfl (OpQ.cast (v' := .pointer (some ⟨gO, i, none⟩)) (by simp) (OpQ.indexAddr1 (i := (i : Int)) rfl Tryd.runUnderlying66 Tryd.sizeOf31 rfl rfl (by omega) (by omega))) ?_
      refine Lq.op (v := rv (rr.getD i rd)) rfl rfl rfl (OpQ.loadAt (v := rv (rr.getD i rd)) 1 rfl Tryd.isAgg31 rfl rfl (by have := rvs_at (rr := rr) (i := i) (by omega); rw [← hR.vals, List.getElem?_take, if_pos (by omega)] at this; simpa using this)) ?_
      refine Lq.op (v := rv (rr.getD i rd)) rfl rfl rfl (OpQ.assign rfl rfl) ?_
      refine Lq.nil ?_
      refine Kt.onSub (e' := [(0, .int .i64 N), (6, .slice (some ⟨gN, 0, none⟩) nn.length cN), (8, rv (rr.getD i rd)), (12, .int .i64 W), (13, .int .i64 ((r : Int))), (16, .slice (some ⟨gO, 0, none⟩) rr.length cO), (17, .int .i64 ((rr.length : Int))), (18, .int .i64 ((i : Int)))]) (Sub.cons rfl (Sub.cons rfl (Sub.cons rfl (Sub.cons rfl (Sub.cons rfl (Sub.cons rfl (Sub.cons rfl (Sub.cons rfl Sub.nil)))))))) ?_
      refine Wk.seq ?_
      refine Wk.regionQ ?_
      refine Lq.op (v := .int .i64 N) rfl rfl rfl (OpQ.move rfl rfl) ?_
      refine Lq.op (v := .int .i64 0) rfl rfl rfl (OpQ.move rfl rfl) ?_
      refine Lq.nil ?_
      refine Kt.onSub (e' := [(0, .int .i64 N), (6, .slice (some ⟨gN, 0, none⟩) nn.length cN), (8, rv (rr.getD i rd)), (12, .int .i64 W), (13, .int .i64 ((r : Int))), (16, .slice (some ⟨gO, 0, none⟩) rr.length cO), (17, .int .i64 ((rr.length : Int))), (18, .int .i64 ((i : Int))), (22, .int .i64 N), (23, .int .i64 0)]) (Sub.cons rfl (Sub.cons rfl (Sub.cons rfl (Sub.cons rfl (Sub.cons rfl (Sub.cons rfl (Sub.cons rfl (Sub.cons rfl (Sub.cons rfl (Sub.cons rfl Sub.nil)))))))))) ?_
      refine Wk.block ?_
      refine Wk.loop (σ := Nat × Nat × Nat × Array Value × List RR) (fun ⟨k, gM, cM, uM, nm⟩ => k ≤ N.toNat ∧ RowsOk nm uM cM ∧ nm.map RR.xs = nextTo N.toNat (listsL N.toNat r) i k) (fun ⟨k, gM, cM, uM, nm⟩ => [(0, .int .i64 N), (6, .slice (some ⟨gM, 0, none⟩) nm.length cM), (8, rv (rr.getD i rd)), (12, .int .i64 W), (13, .int .i64 ((r : Int))), (16, .slice (some ⟨gO, 0, none⟩) rr.length cO), (17, .int .i64 ((rr.length : Int))), (18, .int .i64 ((i : Int))), (22, .int .i64 N), (23, .int .i64 ((k : Int)))]) (fun ⟨k, gM, cM, uM, nm⟩ => Own B w0 ((gM, .cells uM 31 (0, 0)) :: (gO, .cells uO 31 (0, 0)) :: ((rowsB 3 nm ++ (rowsB 3 rr ++ hs))))) (fun ⟨k, gM, cM, uM, nm⟩ => N.toNat - k) ((0, gN, cN, uN, nn)) ⟨by omega, hN, by rw [nextTo_zero]; exact hX⟩ (Sub.cons rfl (Sub.cons rfl (Sub.cons rfl (Sub.cons rfl (Sub.cons rfl (Sub.cons rfl (Sub.cons rfl (Sub.cons rfl (Sub.cons rfl (Sub.cons rfl Sub.nil)))))))))) (fun _ h => h) ?_
      rintro ⟨k, gM, cM, uM, nm⟩ ⟨hk, hN, hXm⟩
      dsimp only
      have hxl := xs_len hXr (i := i)
      have hnl := next_len hXm (by rw [listsL_length]; omega) (by omega) (by omega)
      refine Wk.seq ?_
      refine Wk.regionQ ?_
      refine Lq.op (v := .bool (decide (((k : Int)) < N))) rfl rfl rfl (OpQ.lss rfl rfl rfl) ?_
      refine Lq.nil ?_
      refine Kt.onSub (e' := [(0, .int .i64 N), (6, .slice (some ⟨gM, 0, none⟩) nm.length cM), (8, rv (rr.getD i rd)), (12, .int .i64 W), (13, .int .i64 ((r : Int))), (16, .slice (some ⟨gO, 0, none⟩) rr.length cO), (17, .int .i64 ((rr.length : Int))), (18, .int .i64 ((i : Int))), (22, .int .i64 N), (23, .int .i64 ((k : Int))), (24, .bool (decide (((k : Int)) < N)))]) (Sub.cons rfl (Sub.cons rfl (Sub.cons rfl (Sub.cons rfl (Sub.cons rfl (Sub.cons rfl (Sub.cons rfl (Sub.cons rfl (Sub.cons rfl (Sub.cons rfl (Sub.cons rfl Sub.nil))))))))))) ?_
      refine Wk.seq ?_
      refine Wk.cond (b := decide (((k : Int)) < N)) rfl (fun h24 => ?_) (fun h24 => ?_)
      · skip
        replace h24 := of_decide_eq_true h24
        have hkn : k < N.toNat := by omega
        refine Wk.skip ?_
        refine Kt.onSub (e' := [(0, .int .i64 N), (6, .slice (some ⟨gM, 0, none⟩) nm.length cM), (8, rv (rr.getD i rd)), (12, .int .i64 W), (13, .int .i64 ((r : Int))), (16, .slice (some ⟨gO, 0, none⟩) rr.length cO), (17, .int .i64 ((rr.length : Int))), (18, .int .i64 ((i : Int))), (22, .int .i64 N), (23, .int .i64 ((k : Int)))]) (Sub.cons rfl (Sub.cons rfl (Sub.cons rfl (Sub.cons rfl (Sub.cons rfl (Sub.cons rfl (Sub.cons rfl (Sub.cons rfl (Sub.cons rfl (Sub.cons rfl Sub.nil)))))))))) ?_
        refine Wk.seq ?_
        refine Wk.block ?_
        refine Wk.seq ?_
        refine Wk.regionQ ?_
        refine Lq.op (v := .int .i64 ((k : Int))) rfl rfl rfl (OpQ.move rfl rfl) ?_
        refine Lq.op (v := .int .i64 ((k : Int))) rfl rfl rfl (OpQ.assign rfl rfl) ?_
        refine Lq.nil ?_
        refine Kt.onSub (e' := [(0, .int .i64 N), (6, .slice (some ⟨gM, 0, none⟩) nm.length cM), (8, rv (rr.getD i rd)), (9, .int .i64 ((k : Int))), (12, .int .i64 W), (13, .int .i64 ((r : Int))), (16, .slice (some ⟨gO, 0, none⟩) rr.length cO), (17, .int .i64 ((rr.length : Int))), (18, .int .i64 ((i : Int))), (22, .int .i64 N), (23, .int .i64 ((k : Int)))]) (Sub.cons rfl (Sub.cons rfl (Sub.cons rfl (Sub.cons rfl (Sub.cons rfl (Sub.cons rfl (Sub.cons rfl (Sub.cons rfl (Sub.cons rfl (Sub.cons rfl (Sub.cons rfl Sub.nil))))))))))) ?_
        refine Wk.region ?_
        refine Ll.op (v := .slice (some ⟨gM, 0, none⟩) nm.length cM) rfl rfl rfl (OpQ.move rfl rfl) ?_
        refine Ll.slice (xs := []) (vs := []) Base.elem31 rfl rfl rfl rfl rfl rfl (by decide) rfl fun p27 hp27 => ?_
        refine Ll.op (v := rv (rr.getD i rd)) rfl rfl rfl (OpQ.move rfl rfl) ?_
        refine Ll.appendInts (xs := []) (ys := (rr.getD i rd).xs) Base.elem31 0 rfl rfl rfl rfl rfl rfl rfl rfl (by decide) rfl (fun w1 hw1 => (Own.ofRows (Own.drop (f := (p27, .cells #[] 3 (0, 0)) :: (gM, .cells uM 31 (0, 0)) :: (gO, .cells uO 31 (0, 0)) :: (rowsB 3 nm)) hw1) hR.ok (i := i) (by omega))) (((rr.getD i rd).xs).length) (by first | (simp; done) | (simp; omega)) (by first | (simp; done) | (simp; omega) | omega) fun p29 cap29 cur29 hp29 hcp29 hlp29 htp29 => ?_
        show Ll _ _ (Own _ _ ((p29, .cells cur29 3 (0, 0)) :: (gM, .cells uM 31 (0, 0)) :: (gO, .cells uO 31 (0, 0)) :: ((rowsB 3 nm ++ (rowsB 3 rr ++ hs))))) _ _ ((29, .slice (some ⟨p29, 0, none⟩) ((((rr.getD i rd).xs).length)) cap29) :: _) _ _ _
        refine Ll.op (v := .int .i64 ((k : Int))) rfl rfl rfl (OpQ.move rfl rfl) ?_
        refine Ll.slice (xs := [.tmp 30]) (vs := [.int .i64 ((k : Int))]) Base.elem31 rfl rfl rfl rfl rfl rfl (by decide) rfl fun p31 hp31 => ?_
        refine Ll.appendInts (xs := (rr.getD i rd).xs) (ys := [(k : Int)]) Base.elem31 1 rfl rfl rfl rfl rfl rfl rfl hcp29 hlp29 (by simpa using htp29) (fun w1 hw1 => (Own.row hw1 (i := 0) rfl (n := 1) (cap := 1) (vs := ints [(k : Int)]) rfl rfl (by decide))) ((((rr.getD i rd).xs) ++ ([(k : Int)])).length) (by first | (simp; done) | (simp; omega)) (by rw [List.length_append, List.length_singleton]; omega) fun p32 cap32 cur32 hp32 hcp32 hlp32 htp32 => ?_
        show Ll _ _ (Own _ _ ((p31, .cells #[.int .i64 ((k : Int))] 3 (0, 0)) :: (p32, .cells cur32 3 (0, 0)) :: (gM, .cells uM 31 (0, 0)) :: (gO, .cells uO 31 (0, 0)) :: ((rowsB 3 nm ++ (rowsB 3 rr ++ hs))))) _ _ ((32, .slice (some ⟨p32, 0, none⟩) (((((rr.getD i rd).xs) ++ ([(k : Int)])).length)) cap32) :: _) _ _ _
        refine Ll.slice (xs := [.tmp 32]) (vs := [.slice (some ⟨p32, 0, none⟩) (((((rr.getD i rd).xs) ++ ([(k : Int)])).length)) cap32]) Base.elem66 rfl rfl rfl rfl rfl rfl (by decide) rfl fun p33 hp33 => ?_
        refine Ll.append Base.elem66 3 [.slice (some ⟨p32, 0, none⟩) (((((rr.getD i rd).xs) ++ ([(k : Int)])).length)) cap32] rfl rfl rfl rfl rfl rfl rfl hN.size hN.len rfl (fun h => by cases h) (fun w1 hw1 ad had j u hj => by injection had with had; subst had; rw [Addr.add_lit, Nat.zero_add, hw1.cell (i := 0) rfl]; simpa using hj) (by simp [Value.oneCell']) (by omega) fun gq capq curq hgq hcgq hlgq htgq => ?_
        show Ll _ _ (Own _ _ ((p33, .cells #[.slice (some ⟨p32, 0, none⟩) (((((rr.getD i rd).xs) ++ ([(k : Int)])).length)) cap32] 31 (0, 0)) :: (p31, .cells #[.int .i64 ((k : Int))] 3 (0, 0)) :: (p32, .cells cur32 3 (0, 0)) :: (gq, .cells curq 31 (0, 0)) :: (gO, .cells uO 31 (0, 0)) :: ((rowsB 3 nm ++ (rowsB 3 rr ++ hs))))) _ _ ((34, .slice (some ⟨gq, 0, none⟩) ((nm.length + 1)) capq) :: _) _ _ _
        refine Ll.op (v := .slice (some ⟨gq, 0, none⟩) ((nm.length + 1)) capq) rfl rfl rfl (OpQ.assign rfl rfl) ?_
        refine Ll.nil ?_
        refine Kt.onSub (e' := [(0, .int .i64 N), (6, .slice (some ⟨gq, 0, none⟩) ((nm.length + 1)) capq), (8, rv (rr.getD i rd)), (12, .int .i64 W), (13, .int .i64 ((r : Int))), (16, .slice (some ⟨gO, 0, none⟩) rr.length cO), (17, .int .i64 ((rr.length : Int))), (18, .int .i64 ((i : Int))), (22, .int .i64 N), (23, .int .i64 ((k : Int)))]) (Sub.cons rfl (Sub.cons rfl (Sub.cons rfl (Sub.cons rfl (Sub.cons rfl (Sub.cons rfl (Sub.cons rfl (Sub.cons rfl (Sub.cons rfl (Sub.cons rfl Sub.nil)))))))))) ?_
        refine Wk.regionQ ?_
        refine Lq.op (v := .int .i64 (((k : Int)) + (1 : Int))) rfl rfl rfl (OpQ.add rfl rfl rfl (by omega) (by omega)) ?_
        refine Lq.op (v := .int .i64 (((k : Int)) + (1 : Int))) rfl rfl rfl (OpQ.move rfl rfl) ?_
        refine Lq.nil ?_
        refine Kt.again ((k + 1, gq, capq, curq, nm ++ [(RR.mk p32 cap32 cur32 ((rr.getD i rd).xs ++ [(k : Int)]))])) ⟨by omega, hN.add (r := (RR.mk p32 cap32 cur32 ((rr.getD i rd).xs ++ [(k : Int)]))) ⟨hcp32, hlp32, by simpa using htp32⟩ hcgq hlgq htgq, by rw [List.map_append, hXm, nextTo_step, ← hXr, map_xs (by omega)]; rfl⟩ (by omega) (Sub.cons rfl (Sub.cons (by rw [List.length_append]; rfl) (Sub.cons rfl (Sub.cons rfl (Sub.cons rfl (Sub.cons rfl (Sub.cons rfl (Sub.cons rfl (Sub.cons rfl (Sub.cons rfl Sub.nil)))))))))) (fun _ h => rows_more (cap := cap32) (xs := (rr.getD i rd).xs ++ [(k : Int)]) (f := [_, _]) (h.sub (List.Sublist.cons _ (List.Sublist.cons _ (List.Sublist.cons_cons _ (List.Sublist.cons_cons _ (List.Sublist.cons_cons _ (List.Sublist.refl _))))))))
      · skip
        replace h24 := of_decide_eq_false h24
        refine Wk.exit rfl ?_
        refine Kt.onSub (e' := [(0, .int .i64 N), (6, .slice (some ⟨gM, 0, none⟩) nm.length cM), (12, .int .i64 W), (13, .int .i64 ((r : Int))), (16, .slice (some ⟨gO, 0, none⟩) rr.length cO), (17, .int .i64 ((rr.length : Int))), (18, .int .i64 ((i : Int)))]) (Sub.cons rfl (Sub.cons rfl (Sub.cons rfl (Sub.cons rfl (Sub.cons rfl (Sub.cons rfl (Sub.cons rfl Sub.nil))))))) ?_
        refine Wk.regionQ ?_
        refine Lq.op (v := .int .i64 (((i : Int)) + (1 : Int))) rfl rfl rfl (OpQ.add rfl rfl rfl (by omega) (by omega)) ?_
        refine Lq.op (v := .int .i64 (((i : Int)) + (1 : Int))) rfl rfl rfl (OpQ.move rfl rfl) ?_
        refine Lq.nil ?_
        refine Kt.again ((i + 1, gM, cM, uM, nm)) ⟨by omega, hN, by rw [hXm, show k = N.toNat from by omega, nextTo_end (by rw [listsL_length]; omega)]⟩ (by omega) (Sub.cons rfl (Sub.cons rfl (Sub.cons rfl (Sub.cons rfl (Sub.cons rfl (Sub.cons rfl (Sub.cons rfl Sub.nil))))))) (fun _ h => h)
    · skip
      replace h19 := of_decide_eq_false h19
      have hend : nextL N.toNat ((listsL N.toNat r).take i) = nextL N.toNat (listsL N.toNat r) := by rw [List.take_of_length_le (by rw [listsL_length]; omega)]
      refine Wk.exit rfl ?_
      refine Kt.onSub (e' := [(0, .int .i64 N), (6, .slice (some ⟨gN, 0, none⟩) nn.length cN), (12, .int .i64 W), (13, .int .i64 ((r : Int)))]) (Sub.cons rfl (Sub.cons rfl (Sub.cons rfl (Sub.cons rfl Sub.nil)))) ?_
      refine Wk.regionQ ?_
      refine Lq.op (v := .slice (some ⟨gN, 0, none⟩) nn.length cN) rfl rfl rfl (OpQ.move rfl rfl) ?_
      refine Lq.op (v := .slice (some ⟨gN, 0, none⟩) nn.length cN) rfl rfl rfl (OpQ.assign rfl rfl) ?_
      refine Lq.nil ?_
      refine Kt.onSub (e' := [(0, .int .i64 N), (5, .slice (some ⟨gN, 0, none⟩) nn.length cN), (12, .int .i64 W), (13, .int .i64 ((r : Int)))]) (Sub.cons rfl (Sub.cons rfl (Sub.cons rfl (Sub.cons rfl Sub.nil)))) ?_
      refine Wk.regionQ ?_
      refine Lq.op (v := .int .i64 (((r : Int)) + (1 : Int))) rfl rfl rfl (OpQ.add rfl rfl rfl (by omega) (by omega)) ?_
      refine Lq.op (v := .int .i64 (((r : Int)) + (1 : Int))) rfl rfl rfl (OpQ.move rfl rfl) ?_
      refine Lq.nil ?_
      refine Kt.again ((r + 1, gN, cN, uN, nn)) ⟨by omega, hN, by rw [hX, hend]; rfl⟩ (by omega) (Sub.cons rfl (Sub.cons rfl (Sub.cons rfl (Sub.cons rfl Sub.nil)))) (fun _ h => rows_forget h)
  · skip
    replace h14 := of_decide_eq_false h14
    refine Wk.exit rfl ?_
    refine Kt.onSub (e' := [(5, .slice (some ⟨gO, 0, none⟩) rr.length cO)]) (Sub.cons rfl Sub.nil) ?_
    refine Wk.seq ?_
    refine Wk.regionQ ?_
    refine Lq.op (v := .slice (some ⟨gO, 0, none⟩) rr.length cO) rfl rfl rfl (OpQ.move rfl rfl) ?_
    refine Lq.op (v := .slice (some ⟨gO, 0, none⟩) rr.length cO) rfl rfl rfl (OpQ.assign rfl rfl) ?_
    refine Lq.nil ?_
    refine Kt.onSub (e' := [(4, .slice (some ⟨gO, 0, none⟩) rr.length cO)]) (Sub.cons rfl Sub.nil) ?_
    refine Wk.ret (Kt.end1 rfl rfl fun w' hw => ?_)
    -- ret 0: .slice (some ⟨gO, 0, none⟩) rr.length cO
    obtain rfl : r = W.toNat := by omega
    exact ⟨_, _, _, rr, rfl, ⟨hR, hXr⟩, hw⟩

set_option maxHeartbeats 400000 in
/-- spec.l3Power -/
theorem l3Power_ok (a : St) (W : Int) (w : World) (ha : a.Fine) (h0 : 0 ≤ W) (h3 : W ≤ 3) :
    Calls Tryd.prog 53 [vS a, .int .i64 W].toArray w fun en w' => en = .returned (.int .i64 ((a.n.toNat ^ W.toNat : Nat) : Int)) ∧ Below w.heap.size w w' := by
  refine fnStart (n := 17) (e := [(0, vS a), (1, .int .i64 W)]) Tryd.func53 rfl rfl rfl rfl Ends.both ?_
  have hm8 := ha.hi
  have hm1 := ha.lo
  refine Wk.seq ?_
  refine Wk.region ?_
  refine Ll.box (v := vS a) rfl rfl rfl rfl rfl fun p2 hp2 => ?_
  show Ll _ _ (Own _ _ [(p2, .cells #[.int .i64 a.n, str a.set, str a.rel] 26 (0, 0))]) _ _ ((2, .pointer (some ⟨p2, 0, none⟩)) :: _) _ _ _
  refine Ll.op (v := .int .i64 0) rfl rfl rfl (OpQ.assign rfl rfl) ?_
  refine Ll.nil ?_
  refine Kt.onSub (e' := [(1, .int .i64 W), (2, .pointer (some ⟨p2, 0, none⟩))]) (Sub.cons rfl (Sub.cons rfl Sub.nil)) ?_
  refine Wk.seq ?_
  refine Wk.regionQ ?_
  refine Lq.op (v := .int .i64 1) rfl rfl rfl (OpQ.assign rfl rfl) ?_
  refine Lq.nil ?_
  refine Kt.onSub (e' := [(1, .int .i64 W), (2, .pointer (some ⟨p2, 0, none⟩)), (5, .int .i64 1)]) (Sub.cons rfl (Sub.cons rfl (Sub.cons rfl Sub.nil))) ?_
  refine Wk.seq ?_
  refine Wk.seq ?_
  refine Wk.regionQ ?_
  refine Lq.op (v := .int .i64 0) rfl rfl rfl (OpQ.assign rfl rfl) ?_
  refine Lq.nil ?_
  refine Kt.onSub (e' := [(1, .int .i64 W), (2, .pointer (some ⟨p2, 0, none⟩)), (5, .int .i64 1), (6, .int .i64 0)]) (Sub.cons rfl (Sub.cons rfl (Sub.cons rfl (Sub.cons rfl Sub.nil)))) ?_
  refine Wk.block ?_
  refine Wk.loop (σ := Nat) (fun k => k ≤ W.toNat) (fun k => [(1, .int .i64 W), (2, .pointer (some ⟨p2, 0, none⟩)), (5, .int .i64 (((a.n.toNat ^ k : Nat) : Int))), (6, .int .i64 ((k : Int)))]) (fun k => Own w.heap.size w [(p2, .cells #[.int .i64 a.n, str a.set, str a.rel] 26 (0, 0))]) (fun k => W.toNat - k) (0) (by omega) (Sub.cons rfl (Sub.cons rfl (Sub.cons rfl (Sub.cons rfl Sub.nil)))) (fun _ h => h) ?_
  rintro k hk
  have h512 := pow8 (size := a.n.toNat) (w := k) (by omega) (by omega)
  have hps := pow_mul_small (n := a.n.toNat) (k := k) (x := a.n) (by omega) hm8 h512
  refine Wk.seq ?_
  refine Wk.seq ?_
  refine Wk.regionQ ?_
  refine Lq.op (v := .int .i64 ((k : Int))) rfl rfl rfl (OpQ.move rfl rfl) ?_
  refine Lq.op (v := .int .i64 W) rfl rfl rfl (OpQ.move rfl rfl) ?_
  refine Lq.op (v := .bool (decide (((k : Int)) < W))) rfl rfl rfl (OpQ.lss rfl rfl rfl) ?_
  refine Lq.nil ?_
  refine Kt.onSub (e' := [(1, .int .i64 W), (2, .pointer (some ⟨p2, 0, none⟩)), (5, .int .i64 (((a.n.toNat ^ k : Nat) : Int))), (6, .int .i64 ((k : Int))), (9, .bool (decide (((k : Int)) < W)))]) (Sub.cons rfl (Sub.cons rfl (Sub.cons rfl (Sub.cons rfl (Sub.cons rfl Sub.nil))))) ?_
  refine Wk.cond (b := decide (((k : Int)) < W)) rfl (fun h9 => ?_) (fun h9 => ?_)
  · skip
    replace h9 := of_decide_eq_true h9
    refine Wk.skip ?_
    refine Kt.onSub (e' := [(1, .int .i64 W), (2, .pointer (some ⟨p2, 0, none⟩)), (5, .int .i64 (((a.n.toNat ^ k : Nat) : Int))), (6, .int .i64 ((k : Int)))]) (Sub.cons rfl (Sub.cons rfl (Sub.cons rfl (Sub.cons rfl Sub.nil)))) ?_
    refine Wk.seq ?_
    refine Wk.block ?_
    refine Wk.regionQ ?_
    refine Lq.op (v := .int .i64 (((a.n.toNat ^ k : Nat) : Int))) rfl rfl rfl (OpQ.move rfl rfl) ?_
    refine Lq.op (v := .pointer (some ⟨p2, 0, none⟩)) rfl rfl rfl (OpQ.fieldAddr rfl Tryd.runUnderlying26 rfl Tryd.sizeOf3 rfl rfl) ?_
    refine Lq.op (v := .int .i64 a.n) rfl rfl rfl (OpQ.loadOwn 0 rfl Tryd.isAgg3 rfl rfl rfl) ?_
    refine Lq.op (v := .int .i64 (((a.n.toNat ^ (k + 1) : Nat) : Int))) rfl rfl rfl (OpQ.cast (by rw [Nat.pow_succ, Int.natCast_mul, show ((a.n.toNat : Nat) : Int) = a.n from by omega]) (OpQ.mul rfl rfl rfl (by omega) (by omega))) ?_
    refine Lq.op (v := .int .i64 (((a.n.toNat ^ (k + 1) : Nat) : Int))) rfl rfl rfl (OpQ.assign rfl rfl) ?_
    refine Lq.nil ?_
    refine Kt.onSub (e' := [(1, .int .i64 W), (2, .pointer (some ⟨p2, 0, none⟩)), (5, .int .i64 (((a.n.toNat ^ (k + 1) : Nat) : Int))), (6, .int .i64 ((k : Int)))]) (Sub.cons rfl (Sub.cons rfl (Sub.cons rfl (Sub.cons rfl Sub.nil)))) ?_
    refine Wk.regionQ ?_
    refine Lq.op (v := .int .i64 ((k : Int))) rfl rfl rfl (OpQ.move rfl rfl) ?_
    refine Lq.op (v := .int .i64 (((k : Int)) + (1 : Int))) rfl rfl rfl (OpQ.add rfl rfl rfl (by omega) (by omega)) ?_
    refine Lq.op (v := .int .i64 (((k : Int)) + (1 : Int))) rfl rfl rfl (OpQ.assign rfl rfl) ?_
    refine Lq.nil ?_
    refine Kt.again (k + 1) (by omega) (by omega) (Sub.cons rfl (Sub.cons rfl (Sub.cons rfl (Sub.cons rfl Sub.nil)))) (fun _ h => h)
  · skip
    replace h9 := of_decide_eq_false h9
    refine Wk.exit rfl ?_
    refine Kt.onSub (e' := [(5, .int .i64 (((a.n.toNat ^ k : Nat) : Int)))]) (Sub.cons rfl Sub.nil) ?_
    refine Wk.seq ?_
    refine Wk.regionQ ?_
    refine Lq.op (v := .int .i64 (((a.n.toNat ^ k : Nat) : Int))) rfl rfl rfl (OpQ.move rfl rfl) ?_
    refine Lq.op (v := .int .i64 (((a.n.toNat ^ k : Nat) : Int))) rfl rfl rfl (OpQ.assign rfl rfl) ?_
    refine Lq.nil ?_
    refine Kt.onSub (e' := [(4, .int .i64 (((a.n.toNat ^ k : Nat) : Int)))]) (Sub.cons rfl Sub.nil) ?_
    refine Wk.ret (Kt.end1 rfl rfl fun w' hw => ?_)
    -- ret 0: .int .i64 (((a.n.toNat ^ k : Nat) : Int))
    exact ⟨ret_i (by rw [show k = W.toNat from by omega]), hw.below⟩

set_option maxHeartbeats 400000 in
/-- spec.l3Point -/
theorem l3Point_ok (a : St) (k0 W : Int) (w : World) (ha : a.Fine) (hk0 : 0 ≤ k0) (hk9 : k0 ≤ 1000000) (h0 : 0 ≤ W) (h3 : W ≤ 3) :
    Calls Tryd.prog 54 [vS a, .int .i64 k0, .int .i64 W].toArray w fun en w' => en = .returned (.agg (ints (pArr a.n.toNat W.toNat k0.toNat)).toArray) ∧ Below w.heap.size w w' := by
  refine fnStart (n := 27) (e := [(0, vS a), (1, .int .i64 k0), (2, .int .i64 W)]) Tryd.func54 rfl rfl rfl rfl Ends.both ?_
  have hm8 := ha.hi
  have hm1 := ha.lo
  refine Wk.seq ?_
  refine Wk.region ?_
  refine Ll.box (v := vS a) rfl rfl rfl rfl rfl fun p3 hp3 => ?_
  show Ll _ _ (Own _ _ [(p3, .cells #[.int .i64 a.n, str a.set, str a.rel] 26 (0, 0))]) _ _ ((3, .pointer (some ⟨p3, 0, none⟩)) :: _) _ _ _
  refine Ll.alloc rfl rfl rfl rfl Tryd.zeroValue60 fun p6 hp6 => ?_
  show Ll _ _ (Own _ _ [(p6, .cells #[.int .i64 0, .int .i64 0, .int .i64 0, .int .i64 0] 60 (0, 0)), (p3, .cells #[.int .i64 a.n, str a.set, str a.rel] 26 (0, 0))]) _ _ ((6, .pointer (some ⟨p6, 0, none⟩)) :: _) _ _ _
  refine Ll.nil ?_
  refine Kt.onSub (e' := [(1, .int .i64 k0), (2, .int .i64 W), (3, .pointer (some ⟨p3, 0, none⟩)), (6, .pointer (some ⟨p6, 0, none⟩))]) (Sub.cons rfl (Sub.cons rfl (Sub.cons rfl (Sub.cons rfl Sub.nil)))) ?_
  refine Wk.seq ?_
  refine Wk.region ?_
  refine Ll.op (v := .agg #[.int .i64 0, .int .i64 0, .int .i64 0, .int .i64 0]) rfl rfl rfl (OpQ.build (xs := []) (vs := []) rfl rfl (by kernel_rfl)) ?_
  refine Ll.alloc rfl rfl rfl rfl Tryd.zeroValue60 fun p7 hp7 => ?_
  show Ll _ _ (Own _ _ [(p7, .cells #[.int .i64 0, .int .i64 0, .int .i64 0, .int .i64 0] 60 (0, 0)), (p6, .cells #[.int .i64 0, .int .i64 0, .int .i64 0, .int .i64 0] 60 (0, 0)), (p3, .cells #[.int .i64 a.n, str a.set, str a.rel] 26 (0, 0))]) _ _ ((7, .pointer (some ⟨p7, 0, none⟩)) :: _) _ _ _
  refine Ll.storeBox (cs' := #[.int .i64 0, .int .i64 0, .int .i64 0, .int .i64 0]) (hs' := [(p7, .cells #[.int .i64 0, .int .i64 0, .int .i64 0, .int .i64 0] 60 (0, 0)), (p6, .cells #[.int .i64 0, .int .i64 0, .int .i64 0, .int .i64 0] 60 (0, 0)), (p3, .cells #[.int .i64 a.n, str a.set, str a.rel] 26 (0, 0))]) 0 rfl rfl rfl rfl rfl (by kernel_rfl : _ = some Tryd.t60) rfl rfl rfl rfl rfl ?_
  refine Ll.nil ?_
  refine Kt.onSub (e' := [(1, .int .i64 k0), (2, .int .i64 W), (3, .pointer (some ⟨p3, 0, none⟩)), (6, .pointer (some ⟨p6, 0, none⟩)), (7, .pointer (some ⟨p7, 0, none⟩))]) (Sub.cons rfl (Sub.cons rfl (Sub.cons rfl (Sub.cons rfl (Sub.cons rfl Sub.nil))))) ?_
  refine Wk.seq ?_
  refine Wk.seq ?_
  refine Wk.regionQ ?_
  refine Lq.op (v := .int .i64 W) rfl rfl rfl (OpQ.move rfl rfl) ?_
  refine Lq.op (v := .int .i64 (W - (1 : Int))) rfl rfl rfl (OpQ.sub rfl rfl rfl (by omega) (by omega)) ?_
  refine Lq.op (v := .int .i64 (W - (1 : Int))) rfl rfl rfl (OpQ.assign rfl rfl) ?_
  refine Lq.nil ?_
  refine Kt.onSub (e' := [(1, .int .i64 k0), (3, .pointer (some ⟨p3, 0, none⟩)), (6, .pointer (some ⟨p6, 0, none⟩)), (7, .pointer (some ⟨p7, 0, none⟩)), (8, .int .i64 (W - (1 : Int)))]) (Sub.cons rfl (Sub.cons rfl (Sub.cons rfl (Sub.cons rfl (Sub.cons rfl Sub.nil))))) ?_
  refine Wk.block ?_
  refine Wk.loop (σ := Nat × Nat × List Int) (fun ⟨j, K, T⟩ => j ≤ W.toNat ∧ (K : Int) ≤ k0 ∧ T.length + j = 4 ∧ pointL a.n.toNat j K ++ T = pArr a.n.toNat W.toNat k0.toNat) (fun ⟨j, K, T⟩ => [(1, .int .i64 ((K : Int))), (3, .pointer (some ⟨p3, 0, none⟩)), (6, .pointer (some ⟨p6, 0, none⟩)), (7, .pointer (some ⟨p7, 0, none⟩)), (8, .int .i64 ((j : Int) - 1))]) (fun ⟨j, K, T⟩ => Own w.heap.size w [(p7, .cells ((ints (List.replicate j 0 ++ T)).toArray) 60 (0, 0)), (p6, .cells #[.int .i64 0, .int .i64 0, .int .i64 0, .int .i64 0] 60 (0, 0)), (p3, .cells #[.int .i64 a.n, str a.set, str a.rel] 26 (0, 0))]) (fun ⟨j, K, T⟩ => j) ((W.toNat, k0.toNat, List.replicate (4 - W.toNat) 0)) ⟨Nat.le_refl _, by omega, by simp; omega, rfl⟩ (Sub.cons (by simp [List.lookup]; omega) (Sub.cons rfl (Sub.cons rfl (Sub.cons rfl (Sub.cons (by simp [List.lookup]; omega) Sub.nil))))) (fun _ h => by dsimp only; rw [List.replicate_append_replicate, show W.toNat + (4 - W.toNat) = 4 from by omega]; exact h) ?_
  rintro ⟨j, K, T⟩ ⟨hj, hK, hT, hP⟩
  dsimp only
  refine Wk.seq ?_
  refine Wk.seq ?_
  refine Wk.regionQ ?_
  refine Lq.op (v := .int .i64 ((j : Int) - 1)) rfl rfl rfl (OpQ.move rfl rfl) ?_
  refine Lq.op (v := .bool (decide ((0 : Int) ≤ ((j : Int) - 1)))) rfl rfl rfl (OpQ.geq rfl rfl rfl) ?_
  refine Lq.nil ?_
  refine Kt.onSub (e' := [(1, .int .i64 ((K : Int))), (3, .pointer (some ⟨p3, 0, none⟩)), (6, .pointer (some ⟨p6, 0, none⟩)), (7, .pointer (some ⟨p7, 0, none⟩)), (8, .int .i64 ((j : Int) - 1)), (13, .bool (decide ((0 : Int) ≤ ((j : Int) - 1))))]) (Sub.cons rfl (Sub.cons rfl (Sub.cons rfl (Sub.cons rfl (Sub.cons rfl (Sub.cons rfl Sub.nil)))))) ?_
  refine Wk.cond (b := decide ((0 : Int) ≤ ((j : Int) - 1))) rfl (fun h13 => ?_) (fun h13 => ?_)
  · skip
    replace h13 := of_decide_eq_true h13
    have hj1 : 0 < j := by omega
    have hmc : ((a.n.toNat : Nat) : Int) = a.n := by omega
    refine Wk.skip ?_
    refine Kt.onSub (e' := [(1, .int .i64 ((K : Int))), (3, .pointer (some ⟨p3, 0, none⟩)), (6, .pointer (some ⟨p6, 0, none⟩)), (7, .pointer (some ⟨p7, 0, none⟩)), (8, .int .i64 ((j : Int) - 1))]) (Sub.cons rfl (Sub.cons rfl (Sub.cons rfl (Sub.cons rfl (Sub.cons rfl Sub.nil))))) ?_
    refine Wk.seq ?_
    refine Wk.block ?_
    refine Wk.seq ?_
    refine Wk.region ?_
    refine Ll.op (v := .int .i64 ((j : Int) - 1)) rfl rfl rfl (OpQ.move rfl rfl) ?_
    refine Ll.op (v := .int .i64 ((K : Int))) rfl rfl rfl (OpQ.move rfl rfl) ?_
    refine Ll.op (v := .pointer (some ⟨p3, 0, none⟩)) rfl rfl rfl (OpQ.fieldAddr rfl Tryd.runUnderlying26 rfl Tryd.sizeOf3 rfl rfl) ?_
    refine Ll.op (v := .int .i64 a.n) rfl rfl rfl (OpQ.loadOwn 2 rfl Tryd.isAgg3 rfl rfl rfl) ?_
    refine Ll.op (v := .int .i64 (((K % a.n.toNat : Nat) : Int))) rfl rfl rfl (OpQ.cast (by rw [Int.natCast_emod, hmc]) (OpQ.rem rfl rfl rfl (by omega) (by omega))) ?_
    refine Ll.op (v := .pointer (some ⟨p7, (j - 1), none⟩)) rfl rfl rfl (OpQ.cast (v' := .pointer (some ⟨p7, (j - 1), none⟩)) (by congr 3; omega) (OpQ.indexArr (i := (j : Int) - 1) rfl Tryd.runUnderlying60 Tryd.sizeOf3 rfl rfl (by omega) (by omega))) ?_
    refine Ll.store1 (v := .int .i64 (((K % a.n.toNat : Nat) : Int))) (hs' := [(p7, .cells ((ints ((List.replicate j 0 ++ T).set ((j - 1)) (((K % a.n.toNat : Nat) : Int)))).toArray) 60 (0, 0)), (p6, .cells #[.int .i64 0, .int .i64 0, .int .i64 0, .int .i64 0] 60 (0, 0)), (p3, .cells #[.int .i64 a.n, str a.set, str a.rel] 26 (0, 0))]) 0 rfl rfl rfl rfl rfl rfl Tryd.sizeOf3 rfl (by simp; omega) (by first | (rw [ints_set]; rfl) | (simp only [Nat.zero_add]; rw [ints_set]; rfl)) ?_
    refine Ll.nil ?_
    refine Kt.onSub (e' := [(1, .int .i64 ((K : Int))), (3, .pointer (some ⟨p3, 0, none⟩)), (6, .pointer (some ⟨p6, 0, none⟩)), (7, .pointer (some ⟨p7, 0, none⟩)), (8, .int .i64 ((j : Int) - 1))]) (Sub.cons rfl (Sub.cons rfl (Sub.cons rfl (Sub.cons rfl (Sub.cons rfl Sub.nil))))) ?_
    refine Wk.regionQ ?_
    refine Lq.op (v := .int .i64 ((K : Int))) rfl rfl rfl (OpQ.move rfl rfl) ?_
    refine Lq.op (v := .pointer (some ⟨p3, 0, none⟩)) rfl rfl rfl (OpQ.fieldAddr rfl Tryd.runUnderlying26 rfl Tryd.sizeOf3 rfl rfl) ?_
    refine Lq.op (v := .int .i64 a.n) rfl rfl rfl (OpQ.loadOwn 2 rfl Tryd.isAgg3 rfl rfl rfl) ?_
    refine Lq.op (v := .int .i64 (((K / a.n.toNat : Nat) : Int))) rfl rfl rfl (OpQ.cast (by rw [Int.natCast_ediv, hmc]) (OpQ.quo rfl rfl rfl (by omega) (by omega) (by omega))) ?_
    refine Lq.op (v := .int .i64 (((K / a.n.toNat : Nat) : Int))) rfl rfl rfl (OpQ.assign rfl rfl) ?_
    refine Lq.nil ?_
    refine Kt.onSub (e' := [(1, .int .i64 (((K / a.n.toNat : Nat) : Int))), (3, .pointer (some ⟨p3, 0, none⟩)), (6, .pointer (some ⟨p6, 0, none⟩)), (7, .pointer (some ⟨p7, 0, none⟩)), (8, .int .i64 ((j : Int) - 1))]) (Sub.cons rfl (Sub.cons rfl (Sub.cons rfl (Sub.cons rfl (Sub.cons rfl Sub.nil))))) ?_
    refine Wk.regionQ ?_
    refine Lq.op (v := .int .i64 ((j : Int) - 1)) rfl rfl rfl (OpQ.move rfl rfl) ?_
    refine Lq.op (v := .int .i64 (((j : Int) - 1) - (1 : Int))) rfl rfl rfl (OpQ.sub rfl rfl rfl (by omega) (by omega)) ?_
    refine Lq.op (v := .int .i64 (((j : Int) - 1) - (1 : Int))) rfl rfl rfl (OpQ.assign rfl rfl) ?_
    refine Lq.nil ?_
    refine Kt.again ((j - 1, K / a.n.toNat, ((K % a.n.toNat : Nat) : Int) :: T)) ⟨by omega, by have := Nat.div_le_self K a.n.toNat; dsimp only; omega, by simp; omega, by rw [← hP, point_step hj1, List.append_assoc]; rfl⟩ (by omega) (Sub.cons rfl (Sub.cons rfl (Sub.cons rfl (Sub.cons rfl (Sub.cons (by simp [List.lookup]; omega) Sub.nil))))) (fun _ h => by dsimp only; rw [← rep_set2 hj1]; exact h)
  · skip
    replace h13 := of_decide_eq_false h13
    have hj0 : j = 0 := by omega
    have hPe : List.replicate j 0 ++ T = pArr a.n.toNat W.toNat k0.toNat := by rw [← hP, hj0]; rfl
    refine Wk.exit rfl ?_
    refine Kt.onSub (e' := [(6, .pointer (some ⟨p6, 0, none⟩)), (7, .pointer (some ⟨p7, 0, none⟩))]) (Sub.cons rfl (Sub.cons rfl Sub.nil)) ?_
    refine Wk.seq ?_
    refine Wk.region ?_
    refine Ll.op (v := .agg ((ints (List.replicate j 0 ++ T)).toArray)) rfl rfl rfl (OpQ.loadBox (cs := (ints (List.replicate j 0 ++ T)).toArray) 0 rfl Tryd.isAgg60 rfl rfl (by intro w; rw [show (ints (List.replicate j 0 ++ T)).toArray.size = 4 from by simp; omega]; exact Tryd.sizeOf60 w)) ?_
    refine Ll.storeBox (cs' := (ints (List.replicate j 0 ++ T)).toArray) (hs' := [(p7, .cells ((ints (List.replicate j 0 ++ T)).toArray) 60 (0, 0)), (p6, .cells ((ints (List.replicate j 0 ++ T)).toArray) 60 (0, 0)), (p3, .cells #[.int .i64 a.n, str a.set, str a.rel] 26 (0, 0))]) 1 rfl rfl rfl rfl rfl (by kernel_rfl : _ = some Tryd.t60) (by rw [show (ints (List.replicate j 0 ++ T)).toArray.size = 4 from by simp; omega]; rfl) rfl (by rw [show (ints (List.replicate j 0 ++ T)).toArray.size = 4 from by simp; omega]; rfl) (by simp [ints, Value.oneCell']) rfl ?_
    refine Ll.nil ?_
    refine Kt.onSub (e' := [(6, .pointer (some ⟨p6, 0, none⟩))]) (Sub.cons rfl Sub.nil) ?_
    refine Wk.ret (Kt.endBox (cs := (ints (List.replicate j 0 ++ T)).toArray) 1 rfl rfl rfl Tryd.isAgg60 (by intro w; rw [show (ints (List.replicate j 0 ++ T)).toArray.size = 4 from by simp; omega]; exact Tryd.sizeOf60 w) fun w' hw => ?_)
    -- ret 0: .pointer (some ⟨p6, 0, none⟩)
    exact ⟨by rw [← hPe], hw.below⟩

set_option maxHeartbeats 400000 in
/-- spec.l4Seen -/
theorem l4Seen_ok (va : Value) (l : List (List UInt8)) (s : List UInt8) (w : World) (hva : Strs w va l) (hs : l.length ≤ 100000) :
    Calls Tryd.prog 56 [va, str s].toArray w fun en w' => en = .returned (.int .i64 (seenI l s)) ∧ Below w.heap.size w w' := by
  refine fnStart (n := 19) (e := [(0, va), (1, str s)]) Tryd.func56 rfl rfl rfl rfl Ends.both ?_
  refine Wk.seq ?_
  refine Wk.regionQ ?_
  refine Lq.op (v := .int .i64 0) rfl rfl rfl (OpQ.assign rfl rfl) ?_
  refine Lq.nil ?_
  refine Kt.onSub (e' := [(0, va), (1, str s)]) (Sub.cons rfl (Sub.cons rfl Sub.nil)) ?_
  refine Wk.seq ?_
  refine Wk.seq ?_
  refine Wk.regionQ ?_
  refine Lq.op (v := .int .i64 0) rfl rfl rfl (OpQ.assign rfl rfl) ?_
  refine Lq.nil ?_
  refine Kt.onSub (e' := [(0, va), (1, str s), (5, .int .i64 0)]) (Sub.cons rfl (Sub.cons rfl (Sub.cons rfl Sub.nil))) ?_
  refine Wk.block ?_
  refine Wk.loop (σ := Nat) (fun k => k ≤ l.length ∧ ∀ i : Nat, i < k → (l.getD i [] == s) = false) (fun k => [(0, va), (1, str s), (5, .int .i64 ((k : Int)))]) (fun k => Own w.heap.size w []) (fun k => l.length - k) (0) ⟨by omega, fun i hi => absurd hi (by omega)⟩ (Sub.cons rfl (Sub.cons rfl (Sub.cons rfl Sub.nil))) (fun _ h => h) ?_
  rintro k ⟨hk, hall⟩
  refine Wk.seq ?_
  refine Wk.seq ?_
  refine Wk.regionQ ?_
  refine Lq.op (v := .int .i64 ((k : Int))) rfl rfl rfl (OpQ.move rfl rfl) ?_
  refine Lq.op (v := va) rfl rfl rfl (OpQ.move rfl rfl) ?_
  refine Lq.op (v := .int .i64 ((l.length : Int))) rfl rfl rfl (OpQ.lenRow rfl Tryd.runUnderlying57 rfl (strs_length _) (fun w1 hw1 => Row.own hva hw1)) ?_
  refine Lq.op (v := .bool (decide (((k : Int)) < ((l.length : Int))))) rfl rfl rfl (OpQ.lss rfl rfl rfl) ?_
  refine Lq.nil ?_
  refine Kt.onSub (e' := [(0, va), (1, str s), (5, .int .i64 ((k : Int))), (9, .bool (decide (((k : Int)) < ((l.length : Int)))))]) (Sub.cons rfl (Sub.cons rfl (Sub.cons rfl (Sub.cons rfl Sub.nil)))) ?_
  refine Wk.cond (b := decide (((k : Int)) < ((l.length : Int)))) rfl (fun h9 => ?_) (fun h9 => ?_)
  · skip
    replace h9 := of_decide_eq_true h9
    refine Wk.skip ?_
    refine Kt.onSub (e' := [(0, va), (1, str s), (5, .int .i64 ((k : Int)))]) (Sub.cons rfl (Sub.cons rfl (Sub.cons rfl Sub.nil))) ?_
    refine Wk.seq ?_
    refine Wk.block ?_
    refine Wk.seq ?_
    refine Wk.regionQ ?_
    refine Lq.op (v := va) rfl rfl rfl (OpQ.move rfl rfl) ?_
    refine Lq.op (v := .int .i64 ((k : Int))) rfl rfl rfl (OpQ.move rfl rfl) ?_
    refine Lq.op (v := .pointer (some (sAt va ((k : Int))))) rfl rfl rfl (OpQ.atRow rfl Tryd.runUnderlying57 Tryd.sizeOf9 rfl rfl (by omega) (by rw [strs_length]; omega) (fun w1 hw1 => Row.own hva hw1)) ?_
    refine Lq.op (v := str (l.getD (((k : Int)).toNat) [])) rfl rfl rfl (OpQ.load1 rfl Tryd.isAgg9 rfl (fun w1 hw1 => Strs.cell (Row.own hva hw1) (by omega) (by omega))) ?_
    refine Lq.op (v := str s) rfl rfl rfl (OpQ.move rfl rfl) ?_
    refine Lq.op (v := .bool ((l.getD (((k : Int)).toNat) []) == s)) rfl rfl rfl (OpQ.seql rfl rfl rfl) ?_
    refine Lq.nil ?_
    refine Kt.onSub (e' := [(0, va), (1, str s), (5, .int .i64 ((k : Int))), (17, .bool ((l.getD (((k : Int)).toNat) []) == s))]) (Sub.cons rfl (Sub.cons rfl (Sub.cons rfl (Sub.cons rfl Sub.nil)))) ?_
    refine Wk.cond (b := (l.getD (((k : Int)).toNat) []) == s) rfl (fun h17 => ?_) (fun h17 => ?_)
    · skip
      refine Wk.seq ?_
      refine Wk.regionQ ?_
      refine Lq.op (v := .int .i64 ((k : Int))) rfl rfl rfl (OpQ.move rfl rfl) ?_
      refine Lq.op (v := .int .i64 ((k : Int))) rfl rfl rfl (OpQ.assign rfl rfl) ?_
      refine Lq.nil ?_
      refine Kt.onSub (e' := [(4, .int .i64 ((k : Int)))]) (Sub.cons rfl Sub.nil) ?_
      refine Wk.ret (Kt.end1 rfl rfl fun w' hw => ?_)
      -- ret 0: .int .i64 ((k : Int))
      exact ⟨ret_i (seenI_at (k := k) (by omega) hall (by simpa using h17)).symm, hw.below⟩
    · skip
      refine Wk.skip ?_
      refine Kt.onSub (e' := [(0, va), (1, str s), (5, .int .i64 ((k : Int)))]) (Sub.cons rfl (Sub.cons rfl (Sub.cons rfl Sub.nil))) ?_
      refine Wk.regionQ ?_
      refine Lq.op (v := .int .i64 ((k : Int))) rfl rfl rfl (OpQ.move rfl rfl) ?_
      refine Lq.op (v := .int .i64 (((k : Int)) + (1 : Int))) rfl rfl rfl (OpQ.add rfl rfl rfl (by omega) (by omega)) ?_
      refine Lq.op (v := .int .i64 (((k : Int)) + (1 : Int))) rfl rfl rfl (OpQ.assign rfl rfl) ?_
      refine Lq.nil ?_
      refine Kt.again (k + 1) ⟨by omega, fun i hi => (Nat.lt_succ_iff_lt_or_eq.1 hi).elim (hall i) (fun e => by subst e; simpa using h17)⟩ (by omega) (Sub.cons rfl (Sub.cons rfl (Sub.cons rfl Sub.nil))) (fun _ h => h)
  · skip
    replace h9 := of_decide_eq_false h9
    refine Wk.exit rfl ?_
    refine Kt.onSub (e' := []) Sub.nil ?_
    refine Wk.seq ?_
    refine Wk.regionQ ?_
    refine Lq.op (v := .int .i64 (-1)) rfl rfl rfl (OpQ.assign rfl rfl) ?_
    refine Lq.nil ?_
    refine Kt.onSub (e' := [(4, .int .i64 (-1))]) (Sub.cons rfl Sub.nil) ?_
    refine Wk.ret (Kt.end1 rfl rfl fun w' hw => ?_)
    -- ret 1: .int .i64 (-1)
    exact ⟨ret_i (seenI_no (fun i hi => hall i (by omega))).symm, hw.below⟩

set_option maxHeartbeats 400000 in
/-- spec.CountKinds -/
theorem sKinds_ok (a : St) (W : Int) (w : World) (hsa : a.Small) (loa : -9223372036854775808 ≤ a.n) (hia : a.n ≤ 9223372036854775807) :
    Calls Tryd.prog 16 [vS a, .int .i64 W].toArray w fun en w' => en = .returned (.int .i64 (kindsI a W)) ∧ Below w.heap.size w w' := by
  refine fnStart (n := 47) (e := [(0, vS a), (1, .int .i64 W)]) Tryd.func16 rfl rfl rfl rfl Ends.both ?_
  refine Wk.seq ?_
  refine Wk.region ?_
  refine Ll.box (v := vS a) rfl rfl rfl rfl rfl fun p2 hp2 => ?_
  show Ll _ _ (Own _ _ [(p2, .cells #[.int .i64 a.n, str a.set, str a.rel] 26 (0, 0))]) _ _ ((2, .pointer (some ⟨p2, 0, none⟩)) :: _) _ _ _
  refine Ll.op (v := .int .i64 0) rfl rfl rfl (OpQ.assign rfl rfl) ?_
  refine Ll.nil ?_
  refine Kt.onSub (e' := [(1, .int .i64 W), (2, .pointer (some ⟨p2, 0, none⟩))]) (Sub.cons rfl (Sub.cons rfl Sub.nil)) ?_
  refine Wk.seq ?_
  refine Wk.region ?_
  refine Ll.slice (xs := []) (vs := []) Base.elem57 rfl rfl rfl rfl rfl rfl (by decide) rfl fun p10 hp10 => ?_
  refine Ll.op (v := .slice (some ⟨p10, 0, none⟩) 0 0) rfl rfl rfl (OpQ.assign rfl rfl) ?_
  refine Ll.nil ?_
  refine Kt.onSub (e' := [(1, .int .i64 W), (2, .pointer (some ⟨p2, 0, none⟩)), (5, .slice (some ⟨p10, 0, none⟩) 0 0)]) (Sub.cons rfl (Sub.cons rfl (Sub.cons rfl Sub.nil))) ?_
  refine Wk.seq ?_
  refine Wk.seq ?_
  refine Wk.regionQ ?_
  refine Lq.op (v := vS a) rfl rfl rfl (OpQ.loadBox (cs := #[.int .i64 a.n, str a.set, str a.rel]) 1 rfl Tryd.isAgg26 rfl rfl Tryd.sizeOf26) ?_
  refine Lq.op (v := .bool (validB a)) rfl rfl rfl (OpQ.call rfl Tryd.call51 rfl Own.stable (fun w1 hw1 => sValid_ok a w1 hsa)) ?_
  refine Lq.op (v := .bool (!(validB a))) rfl rfl rfl (OpQ.not rfl rfl) ?_
  refine Lq.op (v := .bool (!(validB a))) rfl rfl rfl (OpQ.move rfl rfl) ?_
  refine Lq.bool fun b14 hg14 => ?_
  cases b14
  · skip
    replace hg14 := not_false hg14
    refine Lq.op (v := .int .i64 W) rfl rfl rfl (OpQ.move rfl rfl) ?_
    refine Lq.op (v := .bool (inB W 0 3)) rfl rfl rfl (OpQ.call rfl Tryd.call52 rfl Own.stable (fun w1 hw1 => l1In_ok W 0 3 w1 )) ?_
    refine Lq.op (v := .bool (!(inB W 0 3))) rfl rfl rfl (OpQ.not rfl rfl) ?_
    refine Lq.op (v := .bool (!(inB W 0 3))) rfl rfl rfl (OpQ.pickF rfl rfl rfl) ?_
    refine Lq.nil ?_
    refine Kt.onSub (e' := [(1, .int .i64 W), (2, .pointer (some ⟨p2, 0, none⟩)), (5, .slice (some ⟨p10, 0, none⟩) 0 0), (18, .bool (!(inB W 0 3)))]) (Sub.cons rfl (Sub.cons rfl (Sub.cons rfl (Sub.cons rfl Sub.nil)))) ?_
    refine Wk.cond (b := !(inB W 0 3)) rfl (fun h18 => ?_) (fun h18 => ?_)
    · skip
      replace h18 := not_true h18
      refine Wk.seq ?_
      refine Wk.regionQ ?_
      refine Lq.op (v := .int .i64 (-1)) rfl rfl rfl (OpQ.assign rfl rfl) ?_
      refine Lq.nil ?_
      refine Kt.onSub (e' := [(4, .int .i64 (-1))]) (Sub.cons rfl Sub.nil) ?_
      refine Wk.ret (Kt.end1 rfl rfl fun w' hw => ?_)
      -- ret 0: .int .i64 (-1)
      exact ⟨ret_i (by unfold kindsI; first | (rw [if_neg (by simp_all)]; done) | (rw [if_pos (by unfold inB; simp [hV, h0, h3]), List.take_of_length_le (by rw [kindsL_length]; omega)])), hw.below⟩
    · skip
      replace h18 := not_false h18
      have hV : validB a = true := by simp_all
      have ha := validB_fine hV
      have hm8 := ha.hi
      have hm1 := ha.lo
      have hW : 0 ≤ W ∧ W ≤ 3 := by unfold inB at *; simp_all
      obtain ⟨h0, h3⟩ := hW
      have h512 := pow8 (size := a.n.toNat) (w := W.toNat) (by omega) (by omega)
      refine Wk.skip ?_
      refine Kt.onSub (e' := [(1, .int .i64 W), (2, .pointer (some ⟨p2, 0, none⟩)), (5, .slice (some ⟨p10, 0, none⟩) 0 0)]) (Sub.cons rfl (Sub.cons rfl (Sub.cons rfl Sub.nil))) ?_
      refine Wk.seq ?_
      refine Wk.seq ?_
      refine Wk.regionQ ?_
      refine Lq.op (v := .int .i64 0) rfl rfl rfl (OpQ.assign rfl rfl) ?_
      refine Lq.nil ?_
      refine Kt.onSub (e' := [(1, .int .i64 W), (2, .pointer (some ⟨p2, 0, none⟩)), (5, .slice (some ⟨p10, 0, none⟩) 0 0), (6, .int .i64 0)]) (Sub.cons rfl (Sub.cons rfl (Sub.cons rfl (Sub.cons rfl Sub.nil)))) ?_
      refine Wk.block ?_
      refine Wk.loop (σ := Nat × Nat × Nat × Array Value) (fun ⟨k, g, c, cur⟩ => (k ≤ a.n.toNat ^ W.toNat) ∧ w.heap.size ≤ g ∧ cur.size = c * 1 ∧ ((dedup ((kindsL a W.toNat).take k))).length ≤ c ∧ cur.toList.take (((dedup ((kindsL a W.toNat).take k))).length * 1) = strs ((dedup ((kindsL a W.toNat).take k)))) (fun ⟨k, g, c, cur⟩ => [(1, .int .i64 W), (2, .pointer (some ⟨p2, 0, none⟩)), (5, .slice (some ⟨g, 0, none⟩) (((dedup ((kindsL a W.toNat).take k))).length) c), (6, .int .i64 ((k : Int)))]) (fun ⟨k, g, c, cur⟩ => Own w.heap.size w [(g, .cells cur 9 (0, 0)), (p2, .cells #[.int .i64 a.n, str a.set, str a.rel] 26 (0, 0))]) (fun ⟨k, g, c, cur⟩ => (a.n.toNat ^ W.toNat) - k) ((0, p10, 0, #[])) ⟨by omega, hp10, rfl, Nat.le_refl 0, rfl⟩ (Sub.cons rfl (Sub.cons rfl (Sub.cons rfl (Sub.cons rfl Sub.nil)))) (fun _ h => h) ?_
      rintro ⟨k, g, c, cur⟩ ⟨hk, hg, hc, hl, ht⟩
      dsimp only
      have hdl := dedup_take (kindsL a W.toNat) k
      refine Wk.seq ?_
      refine Wk.seq ?_
      refine Wk.regionQ ?_
      refine Lq.op (v := .int .i64 ((k : Int))) rfl rfl rfl (OpQ.move rfl rfl) ?_
      refine Lq.op (v := vS a) rfl rfl rfl (OpQ.loadBox (cs := #[.int .i64 a.n, str a.set, str a.rel]) 1 rfl Tryd.isAgg26 rfl rfl Tryd.sizeOf26) ?_
      refine Lq.op (v := .int .i64 W) rfl rfl rfl (OpQ.move rfl rfl) ?_
      refine Lq.op (v := .int .i64 (((a.n.toNat ^ W.toNat : Nat) : Int))) rfl rfl rfl (OpQ.call rfl Tryd.call53 rfl Own.stable (fun w1 hw1 => l3Power_ok a W w1 ha h0 h3)) ?_
      refine Lq.op (v := .bool (decide (((k : Int)) < (((a.n.toNat ^ W.toNat : Nat) : Int))))) rfl rfl rfl (OpQ.lss rfl rfl rfl) ?_
      refine Lq.nil ?_
      refine Kt.onSub (e' := [(1, .int .i64 W), (2, .pointer (some ⟨p2, 0, none⟩)), (5, .slice (some ⟨g, 0, none⟩) (((dedup ((kindsL a W.toNat).take k))).length) c), (6, .int .i64 ((k : Int))), (23, .bool (decide (((k : Int)) < (((a.n.toNat ^ W.toNat : Nat) : Int)))))]) (Sub.cons rfl (Sub.cons rfl (Sub.cons rfl (Sub.cons rfl (Sub.cons rfl Sub.nil))))) ?_
      refine Wk.cond (b := decide (((k : Int)) < (((a.n.toNat ^ W.toNat : Nat) : Int)))) rfl (fun h23 => ?_) (fun h23 => ?_)
      · skip
        replace h23 := of_decide_eq_true h23
        have hkp : k < a.n.toNat ^ W.toNat := by omega
        have hkl : k < (kindsL a W.toNat).length := by rw [kindsL_length]; exact hkp
        refine Wk.skip ?_
        refine Kt.onSub (e' := [(1, .int .i64 W), (2, .pointer (some ⟨p2, 0, none⟩)), (5, .slice (some ⟨g, 0, none⟩) (((dedup ((kindsL a W.toNat).take k))).length) c), (6, .int .i64 ((k : Int)))]) (Sub.cons rfl (Sub.cons rfl (Sub.cons rfl (Sub.cons rfl Sub.nil)))) ?_
        refine Wk.seq ?_
        refine Wk.block ?_
        refine Wk.seq ?_
        refine Wk.region ?_
        refine Ll.op (v := vS a) rfl rfl rfl (OpQ.loadBox (cs := #[.int .i64 a.n, str a.set, str a.rel]) 1 rfl Tryd.isAgg26 rfl rfl Tryd.sizeOf26) ?_
        refine Ll.op (v := .int .i64 ((k : Int))) rfl rfl rfl (OpQ.move rfl rfl) ?_
        refine Ll.op (v := .int .i64 W) rfl rfl rfl (OpQ.move rfl rfl) ?_
        refine Ll.op (v := .agg ((ints (pArr a.n.toNat W.toNat ((k : Int)).toNat)).toArray)) rfl rfl rfl (OpQ.call rfl Tryd.call54 rfl Own.stable (fun w1 hw1 => l3Point_ok a ((k : Int)) W w1 ha (by omega) (by omega) h0 h3)) ?_
        refine Ll.alloc rfl rfl rfl rfl Tryd.zeroValue60 fun p7 hp7 => ?_
        show Ll _ _ (Own _ _ [(p7, .cells #[.int .i64 0, .int .i64 0, .int .i64 0, .int .i64 0] 60 (0, 0)), (g, .cells cur 9 (0, 0)), (p2, .cells #[.int .i64 a.n, str a.set, str a.rel] 26 (0, 0))]) _ _ ((7, .pointer (some ⟨p7, 0, none⟩)) :: _) _ _ _
        refine Ll.storeBox (cs' := (ints (pArr a.n.toNat W.toNat ((k : Int)).toNat)).toArray) (hs' := [(p7, .cells ((ints (pArr a.n.toNat W.toNat ((k : Int)).toNat)).toArray) 60 (0, 0)), (g, .cells cur 9 (0, 0)), (p2, .cells #[.int .i64 a.n, str a.set, str a.rel] 26 (0, 0))]) 0 rfl rfl rfl rfl rfl (by kernel_rfl : _ = some Tryd.t60) (by rw [show (ints (pArr a.n.toNat W.toNat ((k : Int)).toNat)).toArray.size = 4 from by simp [pArr]; omega]; rfl) rfl (by rw [show (ints (pArr a.n.toNat W.toNat ((k : Int)).toNat)).toArray.size = 4 from by simp [pArr]; omega]; rfl) (by simp [ints, Value.oneCell']) rfl ?_
        refine Ll.nil ?_
        refine Kt.onSub (e' := [(1, .int .i64 W), (2, .pointer (some ⟨p2, 0, none⟩)), (5, .slice (some ⟨g, 0, none⟩) (((dedup ((kindsL a W.toNat).take k))).length) c), (6, .int .i64 ((k : Int))), (7, .pointer (some ⟨p7, 0, none⟩))]) (Sub.cons rfl (Sub.cons rfl (Sub.cons rfl (Sub.cons rfl (Sub.cons rfl Sub.nil))))) ?_
        refine Wk.seq ?_
        refine Wk.regionD Base.mixed (fun _ h => h.drawn) (by kernel_rfl) ?_
        refine Lq.op (v := vS a) rfl rfl rfl (OpQ.loadBox (cs := #[.int .i64 a.n, str a.set, str a.rel]) 2 rfl Tryd.isAgg26 rfl rfl Tryd.sizeOf26) ?_
        refine Lq.op (v := .int .i64 W) rfl rfl rfl (OpQ.move rfl rfl) ?_
        refine Lq.op (v := .slice (some ⟨p7, 0, none⟩) W.toNat 4) rfl rfl rfl (OpQ.sliceArr (i := W) rfl Tryd.runUnderlying60 Tryd.sizeOf3 rfl rfl (by omega) (by omega) (by decide)) ?_
        refine Lq.op (v := .tuple #[str ((kindsL a W.toNat).getD k []), .bool true]) rfl rfl rfl (OpQ.cast (by rw [atoms_point hV (by omega), ← kinds_at ha hkp, listB_point hV (by omega)]) (OpQ.call rfl Tryd.call55 rfl Own.stable (fun w1 hw1 => sAtoms_ok a (.slice (some ⟨p7, 0, none⟩) W.toNat 4) (pointL a.n.toNat W.toNat k) w1 hsa (Own.rowPt hw1 (i := 0) (k := k) rfl (by omega)) (by simp; omega) loa hia))) ?_
        refine Lq.op (v := .tuple #[str ((kindsL a W.toNat).getD k []), .bool true]) rfl rfl rfl (OpQ.move rfl rfl) ?_
        refine Lq.op (v := str ((kindsL a W.toNat).getD k [])) rfl rfl rfl (OpQ.extract rfl rfl rfl) ?_
        refine Lq.op (v := .bool true) rfl rfl rfl (OpQ.extract rfl rfl rfl) ?_
        refine Lq.op (v := str ((kindsL a W.toNat).getD k [])) rfl rfl rfl (OpQ.assign rfl rfl) ?_
        refine Lq.op (v := .bool true) rfl rfl rfl (OpQ.assign rfl rfl) ?_
        refine Lq.nil ?_
        refine Kt.onSub (e' := [(1, .int .i64 W), (2, .pointer (some ⟨p2, 0, none⟩)), (5, .slice (some ⟨g, 0, none⟩) (((dedup ((kindsL a W.toNat).take k))).length) c), (6, .int .i64 ((k : Int))), (8, str ((kindsL a W.toNat).getD k []))]) (Sub.cons rfl (Sub.cons rfl (Sub.cons rfl (Sub.cons rfl (Sub.cons rfl Sub.nil))))) ?_
        refine Wk.seq ?_
        refine Wk.regionQ ?_
        refine Lq.op (v := .slice (some ⟨g, 0, none⟩) (((dedup ((kindsL a W.toNat).take k))).length) c) rfl rfl rfl (OpQ.move rfl rfl) ?_
        refine Lq.op (v := str ((kindsL a W.toNat).getD k [])) rfl rfl rfl (OpQ.move rfl rfl) ?_
        refine Lq.op (v := .int .i64 (seenI ((dedup ((kindsL a W.toNat).take k))) ((kindsL a W.toNat).getD k []))) rfl rfl rfl (OpQ.call rfl Tryd.call56 rfl Own.stable (fun w1 hw1 => l4Seen_ok (.slice (some ⟨g, 0, none⟩) (((dedup ((kindsL a W.toNat).take k))).length) c) ((dedup ((kindsL a W.toNat).take k))) ((kindsL a W.toNat).getD k []) w1 (Own.row hw1 (i := 1) rfl (by simpa using ht) (by simp) hl) (by omega))) ?_
        refine Lq.op (v := .bool (decide ((seenI ((dedup ((kindsL a W.toNat).take k))) ((kindsL a W.toNat).getD k [])) < (0 : Int)))) rfl rfl rfl (OpQ.lss rfl rfl rfl) ?_
        refine Lq.nil ?_
        refine Kt.onSub (e' := [(1, .int .i64 W), (2, .pointer (some ⟨p2, 0, none⟩)), (5, .slice (some ⟨g, 0, none⟩) (((dedup ((kindsL a W.toNat).take k))).length) c), (6, .int .i64 ((k : Int))), (8, str ((kindsL a W.toNat).getD k [])), (40, .bool (decide ((seenI ((dedup ((kindsL a W.toNat).take k))) ((kindsL a W.toNat).getD k [])) < (0 : Int))))]) (Sub.cons rfl (Sub.cons rfl (Sub.cons rfl (Sub.cons rfl (Sub.cons rfl (Sub.cons rfl Sub.nil)))))) ?_
        refine Wk.cond (b := decide ((seenI ((dedup ((kindsL a W.toNat).take k))) ((kindsL a W.toNat).getD k [])) < (0 : Int))) rfl (fun h40 => ?_) (fun h40 => ?_)
        · skip
          replace h40 := of_decide_eq_true h40
          have hnew := (dedup_step hkl).trans (addK_new (seenI_neg.1 h40))
          refine Wk.region ?_
          refine Ll.op (v := .slice (some ⟨g, 0, none⟩) (((dedup ((kindsL a W.toNat).take k))).length) c) rfl rfl rfl (OpQ.move rfl rfl) ?_
          refine Ll.op (v := str ((kindsL a W.toNat).getD k [])) rfl rfl rfl (OpQ.move rfl rfl) ?_
          refine Ll.slice (xs := [.tmp 42]) (vs := [str ((kindsL a W.toNat).getD k [])]) Base.elem57 rfl rfl rfl rfl rfl rfl (by decide) rfl fun p43 hp43 => ?_
          refine Ll.appendStrs (xs := (dedup ((kindsL a W.toNat).take k))) (ys := ([(kindsL a W.toNat).getD k []] : List (List UInt8))) Base.elem57 2 rfl rfl rfl rfl rfl rfl rfl hc hl (by simpa using ht) (fun w1 hw1 => (Own.row hw1 (i := 0) rfl (n := 1) (cap := 1) (vs := strs ([(kindsL a W.toNat).getD k []] : List (List UInt8))) rfl rfl (by decide))) ((((dedup ((kindsL a W.toNat).take k))) ++ (([(kindsL a W.toNat).getD k []] : List (List UInt8)))).length) (by first | (simp; done) | (simp; omega)) (by first | (simp; done) | (simp; omega) | omega) fun p44 cap44 cur44 hp44 hcp44 hlp44 htp44 => ?_
          show Ll _ _ (Own _ _ [(p43, .cells #[str ((kindsL a W.toNat).getD k [])] 9 (0, 0)), (p7, .cells ((ints (pArr a.n.toNat W.toNat ((k : Int)).toNat)).toArray) 60 (0, 0)), (p44, .cells cur44 9 (0, 0)), (p2, .cells #[.int .i64 a.n, str a.set, str a.rel] 26 (0, 0))]) _ _ ((44, .slice (some ⟨p44, 0, none⟩) (((((dedup ((kindsL a W.toNat).take k))) ++ (([(kindsL a W.toNat).getD k []] : List (List UInt8)))).length)) cap44) :: _) _ _ _
          refine Ll.op (v := .slice (some ⟨p44, 0, none⟩) (((((dedup ((kindsL a W.toNat).take k))) ++ (([(kindsL a W.toNat).getD k []] : List (List UInt8)))).length)) cap44) rfl rfl rfl (OpQ.assign rfl rfl) ?_
          refine Ll.nil ?_
          refine Kt.onSub (e' := [(1, .int .i64 W), (2, .pointer (some ⟨p2, 0, none⟩)), (5, .slice (some ⟨p44, 0, none⟩) (((((dedup ((kindsL a W.toNat).take k))) ++ (([(kindsL a W.toNat).getD k []] : List (List UInt8)))).length)) cap44), (6, .int .i64 ((k : Int)))]) (Sub.cons rfl (Sub.cons rfl (Sub.cons rfl (Sub.cons rfl Sub.nil)))) ?_
          refine Wk.regionQ ?_
          refine Lq.op (v := .int .i64 ((k : Int))) rfl rfl rfl (OpQ.move rfl rfl) ?_
          refine Lq.op (v := .int .i64 (((k : Int)) + (1 : Int))) rfl rfl rfl (OpQ.add rfl rfl rfl (by omega) (by omega)) ?_
          refine Lq.op (v := .int .i64 (((k : Int)) + (1 : Int))) rfl rfl rfl (OpQ.assign rfl rfl) ?_
          refine Lq.nil ?_
          refine Kt.again ((k + 1, p44, cap44, cur44)) ⟨by omega, by omega, hcp44, by rw [hnew]; exact hlp44, by rw [hnew]; exact htp44⟩ (by omega) (Sub.cons rfl (Sub.cons rfl (Sub.cons (by rw [hnew]; rfl) (Sub.cons rfl Sub.nil)))) (fun _ h => h.tail.tail)
        · skip
          replace h40 := of_decide_eq_false h40
          have hold := (dedup_step hkl).trans (addK_old (fun h => h40 (seenI_neg.2 h)))
          refine Wk.skip ?_
          refine Kt.onSub (e' := [(1, .int .i64 W), (2, .pointer (some ⟨p2, 0, none⟩)), (5, .slice (some ⟨g, 0, none⟩) (((dedup ((kindsL a W.toNat).take k))).length) c), (6, .int .i64 ((k : Int)))]) (Sub.cons rfl (Sub.cons rfl (Sub.cons rfl (Sub.cons rfl Sub.nil)))) ?_
          refine Wk.regionQ ?_
          refine Lq.op (v := .int .i64 ((k : Int))) rfl rfl rfl (OpQ.move rfl rfl) ?_
          refine Lq.op (v := .int .i64 (((k : Int)) + (1 : Int))) rfl rfl rfl (OpQ.add rfl rfl rfl (by omega) (by omega)) ?_
          refine Lq.op (v := .int .i64 (((k : Int)) + (1 : Int))) rfl rfl rfl (OpQ.assign rfl rfl) ?_
          refine Lq.nil ?_
          refine Kt.again ((k + 1, g, c, cur)) ⟨by omega, hg, hc, by rw [hold]; exact hl, by rw [hold]; exact ht⟩ (by omega) (Sub.cons rfl (Sub.cons rfl (Sub.cons (by rw [hold]; rfl) (Sub.cons rfl Sub.nil)))) (fun _ h => h.tail)
      · skip
        replace h23 := of_decide_eq_false h23
        refine Wk.exit rfl ?_
        refine Kt.onSub (e' := [(5, .slice (some ⟨g, 0, none⟩) (((dedup ((kindsL a W.toNat).take k))).length) c)]) (Sub.cons rfl Sub.nil) ?_
        refine Wk.seq ?_
        refine Wk.regionQ ?_
        refine Lq.op (v := .slice (some ⟨g, 0, none⟩) (((dedup ((kindsL a W.toNat).take k))).length) c) rfl rfl rfl (OpQ.move rfl rfl) ?_
        refine Lq.op (v := .int .i64 ((((dedup ((kindsL a W.toNat).take k))).length : Int))) rfl rfl rfl (OpQ.lenS rfl Tryd.runUnderlying57 rfl) ?_
        refine Lq.op (v := .int .i64 ((((dedup ((kindsL a W.toNat).take k))).length : Int))) rfl rfl rfl (OpQ.assign rfl rfl) ?_
        refine Lq.nil ?_
        refine Kt.onSub (e' := [(4, .int .i64 ((((dedup ((kindsL a W.toNat).take k))).length : Int)))]) (Sub.cons rfl Sub.nil) ?_
        refine Wk.ret (Kt.end1 rfl rfl fun w' hw => ?_)
        -- ret 1: .int .i64 ((((dedup ((kindsL a W.toNat).take k))).length : Int))
        exact ⟨ret_i (by unfold kindsI; first | (rw [if_neg (by simp_all)]; done) | (rw [if_pos (by unfold inB; simp [hV, h0, h3]), List.take_of_length_le (by rw [kindsL_length]; omega)])), hw.below⟩
  · skip
    replace hg14 := not_true hg14
    refine Lq.pass rfl rfl rfl ?_
    refine Lq.pass rfl rfl rfl ?_
    refine Lq.pass rfl rfl rfl ?_
    refine Lq.op (v := .bool true) rfl rfl rfl (OpQ.pickT rfl rfl rfl) ?_
    refine Lq.nil ?_
    refine Kt.onSub (e' := [(1, .int .i64 W), (2, .pointer (some ⟨p2, 0, none⟩)), (5, .slice (some ⟨p10, 0, none⟩) 0 0), (18, .bool true)]) (Sub.cons rfl (Sub.cons rfl (Sub.cons rfl (Sub.cons rfl Sub.nil)))) ?_
    refine Wk.condT rfl ?_
    refine Wk.seq ?_
    refine Wk.regionQ ?_
    refine Lq.op (v := .int .i64 (-1)) rfl rfl rfl (OpQ.assign rfl rfl) ?_
    refine Lq.nil ?_
    refine Kt.onSub (e' := [(4, .int .i64 (-1))]) (Sub.cons rfl Sub.nil) ?_
    refine Wk.ret (Kt.end1 rfl rfl fun w' hw => ?_)
    -- ret 2: .int .i64 (-1)
    exact ⟨ret_i (by unfold kindsI; first | (rw [if_neg (by simp_all)]; done) | (rw [if_pos (by unfold inB; simp [hV, h0, h3]), List.take_of_length_le (by rw [kindsL_length]; omega)])), hw.below⟩

set_option maxHeartbeats 400000 in
/-- impl.CountKinds -/
theorem iKinds_ok (a : St) (W : Int) (w : World) (hsa : a.Small) :
    Calls Tryd.prog 18 [vS a, .int .i64 W].toArray w fun en w' => en = .returned (.int .i64 (kindsI a W)) ∧ Below w.heap.size w w' := by
  refine fnStart (n := 36) (e := [(0, vS a), (1, .int .i64 W)]) Tryd.func18 rfl rfl rfl rfl Ends.both ?_
  refine Wk.seq ?_
  refine Wk.region ?_
  refine Ll.box (v := vS a) rfl rfl rfl rfl rfl fun p2 hp2 => ?_
  show Ll _ _ (Own _ _ [(p2, .cells #[.int .i64 a.n, str a.set, str a.rel] 26 (0, 0))]) _ _ ((2, .pointer (some ⟨p2, 0, none⟩)) :: _) _ _ _
  refine Ll.op (v := .int .i64 0) rfl rfl rfl (OpQ.assign rfl rfl) ?_
  refine Ll.nil ?_
  refine Kt.onSub (e' := [(1, .int .i64 W), (2, .pointer (some ⟨p2, 0, none⟩))]) (Sub.cons rfl (Sub.cons rfl Sub.nil)) ?_
  refine Wk.seq ?_
  refine Wk.seq ?_
  refine Wk.regionQ ?_
  refine Lq.op (v := vS a) rfl rfl rfl (OpQ.loadBox (cs := #[.int .i64 a.n, str a.set, str a.rel]) 0 rfl Tryd.isAgg26 rfl rfl Tryd.sizeOf26) ?_
  refine Lq.op (v := .bool (validB a)) rfl rfl rfl (OpQ.call rfl Tryd.call57 rfl Own.stable (fun w1 hw1 => isStructure_ok a w1 hsa)) ?_
  refine Lq.op (v := .bool (!(validB a))) rfl rfl rfl (OpQ.not rfl rfl) ?_
  refine Lq.op (v := .bool (!(validB a))) rfl rfl rfl (OpQ.move rfl rfl) ?_
  refine Lq.bool fun b11 hg11 => ?_
  cases b11
  · skip
    replace hg11 := not_false hg11
    refine Lq.op (v := .int .i64 W) rfl rfl rfl (OpQ.move rfl rfl) ?_
    refine Lq.op (v := .bool (decide (W < (0 : Int)))) rfl rfl rfl (OpQ.lss rfl rfl rfl) ?_
    refine Lq.op (v := .bool (decide (W < (0 : Int)))) rfl rfl rfl (OpQ.pickF rfl rfl rfl) ?_
    refine Lq.op (v := .bool (decide (W < (0 : Int)))) rfl rfl rfl (OpQ.move rfl rfl) ?_
    refine Lq.bool fun b15 hg15 => ?_
    cases b15
    · skip
      replace hg15 := of_decide_eq_false hg15
      refine Lq.op (v := .int .i64 W) rfl rfl rfl (OpQ.move rfl rfl) ?_
      refine Lq.op (v := .bool (decide ((3 : Int) < W))) rfl rfl rfl (OpQ.gtr rfl rfl rfl) ?_
      refine Lq.op (v := .bool (decide ((3 : Int) < W))) rfl rfl rfl (OpQ.pickF rfl rfl rfl) ?_
      refine Lq.nil ?_
      refine Kt.onSub (e' := [(1, .int .i64 W), (2, .pointer (some ⟨p2, 0, none⟩)), (18, .bool (decide ((3 : Int) < W)))]) (Sub.cons rfl (Sub.cons rfl (Sub.cons rfl Sub.nil))) ?_
      refine Wk.cond (b := decide ((3 : Int) < W)) rfl (fun h18 => ?_) (fun h18 => ?_)
      · skip
        replace h18 := of_decide_eq_true h18
        refine Wk.seq ?_
        refine Wk.regionQ ?_
        refine Lq.op (v := .int .i64 (-1)) rfl rfl rfl (OpQ.assign rfl rfl) ?_
        refine Lq.nil ?_
        refine Kt.onSub (e' := [(4, .int .i64 (-1))]) (Sub.cons rfl Sub.nil) ?_
        refine Wk.ret (Kt.end1 rfl rfl fun w' hw => ?_)
        -- ret 0: .int .i64 (-1)
        exact ⟨ret_i (by unfold kindsI; first | (rw [if_neg (by unfold inB; first | (simp_all; done) | (simp_all; omega))]; done) | (rw [if_pos (by unfold inB; simp [hV, h0, h3]), List.take_of_length_le (by rw [kindsL_length]; omega)])), hw.below⟩
      · skip
        replace h18 := of_decide_eq_false h18
        have hV : validB a = true := by simp_all
        have ha := validB_fine hV
        have hm8 := ha.hi
        have hm1 := ha.lo
        have h0 : 0 ≤ W := by omega
        have h3 : W ≤ 3 := by omega
        have h512 := pow8 (size := a.n.toNat) (w := W.toNat) (by omega) (by omega)
        refine Wk.skip ?_
        refine Kt.onSub (e' := [(1, .int .i64 W), (2, .pointer (some ⟨p2, 0, none⟩))]) (Sub.cons rfl (Sub.cons rfl Sub.nil)) ?_
        refine Wk.seq ?_
        refine Wk.region ?_
        refine Ll.makeMap rfl rfl rfl rfl fun p19 hp19 => ?_
        refine Ll.op (v := .map (some p19)) rfl rfl rfl (OpQ.assign rfl rfl) ?_
        refine Ll.nil ?_
        refine Kt.onSub (e' := [(1, .int .i64 W), (2, .pointer (some ⟨p2, 0, none⟩)), (5, .map (some p19))]) (Sub.cons rfl (Sub.cons rfl (Sub.cons rfl Sub.nil))) ?_
        refine Wk.seq ?_
        refine Wk.seq ?_
        refine Wk.region ?_
        refine Ll.op (v := .pointer (some ⟨p2, 0, none⟩)) rfl rfl rfl (OpQ.fieldAddr rfl Tryd.runUnderlying26 rfl Tryd.sizeOf3 rfl rfl) ?_
        refine Ll.op (v := .int .i64 a.n) rfl rfl rfl (OpQ.loadOwn 1 rfl Tryd.isAgg3 rfl rfl rfl) ?_
        refine Ll.op (v := .int .i64 W) rfl rfl rfl (OpQ.move rfl rfl) ?_
        refine Ll.callGet (σ := Nat × Nat × Array Value × List RR) (ok := fun (g, c', u, rr) => RowsOk rr u c' ∧ rr.map RR.xs = listsL (a.n).toNat (W).toNat) (v := fun (g, c', u, rr) => .slice (some ⟨g, 0, none⟩) rr.length c') (xs := [.tmp 21, .tmp 22]) (vs := [.int .i64 a.n, .int .i64 W]) (hs' := fun (g, c', u, rr) => [(p19, mapO ([])), (p2, .cells #[.int .i64 a.n, str a.set, str a.rel] 26 (0, 0))] ++ ((g, .cells u 31 (0, 0)) :: (rowsB 3 rr ++ []))) rfl rfl rfl rfl Tryd.call58 rfl (fun w1 hw1 => (listsOf_ok _ _ _ a.n W w1 (by omega) hm8 h0 h3 hw1).mono fun en w' ⟨g, c', u, rr, h1, h2, h3⟩ => ⟨(g, c', u, rr), h1, h2, h3.perm (rows_behind _ _ _)⟩) fun ⟨gL, cL, uL, rrL⟩ ⟨hL, hLX⟩ => ?_
        show Ll _ _ (Own _ _ ((p19, mapO ([])) :: (p2, .cells #[.int .i64 a.n, str a.set, str a.rel] 26 (0, 0)) :: (gL, .cells uL 31 (0, 0)) :: ((rowsB 3 rrL ++ [])))) _ _ ((23, .slice (some ⟨gL, 0, none⟩) rrL.length cL) :: _) _ _ _
        refine Ll.op (v := .int .i64 ((rrL.length : Int))) rfl rfl rfl (OpQ.lenS rfl Tryd.runUnderlying66 rfl) ?_
        refine Ll.op (v := .int .i64 0) rfl rfl rfl (OpQ.move rfl rfl) ?_
        refine Ll.nil ?_
        refine Kt.onSub (e' := [(2, .pointer (some ⟨p2, 0, none⟩)), (5, .map (some p19)), (23, .slice (some ⟨gL, 0, none⟩) rrL.length cL), (24, .int .i64 ((rrL.length : Int))), (25, .int .i64 0)]) (Sub.cons rfl (Sub.cons rfl (Sub.cons rfl (Sub.cons rfl (Sub.cons rfl Sub.nil))))) ?_
        refine Wk.block ?_
        refine Wk.loop (σ := Nat) (fun k => k ≤ rrL.length) (fun k => [(2, .pointer (some ⟨p2, 0, none⟩)), (5, .map (some p19)), (23, .slice (some ⟨gL, 0, none⟩) rrL.length cL), (24, .int .i64 ((rrL.length : Int))), (25, .int .i64 ((k : Int)))]) (fun k => Own w.heap.size w ((p19, mapO ((dedup ((kindsL a W.toNat).take k)))) :: (p2, .cells #[.int .i64 a.n, str a.set, str a.rel] 26 (0, 0)) :: (gL, .cells uL 31 (0, 0)) :: ((rowsB 3 rrL ++ [])))) (fun k => rrL.length - k) (0) (by omega) (Sub.cons rfl (Sub.cons rfl (Sub.cons rfl (Sub.cons rfl (Sub.cons rfl Sub.nil))))) (fun _ h => h) ?_
        rintro k hk
        refine Wk.seq ?_
        refine Wk.regionQ ?_
        refine Lq.op (v := .bool (decide (((k : Int)) < ((rrL.length : Int))))) rfl rfl rfl (OpQ.lss rfl rfl rfl) ?_
        refine Lq.nil ?_
        refine Kt.onSub (e' := [(2, .pointer (some ⟨p2, 0, none⟩)), (5, .map (some p19)), (23, .slice (some ⟨gL, 0, none⟩) rrL.length cL), (24, .int .i64 ((rrL.length : Int))), (25, .int .i64 ((k : Int))), (26, .bool (decide (((k : Int)) < ((rrL.length : Int)))))]) (Sub.cons rfl (Sub.cons rfl (Sub.cons rfl (Sub.cons rfl (Sub.cons rfl (Sub.cons rfl Sub.nil)))))) ?_
        refine Wk.seq ?_
        refine Wk.cond (b := decide (((k : Int)) < ((rrL.length : Int)))) rfl (fun h26 => ?_) (fun h26 => ?_)
        · skip
          replace h26 := of_decide_eq_true h26
          have hkr : k < rrL.length := by omega
          have hrl : rrL.length = a.n.toNat ^ W.toNat := by rw [← listsL_length a.n.toNat W.toNat, ← hLX, List.length_map]
          have hkp : k < a.n.toNat ^ W.toNat := by omega
          have hkl : k < (kindsL a W.toNat).length := by rw [kindsL_length]; exact hkp
          have hxp := rows_point (by omega) hLX hkr
          have hA : a.Els (rrL.getD k rd).xs := by rw [hxp]; exact point_els ha _ _
          have hl4 : (rrL.getD k rd).xs.length ≤ 4 := by rw [hxp, pointL_length]; omega
          refine Wk.skip ?_
          refine Kt.onSub (e' := [(2, .pointer (some ⟨p2, 0, none⟩)), (5, .map (some p19)), (23, .slice (some ⟨gL, 0, none⟩) rrL.length cL), (24, .int .i64 ((rrL.length : Int))), (25, .int .i64 ((k : Int)))]) (Sub.cons rfl (Sub.cons rfl (Sub.cons rfl (Sub.cons rfl (Sub.cons rfl Sub.nil))))) ?_
          refine Wk.seq ?_
          refine Wk.block ?_
          refine Wk.seq ?_
          refine Wk.regionQ ?_
          refine Lq.op (v := .pointer (some ⟨gL, k, none⟩)) rfl rfl rfl (OpQ.cast (v' := .pointer (some ⟨gL, k, none⟩)) (by simp) (OpQ.indexAddr1 (i := (k : Int)) rfl Tryd.runUnderlying66 Tryd.sizeOf31 rfl rfl (by omega) (by omega))) ?_
          refine Lq.op (v := rv (rrL.getD k rd)) rfl rfl rfl (OpQ.loadAt (v := rv (rrL.getD k rd)) 2 rfl Tryd.isAgg31 rfl rfl (by have := rvs_at (rr := rrL) (i := k) (by omega); rw [← hL.vals, List.getElem?_take, if_pos (by omega)] at this; simpa using this)) ?_
          refine Lq.op (v := rv (rrL.getD k rd)) rfl rfl rfl (OpQ.assign rfl rfl) ?_
          refine Lq.nil ?_
          refine Kt.onSub (e' := [(2, .pointer (some ⟨p2, 0, none⟩)), (5, .map (some p19)), (7, rv (rrL.getD k rd)), (23, .slice (some ⟨gL, 0, none⟩) rrL.length cL), (24, .int .i64 ((rrL.length : Int))), (25, .int .i64 ((k : Int)))]) (Sub.cons rfl (Sub.cons rfl (Sub.cons rfl (Sub.cons rfl (Sub.cons rfl (Sub.cons rfl Sub.nil)))))) ?_
          refine Wk.region ?_
          refine Ll.op (v := .map (some p19)) rfl rfl rfl (OpQ.move rfl rfl) ?_
          refine Ll.op (v := vS a) rfl rfl rfl (OpQ.loadBox (cs := #[.int .i64 a.n, str a.set, str a.rel]) 1 rfl Tryd.isAgg26 rfl rfl Tryd.sizeOf26) ?_
          refine Ll.op (v := rv (rrL.getD k rd)) rfl rfl rfl (OpQ.move rfl rfl) ?_
          refine Ll.op (v := str ((kindsL a W.toNat).getD k [])) rfl rfl rfl (OpQ.cast (by rw [kinds_at ha hkp, ← hxp]) (OpQ.call rfl Tryd.call59 rfl Own.stable (fun w1 hw1 => atomsOf_ok a (rv (rrL.getD k rd)) ((rrL.getD k rd).xs) w1 ha (Own.ofRows (Own.drop (f := [(p19, mapO ((dedup ((kindsL a W.toNat).take k)))), (p2, .cells #[.int .i64 a.n, str a.set, str a.rel] 26 (0, 0)), (gL, .cells uL 31 (0, 0))]) hw1) hL.ok (i := k) (by omega)) hA hl4))) ?_
          refine Ll.mapSet 0 rfl rfl rfl Tryd.underlying65 Tryd.underlying9 rfl rfl rfl rfl ?_
          show Ll _ _ (Own _ _ ((p19, mapO (addK ((dedup ((kindsL a W.toNat).take k))) ((kindsL a W.toNat).getD k []))) :: (p2, .cells #[.int .i64 a.n, str a.set, str a.rel] 26 (0, 0)) :: (gL, .cells uL 31 (0, 0)) :: ((rowsB 3 rrL ++ [])))) _ _ _ _ _ _
          refine Ll.nil ?_
          refine Kt.onSub (e' := [(2, .pointer (some ⟨p2, 0, none⟩)), (5, .map (some p19)), (23, .slice (some ⟨gL, 0, none⟩) rrL.length cL), (24, .int .i64 ((rrL.length : Int))), (25, .int .i64 ((k : Int)))]) (Sub.cons rfl (Sub.cons rfl (Sub.cons rfl (Sub.cons rfl (Sub.cons rfl Sub.nil))))) ?_
          refine Wk.regionQ ?_
          refine Lq.op (v := .int .i64 (((k : Int)) + (1 : Int))) rfl rfl rfl (OpQ.add rfl rfl rfl (by omega) (by omega)) ?_
          refine Lq.op (v := .int .i64 (((k : Int)) + (1 : Int))) rfl rfl rfl (OpQ.move rfl rfl) ?_
          refine Lq.nil ?_
          refine Kt.again (k + 1) (by omega) (by omega) (Sub.cons rfl (Sub.cons rfl (Sub.cons rfl (Sub.cons rfl (Sub.cons rfl Sub.nil))))) (fun _ h => by rw [dedup_step hkl]; exact h)
        · skip
          replace h26 := of_decide_eq_false h26
          have hrl : rrL.length = a.n.toNat ^ W.toNat := by rw [← listsL_length a.n.toNat W.toNat, ← hLX, List.length_map]
          refine Wk.exit rfl ?_
          refine Kt.onSub (e' := [(5, .map (some p19))]) (Sub.cons rfl Sub.nil) ?_
          refine Wk.seq ?_
          refine Wk.regionQ ?_
          refine Lq.op (v := .map (some p19)) rfl rfl rfl (OpQ.move rfl rfl) ?_
          refine Lq.op (v := .int .i64 ((((dedup ((kindsL a W.toNat).take k))).length : Int))) rfl rfl rfl (OpQ.lenMap 0 rfl Tryd.underlying65 rfl rfl) ?_
          refine Lq.op (v := .int .i64 ((((dedup ((kindsL a W.toNat).take k))).length : Int))) rfl rfl rfl (OpQ.assign rfl rfl) ?_
          refine Lq.nil ?_
          refine Kt.onSub (e' := [(4, .int .i64 ((((dedup ((kindsL a W.toNat).take k))).length : Int)))]) (Sub.cons rfl Sub.nil) ?_
          refine Wk.ret (Kt.end1 rfl rfl fun w' hw => ?_)
          -- ret 1: .int .i64 ((((dedup ((kindsL a W.toNat).take k))).length : Int))
          exact ⟨ret_i (by unfold kindsI; first | (rw [if_neg (by unfold inB; first | (simp_all; done) | (simp_all; omega))]; done) | (rw [if_pos (by unfold inB; simp [hV, h0, h3]), List.take_of_length_le (by rw [kindsL_length]; omega)])), hw.below⟩
    · skip
      replace hg15 := of_decide_eq_true hg15
      refine Lq.pass rfl rfl rfl ?_
      refine Lq.pass rfl rfl rfl ?_
      refine Lq.op (v := .bool true) rfl rfl rfl (OpQ.pickT rfl rfl rfl) ?_
      refine Lq.nil ?_
      refine Kt.onSub (e' := [(1, .int .i64 W), (2, .pointer (some ⟨p2, 0, none⟩)), (18, .bool true)]) (Sub.cons rfl (Sub.cons rfl (Sub.cons rfl Sub.nil))) ?_
      refine Wk.condT rfl ?_
      refine Wk.seq ?_
      refine Wk.regionQ ?_
      refine Lq.op (v := .int .i64 (-1)) rfl rfl rfl (OpQ.assign rfl rfl) ?_
      refine Lq.nil ?_
      refine Kt.onSub (e' := [(4, .int .i64 (-1))]) (Sub.cons rfl Sub.nil) ?_
      refine Wk.ret (Kt.end1 rfl rfl fun w' hw => ?_)
      -- ret 2: .int .i64 (-1)
      exact ⟨ret_i (by unfold kindsI; first | (rw [if_neg (by unfold inB; first | (simp_all; done) | (simp_all; omega))]; done) | (rw [if_pos (by unfold inB; simp [hV, h0, h3]), List.take_of_length_le (by rw [kindsL_length]; omega)])), hw.below⟩
  · skip
    replace hg11 := not_true hg11
    refine Lq.pass rfl rfl rfl ?_
    refine Lq.pass rfl rfl rfl ?_
    refine Lq.op (v := .bool true) rfl rfl rfl (OpQ.pickT rfl rfl rfl) ?_
    refine Lq.op (v := .bool true) rfl rfl rfl (OpQ.move rfl rfl) ?_
    refine Lq.pass rfl rfl rfl ?_
    refine Lq.pass rfl rfl rfl ?_
    refine Lq.op (v := .bool true) rfl rfl rfl (OpQ.pickT rfl rfl rfl) ?_
    refine Lq.nil ?_
    refine Kt.onSub (e' := [(1, .int .i64 W), (2, .pointer (some ⟨p2, 0, none⟩)), (18, .bool true)]) (Sub.cons rfl (Sub.cons rfl (Sub.cons rfl Sub.nil))) ?_
    refine Wk.condT rfl ?_
    refine Wk.seq ?_
    refine Wk.regionQ ?_
    refine Lq.op (v := .int .i64 (-1)) rfl rfl rfl (OpQ.assign rfl rfl) ?_
    refine Lq.nil ?_
    refine Kt.onSub (e' := [(4, .int .i64 (-1))]) (Sub.cons rfl Sub.nil) ?_
    refine Wk.ret (Kt.end1 rfl rfl fun w' hw => ?_)
    -- ret 3: .int .i64 (-1)
    exact ⟨ret_i (by unfold kindsI; first | (rw [if_neg (by unfold inB; first | (simp_all; done) | (simp_all; omega))]; done) | (rw [if_pos (by unfold inB; simp [hV, h0, h3]), List.take_of_length_le (by rw [kindsL_length]; omega)])), hw.below⟩

set_option maxHeartbeats 400000 in
/-- laws.FnExactCountKinds -/
theorem lawKinds (a : St) (W : Int) (w : World) (h1a : a.set.length ≤ 9223372036854775807) (h2a : a.rel.length ≤ 9223372036854775807) (loa : -9223372036854775808 ≤ a.n) (hia : a.n ≤ 9223372036854775807) :
    Calls Tryd.prog 3 [vS a, .int .i64 W].toArray w fun en w' => en = .returned (.bool true) ∧ Below w.heap.size w w' := by
  refine fnStart (n := 24) (e := [(0, vS a), (1, .int .i64 W)]) Tryd.func3 rfl rfl rfl rfl Ends.both ?_
  refine Wk.seq ?_
  refine Wk.region ?_
  refine Ll.box (v := vS a) rfl rfl rfl rfl rfl fun p2 hp2 => ?_
  show Ll _ _ (Own _ _ [(p2, .cells #[.int .i64 a.n, str a.set, str a.rel] 23 (0, 0))]) _ _ ((2, .pointer (some ⟨p2, 0, none⟩)) :: _) _ _ _
  refine Ll.op (v := .bool false) rfl rfl rfl (OpQ.assign rfl rfl) ?_
  refine Ll.nil ?_
  refine Kt.onSub (e' := [(1, .int .i64 W), (2, .pointer (some ⟨p2, 0, none⟩))]) (Sub.cons rfl (Sub.cons rfl Sub.nil)) ?_
  refine Wk.seq ?_
  refine Wk.regionQ ?_
  refine Lq.op (v := .int .i64 1048576) rfl rfl rfl (OpQ.assign rfl rfl) ?_
  refine Lq.nil ?_
  refine Kt.onSub (e' := [(1, .int .i64 W), (2, .pointer (some ⟨p2, 0, none⟩)), (5, .int .i64 1048576)]) (Sub.cons rfl (Sub.cons rfl (Sub.cons rfl Sub.nil))) ?_
  refine Wk.seq ?_
  refine Wk.regionQ ?_
  refine Lq.op (v := vS a) rfl rfl rfl (OpQ.loadBox (cs := #[.int .i64 a.n, str a.set, str a.rel]) 0 rfl Tryd.isAgg23 rfl rfl Tryd.sizeOf23) ?_
  refine Lq.op (v := .int .i64 1048576) rfl rfl rfl (OpQ.move rfl rfl) ?_
  refine Lq.op (v := .int .i64 (szB a 1048576)) rfl rfl rfl (OpQ.call rfl Tryd.call15 rfl Own.stable (fun w1 hw1 => sz_ok a 1048576 w1 (by omega) (by omega) h1a h2a)) ?_
  refine Lq.op (v := .int .i64 (szB a 1048576)) rfl rfl rfl (OpQ.assign rfl rfl) ?_
  refine Lq.nil ?_
  refine Kt.onSub (e' := [(1, .int .i64 W), (2, .pointer (some ⟨p2, 0, none⟩)), (5, .int .i64 (szB a 1048576))]) (Sub.cons rfl (Sub.cons rfl (Sub.cons rfl Sub.nil))) ?_
  refine Wk.seq ?_
  refine Wk.seq ?_
  refine Wk.regionQ ?_
  refine Lq.op (v := .int .i64 (szB a 1048576)) rfl rfl rfl (OpQ.move rfl rfl) ?_
  refine Lq.op (v := .bool (decide ((szB a 1048576) < (0 : Int)))) rfl rfl rfl (OpQ.lss rfl rfl rfl) ?_
  refine Lq.nil ?_
  refine Kt.onSub (e' := [(1, .int .i64 W), (2, .pointer (some ⟨p2, 0, none⟩)), (12, .bool (decide ((szB a 1048576) < (0 : Int))))]) (Sub.cons rfl (Sub.cons rfl (Sub.cons rfl Sub.nil))) ?_
  refine Wk.cond (b := decide ((szB a 1048576) < (0 : Int))) rfl (fun h12 => ?_) (fun h12 => ?_)
  · skip
    replace h12 := of_decide_eq_true h12
    refine Wk.seq ?_
    refine Wk.regionQ ?_
    refine Lq.op (v := .bool true) rfl rfl rfl (OpQ.assign rfl rfl) ?_
    refine Lq.nil ?_
    refine Kt.onSub (e' := [(4, .bool true)]) (Sub.cons rfl Sub.nil) ?_
    refine Wk.ret (Kt.end1 rfl rfl fun w' hw => ?_)
    -- ret 0: .bool true
    exact ⟨ret_b (by first | rfl | (simp_all; done) | (simp_all; omega)), hw.below⟩
  · skip
    replace h12 := of_decide_eq_false h12
    obtain ⟨hsa, hz0a, hz1a⟩ := szB_small (by omega) h12
    refine Wk.skip ?_
    refine Kt.onSub (e' := [(1, .int .i64 W), (2, .pointer (some ⟨p2, 0, none⟩))]) (Sub.cons rfl (Sub.cons rfl Sub.nil)) ?_
    refine Wk.seq ?_
    refine Wk.regionQ ?_
    refine Lq.op (v := vS a) rfl rfl rfl (OpQ.loadBox (cs := #[.int .i64 a.n, str a.set, str a.rel]) 0 rfl Tryd.isAgg23 rfl rfl Tryd.sizeOf23) ?_
    refine Lq.op (v := vS a) rfl rfl rfl (OpQ.call rfl Tryd.call17 rfl Own.stable (fun w1 hw1 => toSt_ok a w1 )) ?_
    refine Lq.op (v := .int .i64 W) rfl rfl rfl (OpQ.move rfl rfl) ?_
    refine Lq.op (v := .int .i64 (kindsI a W)) rfl rfl rfl (OpQ.call rfl Tryd.call16 rfl Own.stable (fun w1 hw1 => sKinds_ok a W w1 hsa loa hia)) ?_
    refine Lq.op (v := .int .i64 (kindsI a W)) rfl rfl rfl (OpQ.assign rfl rfl) ?_
    refine Lq.nil ?_
    refine Kt.onSub (e' := [(1, .int .i64 W), (2, .pointer (some ⟨p2, 0, none⟩)), (6, .int .i64 (kindsI a W))]) (Sub.cons rfl (Sub.cons rfl (Sub.cons rfl Sub.nil))) ?_
    refine Wk.seq ?_
    refine Wk.regionQ ?_
    refine Lq.op (v := vS a) rfl rfl rfl (OpQ.loadBox (cs := #[.int .i64 a.n, str a.set, str a.rel]) 0 rfl Tryd.isAgg23 rfl rfl Tryd.sizeOf23) ?_
    refine Lq.op (v := vS a) rfl rfl rfl (OpQ.call rfl Tryd.call17 rfl Own.stable (fun w1 hw1 => toSt_ok a w1 )) ?_
    refine Lq.op (v := .int .i64 W) rfl rfl rfl (OpQ.move rfl rfl) ?_
    refine Lq.op (v := .int .i64 (kindsI a W)) rfl rfl rfl (OpQ.call rfl Tryd.call18 rfl Own.stable (fun w1 hw1 => iKinds_ok a W w1 hsa)) ?_
    refine Lq.op (v := .int .i64 (kindsI a W)) rfl rfl rfl (OpQ.assign rfl rfl) ?_
    refine Lq.nil ?_
    refine Kt.onSub (e' := [(6, .int .i64 (kindsI a W)), (7, .int .i64 (kindsI a W))]) (Sub.cons rfl (Sub.cons rfl Sub.nil)) ?_
    refine Wk.seq ?_
    refine Wk.seq ?_
    refine Wk.regionQ ?_
    refine Lq.op (v := .int .i64 (kindsI a W)) rfl rfl rfl (OpQ.move rfl rfl) ?_
    refine Lq.op (v := .int .i64 (kindsI a W)) rfl rfl rfl (OpQ.move rfl rfl) ?_
    refine Lq.op (v := .bool (!(decide ((kindsI a W) = (kindsI a W))))) rfl rfl rfl (OpQ.neq rfl rfl rfl) ?_
    refine Lq.nil ?_
    refine Kt.onSub (e' := [(23, .bool (!(decide ((kindsI a W) = (kindsI a W)))))]) (Sub.cons rfl Sub.nil) ?_
    refine Wk.cond (b := !(decide ((kindsI a W) = (kindsI a W)))) rfl (fun h23 => ?_) (fun h23 => ?_)
    · skip
      replace h23 := not_true h23
      replace h23 := of_decide_eq_false h23
      exact absurd rfl h23
    · skip
      replace h23 := not_false h23
      replace h23 := of_decide_eq_true h23
      refine Wk.skip ?_
      refine Kt.onSub (e' := []) Sub.nil ?_
      refine Wk.seq ?_
      refine Wk.regionQ ?_
      refine Lq.op (v := .bool true) rfl rfl rfl (OpQ.assign rfl rfl) ?_
      refine Lq.nil ?_
      refine Kt.onSub (e' := [(4, .bool true)]) (Sub.cons rfl Sub.nil) ?_
      refine Wk.ret (Kt.end1 rfl rfl fun w' hw => ?_)
      -- ret 1: .bool true
      exact ⟨ret_b (by first | rfl | (simp_all; done) | (simp_all; omega)), hw.below⟩

end Go.Proofs.YtcanofailfbllaaDoor
