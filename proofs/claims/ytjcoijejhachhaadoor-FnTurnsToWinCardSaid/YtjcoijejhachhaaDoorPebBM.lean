/-
  Walks: pebbles beside.
-/
import Derived.Test.YtjcoijejhachhaaDoorPebWM
import Derived.Test.YtjcoijejhachhaaDoorBase
namespace Go.Proofs.YtjcoijejhachhaaDoor
open Go.RowKit Go.Wk
set_option linter.unusedSimpArgs false

set_option maxHeartbeats 400000 in
/-- impl.besides -/
theorem besides_ok (k : Nat) (w : World) (hk : k ≤ 1000) :
    Calls Tryd.prog 60 [i6_ ((k : Int))].toArray w fun en w' => ∃ v, en = .returned v ∧ Below w.heap.size w w' ∧ NewRow w.heap.size 3 1 w' v (bes k).length (ints (bes k)) := by
 refine fnStart (n := 13) (e := [(0, i6_ ((k : Int)))]) Tryd.func60 rfl rfl rfl rfl Ends.both ?_
 refine Wk.seq ?_
 refine Wk.regionQ ?_
 refine Lq.run 1 rfl ?_
 refine Lq.nil ?_
 refine Kt.sel [0] [_] rfl ?_
 refine Wk.seq ?_
 refine Wk.region ?_
 refine Ll.slice (xs := []) (vs := []) Base.elem24 rfl rfl rfl rfl rfl rfl (by decide) rfl fun p4 hp4 => ?_
 refine Ll.run 1 rfl ?_
 refine Ll.nil ?_
 refine Kt.sel [0, 3] [_, _] rfl ?_
 refine Wk.seq ?_
 refine Wk.seq ?_
 refine Wk.regionQ ?_
 refine Lq.run 2 rfl ?_
 refine Lq.nil ?_
 refine Kt.sel [3, 5, 6] [_, _, _] rfl ?_
 refine Wk.block ?_
 refine Wk.loop (σ := Nat × Nat × Nat × Array Value) (fun ⟨j, g, c, cur⟩ => (j ≤ k) ∧ w.heap.size ≤ g ∧ cur.size = c * 1 ∧ (bes j).length ≤ c ∧ cur.toList.take ((bes j).length * 1) = ints (bes j)) (fun ⟨j, g, c, cur⟩ => [(3, sl_ g ((bes j).length) c), (5, i6_ ((k : Int))), (6, i6_ ((j : Int)))]) (fun ⟨j, g, c, cur⟩ => Own w.heap.size w [bk_ g cur 3]) (fun ⟨j, g, c, cur⟩ => k - j) ((0, p4, 0, #[])) ⟨by omega, by omega, rfl, Nat.le_refl _, rfl⟩ (Sub.sel [3, 5, 6] rfl) (fun _ h => h) ?_
 rintro ⟨j, g, c, cur⟩ ⟨hk, hg, hc, hl, ht⟩
 dsimp only
 refine Wk.seq ?_
 refine Wk.regionQ ?_
 refine Lq.run 1 rfl ?_
 refine Lq.nil ?_
 refine Kt.sel [3, 5, 6, 7] [_, _, _, _] rfl ?_
 refine Wk.seq ?_
 refine Wk.cond (b := decide (((j : Int)) < ((k : Int)))) rfl (fun h7 => ?_) (fun h7 => ?_)
 ·
  replace h7 := of_decide_eq_true h7
  refine Wk.skip ?_
  refine Kt.sel [3, 5, 6] [_, _, _] rfl ?_
  refine Wk.seq ?_
  refine Wk.block ?_
  refine Wk.region ?_
  refine Ll.run 1 rfl ?_
  refine Ll.slice (xs := [.const (i6_ (-1))]) (vs := [i6_ (-1)]) Base.elem24 rfl rfl rfl rfl rfl rfl (by decide) rfl fun p9 hp9 => ?_
  refine Ll.appendInts (xs := bes j) (ys := [-1]) Base.elem24 1 rfl rfl rfl rfl rfl rfl rfl hc hl (by simpa using ht) (fun w1 hw1 => (Own.row hw1 (i := 0) rfl (n := 1) (cap := 1) (vs := ints [-1]) rfl rfl (by decide))) (((bes j) ++ ([-1])).length) (by first | (simp; done) | (simp; omega)) (by first | (simp; done) | (simp; omega) | omega) fun p10 cap10 cur10 hp10 hcp10 hlp10 htp10 => ?_
  show Ll _ _ (Own _ _ [_, _]) _ _ ((10, sl_ p10 ((((bes j) ++ ([-1])).length)) cap10) :: _) _ _ _
  refine Ll.run 1 rfl ?_
  refine Ll.nil ?_
  refine Kt.sel [3, 5, 6] [_, _, _] rfl ?_
  refine Wk.regionQ ?_
  refine Lq.op rfl rfl rfl (OpQ.add rfl rfl rfl (by omega) (by omega)) ?_
  refine Lq.run 1 rfl ?_
  refine Lq.nil ?_
  refine Kt.again ((j + 1, p10, cap10, cur10)) ⟨(by omega), (by omega), hcp10, (by rw [bes_snoc]; exact hlp10), (by rw [bes_snoc]; exact htp10)⟩ (by omega) (Sub.cons (by rw [bes_snoc]; rfl) (Sub.sel [5, 6] rfl)) (fun _ h => h.tail)
 ·
  replace h7 := of_decide_eq_false h7
  refine Wk.exit rfl ?_
  refine Kt.sel [3] [_] rfl ?_
  refine Wk.seq ?_
  refine Wk.regionQ ?_
  refine Lq.run 2 rfl ?_
  refine Lq.nil ?_
  refine Kt.sel [2] [_] rfl ?_
  refine Wk.ret (Kt.end1 rfl rfl fun w' hw => ?_)
  -- ret 0: sl_ g ((bes j).length) c
  obtain rfl : k = j := by omega
  exact ⟨_, rfl, hw.below, hw.newRow (i := 0) rfl hc hl ht⟩

end Go.Proofs.YtjcoijejhachhaaDoor
