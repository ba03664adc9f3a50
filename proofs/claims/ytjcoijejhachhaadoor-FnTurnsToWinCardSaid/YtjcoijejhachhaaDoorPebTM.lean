/-
  Walks: the turns that the first player needs.
-/
import Derived.Test.YtjcoijejhachhaaDoorPlain49
import Derived.Test.YtjcoijejhachhaaDoorPebBM
import Derived.Test.YtjcoijejhachhaaDoorPebLM
import Derived.Test.YtjcoijejhachhaaDoorBase
namespace Go.Proofs.YtjcoijejhachhaaDoor
open Go.RowKit Go.Wk
set_option linter.unusedSimpArgs false

set_option maxHeartbeats 400000 in
/-- impl.TurnsToWin -/
theorem iTurns_ok (a b : St) (q : Int) (w : World) (hsa : a.Small) (hsb : b.Small) :
    Calls Tryd.prog 27 [vS a, vS b, i6_ q].toArray w fun en w' => en = .returned (.int .i64 (turnsB a b q)) ∧ Below w.heap.size w w' := by
 refine fnStart (n := 48) (e := [(0, vS a), (1, vS b), (2, i6_ q)]) Tryd.func27 rfl rfl rfl rfl Ends.both ?_
 refine Wk.seq ?_
 refine Wk.region ?_
 refine Ll.box (v := vS a) rfl rfl rfl rfl rfl fun p3 hp3 => ?_
 show Ll _ _ (Own _ _ [_]) _ _ ((3, pt_ p3) :: _) _ _ _
 refine Ll.box (v := vS b) rfl rfl rfl rfl rfl fun p4 hp4 => ?_
 show Ll _ _ (Own _ _ [_, _]) _ _ ((4, pt_ p4) :: _) _ _ _
 refine Ll.run 1 rfl ?_
 refine Ll.nil ?_
 refine Kt.sel [2, 3, 4] [_, _, _] rfl ?_
 refine Wk.seq ?_
 refine Wk.seq ?_
 refine Wk.regionQ ?_
 refine Lq.op rfl rfl rfl (OpQ.loadBox (cs := #[i6_ a.n, str a.set, str a.rel]) 1 rfl Tryd.isAgg28 rfl rfl Tryd.sizeOf28) ?_
 refine Lq.op (v := bo_ (validB a)) rfl rfl rfl (OpQ.call rfl Tryd.call53 rfl Own.stable (fun w1 hw1 => isStructure_ok a w1 hsa)) ?_
 refine Lq.run 2 rfl ?_
 refine Lq.bool fun b14 hg14 => ?_
 cases b14
 ·
  replace hg14 := not_false hg14
  refine Lq.op rfl rfl rfl (OpQ.loadBox (cs := #[i6_ b.n, str b.set, str b.rel]) 0 rfl Tryd.isAgg28 rfl rfl Tryd.sizeOf28) ?_
  refine Lq.op (v := bo_ (validB b)) rfl rfl rfl (OpQ.call rfl Tryd.call53 rfl Own.stable (fun w1 hw1 => isStructure_ok b w1 hsb)) ?_
  refine Lq.run 3 rfl ?_
  refine Lq.bool fun b19 hg19 => ?_
  cases b19
  ·
   replace hg19 := not_false hg19
   refine Lq.run 4 rfl ?_
   refine Lq.bool fun b23 hg23 => ?_
   cases b23
   ·
    replace hg23 := of_decide_eq_false hg23
    refine Lq.run 3 rfl ?_
    refine Lq.nil ?_
    refine Kt.sel [2, 3, 4, 26] [_, _, _, _] rfl ?_
    refine Wk.cond (b := decide ((3 : Int) < q)) rfl (fun h26 => ?_) (fun h26 => ?_)
    ·
     replace h26 := of_decide_eq_true h26
     refine Wk.seq ?_
     refine Wk.regionQ ?_
     refine Lq.run 1 rfl ?_
     refine Lq.nil ?_
     refine Kt.sel [6] [_] rfl ?_
     refine Wk.ret (Kt.end1 rfl rfl fun w' hw => ?_)
     -- ret 0: i6_ (-2)
     exact ⟨ret_i (by unfold turnsB inB; rw [if_neg (by simp_all; try omega)]), hw.below⟩
    ·
     replace h26 := of_decide_eq_false h26
     obtain ⟨k, rfl⟩ : ∃ k : Nat, q = (k : Int) := ⟨q.toNat, by first | omega | (unfold inB at *; simp_all; omega)⟩
     have hVa : validB a = true := by simp_all
     have hVb : validB b = true := by simp_all
     have h1 : 1 ≤ k := by omega
     have h3 : k ≤ 3 := by omega
     have hk3 : k ≤ 3 := h3
     have hr := bes_ready hVa hVb h1 h3
     have ha := validB_fine hVa
     have hb := validB_fine hVb
     have hm8 := ha.hi
     have hm1 := ha.lo
     have hb8 := hb.hi
     have hb1 := hb.lo
     have hpr := prN_le (a := a) (b := b) (by omega) (by omega)
     have hpp := prN_pos a b
     refine Wk.skip ?_
     refine Kt.sel [2, 3, 4] [_, _, _] rfl ?_
     refine Wk.seq ?_
     refine Wk.region ?_
     refine Ll.run 1 rfl ?_
     refine Ll.callRow (xs := [.tmp 27]) (m := (bes k).length) (vs := ints (bes k)) (el := 3) (size := 1) rfl rfl rfl rfl Tryd.call60 rfl (fun w1 hw1 => besides_ok k w1 (by omega)) fun p28 cap28 cur28 hp28 hcp28 hlp28 htp28 => ?_
     refine Ll.run 1 rfl ?_
     refine Ll.nil ?_
     refine Kt.sel [3, 4, 7] [_, _, _] rfl ?_
     refine Wk.seq ?_
     refine Wk.region ?_
     refine Ll.op rfl rfl rfl (OpQ.loadBox (cs := #[i6_ a.n, str a.set, str a.rel]) 2 rfl Tryd.isAgg28 rfl rfl Tryd.sizeOf28) ?_
     refine Ll.run 1 rfl ?_
     refine Ll.op rfl rfl rfl (OpQ.loadBox (cs := #[i6_ b.n, str b.set, str b.rel]) 1 rfl Tryd.isAgg28 rfl rfl Tryd.sizeOf28) ?_
     refine Ll.run 1 rfl ?_
     refine Ll.callNew (σ := Nat × Nat × Nat × Array Value × Nat × Nat × Array Value) (ok := fun (p, gf, cf, uf, gw, cw, uw) => (uf.size = cf * 1 ∧ (WL 0 a b k).length ≤ cf ∧ uf.toList.take (WL 0 a b k).length = bools (WL 0 a b k)) ∧ (uw.size = cw * 1 ∧ (WL 0 a b k).length ≤ cw ∧ uw.toList.take (WL 0 a b k).length = bools (WL 0 a b k))) (v := fun (p, gf, cf, uf, gw, cw, uw) => .pointer (some ⟨p, 0, none⟩)) (new := fun (p, gf, cf, uf, gw, cw, uw) => [bk_ p #[i6_ a.n, str a.set, str a.rel, i6_ b.n, str b.set, str b.rel, i6_ ((k : Int)), i6_ (((prN a b : Nat) : Int)), sl_ gf ((WL 0 a b k).length) cf, sl_ gw ((WL 0 a b k).length) cw, bo_ false] 66, bk_ gf uf 4, bk_ gw uw 4]) (hs := [bk_ p28 cur28 3, bk_ p4 #[i6_ b.n, str b.set, str b.rel] 28, bk_ p3 #[i6_ a.n, str a.set, str a.rel] 28]) (xs := [.tmp 29, .tmp 30, .tmp 31, .tmp 32]) (vs := [vS a, sl_ p28 ((bes k).length) cap28, vS b, sl_ p28 ((bes k).length) cap28]) rfl rfl rfl rfl Tryd.call56 rfl (fun w1 hw1 => (newPeb_yes a b (bes k) (bes k) (sl_ p28 ((bes k).length) cap28) (sl_ p28 ((bes k).length) cap28) w1 hsa hsb (Own.row hw1 (i := 0) rfl (by simpa using htp28) (by simp) hlp28) (Own.row hw1 (i := 0) rfl (by simpa using htp28) (by simp) hlp28) (by simp; omega) (by simp; omega) k (bes_len k) hr).mono fun en w' ⟨p, gf, cf, uf, gw, cw, uw, h1, h2, h3, h4⟩ => ⟨(p, gf, cf, uf, gw, cw, uw), h1, ⟨h2, h3⟩, hw1.merge h4⟩) fun ⟨p, gf, cf, uf, gw, cw, uw⟩ ⟨⟨hcf, hlf, htf⟩, ⟨hcw, hlw, htw⟩⟩ => ?_
     show Ll _ _ (Own _ _ [_, _, _, _, _, _]) _ _ ((33, pt_ p) :: _) _ _ _
     refine Ll.run 1 rfl ?_
     refine Ll.nil ?_
     refine Kt.sel [8] [_] rfl ?_
     refine Wk.seq ?_
     refine Wk.regionQ ?_
     refine Lq.run 1 rfl ?_
     refine Lq.nil ?_
     refine Kt.sel [8, 9] [_, _] rfl ?_
     refine Wk.block ?_
     refine Wk.loop (σ := Nat × Nat × Nat × Array Value) (fun ⟨n, g, c, u⟩ => pW n a (bes k) b (bes k) ∧ n + nT (WL n a b k) ≤ 300000 ∧ (WL n a b k).length ≤ c ∧ u.toList.take (WL n a b k).length = bools (WL n a b k)) (fun ⟨n, g, c, u⟩ => [(8, pt_ p), (9, i6_ ((n : Int) + 1))]) (fun ⟨n, g, c, u⟩ => Own w.heap.size w (bk_ p #[i6_ a.n, str a.set, str a.rel, i6_ b.n, str b.set, str b.rel, i6_ ((k : Int)), i6_ (((prN a b : Nat) : Int)), sl_ gf ((WL 0 a b k).length) cf, sl_ g ((WL n a b k).length) c, bo_ false] 66 :: bk_ gf uf 4 :: bk_ g u 4 :: ([bk_ p28 cur28 3, bk_ p4 #[i6_ b.n, str b.set, str b.rel] 28, bk_ p3 #[i6_ a.n, str a.set, str a.rel] 28]))) (fun ⟨n, g, c, u⟩ => nT (WL n a b k)) ((0, gw, cw, uw)) ⟨pW_first, by have := nT_len (WL 0 a b k); have := WL_len 0 a b k; have := pow65 hpr hk3; omega, hlw, htw⟩ (Sub.cons rfl (Sub.cons (by simp [List.lookup]) Sub.nil)) (fun _ h => h) ?_
     rintro ⟨n, g, c, u⟩ ⟨hPn, hNT, hlu, htu⟩
     dsimp only
     refine Wk.seq ?_
     refine Wk.block ?_
     refine Wk.seq ?_
     refine Wk.region ?_
     refine Ll.run 1 rfl ?_
     refine Ll.callGet (σ := Nat × Nat × Array Value) (ok := fun (g, c', u) => u.size = c' * 1 ∧ (WL (n + 1) a b k).length ≤ c' ∧ u.toList.take (WL (n + 1) a b k).length = bools (WL (n + 1) a b k)) (v := fun _ => .bool (!((WL (n + 1) a b k) == (WL n a b k)))) (xs := [.tmp 36]) (vs := [pt_ p]) (hs' := fun (g, c', u) => (bk_ p #[i6_ a.n, str a.set, str a.rel, i6_ b.n, str b.set, str b.rel, i6_ ((k : Int)), i6_ (((prN a b : Nat) : Int)), sl_ gf ((WL 0 a b k).length) cf, sl_ g ((WL (n + 1) a b k).length) c', bo_ false] 66 :: bk_ gf uf 4 :: bk_ g u 4 :: ([bk_ p28 cur28 3, bk_ p4 #[i6_ b.n, str b.set, str b.rel] 28, bk_ p3 #[i6_ a.n, str a.set, str a.rel] 28]))) rfl rfl rfl rfl Tryd.call61 rfl (fun w1 hw1 => (turn_ok _ _ _ a b k n p gf cf uf g c u w1 hVa hVb hk3 hlf htf hlu htu hw1).mono fun en w' ⟨g, c', u, h1, h2, h3⟩ => ⟨(g, c', u), h1, h2, h3⟩) fun ⟨gt, ct, ut⟩ ⟨hcgt, hlgt, htgt⟩ => ?_
     show Ll _ _ (Own _ _ (_ :: _ :: _ :: ([bk_ p28 cur28 3, bk_ p4 #[i6_ b.n, str b.set, str b.rel] 28, bk_ p3 #[i6_ a.n, str a.set, str a.rel] 28]))) _ _ ((37, bo_ (!((WL (n + 1) a b k) == (WL n a b k)))) :: _) _ _ _
     refine Ll.run 1 rfl ?_
     refine Ll.nil ?_
     refine Kt.sel [8, 9, 10] [_, _, _] rfl ?_
     refine Wk.seq ?_
     refine Wk.seq ?_
     refine Wk.regionQ ?_
     refine Lq.run 1 rfl ?_
     refine Lq.op (v := pt_ p) rfl rfl rfl (OpQ.nilCheck rfl rfl) ?_
     refine Lq.op rfl rfl rfl (OpQ.fieldAddr rfl Tryd.runUnderlying66 rfl Tryd.sizeOf64 rfl rfl) ?_
     refine Lq.op rfl rfl rfl (OpQ.loadOwn 0 rfl Tryd.isAgg64 rfl rfl rfl) ?_
     refine Lq.op (v := pf_ gt ((0 : Int).toNat)) rfl rfl rfl (OpQ.cast (by rw [Nat.zero_add]) (OpQ.indexAddr1 (i := 0) rfl Tryd.runUnderlying64 Tryd.sizeOf4 rfl rfl (by decide) (by have := WL_len (n + 1) a b k; have := Nat.pow_pos (n := k) hpp; omega))) ?_
     refine Lq.op (v := bo_ ((WL (n + 1) a b k).getD ((0 : Int).toNat) false)) rfl rfl rfl (OpQ.loadAt 2 rfl Tryd.isAgg4 rfl rfl (cur_at htgt (bools_at (c := (WL (n + 1) a b k)) (off := (0 : Int).toNat) (by have := WL_len (n + 1) a b k; have := Nat.pow_pos (n := k) hpp; show 0 < _; omega)))) ?_
     refine Lq.run 1 rfl ?_
     refine Lq.nil ?_
     refine Kt.sel [8, 9, 10, 44] [_, _, _, _] rfl ?_
     refine Wk.cond (b := !((WL (n + 1) a b k).getD ((0 : Int).toNat) false)) rfl (fun h44 => ?_) (fun h44 => ?_)
     ·
      replace h44 := not_true h44
      have hW0 : ¬ pW (n + 1) a (bes k) b (bes k) := fun e => by rw [← wl_first] at e; simp_all
      refine Wk.seq ?_
      refine Wk.regionQ ?_
      refine Lq.run 2 rfl ?_
      refine Lq.nil ?_
      refine Kt.sel [6] [_] rfl ?_
      refine Wk.ret (Kt.end1 rfl rfl fun w' hw => ?_)
      -- ret 1: i6_ ((n : Int) + 1)
      exact ⟨ret_i (turnsB_yes hVa hVb h1 h3 (turns_won hW0 hPn)).symm, hw.below⟩
     ·
      replace h44 := not_false h44
      refine Wk.skip ?_
      refine Kt.sel [8, 9, 10] [_, _, _] rfl ?_
      refine Wk.seq ?_
      refine Wk.regionQ ?_
      refine Lq.run 2 rfl ?_
      refine Lq.nil ?_
      refine Kt.sel [8, 9, 47] [_, _, _] rfl ?_
      refine Wk.cond (b := !(!((WL (n + 1) a b k) == (WL n a b k)))) rfl (fun h47 => ?_) (fun h47 => ?_)
      ·
       replace h47 := not_true h47
       have hE : WL (n + 1) a b k = WL n a b k := by simpa using h47
       refine Wk.seq ?_
       refine Wk.regionQ ?_
       refine Lq.run 1 rfl ?_
       refine Lq.nil ?_
       refine Kt.sel [6] [_] rfl ?_
       refine Wk.ret (Kt.end1 rfl rfl fun w' hw => ?_)
       -- ret 2: i6_ (-1)
       exact ⟨ret_i (turnsB_yes hVa hVb h1 h3 (turns_never hE (by simpa using h44))).symm, hw.below⟩
      ·
       replace h47 := not_false h47
       have hdn := wl_down (n := n) (a := a) (b := b) (k := k) (by simpa using h47)
       refine Wk.skip ?_
       refine Kt.sel [8, 9] [_, _] rfl ?_
       refine Wk.regionQ ?_
       refine Lq.run 1 rfl ?_
       refine Lq.op rfl rfl rfl (OpQ.add rfl rfl rfl (by omega) (by omega)) ?_
       refine Lq.run 1 rfl ?_
       refine Lq.nil ?_
       refine Kt.again ((n + 1, gt, ct, ut)) ⟨wl_first.1 (by simpa using h44), by dsimp only; omega, hlgt, htgt⟩ (by omega) (Sub.cons rfl (Sub.cons (by simp [List.lookup]) Sub.nil)) (fun _ h => h)
   ·
    replace hg23 := of_decide_eq_true hg23
    refine Lq.pass rfl rfl rfl ?_
    refine Lq.pass rfl rfl rfl ?_
    refine Lq.run 1 rfl ?_
    refine Lq.nil ?_
    refine Kt.sel [2, 3, 4, 26] [_, _, _, _] rfl ?_
    refine Wk.condT rfl ?_
    refine Wk.seq ?_
    refine Wk.regionQ ?_
    refine Lq.run 1 rfl ?_
    refine Lq.nil ?_
    refine Kt.sel [6] [_] rfl ?_
    refine Wk.ret (Kt.end1 rfl rfl fun w' hw => ?_)
    -- ret 3: i6_ (-2)
    exact ⟨ret_i (by unfold turnsB inB; rw [if_neg (by simp_all; try omega)]), hw.below⟩
  ·
   replace hg19 := not_true hg19
   refine Lq.pass rfl rfl rfl ?_
   refine Lq.pass rfl rfl rfl ?_
   refine Lq.run 2 rfl ?_
   refine Lq.pass rfl rfl rfl ?_
   refine Lq.pass rfl rfl rfl ?_
   refine Lq.run 1 rfl ?_
   refine Lq.nil ?_
   refine Kt.sel [2, 3, 4, 26] [_, _, _, _] rfl ?_
   refine Wk.condT rfl ?_
   refine Wk.seq ?_
   refine Wk.regionQ ?_
   refine Lq.run 1 rfl ?_
   refine Lq.nil ?_
   refine Kt.sel [6] [_] rfl ?_
   refine Wk.ret (Kt.end1 rfl rfl fun w' hw => ?_)
   -- ret 4: i6_ (-2)
   exact ⟨ret_i (by unfold turnsB inB; rw [if_neg (by simp_all; try omega)]), hw.below⟩
 ·
  replace hg14 := not_true hg14
  refine Lq.pass rfl rfl rfl ?_
  refine Lq.pass rfl rfl rfl ?_
  refine Lq.pass rfl rfl rfl ?_
  refine Lq.run 2 rfl ?_
  refine Lq.pass rfl rfl rfl ?_
  refine Lq.pass rfl rfl rfl ?_
  refine Lq.run 2 rfl ?_
  refine Lq.pass rfl rfl rfl ?_
  refine Lq.pass rfl rfl rfl ?_
  refine Lq.run 1 rfl ?_
  refine Lq.nil ?_
  refine Kt.sel [2, 3, 4, 26] [_, _, _, _] rfl ?_
  refine Wk.condT rfl ?_
  refine Wk.seq ?_
  refine Wk.regionQ ?_
  refine Lq.run 1 rfl ?_
  refine Lq.nil ?_
  refine Kt.sel [6] [_] rfl ?_
  refine Wk.ret (Kt.end1 rfl rfl fun w' hw => ?_)
  -- ret 5: i6_ (-2)
  exact ⟨ret_i (by unfold turnsB inB; rw [if_neg (by simp_all; try omega)]), hw.below⟩

set_option maxHeartbeats 400000 in
/-- spec.TurnsToWin -/
theorem sTurns_ok (a b : St) (q : Int) (w : World) (hsa : a.Small) (hsb : b.Small) (loa : -9223372036854775808 ≤ a.n) (hia : a.n ≤ 9223372036854775807) (lob : -9223372036854775808 ≤ b.n) (hib : b.n ≤ 9223372036854775807) :
    Calls Tryd.prog 26 [vS a, vS b, i6_ q].toArray w fun en w' => en = .returned (.int .i64 (turnsB a b q)) ∧ Below w.heap.size w w' := by
 refine fnStart (n := 50) (e := [(0, vS a), (1, vS b), (2, i6_ q)]) Tryd.func26 rfl rfl rfl rfl Ends.both ?_
 refine Wk.seq ?_
 refine Wk.region ?_
 refine Ll.box (v := vS a) rfl rfl rfl rfl rfl fun p3 hp3 => ?_
 show Ll _ _ (Own _ _ [_]) _ _ ((3, pt_ p3) :: _) _ _ _
 refine Ll.box (v := vS b) rfl rfl rfl rfl rfl fun p4 hp4 => ?_
 show Ll _ _ (Own _ _ [_, _]) _ _ ((4, pt_ p4) :: _) _ _ _
 refine Ll.run 1 rfl ?_
 refine Ll.nil ?_
 refine Kt.sel [2, 3, 4] [_, _, _] rfl ?_
 refine Wk.seq ?_
 refine Wk.seq ?_
 refine Wk.regionQ ?_
 refine Lq.op rfl rfl rfl (OpQ.loadBox (cs := #[i6_ a.n, str a.set, str a.rel]) 1 rfl Tryd.isAgg28 rfl rfl Tryd.sizeOf28) ?_
 refine Lq.op (v := bo_ (validB a)) rfl rfl rfl (OpQ.call rfl Tryd.call52 rfl Own.stable (fun w1 hw1 => sValid_ok a w1 hsa)) ?_
 refine Lq.run 2 rfl ?_
 refine Lq.bool fun b13 hg13 => ?_
 cases b13
 ·
  replace hg13 := not_false hg13
  refine Lq.op rfl rfl rfl (OpQ.loadBox (cs := #[i6_ b.n, str b.set, str b.rel]) 0 rfl Tryd.isAgg28 rfl rfl Tryd.sizeOf28) ?_
  refine Lq.op (v := bo_ (validB b)) rfl rfl rfl (OpQ.call rfl Tryd.call52 rfl Own.stable (fun w1 hw1 => sValid_ok b w1 hsb)) ?_
  refine Lq.run 3 rfl ?_
  refine Lq.bool fun b18 hg18 => ?_
  cases b18
  ·
   replace hg18 := not_false hg18
   refine Lq.run 1 rfl ?_
   refine Lq.op (v := bo_ (inB q 1 3)) rfl rfl rfl (OpQ.call rfl Tryd.call42 rfl Own.stable (fun w1 hw1 => l1In_ok q 1 3 w1 )) ?_
   refine Lq.run 2 rfl ?_
   refine Lq.nil ?_
   refine Kt.sel [2, 3, 4, 22] [_, _, _, _] rfl ?_
   refine Wk.cond (b := !(inB q 1 3)) rfl (fun h22 => ?_) (fun h22 => ?_)
   ·
    replace h22 := not_true h22
    refine Wk.seq ?_
    refine Wk.regionQ ?_
    refine Lq.run 1 rfl ?_
    refine Lq.nil ?_
    refine Kt.sel [6] [_] rfl ?_
    refine Wk.ret (Kt.end1 rfl rfl fun w' hw => ?_)
    -- ret 0: i6_ (-2)
    exact ⟨ret_i (by unfold turnsB; rw [if_neg (by simp_all)]), hw.below⟩
   ·
    replace h22 := not_false h22
    obtain ⟨k, rfl⟩ : ∃ k : Nat, q = (k : Int) := ⟨q.toNat, by first | omega | (unfold inB at *; simp_all; omega)⟩
    have h1 : 1 ≤ k := by unfold inB at *; simp_all; omega
    have h3 : k ≤ 3 := by unfold inB at *; simp_all; omega
    have hVa : validB a = true := by simp_all
    have hVb : validB b = true := by simp_all
    have hk3 : k ≤ 3 := h3
    have ha := validB_fine hVa
    have hb := validB_fine hVb
    have hm8 := ha.hi
    have hm1 := ha.lo
    have hb8 := hb.hi
    have hb1 := hb.lo
    have hpr := prN_le (a := a) (b := b) (by omega) (by omega)
    have hpp := prN_pos a b
    refine Wk.skip ?_
    refine Kt.sel [2, 3, 4] [_, _, _] rfl ?_
    refine Wk.seq ?_
    refine Wk.region ?_
    refine Ll.op rfl rfl rfl (OpQ.loadBox (cs := #[i6_ a.n, str a.set, str a.rel]) 1 rfl Tryd.isAgg28 rfl rfl Tryd.sizeOf28) ?_
    refine Ll.op rfl rfl rfl (OpQ.loadBox (cs := #[i6_ b.n, str b.set, str b.rel]) 0 rfl Tryd.isAgg28 rfl rfl Tryd.sizeOf28) ?_
    refine Ll.run 1 rfl ?_
    refine Ll.callGet (σ := Nat × Nat × Array Value × List RR × Nat × Nat × Array Value × List RR × Nat) (ok := fun (gA, cA, uA, rrA, gB, cB, uB, rrB, m) => RowsOk rrA uA cA ∧ RowsOk rrB uB cB ∧ Levs k 2000 a b (rrA.map RR.xs) (rrB.map RR.xs) m (m - 1) ∧ LevEnds k 2000 a b m ∧ m ≤ 2000) (v := fun (gA, cA, uA, rrA, gB, cB, uB, rrB, m) => .tuple #[.slice (some ⟨gA, 0, none⟩) rrA.length cA, .slice (some ⟨gB, 0, none⟩) rrB.length cB]) (xs := [.tmp 24, .tmp 25, .tmp 26, .const (i6_ 2000)]) (vs := [vS a, vS b, i6_ ((k : Int)), i6_ 2000]) (hs' := fun (gA, cA, uA, rrA, gB, cB, uB, rrB, m) => [bk_ p4 #[i6_ b.n, str b.set, str b.rel] 28, bk_ p3 #[i6_ a.n, str a.set, str a.rel] 28] ++ ((gA, .cells uA 24 (0, 0)) :: (gB, .cells uB 24 (0, 0)) :: (rowsB 3 rrA ++ (rowsB 3 rrB ++ [])))) rfl rfl rfl rfl Tryd.call59 rfl (fun w1 hw1 => (l7Levels_ok _ _ _ a b k 2000 w1 hVa hVb h1 h3 (by omega) hw1).mono fun en w' ⟨gA, cA, uA, rrA, gB, cB, uB, rrB, m, h1, h2, h3⟩ => ⟨(gA, cA, uA, rrA, gB, cB, uB, rrB, m), h1, h2, h3.perm (rows_behind2 _ _ _ _ _)⟩) fun ⟨gA, cA, uA, rrA, gB, cB, uB, rrB, m⟩ ⟨hA, hB, hLv, hEn, hm2⟩ => ?_
    have hrA : rrA.length = m + 1 := by simpa using hLv.la
    have hrB : rrB.length = m + 1 := by simpa using hLv.lb
    obtain ⟨K, hK, hl⟩ := hLv.at (Nat.le_refl m)
    rw [xs_at, xs_at] at hl
    have hlA := hl.la
    have hlB := hl.lb
    show Ll _ _ (Own _ _ (_ :: _ :: _ :: _ :: ((rowsB 3 rrA ++ (rowsB 3 rrB ++ []))))) _ _ ((27, .tuple #[sl_ gA rrA.length cA, sl_ gB rrB.length cB]) :: _) _ _ _
    refine Ll.run 1 rfl ?_
    refine Ll.op (v := sl_ gA rrA.length cA) rfl rfl rfl (OpQ.extract rfl rfl rfl) ?_
    refine Ll.op (v := sl_ gB rrB.length cB) rfl rfl rfl (OpQ.extract rfl rfl rfl) ?_
    refine Ll.run 2 rfl ?_
    refine Ll.nil ?_
    refine Kt.sel [7, 8] [_, _] rfl ?_
    refine Wk.seq ?_
    refine Wk.seq ?_
    refine Wk.regionQ ?_
    refine Lq.run 1 rfl ?_
    refine Lq.nil ?_
    refine Kt.sel [7, 8, 9] [_, _, _] rfl ?_
    refine Wk.block ?_
    refine Wk.loop (σ := Nat) (fun n => n ≤ m + 1 ∧ ∀ i : Nat, i < n → pW i a (bes k) b (bes k)) (fun n => [(7, sl_ gA rrA.length cA), (8, sl_ gB rrB.length cB), (9, i6_ ((n : Int)))]) (fun n => Own w.heap.size w (bk_ p4 #[i6_ b.n, str b.set, str b.rel] 28 :: bk_ p3 #[i6_ a.n, str a.set, str a.rel] 28 :: bk_ gA uA 24 :: bk_ gB uB 24 :: ((rowsB 3 rrA ++ (rowsB 3 rrB ++ []))))) (fun n => m + 1 - n) (0) ⟨by omega, fun i hi => absurd hi (by omega)⟩ (Sub.sel [7, 8, 9] rfl) (fun _ h => h) ?_
    rintro n ⟨hn, hall⟩
    refine Wk.seq ?_
    refine Wk.seq ?_
    refine Wk.regionQ ?_
    refine Lq.run 2 rfl ?_
    refine Lq.op rfl rfl rfl (OpQ.lenS rfl Tryd.runUnderlying68 rfl) ?_
    refine Lq.run 1 rfl ?_
    refine Lq.nil ?_
    refine Kt.sel [7, 8, 9, 33] [_, _, _, _] rfl ?_
    refine Wk.cond (b := decide (((n : Int)) < ((rrA.length : Int)))) rfl (fun h33 => ?_) (fun h33 => ?_)
    ·
     replace h33 := of_decide_eq_true h33
     obtain ⟨Kn, hKn, hln⟩ := hLv.at (i := n) (by omega)
     rw [xs_at, xs_at] at hln
     have hnA := hln.la
     have hnB := hln.lb
     have hkA := Nat.pow_pos (n := k) (show 0 < a.n.toNat + 1 by omega)
     have hkB := Nat.pow_pos (n := k) (show 0 < b.n.toNat + 1 by omega)
     refine Wk.skip ?_
     refine Kt.sel [7, 8, 9] [_, _, _] rfl ?_
     refine Wk.seq ?_
     refine Wk.block ?_
     refine Wk.seq ?_
     refine Wk.regionD Base.mixed (fun _ h => h.drawn) (by kernel_rfl) ?_
     refine Lq.run 2 rfl ?_
     refine Lq.op (v := pf_ gA n) rfl rfl rfl (OpQ.cast (v' := pf_ gA n) (by simp) (OpQ.indexAddr1 (i := (n : Int)) rfl Tryd.runUnderlying68 Tryd.sizeOf24 rfl rfl (by omega) (by omega))) ?_
     refine Lq.op (v := rv (rrA.getD n rd)) rfl rfl rfl (OpQ.loadAt (v := rv (rrA.getD n rd)) 2 rfl Tryd.isAgg24 rfl rfl (hA.cell (i := n) (by omega))) ?_
     refine Lq.op (v := .pointer (some (sAt (rv (rrA.getD n rd)) 0))) rfl rfl rfl (OpQ.atRow rfl Tryd.runUnderlying24 Tryd.sizeOf3 rfl rfl (by decide) (by rw [ints_length]; omega) (fun w1 hw1 => Own.ofRows (Own.drop (f := [bk_ p4 #[i6_ b.n, str b.set, str b.rel] 28, bk_ p3 #[i6_ a.n, str a.set, str a.rel] 28, bk_ gA uA 24, bk_ gB uB 24]) hw1) hA.ok (i := n) (by omega))) ?_
     refine Lq.op (v := i6_ ((rrA.getD n rd).xs.getD ((0 : Int).toNat) 0)) rfl rfl rfl (OpQ.load1 rfl Tryd.isAgg3 rfl (fun w1 hw1 => Ints.cell (Own.ofRows (Own.drop (f := [bk_ p4 #[i6_ b.n, str b.set, str b.rel] 28, bk_ p3 #[i6_ a.n, str a.set, str a.rel] 28, bk_ gA uA 24, bk_ gB uB 24]) hw1) hA.ok (i := n) (by omega)) (by decide) (by omega))) ?_
     refine Lq.run 2 rfl ?_
     refine Lq.op (v := pf_ gB n) rfl rfl rfl (OpQ.cast (v' := pf_ gB n) (by simp) (OpQ.indexAddr1 (i := (n : Int)) rfl Tryd.runUnderlying68 Tryd.sizeOf24 rfl rfl (by omega) (by omega))) ?_
     refine Lq.op (v := rv (rrB.getD n rd)) rfl rfl rfl (OpQ.loadAt (v := rv (rrB.getD n rd)) 3 rfl Tryd.isAgg24 rfl rfl (hB.cell (i := n) (by omega))) ?_
     refine Lq.op (v := .pointer (some (sAt (rv (rrB.getD n rd)) 0))) rfl rfl rfl (OpQ.atRow rfl Tryd.runUnderlying24 Tryd.sizeOf3 rfl rfl (by decide) (by rw [ints_length]; omega) (fun w1 hw1 => Own.ofRows (Own.drop (f := rowsB 3 rrA) (Own.drop (f := [bk_ p4 #[i6_ b.n, str b.set, str b.rel] 28, bk_ p3 #[i6_ a.n, str a.set, str a.rel] 28, bk_ gA uA 24, bk_ gB uB 24]) hw1)) hB.ok (i := n) (by omega))) ?_
     refine Lq.op (v := i6_ ((rrB.getD n rd).xs.getD ((0 : Int).toNat) 0)) rfl rfl rfl (OpQ.load1 rfl Tryd.isAgg3 rfl (fun w1 hw1 => Ints.cell (Own.ofRows (Own.drop (f := rowsB 3 rrA) (Own.drop (f := [bk_ p4 #[i6_ b.n, str b.set, str b.rel] 28, bk_ p3 #[i6_ a.n, str a.set, str a.rel] 28, bk_ gA uA 24, bk_ gB uB 24]) hw1)) hB.ok (i := n) (by omega)) (by decide) (by omega))) ?_
     refine Lq.run 1 rfl ?_
     refine Lq.nil ?_
     refine Kt.sel [7, 8, 9, 48] [_, _, _, _] rfl ?_
     refine Wk.cond (b := !(decide (((rrA.getD n rd).xs.getD ((0 : Int).toNat) 0) = ((rrB.getD n rd).xs.getD ((0 : Int).toNat) 0)))) rfl (fun h48 => ?_) (fun h48 => ?_)
     ·
      replace h48 := not_true h48
      replace h48 := of_decide_eq_false h48
      have hno : ¬ pW n a (bes k) b (bes k) := fun e => absurd ((lev_first hln).2 e) (by simpa using h48)
      refine Wk.seq ?_
      refine Wk.regionQ ?_
      refine Lq.run 2 rfl ?_
      refine Lq.nil ?_
      refine Kt.sel [6] [_] rfl ?_
      refine Wk.ret (Kt.end1 rfl rfl fun w' hw => ?_)
      -- ret 1: i6_ ((n : Int))
      exact ⟨ret_i (turnsB_yes hVa hVb h1 h3 (turns_at hno hall)).symm, hw.below⟩
     ·
      replace h48 := not_false h48
      replace h48 := of_decide_eq_true h48
      have hyes : pW n a (bes k) b (bes k) := (lev_first hln).1 (by simpa using h48)
      refine Wk.skip ?_
      refine Kt.sel [7, 8, 9] [_, _, _] rfl ?_
      refine Wk.regionQ ?_
      refine Lq.run 1 rfl ?_
      refine Lq.op rfl rfl rfl (OpQ.add rfl rfl rfl (by omega) (by omega)) ?_
      refine Lq.run 1 rfl ?_
      refine Lq.nil ?_
      refine Kt.again (n + 1) ⟨by omega, fun i hi => (Nat.lt_succ_iff_lt_or_eq.1 hi).elim (hall i) (fun e => by subst e; exact hyes)⟩ (by omega) (Sub.sel [7, 8, 9] rfl) (fun _ h => h)
    ·
     replace h33 := of_decide_eq_false h33
     refine Wk.exit rfl ?_
     refine Kt.sel [] [] rfl ?_
     refine Wk.seq ?_
     refine Wk.regionQ ?_
     refine Lq.run 1 rfl ?_
     refine Lq.nil ?_
     refine Kt.sel [6] [_] rfl ?_
     refine Wk.ret (Kt.end1 rfl rfl fun w' hw => ?_)
     -- ret 2: i6_ (-1)
     exact ⟨ret_i (turnsB_yes hVa hVb h1 h3 (levs_never hLv hEn (hall m (by omega)))).symm, hw.below⟩
  ·
   replace hg18 := not_true hg18
   refine Lq.pass rfl rfl rfl ?_
   refine Lq.pass rfl rfl rfl ?_
   refine Lq.pass rfl rfl rfl ?_
   refine Lq.run 1 rfl ?_
   refine Lq.nil ?_
   refine Kt.sel [2, 3, 4, 22] [_, _, _, _] rfl ?_
   refine Wk.condT rfl ?_
   refine Wk.seq ?_
   refine Wk.regionQ ?_
   refine Lq.run 1 rfl ?_
   refine Lq.nil ?_
   refine Kt.sel [6] [_] rfl ?_
   refine Wk.ret (Kt.end1 rfl rfl fun w' hw => ?_)
   -- ret 3: i6_ (-2)
   exact ⟨ret_i (by unfold turnsB; rw [if_neg (by simp_all)]), hw.below⟩
 ·
  replace hg13 := not_true hg13
  refine Lq.pass rfl rfl rfl ?_
  refine Lq.pass rfl rfl rfl ?_
  refine Lq.pass rfl rfl rfl ?_
  refine Lq.run 2 rfl ?_
  refine Lq.pass rfl rfl rfl ?_
  refine Lq.pass rfl rfl rfl ?_
  refine Lq.pass rfl rfl rfl ?_
  refine Lq.run 1 rfl ?_
  refine Lq.nil ?_
  refine Kt.sel [2, 3, 4, 22] [_, _, _, _] rfl ?_
  refine Wk.condT rfl ?_
  refine Wk.seq ?_
  refine Wk.regionQ ?_
  refine Lq.run 1 rfl ?_
  refine Lq.nil ?_
  refine Kt.sel [6] [_] rfl ?_
  refine Wk.ret (Kt.end1 rfl rfl fun w' hw => ?_)
  -- ret 4: i6_ (-2)
  exact ⟨ret_i (by unfold turnsB; rw [if_neg (by simp_all)]), hw.below⟩

end Go.Proofs.YtjcoijejhachhaaDoor
