/-
  Walks: games of pebbles without an end.
-/
import Derived.Test.YtjcoijejhachhaaDoorPlain49
import Derived.Test.YtjcoijejhachhaaDoorPebWM
import Derived.Test.YtjcoijejhachhaaDoorPebLM
import Derived.Test.YtjcoijejhachhaaDoorBase
namespace Go.Proofs.YtjcoijejhachhaaDoor
open Go.RowKit Go.Wk
set_option linter.unusedSimpArgs false

set_option maxHeartbeats 400000 in
/-- impl.PebblesForever|yes -/
theorem iEver_yes (a b : St) (xs ys : List Int) (va vb : Value) (w : World) (hsa : a.Small) (hsb : b.Small) (hva : Ints w va xs) (hvb : Ints w vb ys) (hs1 : xs.length ≤ 140737488355328) (hs2 : ys.length ≤ 140737488355328) (k : Nat) (hk : xs.length = k) (hr : readyB a xs b ys = true) :
    Calls Tryd.prog 29 [vS a, va, vS b, vb].toArray w fun en w' => en = .returned (.bool (pebEverB a xs b ys)) ∧ Below w.heap.size w w' := by
 refine fnStart (n := 29) (e := [(0, vS a), (1, va), (2, vS b), (3, vb)]) Tryd.func29 rfl rfl rfl rfl Ends.both ?_
 obtain ⟨hVa, hVb, h1, h3, hlen, hx, hy⟩ := ready_peb hr
 have hsg := signsB_true (readyB_true hr).2.2.2
 have hst := (ready_state hr).1
 unfold stN at hst
 rw [hk] at h1 h3 hx hy hsg hst
 have hk3 : k ≤ 3 := h3
 have ha := validB_fine hVa
 have hb := validB_fine hVb
 have hm8 := ha.hi
 have hm1 := ha.lo
 have hb8 := hb.hi
 have hb1 := hb.lo
 have hpr := prN_le (a := a) (b := b) (by omega) (by omega)
 have hpp := prN_pos a b
 refine Wk.seq ?_
 refine Wk.region ?_
 refine Ll.box (v := vS a) rfl rfl rfl rfl rfl fun p4 hp4 => ?_
 show Ll _ _ (Own _ _ [_]) _ _ ((4, pt_ p4) :: _) _ _ _
 refine Ll.box (v := vS b) rfl rfl rfl rfl rfl fun p6 hp6 => ?_
 show Ll _ _ (Own _ _ [_, _]) _ _ ((6, pt_ p6) :: _) _ _ _
 refine Ll.run 1 rfl ?_
 refine Ll.nil ?_
 refine Kt.sel [1, 3, 4, 6] [_, _, _, _] rfl ?_
 refine Wk.seq ?_
 refine Wk.region ?_
 refine Ll.op rfl rfl rfl (OpQ.loadBox (cs := #[i6_ a.n, str a.set, str a.rel]) 1 rfl Tryd.isAgg28 rfl rfl Tryd.sizeOf28) ?_
 refine Ll.run 1 rfl ?_
 refine Ll.op rfl rfl rfl (OpQ.loadBox (cs := #[i6_ b.n, str b.set, str b.rel]) 0 rfl Tryd.isAgg28 rfl rfl Tryd.sizeOf28) ?_
 refine Ll.run 1 rfl ?_
 refine Ll.callNew (σ := Nat × Nat × Nat × Array Value × Nat × Nat × Array Value) (ok := fun (p, gf, cf, uf, gw, cw, uw) => (uf.size = cf * 1 ∧ (WL 0 a b k).length ≤ cf ∧ uf.toList.take (WL 0 a b k).length = bools (WL 0 a b k)) ∧ (uw.size = cw * 1 ∧ (WL 0 a b k).length ≤ cw ∧ uw.toList.take (WL 0 a b k).length = bools (WL 0 a b k))) (v := fun (p, gf, cf, uf, gw, cw, uw) => .pointer (some ⟨p, 0, none⟩)) (new := fun (p, gf, cf, uf, gw, cw, uw) => [bk_ p #[i6_ a.n, str a.set, str a.rel, i6_ b.n, str b.set, str b.rel, i6_ ((k : Int)), i6_ (((prN a b : Nat) : Int)), sl_ gf ((WL 0 a b k).length) cf, sl_ gw ((WL 0 a b k).length) cw, bo_ false] 66, bk_ gf uf 4, bk_ gw uw 4]) (hs := [bk_ p6 #[i6_ b.n, str b.set, str b.rel] 28, bk_ p4 #[i6_ a.n, str a.set, str a.rel] 28]) (xs := [.tmp 10, .tmp 11, .tmp 12, .tmp 13]) (vs := [vS a, va, vS b, vb]) rfl rfl rfl rfl Tryd.call56 rfl (fun w1 hw1 => (newPeb_yes a b xs ys va vb w1 hsa hsb (Row.own hva hw1) (Row.own hvb hw1) (by first | (simp; done) | (simp; omega) | omega) (by first | (simp; done) | (simp; omega) | omega) k hk hr).mono fun en w' ⟨p, gf, cf, uf, gw, cw, uw, h1, h2, h3, h4⟩ => ⟨(p, gf, cf, uf, gw, cw, uw), h1, ⟨h2, h3⟩, hw1.merge h4⟩) fun ⟨p, gf, cf, uf, gw, cw, uw⟩ ⟨⟨hcf, hlf, htf⟩, ⟨hcw, hlw, htw⟩⟩ => ?_
 show Ll _ _ (Own _ _ [_, _, _, _, _]) _ _ ((14, pt_ p) :: _) _ _ _
 refine Ll.run 1 rfl ?_
 refine Ll.nil ?_
 refine Kt.sel [1, 3, 9] [_, _, _] rfl ?_
 refine Wk.seq ?_
 refine Wk.seq ?_
 refine Wk.regionQ ?_
 refine Lq.run 1 rfl ?_
 refine Lq.op (v := bo_ false) rfl rfl rfl (OpQ.eqNilP (p := some ⟨p, 0, none⟩) rfl Tryd.underlying61 rfl rfl) ?_
 refine Lq.nil ?_
 refine Kt.sel [1, 3, 9, 16] [_, _, _, _] rfl ?_
 refine Wk.condF rfl ?_
 refine Wk.skip ?_
 refine Kt.sel [1, 3, 9] [_, _, _] rfl ?_
 refine Wk.seq ?_
 refine Wk.block ?_
 refine Wk.loop (σ := Nat × Nat × Nat × Array Value) (fun ⟨n, g, c, u⟩ => (WL n a b k).length ≤ c ∧ u.toList.take (WL n a b k).length = bools (WL n a b k)) (fun ⟨n, g, c, u⟩ => [(1, va), (3, vb), (9, pt_ p)]) (fun ⟨n, g, c, u⟩ => Own w.heap.size w (bk_ p #[i6_ a.n, str a.set, str a.rel, i6_ b.n, str b.set, str b.rel, i6_ ((k : Int)), i6_ (((prN a b : Nat) : Int)), sl_ gf ((WL 0 a b k).length) cf, sl_ g ((WL n a b k).length) c, bo_ false] 66 :: bk_ gf uf 4 :: bk_ g u 4 :: ([bk_ p6 #[i6_ b.n, str b.set, str b.rel] 28, bk_ p4 #[i6_ a.n, str a.set, str a.rel] 28]))) (fun ⟨n, g, c, u⟩ => nT (WL n a b k)) ((0, gw, cw, uw)) ⟨hlw, htw⟩ (Sub.sel [1, 3, 9] rfl) (fun _ h => h) ?_
 rintro ⟨n, g, c, u⟩ ⟨hlu, htu⟩
 dsimp only
 refine Wk.seq ?_
 refine Wk.seq ?_
 refine Wk.region ?_
 refine Ll.run 1 rfl ?_
 refine Ll.callGet (σ := Nat × Nat × Array Value) (ok := fun (g, c', u) => u.size = c' * 1 ∧ (WL (n + 1) a b k).length ≤ c' ∧ u.toList.take (WL (n + 1) a b k).length = bools (WL (n + 1) a b k)) (v := fun _ => .bool (!((WL (n + 1) a b k) == (WL n a b k)))) (xs := [.tmp 17]) (vs := [pt_ p]) (hs' := fun (g, c', u) => (bk_ p #[i6_ a.n, str a.set, str a.rel, i6_ b.n, str b.set, str b.rel, i6_ ((k : Int)), i6_ (((prN a b : Nat) : Int)), sl_ gf ((WL 0 a b k).length) cf, sl_ g ((WL (n + 1) a b k).length) c', bo_ false] 66 :: bk_ gf uf 4 :: bk_ g u 4 :: ([bk_ p6 #[i6_ b.n, str b.set, str b.rel] 28, bk_ p4 #[i6_ a.n, str a.set, str a.rel] 28]))) rfl rfl rfl rfl Tryd.call61 rfl (fun w1 hw1 => (turn_ok _ _ _ a b k n p gf cf uf g c u w1 hVa hVb hk3 hlf htf hlu htu hw1).mono fun en w' ⟨g, c', u, h1, h2, h3⟩ => ⟨(g, c', u), h1, h2, h3⟩) fun ⟨gt, ct, ut⟩ ⟨hcgt, hlgt, htgt⟩ => ?_
 show Ll _ _ (Own _ _ (_ :: _ :: _ :: ([bk_ p6 #[i6_ b.n, str b.set, str b.rel] 28, bk_ p4 #[i6_ a.n, str a.set, str a.rel] 28]))) _ _ ((18, bo_ (!((WL (n + 1) a b k) == (WL n a b k)))) :: _) _ _ _
 refine Ll.nil ?_
 refine Kt.sel [1, 3, 9, 18] [_, _, _, _] rfl ?_
 refine Wk.cond (b := !((WL (n + 1) a b k) == (WL n a b k))) rfl (fun h18 => ?_) (fun h18 => ?_)
 ·
  have hdn := wl_down (n := n) (a := a) (b := b) (k := k) (by simpa using h18)
  refine Wk.skip ?_
  refine Kt.sel [1, 3, 9] [_, _, _] rfl ?_
  refine Wk.block ?_
  refine Wk.skip ?_
  refine Kt.again ((n + 1, gt, ct, ut)) ⟨hlgt, htgt⟩ (by omega) (Sub.sel [1, 3, 9] rfl) (fun _ h => h)
 ·
  have hE : WL (n + 1) a b k = WL n a b k := by simpa using h18
  have hWt : (WL (n + 1) a b k).length = prN a b ^ k := WL_len _ _ _ _
  refine Wk.exit rfl ?_
  refine Kt.sel [1, 3, 9] [_, _, _] rfl ?_
  refine Wk.seq ?_
  refine Wk.regionD Base.mixed (fun _ h => h.drawn) (by kernel_rfl) ?_
  refine Lq.run 1 rfl ?_
  refine Lq.op (v := pt_ p) rfl rfl rfl (OpQ.nilCheck rfl rfl) ?_
  refine Lq.op rfl rfl rfl (OpQ.fieldAddr rfl Tryd.runUnderlying66 rfl Tryd.sizeOf64 rfl rfl) ?_
  refine Lq.op rfl rfl rfl (OpQ.loadOwn 0 rfl Tryd.isAgg64 rfl rfl rfl) ?_
  refine Lq.run 3 rfl ?_
  refine Lq.op (v := i6_ (((stU b.n.toNat (prN a b) xs ys k k : Nat) : Int))) rfl rfl rfl (OpQ.call rfl Tryd.call58 rfl Own.stable (fun w1 hw1 => stateOf_ok a b k p 66 (sl_ gf ((WL 0 a b k).length) cf) (sl_ gt ((WL (n + 1) a b k).length) ct) va vb xs ys w1 (hw1.has 0 _ _ rfl).2 (Row.own hva hw1) (Row.own hvb hw1) hVa hVb hk3 hx hy hsg)) ?_
  refine Lq.op (v := pf_ gt ((((stU b.n.toNat (prN a b) xs ys k k : Nat) : Int)).toNat)) rfl rfl rfl (OpQ.cast (by rw [Nat.zero_add]) (OpQ.indexAddr1 (i := ((stU b.n.toNat (prN a b) xs ys k k : Nat) : Int)) rfl Tryd.runUnderlying64 Tryd.sizeOf4 rfl rfl (by omega) (by omega))) ?_
  refine Lq.op (v := bo_ ((WL (n + 1) a b k).getD ((((stU b.n.toNat (prN a b) xs ys k k : Nat) : Int)).toNat) false)) rfl rfl rfl (OpQ.loadAt 2 rfl Tryd.isAgg4 rfl rfl (cur_at htgt (bools_at (c := (WL (n + 1) a b k)) (off := (((stU b.n.toNat (prN a b) xs ys k k : Nat) : Int)).toNat) (by first | (simp; done) | (simp; omega) | omega)))) ?_
  refine Lq.run 1 rfl ?_
  refine Lq.nil ?_
  refine Kt.sel [8] [_] rfl ?_
  refine Wk.ret (Kt.end1 rfl rfl fun w' hw => ?_)
  -- ret 0: bo_ ((WL (n + 1) a b k).getD ((((stU b.n.toNat (prN a b) xs ys k k : Nat) : Int)).toNat) false)
  subst hk
  exact ⟨ret_b (ever_code hr hE), hw.below⟩

set_option maxHeartbeats 400000 in
/-- impl.PebblesForever|no -/
theorem iEver_no (a b : St) (xs ys : List Int) (va vb : Value) (w : World) (hsa : a.Small) (hsb : b.Small) (hva : Ints w va xs) (hvb : Ints w vb ys) (hs1 : xs.length ≤ 140737488355328) (hs2 : ys.length ≤ 140737488355328) (hr : readyB a xs b ys = false) :
    Calls Tryd.prog 29 [vS a, va, vS b, vb].toArray w fun en w' => en = .returned (.bool (pebEverB a xs b ys)) ∧ Below w.heap.size w w' := by
 refine fnStart (n := 29) (e := [(0, vS a), (1, va), (2, vS b), (3, vb)]) Tryd.func29 rfl rfl rfl rfl Ends.both ?_
 refine Wk.seq ?_
 refine Wk.region ?_
 refine Ll.box (v := vS a) rfl rfl rfl rfl rfl fun p4 hp4 => ?_
 show Ll _ _ (Own _ _ [_]) _ _ ((4, pt_ p4) :: _) _ _ _
 refine Ll.box (v := vS b) rfl rfl rfl rfl rfl fun p6 hp6 => ?_
 show Ll _ _ (Own _ _ [_, _]) _ _ ((6, pt_ p6) :: _) _ _ _
 refine Ll.run 1 rfl ?_
 refine Ll.nil ?_
 refine Kt.sel [1, 3, 4, 6] [_, _, _, _] rfl ?_
 refine Wk.seq ?_
 refine Wk.region ?_
 refine Ll.op rfl rfl rfl (OpQ.loadBox (cs := #[i6_ a.n, str a.set, str a.rel]) 1 rfl Tryd.isAgg28 rfl rfl Tryd.sizeOf28) ?_
 refine Ll.run 1 rfl ?_
 refine Ll.op rfl rfl rfl (OpQ.loadBox (cs := #[i6_ b.n, str b.set, str b.rel]) 0 rfl Tryd.isAgg28 rfl rfl Tryd.sizeOf28) ?_
 refine Ll.run 1 rfl ?_
 refine Ll.op (v := .pointer none) rfl rfl rfl (OpQ.call rfl Tryd.call56 rfl Own.stable (fun w1 hw1 => newPeb_no a b xs ys va vb w1 hsa hsb (Row.own hva hw1) (Row.own hvb hw1) (by first | (simp; done) | (simp; omega) | omega) (by first | (simp; done) | (simp; omega) | omega) hr)) ?_
 refine Ll.run 1 rfl ?_
 refine Ll.nil ?_
 refine Kt.sel [1, 3, 9] [_, _, _] rfl ?_
 refine Wk.seq ?_
 refine Wk.seq ?_
 refine Wk.regionQ ?_
 refine Lq.run 1 rfl ?_
 refine Lq.op (v := bo_ true) rfl rfl rfl (OpQ.eqNilP (p := none) rfl Tryd.underlying61 rfl rfl) ?_
 refine Lq.nil ?_
 refine Kt.sel [1, 3, 9, 16] [_, _, _, _] rfl ?_
 refine Wk.condT rfl ?_
 refine Wk.seq ?_
 refine Wk.regionQ ?_
 refine Lq.run 1 rfl ?_
 refine Lq.nil ?_
 refine Kt.sel [8] [_] rfl ?_
 refine Wk.ret (Kt.end1 rfl rfl fun w' hw => ?_)
 -- ret 0: bo_ false
 exact ⟨ret_b (by unfold pebEverB; rw [hr]; rfl), hw.below⟩

theorem iEver_ok (a b : St) (xs ys : List Int) (va vb : Value) (w : World) (hsa : a.Small) (hsb : b.Small) (hva : Ints w va xs) (hvb : Ints w vb ys) (hs1 : xs.length ≤ 140737488355328) (hs2 : ys.length ≤ 140737488355328) :
    Calls Tryd.prog 29 #[vS a, va, vS b, vb] w fun en w' => en = .returned (.bool (pebEverB a xs b ys)) ∧ Below w.heap.size w w' := by
  cases hr : readyB a xs b ys with
  | true => exact iEver_yes a b xs ys va vb w hsa hsb hva hvb hs1 hs2 xs.length rfl hr
  | false => exact iEver_no a b xs ys va vb w hsa hsb hva hvb hs1 hs2 hr

set_option maxHeartbeats 400000 in
/-- spec.PebblesForever -/
theorem sEver_ok (a b : St) (xs ys : List Int) (va vb : Value) (w : World) (hsa : a.Small) (hsb : b.Small) (hva : Ints w va xs) (hvb : Ints w vb ys) (hs1 : xs.length ≤ 140737488355328) (hs2 : ys.length ≤ 140737488355328) (loa : -9223372036854775808 ≤ a.n) (hia : a.n ≤ 9223372036854775807) (lob : -9223372036854775808 ≤ b.n) (hib : b.n ≤ 9223372036854775807) :
    Calls Tryd.prog 28 [vS a, va, vS b, vb].toArray w fun en w' => en = .returned (.bool (pebEverB a xs b ys)) ∧ Below w.heap.size w w' := by
 refine fnStart (n := 21) (e := [(0, vS a), (1, va), (2, vS b), (3, vb)]) Tryd.func28 rfl rfl rfl rfl Ends.both ?_
 refine Wk.seq ?_
 refine Wk.region ?_
 refine Ll.box (v := vS a) rfl rfl rfl rfl rfl fun p4 hp4 => ?_
 show Ll _ _ (Own _ _ [_]) _ _ ((4, pt_ p4) :: _) _ _ _
 refine Ll.box (v := vS b) rfl rfl rfl rfl rfl fun p6 hp6 => ?_
 show Ll _ _ (Own _ _ [_, _]) _ _ ((6, pt_ p6) :: _) _ _ _
 refine Ll.run 1 rfl ?_
 refine Ll.nil ?_
 refine Kt.sel [1, 3, 4, 6] [_, _, _, _] rfl ?_
 refine Wk.seq ?_
 refine Wk.regionQ ?_
 refine Lq.op rfl rfl rfl (OpQ.loadBox (cs := #[i6_ a.n, str a.set, str a.rel]) 1 rfl Tryd.isAgg28 rfl rfl Tryd.sizeOf28) ?_
 refine Lq.run 1 rfl ?_
 refine Lq.op rfl rfl rfl (OpQ.loadBox (cs := #[i6_ b.n, str b.set, str b.rel]) 0 rfl Tryd.isAgg28 rfl rfl Tryd.sizeOf28) ?_
 refine Lq.run 1 rfl ?_
 refine Lq.op (v := bo_ (readyB a xs b ys)) rfl rfl rfl (OpQ.call rfl Tryd.call54 rfl Own.stable (fun w1 hw1 => l7Ready_ok a b xs ys va vb w1 hsa hsb (Row.own hva hw1) (Row.own hvb hw1) (by first | (simp; done) | (simp; omega) | omega) (by first | (simp; done) | (simp; omega) | omega) loa hia lob hib)) ?_
 refine Lq.run 1 rfl ?_
 refine Lq.bool fun b14 hg14 => ?_
 cases b14
 ·
  refine Lq.pass rfl rfl rfl ?_
  refine Lq.pass rfl rfl rfl ?_
  refine Lq.pass rfl rfl rfl ?_
  refine Lq.pass rfl rfl rfl ?_
  refine Lq.pass rfl rfl rfl ?_
  refine Lq.run 2 rfl ?_
  refine Lq.nil ?_
  refine Kt.sel [8] [_] rfl ?_
  refine Wk.ret (Kt.end1 rfl rfl fun w' hw => ?_)
  -- ret 0: bo_ false
  exact ⟨ret_b (by unfold pebEverB; simp [*]), hw.below⟩
 ·
  refine Lq.op rfl rfl rfl (OpQ.loadBox (cs := #[i6_ a.n, str a.set, str a.rel]) 1 rfl Tryd.isAgg28 rfl rfl Tryd.sizeOf28) ?_
  refine Lq.run 1 rfl ?_
  refine Lq.op rfl rfl rfl (OpQ.loadBox (cs := #[i6_ b.n, str b.set, str b.rel]) 0 rfl Tryd.isAgg28 rfl rfl Tryd.sizeOf28) ?_
  refine Lq.run 1 rfl ?_
  refine Lq.op (v := bo_ (pWinB ((2000 : Int).toNat) a xs b ys)) rfl rfl rfl (OpQ.call rfl Tryd.call55 rfl Own.stable (fun w1 hw1 => l7Wins_at a b va vb xs ys 2000 w1 (Row.own hva hw1) (Row.own hvb hw1) (by assumption) (by omega) (.inr rfl))) ?_
  refine Lq.run 2 rfl ?_
  refine Lq.nil ?_
  refine Kt.sel [8] [_] rfl ?_
  refine Wk.ret (Kt.end1 rfl rfl fun w' hw => ?_)
  -- ret 1: bo_ (pWinB ((2000 : Int).toNat) a xs b ys)
  exact ⟨ret_b (by unfold pebEverB; simp [*]), hw.below⟩

end Go.Proofs.YtjcoijejhachhaaDoor
