/-
  Walks: orbits.
-/
import Derived.Test.YtmannilblelfjaaDoorPlain36
import Derived.Test.YtmannilblelfjaaDoorShapeM
import Derived.Test.YtmannilblelfjaaDoorBase
namespace Go.Proofs.YtmannilblelfjaaDoor
open Go.RowKit Go.Wk
set_option linter.unusedSimpArgs false

set_option maxHeartbeats 400000 in
/-- impl.hasElement -/
theorem hasEl_ok (a : St) (x : Int) (w : World) (hsa : a.Small) :
    Calls Tryd.prog 106 [vS a, i6_ x].toArray w fun en w' => en = .returned (.bool (validB a && elB a x)) ∧ Below w.heap.size w w' := by
 refine fnStart (n := 17) (e := [(0, vS a), (1, i6_ x)]) Tryd.func106 rfl rfl rfl rfl Ends.both ?_
 refine Wk.seq ?_
 refine Wk.region ?_
 refine Ll.box (v := vS a) rfl rfl rfl rfl rfl fun p2 hp2 => ?_
 show Ll _ _ (Own _ _ [_]) _ _ ((2, pt_ p2) :: _) _ _ _
 refine Ll.run 1 rfl ?_
 refine Ll.nil ?_
 refine Kt.sel [1, 2] [_, _] rfl ?_
 refine Wk.seq ?_
 refine Wk.regionQ ?_
 refine Lq.op rfl rfl rfl (OpQ.loadBox (cs := #[i6_ a.n, str a.set, str a.rel]) 0 rfl Tryd.isAgg24 rfl rfl Tryd.sizeOf24) ?_
 refine Lq.op (v := bo_ (validB a)) rfl rfl rfl (OpQ.call rfl Tryd.call68 rfl Own.stable (fun w1 hw1 => isStructure_ok a w1 hsa)) ?_
 refine Lq.run 1 rfl ?_
 refine Lq.bool fun b7 hg7 => ?_
 cases b7
 ·
  refine Lq.pass rfl rfl rfl ?_
  refine Lq.pass rfl rfl rfl ?_
  refine Lq.run 2 rfl ?_
  refine Lq.pass rfl rfl rfl ?_
  refine Lq.pass rfl rfl rfl ?_
  refine Lq.pass rfl rfl rfl ?_
  refine Lq.pass rfl rfl rfl ?_
  refine Lq.run 2 rfl ?_
  refine Lq.nil ?_
  refine Kt.sel [4] [_] rfl ?_
  refine Wk.ret (Kt.end1 rfl rfl fun w' hw => ?_)
  -- ret 0: bo_ false
  exact ⟨ret_b (by unfold elB; first | (simp_all; done) | (simp_all; omega)), hw.below⟩
 ·
  refine Lq.run 4 rfl ?_
  refine Lq.bool fun b11 hg11 => ?_
  cases b11
  ·
   replace hg11 := of_decide_eq_false hg11
   refine Lq.pass rfl rfl rfl ?_
   refine Lq.pass rfl rfl rfl ?_
   refine Lq.pass rfl rfl rfl ?_
   refine Lq.pass rfl rfl rfl ?_
   refine Lq.run 2 rfl ?_
   refine Lq.nil ?_
   refine Kt.sel [4] [_] rfl ?_
   refine Wk.ret (Kt.end1 rfl rfl fun w' hw => ?_)
   -- ret 1: bo_ false
   exact ⟨ret_b (by unfold elB; first | (simp_all; done) | (simp_all; omega)), hw.below⟩
  ·
   replace hg11 := of_decide_eq_true hg11
   refine Lq.run 1 rfl ?_
   refine Lq.op rfl rfl rfl (OpQ.fieldAddr rfl Tryd.runUnderlying24 rfl Tryd.sizeOf3 rfl rfl) ?_
   refine Lq.op rfl rfl rfl (OpQ.loadOwn 0 rfl Tryd.isAgg3 rfl rfl rfl) ?_
   refine Lq.run 3 rfl ?_
   refine Lq.nil ?_
   refine Kt.sel [4] [_] rfl ?_
   refine Wk.ret (Kt.end1 rfl rfl fun w' hw => ?_)
   -- ret 2: bo_ (decide (x < a.n))
   exact ⟨ret_b (by unfold elB; first | (simp_all; done) | (simp_all; omega)), hw.below⟩

set_option maxHeartbeats 400000 in
/-- impl.orbitOf$1 -/
theorem mark_ok (B : Nat) (w0 : World) (p5 p11 p3 n : Nat) (x : Int) (bs : List Bool) (fr : List (Nat × Obj)) (v : Value) (os : List Int) (w : World) (hva : ∀ w, Own B w0 (bk_ p5 #[sl_ p11 n n] 108 :: bk_ p3 #[i6_ x] 3 :: fr) w → Ints w v os) (hx0 : 0 ≤ x) (hx1 : x < os.length) (hs : os.length ≤ 8) (hn : bs.length = n) (hel : ∀ o ∈ os, 0 ≤ o ∧ o < (n : Int)) (hw : Own B w0 (bk_ p5 #[sl_ p11 n n] 108 :: bk_ p11 ((bs.map Value.bool).toArray) 4 :: bk_ p3 #[i6_ x] 3 :: fr) w) :
    Calls Tryd.prog 147 [v, pt_ p5, pt_ p3].toArray w fun en w' => en = .returned (.bool true) ∧ Own B w0 (bk_ p5 #[sl_ p11 n n] 108 :: bk_ p11 (((bs.set (os.getD x.toNat 0).toNat true).map Value.bool).toArray) 4 :: bk_ p3 #[i6_ x] 3 :: fr) w' := by
 refine fnStartC (Own B w0 (bk_ p5 #[sl_ p11 n n] 108 :: bk_ p11 ((bs.map Value.bool).toArray) 4 :: bk_ p3 #[i6_ x] 3 :: fr)) (n := 11) (e := [(0, v), (1, pt_ p5), (2, pt_ p3)]) Tryd.func147 rfl rfl rfl rfl Ends.both hw ?_
 have hm : 0 ≤ os.getD x.toNat 0 ∧ os.getD x.toNat 0 < (n : Int) := by rw [getD_at (by omega)]; exact hel _ (List.getElem_mem _)
 refine Wk.seq ?_
 refine Wk.regionQ ?_
 refine Lq.run 1 rfl ?_
 refine Lq.nil ?_
 refine Kt.sel [0, 1, 2] [_, _, _] rfl ?_
 refine Wk.seq ?_
 refine Wk.regionS (S := Own B w0 (bk_ p5 #[sl_ p11 n n] 108 :: bk_ p3 #[i6_ x] 3 :: fr)) [(0, true), (1, true), (2, true), (3, true), (4, true), (5, true), (6, false)] Base.mixed (fun _ h => h.drawn) (by kernel_rfl) ?_
 refine Ld.take rfl rfl rfl rfl rfl (OpQ.loadOwn 0 rfl Tryd.isAgg108 rfl rfl rfl) (fun _ h => Own.pickT (hs := [_, _, _]) (hs' := [_, _]) h [0, 2] rfl (by decide)) ?_
 refine Ld.run 1 rfl (fun _ h => Own.pickT (hs := [_, _, _]) (hs' := [_, _]) h [0, 2] rfl (by decide)) ?_
 refine Ld.take rfl rfl rfl rfl rfl (OpQ.loadOwn 1 rfl Tryd.isAgg3 rfl rfl rfl) (fun _ h => Own.pickT (hs := [_, _, _]) (hs' := [_, _]) h [0, 2] rfl (by decide)) ?_
 refine Ld.take (v := .pointer (some (sAt v x))) rfl rfl rfl rfl rfl (OpQ.atRow rfl Tryd.runUnderlying25 Tryd.sizeOf3 rfl rfl (by omega) (by rw [ints_length]; omega) (fun w1 hw1 => hva _ hw1)) (fun _ h => Own.pickT (hs := [_, _, _]) (hs' := [_, _]) h [0, 2] rfl (by decide)) ?_
 refine Ld.take (v := i6_ (os.getD ((x).toNat) 0)) rfl rfl rfl rfl rfl (OpQ.load1 rfl Tryd.isAgg3 rfl (fun w1 hw1 => Ints.cell (hva _ hw1) (by omega) (by omega))) (fun _ h => Own.pickT (hs := [_, _, _]) (hs' := [_, _]) h [0, 2] rfl (by decide)) ?_
 refine Ld.take (v := pf_ p11 ((os.getD ((x).toNat) 0).toNat)) rfl rfl rfl rfl rfl (OpQ.cast (by rw [Nat.zero_add]) (OpQ.indexAddr1 (i := os.getD ((x).toNat) 0) rfl Tryd.runUnderlying108 Tryd.sizeOf4 rfl rfl (by omega) (by omega))) (fun _ h => Own.pickT (hs := [_, _, _]) (hs' := [_, _]) h [0, 2] rfl (by decide)) ?_
 refine Ld.loud rfl ?_
 refine Ll.store1 (v := bo_ true) (hs' := (_ :: bk_ p11 (((bs.map Value.bool).set ((os.getD ((x).toNat) 0).toNat) (bo_ true)).toArray) 4 :: _ :: fr)) 1 rfl rfl rfl rfl rfl rfl Tryd.sizeOf4 rfl (by rw [List.size_toArray, List.length_map]; omega) (by first | (rw [list_set]; rfl) | (simp only [Nat.zero_add]; rw [list_set]; rfl)) ?_
 refine Ll.nil (Ld.joint (fun _ h => Own.pickT (hs := [_, _, _]) (hs' := [_, _]) h [0, 2] rfl (by decide)) ?_)
 refine Ld.nil ?_
 refine Kt.sel [] [] rfl ?_
 refine Wk.seq ?_
 refine Wk.regionQ ?_
 refine Lq.run 1 rfl ?_
 refine Lq.nil ?_
 refine Kt.sel [4] [_] rfl ?_
 refine Wk.ret (Kt.end1 rfl rfl fun w' hw => ?_)
 -- ret 0: bo_ true
 exact ⟨rfl, by rw [List.map_set]; exact hw⟩

theorem orbTells (a : St) (ha : a.Fine) (x : Int) (hx : a.El x) (B : Nat) (w0 : World) (p5 p11 p3 : Nat) (rest : List (Nat × Obj)) : Tells Tryd.prog 147 #[.pointer (some ⟨p5, 0, none⟩), .pointer (some ⟨p3, 0, none⟩)] a a B w0 (fun (bs : List Bool) (_ : Unit) => (bk_ p5 #[sl_ p11 a.n.toNat a.n.toNat] 108 :: bk_ p11 ((bs.map Value.bool).toArray) 4 :: bk_ p3 #[i6_ x] 3 :: rest)) (fun bs _ => bs.length = a.n.toNat) (orbStep x) := by
  intro fr v os t al w hok hv hl _ hA hw
  have h8 := ha.hi
  have pm : ∀ t : List Bool, (fr ++ (bk_ p5 #[sl_ p11 a.n.toNat a.n.toNat] 108 :: bk_ p11 ((t.map Value.bool).toArray) 4 :: bk_ p3 #[i6_ x] 3 :: rest)).Perm (bk_ p5 #[sl_ p11 a.n.toNat a.n.toNat] 108 :: bk_ p11 ((t.map Value.bool).toArray) 4 :: bk_ p3 #[i6_ x] 3 :: (fr ++ rest)) := fun t => List.perm_append_comm_assoc fr [_, _, _] rest
  refine (mark_ok B w0 p5 p11 p3 a.n.toNat x t (fr ++ rest) v os w (fun w h => hv w (Own.dropR (Own.drop (f := [_, _]) h))) hx.1 (by have := hx.2; omega) (by omega) hok (fun o ho => by have := hA o ho; exact ⟨this.1, by have := this.2; omega⟩) (hw.perm (pm t))).mono fun en w' ⟨h1, h2⟩ => ?_
  exact ⟨(), h1, by show (t.set _ _).length = _; rw [List.length_set]; exact hok, h2.perm (pm _).symm⟩

set_option maxHeartbeats 400000 in
/-- impl.orbitOf -/
theorem orbit_ok (a : St) (x : Int) (B : Nat) (w0 : World) (hs : List (Nat × Obj)) (w : World) (ha : a.Fine) (hx : a.El x) (hw : Own B w0 hs w) :
    Calls Tryd.prog 107 [vS a, i6_ x].toArray w fun en w' => ∃ (zs : List Int) (g c : Nat) (u : Array Value), en = .returned (.slice (some ⟨g, 0, none⟩) zs.length c) ∧ ((u.size = c * 1 ∧ zs.length ≤ c ∧ u.toList.take zs.length = ints zs) ∧ zs.length ≤ 8 ∧ ∀ z ∈ zs, a.El z ∧ Moved a x z) ∧ Own B w0 ((g, .cells u 3 (0, 0)) :: hs) w' := by
 refine fnStartC (Own B w0 hs) (n := 31) (e := [(0, vS a), (1, i6_ x)]) Tryd.func107 rfl rfl rfl rfl Ends.both hw ?_
 have hm8 := ha.hi
 have hm1 := ha.lo
 refine Wk.seq ?_
 refine Wk.region ?_
 refine Ll.box (v := vS a) rfl rfl rfl rfl rfl fun p2 hp2 => ?_
 show Ll _ _ (Own _ _ (_ :: hs)) _ _ ((2, pt_ p2) :: _) _ _ _
 refine Ll.box (v := i6_ x) rfl rfl rfl rfl rfl fun p3 hp3 => ?_
 show Ll _ _ (Own _ _ (_ :: _ :: hs)) _ _ ((3, pt_ p3) :: _) _ _ _
 refine Ll.run 1 rfl ?_
 refine Ll.nil ?_
 refine Kt.sel [2, 3] [_, _] rfl ?_
 refine Wk.seq ?_
 refine Wk.region ?_
 refine Ll.op rfl rfl rfl (OpQ.fieldAddr rfl Tryd.runUnderlying24 rfl Tryd.sizeOf3 rfl rfl) ?_
 refine Ll.op rfl rfl rfl (OpQ.loadOwn 1 rfl Tryd.isAgg3 rfl rfl rfl) ?_
 refine Ll.make (k := a.n.toNat) Base.elem108 Tryd.zeroValue4 rfl rfl rfl rfl (by rw [Int.toNat_of_nonneg (by omega)]; rfl) (by omega) fun p11 hp11 => ?_
 rw [show madeCells (Value.cells (bo_ false)) (a.n.toNat * 1) = (List.replicate a.n.toNat (bo_ false)).toArray from made_list _ _ rfl]
 refine Ll.alloc rfl rfl rfl rfl Tryd.zeroValue108 fun p5 hp5 => ?_
 show Ll _ _ (Own _ _ (bk_ p5 #[.slice none 0 0] 108 :: _ :: _ :: _ :: hs)) _ _ ((5, pt_ p5) :: _) _ _ _
 refine Ll.store1 (v := sl_ p11 a.n.toNat a.n.toNat) (hs' := (bk_ p5 #[sl_ p11 a.n.toNat a.n.toNat] 108 :: _ :: _ :: _ :: hs)) 0 rfl rfl rfl rfl rfl rfl Tryd.sizeOf108 rfl (by simp) rfl ?_
 refine Ll.nil ?_
 refine Kt.sel [2, 3, 5] [_, _, _] rfl ?_
 refine Wk.seq ?_
 refine Wk.region ?_
 refine Ll.op rfl rfl rfl (OpQ.loadBox (cs := #[i6_ a.n, str a.set, str a.rel]) 3 rfl Tryd.isAgg24 rfl rfl Tryd.sizeOf24) ?_
 refine Ll.op rfl rfl rfl (OpQ.loadBox (cs := #[i6_ a.n, str a.set, str a.rel]) 3 rfl Tryd.isAgg24 rfl rfl Tryd.sizeOf24) ?_
 refine Ll.op (v := .func (.func 147) #[] #[pt_ p5, pt_ p3]) rfl rfl rfl (OpQ.func' (cap := [.tmp 5, .tmp 3]) rfl rfl) ?_
 refine Ll.callGet (σ := Unit) (ok := fun _ => True) (v := fun _ => .tuple #[]) (hs' := fun _ => (bk_ p5 #[sl_ p11 a.n.toNat a.n.toNat] 108 :: bk_ p11 ((((shS a a (orbStep x) a.n.toNat [] (List.replicate a.n.toNat false)).1).map Value.bool).toArray) 4 :: bk_ p3 #[i6_ x] 3 :: (bk_ p2 #[i6_ a.n, str a.set, str a.rel] 24 :: hs))) (xs := [.tmp 12, .tmp 13, .tmp 14]) (vs := [vS a, vS a, .func (.func 147) #[] #[pt_ p5, pt_ p3]]) rfl rfl rfl rfl Tryd.call112 rfl (fun w1 hw1 => (eachShape_ok a a (fun (bs : List Bool) (_ : Unit) => (bk_ p5 #[sl_ p11 a.n.toNat a.n.toNat] 108 :: bk_ p11 ((bs.map Value.bool).toArray) 4 :: bk_ p3 #[i6_ x] 3 :: (bk_ p2 #[i6_ a.n, str a.set, str a.rel] 24 :: hs))) (fun bs _ => bs.length = a.n.toNat) (orbStep x) 147 #[.pointer (some ⟨p5, 0, none⟩), .pointer (some ⟨p3, 0, none⟩)] B w0 Tryd.call147 (orbTells a ha x hx B w0 p5 p11 p3 (bk_ p2 #[i6_ a.n, str a.set, str a.rel] 24 :: hs)) ha ha rfl (List.replicate a.n.toNat false) () w1 (by simp) (by rw [List.map_replicate]; exact hw1)).mono fun en w' ⟨al, h1, _, h2⟩ => ⟨al, h1, trivial, h2⟩) fun _ _ => ?_
 obtain ⟨bs, hbs⟩ : ∃ bs, bs = (shS a a (orbStep x) a.n.toNat [] (List.replicate a.n.toNat false)).1 := ⟨_, rfl⟩
 rw [← hbs]
 have hI : OrbI a x bs := hbs ▸ orb_inv ha hx
 have hbl := hI.1
 show Ll _ _ (Own _ _ (_ :: _ :: _ :: _ :: hs)) _ _ _ _ _ _
 refine Ll.nil ?_
 refine Kt.sel [5] [_] rfl ?_
 refine Wk.seq ?_
 refine Wk.region ?_
 refine Ll.slice (xs := []) (vs := []) Base.elem25 rfl rfl rfl rfl rfl rfl (by decide) rfl fun p16 hp16 => ?_
 refine Ll.run 1 rfl ?_
 refine Ll.nil ?_
 refine Kt.sel [5, 6] [_, _] rfl ?_
 refine Wk.seq ?_
 refine Wk.seq ?_
 refine Wk.regionQ ?_
 refine Lq.op rfl rfl rfl (OpQ.loadOwn 1 rfl Tryd.isAgg108 rfl rfl rfl) ?_
 refine Lq.op rfl rfl rfl (OpQ.lenS rfl Tryd.runUnderlying108 rfl) ?_
 refine Lq.run 1 rfl ?_
 refine Lq.nil ?_
 refine Kt.sel [6, 17, 18, 19] [_, _, _, _] rfl ?_
 refine Wk.block ?_
 refine Wk.loop (σ := Nat × Nat × Nat × Array Value) (fun ⟨k, g, c, u⟩ => k ≤ a.n.toNat ∧ (u.size = c * 1 ∧ (trueTo bs k).length ≤ c ∧ u.toList.take (trueTo bs k).length = ints (trueTo bs k))) (fun ⟨k, g, c, u⟩ => [(6, sl_ g ((trueTo bs k).length) c), (17, sl_ p11 a.n.toNat a.n.toNat), (18, i6_ ((a.n.toNat : Int))), (19, i6_ ((k : Int)))]) (fun ⟨k, g, c, u⟩ => Own B w0 (bk_ g u 3 :: bk_ p5 #[sl_ p11 a.n.toNat a.n.toNat] 108 :: bk_ p11 ((bs.map Value.bool).toArray) 4 :: bk_ p3 #[i6_ x] 3 :: bk_ p2 #[i6_ a.n, str a.set, str a.rel] 24 :: hs)) (fun ⟨k, g, c, u⟩ => a.n.toNat - k) ((0, p16, 0, #[])) ⟨by omega, ⟨rfl, Nat.le_refl 0, rfl⟩⟩ (Sub.cons (by rfl) (Sub.sel [17, 18, 19] rfl)) (fun _ h => h) ?_
 rintro ⟨k, g, c, u⟩ ⟨hk, ⟨hcg, hlg, htg⟩⟩
 dsimp only
 have htl := true_le bs k
 refine Wk.seq ?_
 refine Wk.regionQ ?_
 refine Lq.run 1 rfl ?_
 refine Lq.nil ?_
 refine Kt.sel [6, 17, 18, 19, 20] [_, _, _, _, _] rfl ?_
 refine Wk.seq ?_
 refine Wk.cond (b := decide (((k : Int)) < ((a.n.toNat : Int)))) rfl (fun h20 => ?_) (fun h20 => ?_)
 ·
  replace h20 := of_decide_eq_true h20
  refine Wk.skip ?_
  refine Kt.sel [6, 17, 18, 19] [_, _, _, _] rfl ?_
  refine Wk.seq ?_
  refine Wk.block ?_
  refine Wk.seq ?_
  refine Wk.regionQ ?_
  refine Lq.run 1 rfl ?_
  refine Lq.op (v := pf_ p11 (((k : Int)).toNat)) rfl rfl rfl (OpQ.cast (by rw [Nat.zero_add]) (OpQ.indexAddr1 (i := (k : Int)) rfl Tryd.runUnderlying108 Tryd.sizeOf4 rfl rfl (by omega) (by omega))) ?_
  refine Lq.op (v := bo_ (bs.getD (((k : Int)).toNat) false)) rfl rfl rfl (OpQ.loadAt 2 rfl Tryd.isAgg4 rfl rfl (cur_at (bools_all bs) (bools_at (c := bs) (off := ((k : Int)).toNat) (by first | (simp; done) | (simp; omega) | omega)))) ?_
  refine Lq.run 2 rfl ?_
  refine Lq.nil ?_
  refine Kt.sel [6, 7, 8, 17, 18, 19] [_, _, _, _, _, _] rfl ?_
  refine Wk.seq ?_
  refine Wk.regionQ ?_
  refine Lq.run 1 rfl ?_
  refine Lq.nil ?_
  refine Kt.sel [6, 7, 17, 18, 19, 24] [_, _, _, _, _, _] rfl ?_
  refine Wk.cond (b := bs.getD (((k : Int)).toNat) false) rfl (fun h24 => ?_) (fun h24 => ?_)
  ·
   refine Wk.region ?_
   refine Ll.run 2 rfl ?_
   refine Ll.slice (xs := [.tmp 26]) (vs := [i6_ ((k : Int))]) Base.elem25 rfl rfl rfl rfl rfl rfl (by decide) rfl fun p27 hp27 => ?_
   refine Ll.appendInts (xs := (trueTo bs k)) (ys := [(k : Int)]) Base.elem25 1 rfl rfl rfl rfl rfl rfl rfl hcg hlg htg (fun w1 hw1 => (Own.row hw1 (i := 0) rfl (n := 1) (cap := 1) (vs := ints [(k : Int)]) rfl rfl (by decide))) ((((trueTo bs k)) ++ ([(k : Int)])).length) (by first | (simp; done) | (simp; omega)) (by first | (simp; done) | (simp; omega) | omega) fun p28 cap28 cur28 hp28 hcp28 hlp28 htp28 => ?_
   show Ll _ _ (Own _ _ (_ :: _ :: _ :: _ :: _ :: _ :: hs)) _ _ ((28, sl_ p28 (((((trueTo bs k)) ++ ([(k : Int)])).length)) cap28) :: _) _ _ _
   refine Ll.run 1 rfl ?_
   refine Ll.nil ?_
   refine Kt.sel [6, 17, 18, 19] [_, _, _, _] rfl ?_
   refine Wk.regionQ ?_
   refine Lq.op rfl rfl rfl (OpQ.add rfl rfl rfl (by omega) (by omega)) ?_
   refine Lq.run 1 rfl ?_
   refine Lq.nil ?_
   refine Kt.again ((k + 1, p28, cap28, cur28)) ⟨by omega, ⟨by simpa using hcp28, by dsimp only; rw [true_yes (k := k) (by simpa using h24)]; simpa using hlp28, by dsimp only; rw [true_yes (k := k) (by simpa using h24)]; simpa using htp28⟩⟩ (by omega) (Sub.cons (by dsimp only; rw [true_yes (k := k) (by simpa using h24)]; rfl) (Sub.sel [17, 18, 19] rfl)) (fun _ h => h.sub (List.Sublist.cons _ (List.Sublist.cons_cons _ (List.Sublist.cons_cons _ (List.Sublist.cons_cons _ (List.Sublist.cons_cons _ (List.Sublist.cons_cons _ (List.Sublist.refl _))))))))
  ·
   refine Wk.skip ?_
   refine Kt.sel [6, 17, 18, 19] [_, _, _, _] rfl ?_
   refine Wk.regionQ ?_
   refine Lq.op rfl rfl rfl (OpQ.add rfl rfl rfl (by omega) (by omega)) ?_
   refine Lq.run 1 rfl ?_
   refine Lq.nil ?_
   refine Kt.again ((k + 1, g, c, u)) ⟨by omega, ⟨hcg, by dsimp only; rw [true_no (k := k) (by simpa using h24)]; exact hlg, by dsimp only; rw [true_no (k := k) (by simpa using h24)]; exact htg⟩⟩ (by omega) (Sub.cons (by dsimp only; rw [true_no (k := k) (by simpa using h24)]; rfl) (Sub.sel [17, 18, 19] rfl)) (fun _ h => h.sub (List.Sublist.cons_cons _ (List.Sublist.cons_cons _ (List.Sublist.cons_cons _ (List.Sublist.cons_cons _ (List.Sublist.cons_cons _ (List.Sublist.refl _)))))))
 ·
  replace h20 := of_decide_eq_false h20
  refine Wk.exit rfl ?_
  refine Kt.sel [6] [_] rfl ?_
  refine Wk.seq ?_
  refine Wk.regionQ ?_
  refine Lq.run 2 rfl ?_
  refine Lq.nil ?_
  refine Kt.sel [4] [_] rfl ?_
  refine Wk.ret (Kt.end1 rfl rfl fun w' hw => ?_)
  -- ret 0: sl_ g ((trueTo bs k).length) c
  obtain rfl : k = bs.length := by omega
  exact ⟨trueTo bs bs.length, g, c, u, rfl, ⟨⟨hcg, hlg, htg⟩, by have := ha.hi; omega, orb_all hI⟩, hw.sub (List.Sublist.cons_cons _ (List.Sublist.cons _ (List.Sublist.cons _ (List.Sublist.cons _ (List.Sublist.cons _ (List.Sublist.refl _))))))⟩

set_option maxHeartbeats 400000 in
/-- impl.OrbitOf -/
theorem iOrbit_ok (a : St) (x : Int) (B : Nat) (w0 : World) (hs : List (Nat × Obj)) (w : World) (hsa : a.Small) (hv : validB a = true) (hx : a.El x) (hw : Own B w0 hs w) :
    Calls Tryd.prog 40 [vS a, i6_ x].toArray w fun en w' => ∃ (zs : List Int) (g c : Nat) (u : Array Value), en = .returned (.slice (some ⟨g, 0, none⟩) zs.length c) ∧ ((u.size = c * 1 ∧ zs.length ≤ c ∧ u.toList.take zs.length = ints zs) ∧ zs.length ≤ 8 ∧ ∀ z ∈ zs, a.El z ∧ Moved a x z) ∧ Own B w0 ((g, .cells u 3 (0, 0)) :: hs) w' := by
 refine fnStartC (Own B w0 hs) (n := 12) (e := [(0, vS a), (1, i6_ x)]) Tryd.func40 rfl rfl rfl rfl Ends.both hw ?_
 have ha := validB_fine hv
 refine Wk.seq ?_
 refine Wk.region ?_
 refine Ll.box (v := vS a) rfl rfl rfl rfl rfl fun p2 hp2 => ?_
 show Ll _ _ (Own _ _ (_ :: hs)) _ _ ((2, pt_ p2) :: _) _ _ _
 refine Ll.run 1 rfl ?_
 refine Ll.nil ?_
 refine Kt.sel [1, 2] [_, _] rfl ?_
 refine Wk.seq ?_
 refine Wk.seq ?_
 refine Wk.regionQ ?_
 refine Lq.op rfl rfl rfl (OpQ.loadBox (cs := #[i6_ a.n, str a.set, str a.rel]) 0 rfl Tryd.isAgg24 rfl rfl Tryd.sizeOf24) ?_
 refine Lq.run 1 rfl ?_
 refine Lq.op (v := bo_ (validB a && elB a x)) rfl rfl rfl (OpQ.call rfl Tryd.call106 rfl Own.stable (fun w1 hw1 => hasEl_ok a x w1 hsa)) ?_
 refine Lq.run 1 rfl ?_
 refine Lq.nil ?_
 refine Kt.sel [1, 2, 8] [_, _, _] rfl ?_
 refine Wk.cond (b := !(validB a && elB a x)) rfl (fun h8 => ?_) (fun h8 => ?_)
 ·
  replace h8 := not_true h8
  exact absurd h8 (by rw [hv, elB_true.2 hx]; decide)
 ·
  replace h8 := not_false h8
  refine Wk.skip ?_
  refine Kt.sel [1, 2] [_, _] rfl ?_
  refine Wk.seq ?_
  refine Wk.region ?_
  refine Ll.op rfl rfl rfl (OpQ.loadBox (cs := #[i6_ a.n, str a.set, str a.rel]) 0 rfl Tryd.isAgg24 rfl rfl Tryd.sizeOf24) ?_
  refine Ll.run 1 rfl ?_
  refine Ll.callGet (σ := List Int × Nat × Nat × Array Value) (ok := fun (zs, g, c, u) => (u.size = c * 1 ∧ zs.length ≤ c ∧ u.toList.take zs.length = ints zs) ∧ zs.length ≤ 8 ∧ ∀ z ∈ zs, a.El z ∧ Moved a x z) (v := fun (zs, g, c, u) => .slice (some ⟨g, 0, none⟩) zs.length c) (hs' := fun (zs, g, c, u) => (g, .cells u 3 (0, 0)) :: (bk_ p2 #[i6_ a.n, str a.set, str a.rel] 24 :: hs)) (xs := [.tmp 9, .tmp 10]) (vs := [vS a, i6_ x]) rfl rfl rfl rfl Tryd.call107 rfl (fun w1 hw1 => (orbit_ok a x B w0 (bk_ p2 #[i6_ a.n, str a.set, str a.rel] 24 :: hs) w1 ha hx hw1).mono fun en w' ⟨zs, g, c, u, h1, h2, h3⟩ => ⟨(zs, g, c, u), h1, h2, h3⟩) fun ⟨zs11, g11, c11, u11⟩ ⟨⟨hcg11, hlg11, htg11⟩, hz8, hzm⟩ => ?_
  show Ll _ _ (Own _ _ (_ :: _ :: hs)) _ _ ((11, sl_ g11 zs11.length c11) :: _) _ _ _
  refine Ll.run 1 rfl ?_
  refine Ll.nil ?_
  refine Kt.sel [4] [_] rfl ?_
  refine Wk.ret (Kt.end1 rfl rfl fun w' hw => ?_)
  -- ret 0: sl_ g11 zs11.length c11
  exact ⟨zs11, g11, c11, u11, rfl, ⟨⟨hcg11, hlg11, htg11⟩, hz8, hzm⟩, hw.sub (List.Sublist.cons_cons _ (List.Sublist.cons _ (List.Sublist.refl _)))⟩

end Go.Proofs.YtmannilblelfjaaDoor
