/-
  Walks: draws of pebbles.
-/
import Derived.Test.YtjcoijejhachhaaDoorDrawsP
import Derived.Test.YtjcoijejhachhaaDoorDrawsQ
import Derived.Test.YtjcoijejhachhaaDoorBase
namespace Go.Proofs.YtjcoijejhachhaaDoor
open Go.RowKit Go.Wk
set_option linter.unusedSimpArgs false

set_option maxHeartbeats 400000 in
/-- spec.l7Some -/
theorem l7Some_ok (B : Nat) (w0 : World) (hs : List (Nat × Obj)) (rp p : Nat) (bv : Value) (L : List Int) (w : World) (hb : ∀ w, Own B w0 hs w → Row w bv (u8s L)) (hL8 : Bytes8 L) (hL : L.length ≤ 2000) (hp : p ≤ 600000) (hw : Own B w0 ((rp, .cells #[bv, .int .i64 (p : Int)] 110 (0, 0)) :: hs) w) :
    Calls Tryd.prog 70 [pt_ rp].toArray w fun en w' => ∃ a : St, ∃ b : St, ∃ v : Value, ∃ xs : List Int, ∃ u : Value, ∃ ys : List Int, ∃ new : List (Nat × Obj), ∃ p' : Nat, en = .returned (.tuple #[vS a, v, vS b, u]) ∧ (((a.Tame ∧ b.Tame) ∧ (xs.length ≤ 40 ∧ ys.length ≤ 40) ∧ ∀ w1, Own B w0 new w1 → Ints w1 v xs ∧ Ints w1 u ys) ∧ p' ≤ p + 2000) ∧ Own B w0 ((rp, .cells #[bv, .int .i64 (p' : Int)] 110 (0, 0)) :: (new ++ hs)) w' := by
 refine fnStartC (Own B w0 ((rp, .cells #[bv, .int .i64 (p : Int)] 110 (0, 0)) :: hs)) (n := 93) (e := [(0, pt_ rp)]) Tryd.func70 rfl rfl rfl rfl Ends.both hw ?_
 refine Wk.seq ?_
 refine Wk.region ?_
 refine Ll.alloc rfl rfl rfl rfl Tryd.zeroValue28 fun p2 hp2 => ?_
 show Ll _ _ (Own _ _ (bk_ p2 #[i6_ 0, str ([]), str ([])] 28 :: _ :: hs)) _ _ ((2, pt_ p2) :: _) _ _ _
 refine Ll.run 1 rfl ?_
 refine Ll.alloc rfl rfl rfl rfl Tryd.zeroValue28 fun p4 hp4 => ?_
 show Ll _ _ (Own _ _ (bk_ p4 #[i6_ 0, str ([]), str ([])] 28 :: _ :: _ :: hs)) _ _ ((4, pt_ p4) :: _) _ _ _
 refine Ll.run 1 rfl ?_
 refine Ll.nil ?_
 refine Kt.sel [0, 2, 4] [_, _, _] rfl ?_
 refine Wk.seq ?_
 refine Wk.region ?_
 refine Ll.run 1 rfl ?_
 refine Ll.callRd (rp := rp) (RT := 110) (p := p) (bv := bv) (hs := hs) (ok := fun ((a, b) : St × St) p' => ((a.Fine ∧ a.n ≤ 5) ∧ (b.Fine ∧ b.n ≤ 5)) ∧ p' ≤ p + 1000) (v := fun ((a, b) : St × St) => .tuple #[vS a, vS b]) (new := fun ((a, b) : St × St) => []) (xs := [.tmp 12]) (vs := [pt_ rp]) ([bk_ p4 #[i6_ 0, str ([]), str ([])] 28, bk_ p2 #[i6_ 0, str ([]), str ([])] 28] : List (Nat × Obj)) rfl rfl rfl rfl Tryd.call79 rfl (fun w1 hw1 => (l1Pair_ok B w0 (([bk_ p4 #[i6_ 0, str ([]), str ([])] 28, bk_ p2 #[i6_ 0, str ([]), str ([])] 28] : List (Nat × Obj)) ++ hs) rp p bv L w1 (fun w2 hw2 => hb w2 (Own.drop (f := ([bk_ p4 #[i6_ 0, str ([]), str ([])] 28, bk_ p2 #[i6_ 0, str ([]), str ([])] 28] : List (Nat × Obj))) hw2)) hL8 hL (by omega) hw1).mono fun en w' ⟨a', b', p', h1, h2, h3⟩ => ⟨(a', b'), p', h1, h2, h3⟩) fun ⟨a13, b13⟩ p_13 hKp_13 => ?_
 show Ll _ _ (Own _ _ (_ :: _ :: _ :: hs)) _ _ ((13, .tuple #[vS a13, vS b13]) :: _) _ _ _
 obtain ⟨⟨⟨hfa13, h5a13⟩, ⟨hfb13, h5b13⟩⟩, hep_13⟩ := hKp_13
 refine Ll.run 1 rfl ?_
 refine Ll.op (v := vS a13) rfl rfl rfl (OpQ.extract rfl rfl rfl) ?_
 refine Ll.op (v := vS b13) rfl rfl rfl (OpQ.extract rfl rfl rfl) ?_
 refine Ll.alloc rfl rfl rfl rfl Tryd.zeroValue28 fun p6 hp6 => ?_
 show Ll _ _ (Own _ _ (bk_ p6 #[i6_ 0, str ([]), str ([])] 28 :: _ :: _ :: _ :: hs)) _ _ ((6, pt_ p6) :: _) _ _ _
 refine Ll.alloc rfl rfl rfl rfl Tryd.zeroValue28 fun p7 hp7 => ?_
 show Ll _ _ (Own _ _ (bk_ p7 #[i6_ 0, str ([]), str ([])] 28 :: _ :: _ :: _ :: _ :: hs)) _ _ ((7, pt_ p7) :: _) _ _ _
 refine Ll.storeBox (cs' := #[i6_ a13.n, str a13.set, str a13.rel]) (hs' := (_ :: bk_ p6 #[i6_ a13.n, str a13.set, str a13.rel] 28 :: _ :: _ :: _ :: hs)) 1 rfl rfl rfl rfl rfl (by kernel_rfl : _ = some Tryd.t28) rfl rfl rfl rfl rfl ?_
 refine Ll.storeBox (cs' := #[i6_ b13.n, str b13.set, str b13.rel]) (hs' := (bk_ p7 #[i6_ b13.n, str b13.set, str b13.rel] 28 :: _ :: _ :: _ :: _ :: hs)) 0 rfl rfl rfl rfl rfl (by kernel_rfl : _ = some Tryd.t28) rfl rfl rfl rfl rfl ?_
 refine Ll.nil ?_
 refine Kt.sel [0, 2, 4, 6, 7] [_, _, _, _, _] rfl ?_
 refine Wk.seq ?_
 refine Wk.seq ?_
 refine Wk.regionQ ?_
 refine Lq.op rfl rfl rfl (OpQ.fieldAddr rfl Tryd.runUnderlying28 rfl Tryd.sizeOf3 rfl rfl) ?_
 refine Lq.op rfl rfl rfl (OpQ.loadOwn 1 rfl Tryd.isAgg3 rfl rfl rfl) ?_
 refine Lq.run 1 rfl ?_
 refine Lq.nil ?_
 refine Kt.sel [0, 2, 4, 6, 7, 18] [_, _, _, _, _, _] rfl ?_
 refine Wk.join (σ := St) (fun aa => aa.Fine ∧ aa.n ≤ 5) (fun aa => [(0, pt_ rp), (2, pt_ p2), (4, pt_ p4), (6, pt_ p6), (7, pt_ p7)]) (fun aa => Own B w0 (bk_ p7 #[i6_ b13.n, str b13.set, str b13.rel] 28 :: bk_ p6 #[i6_ aa.n, str aa.set, str aa.rel] 28 :: bk_ p4 #[i6_ 0, str ([]), str ([])] 28 :: bk_ p2 #[i6_ 0, str ([]), str ([])] 28 :: bk_ rp #[bv, i6_ ((p_13 : Int))] 110 :: hs)) ?_ ?_
 ·
  refine Wk.cond (b := decide ((4 : Int) < a13.n)) rfl (fun h18 => ?_) (fun h18 => ?_)
  ·
   replace h18 := of_decide_eq_true h18
   refine Wk.region ?_
   refine Ll.op rfl rfl rfl (OpQ.loadBox (cs := #[i6_ a13.n, str a13.set, str a13.rel]) 1 rfl Tryd.isAgg28 rfl rfl Tryd.sizeOf28) ?_
   refine Ll.slice (xs := [.const (i6_ 0), .const (i6_ 1), .const (i6_ 2), .const (i6_ 3)]) (vs := [i6_ 0, i6_ 1, i6_ 2, i6_ 3]) Base.elem24 rfl rfl rfl rfl rfl rfl (by decide) rfl fun p20 hp20 => ?_
   refine Ll.callSome (ok := fun (b : St) => b.n = ([0, 1, 2, 3]).length ∧ (b.set.length : Int) = ([0, 1, 2, 3]).length ∧ b.rel.length = ([0, 1, 2, 3]).length * ([0, 1, 2, 3]).length) (v := fun (b : St) => vS b) (xs := [.tmp 19, .tmp 20]) (vs := [vS a13, sl_ p20 4 4]) rfl rfl rfl rfl Tryd.call114 rfl (fun w1 hw1 => (part_ok a13 (sl_ p20 4 4) ([0, 1, 2, 3]) w1 hfa13 (Own.row hw1 (i := 0) rfl (n := 4) (cap := 4) (vs := ints [0, 1, 2, 3]) rfl rfl (by decide)) (fun x hx => by simp at hx; exact ⟨by omega, by omega⟩) (by decide)).mono fun en w' ⟨b, h1, h2, h3⟩ => ⟨b, h1, h2, h3⟩) fun b21 hS21 => ?_
   show Ll _ _ (Own _ _ (_ :: _ :: _ :: _ :: _ :: _ :: hs)) _ _ ((21, vS b21) :: _) _ _ _
   obtain ⟨hnb21, hsb21, hrb21⟩ := hS21
   refine Ll.storeBox (cs' := #[i6_ b21.n, str b21.set, str b21.rel]) (hs' := (_ :: _ :: bk_ p6 #[i6_ b21.n, str b21.set, str b21.rel] 28 :: _ :: _ :: _ :: hs)) 2 rfl rfl rfl rfl rfl (by kernel_rfl : _ = some Tryd.t28) rfl rfl rfl rfl rfl ?_
   refine Ll.nil ?_
   refine Kt.joined (b21) (part_fine (n := 4) hnb21 hsb21 hrb21 rfl (by decide) (by decide)) (Sub.sel [0, 2, 4, 6, 7] rfl) (fun _ h => h.sub (List.Sublist.cons _ (List.Sublist.cons_cons _ (List.Sublist.cons_cons _ (List.Sublist.cons_cons _ (List.Sublist.cons_cons _ (List.Sublist.cons_cons _ (List.Sublist.refl _))))))))
  ·
   replace h18 := of_decide_eq_false h18
   refine Wk.skip ?_
   refine Kt.joined (a13) ⟨hfa13, h5a13⟩ (Sub.sel [0, 2, 4, 6, 7] rfl) (fun _ h => h.sub (List.Sublist.cons_cons _ (List.Sublist.cons_cons _ (List.Sublist.cons_cons _ (List.Sublist.cons_cons _ (List.Sublist.cons_cons _ (List.Sublist.refl _)))))))
 rintro aa ⟨haa, h5aa⟩
 have hloaa := haa.lo
 refine Kt.sel [0, 2, 4, 6, 7] [_, _, _, _, _] rfl ?_
 refine Wk.seq ?_
 refine Wk.seq ?_
 refine Wk.regionQ ?_
 refine Lq.op rfl rfl rfl (OpQ.fieldAddr rfl Tryd.runUnderlying28 rfl Tryd.sizeOf3 rfl rfl) ?_
 refine Lq.op rfl rfl rfl (OpQ.loadOwn 0 rfl Tryd.isAgg3 rfl rfl rfl) ?_
 refine Lq.run 1 rfl ?_
 refine Lq.nil ?_
 refine Kt.sel [0, 2, 4, 6, 7, 24] [_, _, _, _, _, _] rfl ?_
 refine Wk.join (σ := St) (fun bb => bb.Fine ∧ bb.n ≤ 5) (fun bb => [(0, pt_ rp), (2, pt_ p2), (4, pt_ p4), (6, pt_ p6), (7, pt_ p7)]) (fun bb => Own B w0 (bk_ p7 #[i6_ bb.n, str bb.set, str bb.rel] 28 :: bk_ p6 #[i6_ aa.n, str aa.set, str aa.rel] 28 :: bk_ p4 #[i6_ 0, str ([]), str ([])] 28 :: bk_ p2 #[i6_ 0, str ([]), str ([])] 28 :: bk_ rp #[bv, i6_ ((p_13 : Int))] 110 :: hs)) ?_ ?_
 ·
  refine Wk.cond (b := decide ((4 : Int) < b13.n)) rfl (fun h24 => ?_) (fun h24 => ?_)
  ·
   replace h24 := of_decide_eq_true h24
   refine Wk.region ?_
   refine Ll.op rfl rfl rfl (OpQ.loadBox (cs := #[i6_ b13.n, str b13.set, str b13.rel]) 0 rfl Tryd.isAgg28 rfl rfl Tryd.sizeOf28) ?_
   refine Ll.slice (xs := [.const (i6_ 0), .const (i6_ 1), .const (i6_ 2), .const (i6_ 3)]) (vs := [i6_ 0, i6_ 1, i6_ 2, i6_ 3]) Base.elem24 rfl rfl rfl rfl rfl rfl (by decide) rfl fun p26 hp26 => ?_
   refine Ll.callSome (ok := fun (b : St) => b.n = ([0, 1, 2, 3]).length ∧ (b.set.length : Int) = ([0, 1, 2, 3]).length ∧ b.rel.length = ([0, 1, 2, 3]).length * ([0, 1, 2, 3]).length) (v := fun (b : St) => vS b) (xs := [.tmp 25, .tmp 26]) (vs := [vS b13, sl_ p26 4 4]) rfl rfl rfl rfl Tryd.call114 rfl (fun w1 hw1 => (part_ok b13 (sl_ p26 4 4) ([0, 1, 2, 3]) w1 hfb13 (Own.row hw1 (i := 0) rfl (n := 4) (cap := 4) (vs := ints [0, 1, 2, 3]) rfl rfl (by decide)) (fun x hx => by simp at hx; exact ⟨by omega, by omega⟩) (by decide)).mono fun en w' ⟨b, h1, h2, h3⟩ => ⟨b, h1, h2, h3⟩) fun b27 hS27 => ?_
   show Ll _ _ (Own _ _ (_ :: _ :: _ :: _ :: _ :: _ :: hs)) _ _ ((27, vS b27) :: _) _ _ _
   obtain ⟨hnb27, hsb27, hrb27⟩ := hS27
   refine Ll.storeBox (cs' := #[i6_ b27.n, str b27.set, str b27.rel]) (hs' := (_ :: bk_ p7 #[i6_ b27.n, str b27.set, str b27.rel] 28 :: _ :: _ :: _ :: _ :: hs)) 1 rfl rfl rfl rfl rfl (by kernel_rfl : _ = some Tryd.t28) rfl rfl rfl rfl rfl ?_
   refine Ll.nil ?_
   refine Kt.joined (b27) (part_fine (n := 4) hnb27 hsb27 hrb27 rfl (by decide) (by decide)) (Sub.sel [0, 2, 4, 6, 7] rfl) (fun _ h => h.sub (List.Sublist.cons _ (List.Sublist.cons_cons _ (List.Sublist.cons_cons _ (List.Sublist.cons_cons _ (List.Sublist.cons_cons _ (List.Sublist.cons_cons _ (List.Sublist.refl _))))))))
  ·
   replace h24 := of_decide_eq_false h24
   refine Wk.skip ?_
   refine Kt.joined (b13) ⟨hfb13, h5b13⟩ (Sub.sel [0, 2, 4, 6, 7] rfl) (fun _ h => h.sub (List.Sublist.cons_cons _ (List.Sublist.cons_cons _ (List.Sublist.cons_cons _ (List.Sublist.cons_cons _ (List.Sublist.cons_cons _ (List.Sublist.refl _)))))))
 rintro bb ⟨hbb, h5bb⟩
 have hlobb := hbb.lo
 refine Kt.sel [0, 2, 4, 6, 7] [_, _, _, _, _] rfl ?_
 refine Wk.seq ?_
 refine Wk.region ?_
 refine Ll.slice (xs := []) (vs := []) Base.elem24 rfl rfl rfl rfl rfl rfl (by decide) rfl fun p28 hp28 => ?_
 refine Ll.run 1 rfl ?_
 refine Ll.nil ?_
 refine Kt.sel [0, 2, 4, 6, 7, 8] [_, _, _, _, _, _] rfl ?_
 refine Wk.seq ?_
 refine Wk.region ?_
 refine Ll.slice (xs := []) (vs := []) Base.elem24 rfl rfl rfl rfl rfl rfl (by decide) rfl fun p29 hp29 => ?_
 refine Ll.run 1 rfl ?_
 refine Ll.nil ?_
 refine Kt.sel [0, 2, 4, 6, 7, 8, 9] [_, _, _, _, _, _, _] rfl ?_
 refine Wk.seq ?_
 refine Wk.seq ?_
 refine Wk.region ?_
 refine Ll.run 1 rfl ?_
 refine Ll.slice (xs := [.const (i6_ 2), .const (i6_ 2), .const (i6_ 1), .const (i6_ 2), .const (i6_ 3)]) (vs := [i6_ 2, i6_ 2, i6_ 1, i6_ 2, i6_ 3]) Base.elem24 rfl rfl rfl rfl rfl rfl (by decide) rfl fun p31 hp31 => ?_
 refine Ll.callRd (rp := rp) (RT := 110) (p := p_13) (bv := bv) (hs := hs) (ok := fun (v : Int) p' => v ∈ ([2, 2, 1, 2, 3]) ∧ p' = p_13 + 1) (v := fun (v : Int) => i6_ v) (new := fun (v : Int) => []) (xs := [.tmp 30, .tmp 31]) (vs := [pt_ rp, sl_ p31 5 5]) ([bk_ p31 #[i6_ 2, i6_ 2, i6_ 1, i6_ 2, i6_ 3] 3, bk_ p29 #[] 3, bk_ p28 #[] 3, bk_ p7 #[i6_ bb.n, str bb.set, str bb.rel] 28, bk_ p6 #[i6_ aa.n, str aa.set, str aa.rel] 28, bk_ p4 #[i6_ 0, str ([]), str ([])] 28, bk_ p2 #[i6_ 0, str ([]), str ([])] 28] : List (Nat × Obj)) rfl rfl rfl rfl Tryd.call71 rfl (fun w1 hw1 => (num_ok B w0 (([bk_ p31 #[i6_ 2, i6_ 2, i6_ 1, i6_ 2, i6_ 3] 3, bk_ p29 #[] 3, bk_ p28 #[] 3, bk_ p7 #[i6_ bb.n, str bb.set, str bb.rel] 28, bk_ p6 #[i6_ aa.n, str aa.set, str aa.rel] 28, bk_ p4 #[i6_ 0, str ([]), str ([])] 28, bk_ p2 #[i6_ 0, str ([]), str ([])] 28] : List (Nat × Obj)) ++ hs) rp p_13 bv L (sl_ p31 5 5) ([2, 2, 1, 2, 3]) w1 (fun w2 hw2 => hb w2 (Own.drop (f := ([bk_ p31 #[i6_ 2, i6_ 2, i6_ 1, i6_ 2, i6_ 3] 3, bk_ p29 #[] 3, bk_ p28 #[] 3, bk_ p7 #[i6_ bb.n, str bb.set, str bb.rel] 28, bk_ p6 #[i6_ aa.n, str aa.set, str aa.rel] 28, bk_ p4 #[i6_ 0, str ([]), str ([])] 28, bk_ p2 #[i6_ 0, str ([]), str ([])] 28] : List (Nat × Obj))) hw2)) hL8 hL (fun w2 h2 => (Own.row h2 (i := 0) rfl (n := 5) (cap := 5) (vs := ints [2, 2, 1, 2, 3]) rfl rfl (by decide))) (by simp) (by omega) hw1).mono fun en w' ⟨v', p', h1, h2, h3⟩ => ⟨v', p', h1, h2, h3⟩) fun v32 p_32 hKp_32 => ?_
 show Ll _ _ (Own _ _ (_ :: _ :: _ :: _ :: _ :: _ :: _ :: _ :: hs)) _ _ ((32, i6_ v32) :: _) _ _ _
 obtain ⟨hmv32, hep_32⟩ := hKp_32
 have hvv32 : 1 ≤ v32 ∧ v32 ≤ 3 := by simp at hmv32; omega
 refine Ll.run 1 rfl ?_
 refine Ll.nil ?_
 refine Kt.sel [0, 2, 4, 6, 7, 8, 9, 10] [_, _, _, _, _, _, _, _] rfl ?_
 refine Wk.block ?_
 refine Wk.loop (σ := Int × Nat × Nat × Array Value × List Int × Nat × Nat × Array Value × List Int × Nat) (fun ⟨m, g, c, u, xs, g2, c2, u2, ys, p0⟩ => (0 ≤ m ∧ m ≤ v32) ∧ (u.size = c * 1 ∧ xs.length ≤ c ∧ u.toList.take xs.length = ints xs) ∧ (u2.size = c2 * 1 ∧ ys.length ≤ c2 ∧ u2.toList.take ys.length = ints ys) ∧ (xs.length : Int) + m = v32 ∧ (ys.length : Int) + m = v32 ∧ (∀ x ∈ xs, -1 ≤ x ∧ x ≤ 8) ∧ (p0 : Int) ≤ p_32 + 3 * (v32 - m)) (fun ⟨m, g, c, u, xs, g2, c2, u2, ys, p0⟩ => [(0, pt_ rp), (2, pt_ p2), (4, pt_ p4), (6, pt_ p6), (7, pt_ p7), (8, sl_ g xs.length c), (9, sl_ g2 ys.length c2), (10, i6_ m)]) (fun ⟨m, g, c, u, xs, g2, c2, u2, ys, p0⟩ => Own B w0 (bk_ p31 #[i6_ 2, i6_ 2, i6_ 1, i6_ 2, i6_ 3] 3 :: bk_ g2 u2 3 :: bk_ g u 3 :: bk_ p7 #[i6_ bb.n, str bb.set, str bb.rel] 28 :: bk_ p6 #[i6_ aa.n, str aa.set, str aa.rel] 28 :: bk_ p4 #[i6_ 0, str ([]), str ([])] 28 :: bk_ p2 #[i6_ 0, str ([]), str ([])] 28 :: bk_ rp #[bv, i6_ ((p0 : Int))] 110 :: hs)) (fun ⟨m, g, c, u, xs, g2, c2, u2, ys, p0⟩ => m.toNat) ((v32, p28, 0, #[], [], p29, 0, #[], [], p_32)) ⟨by omega, ⟨rfl, Nat.le_refl 0, rfl⟩, ⟨rfl, Nat.le_refl 0, rfl⟩, by simp, by simp, (fun x hx => by cases hx), by omega⟩ (Sub.sel [0, 2, 4, 6, 7, 8, 9, 10] rfl) (fun _ h => h) ?_
 rintro ⟨m, g, c, u, xs, g2, c2, u2, ys, p0⟩ ⟨⟨hm0, hm1⟩, ⟨hcg, hlg, htg⟩, ⟨hcg2, hlg2, htg2⟩, hxm, hym, hxr, hp0⟩
 dsimp only
 refine Wk.seq ?_
 refine Wk.seq ?_
 refine Wk.regionQ ?_
 refine Lq.run 2 rfl ?_
 refine Lq.nil ?_
 refine Kt.sel [0, 2, 4, 6, 7, 8, 9, 10, 34] [_, _, _, _, _, _, _, _, _] rfl ?_
 refine Wk.cond (b := decide ((0 : Int) < m)) rfl (fun h34 => ?_) (fun h34 => ?_)
 ·
  replace h34 := of_decide_eq_true h34
  refine Wk.skip ?_
  refine Kt.sel [0, 2, 4, 6, 7, 8, 9, 10] [_, _, _, _, _, _, _, _] rfl ?_
  refine Wk.seq ?_
  refine Wk.block ?_
  refine Wk.seq ?_
  refine Wk.seq ?_
  refine Wk.region ?_
  refine Ll.run 1 rfl ?_
  refine Ll.callRd (rp := rp) (RT := 110) (p := p0) (bv := bv) (hs := hs) (ok := fun (k : Int) p' => 0 ≤ k ∧ (1 ≤ (2 : Int) → k < 2) ∧ p' = p0 + 1) (v := fun (k : Int) => i6_ k) (new := fun (k : Int) => []) (xs := [.tmp 37, .const (i6_ 2)]) (vs := [pt_ rp, i6_ 2]) ([bk_ p31 #[i6_ 2, i6_ 2, i6_ 1, i6_ 2, i6_ 3] 3, bk_ g2 u2 3, bk_ g u 3, bk_ p7 #[i6_ bb.n, str bb.set, str bb.rel] 28, bk_ p6 #[i6_ aa.n, str aa.set, str aa.rel] 28, bk_ p4 #[i6_ 0, str ([]), str ([])] 28, bk_ p2 #[i6_ 0, str ([]), str ([])] 28] : List (Nat × Obj)) rfl rfl rfl rfl Tryd.call80 rfl (fun w1 hw1 => (pick_ok B w0 (([bk_ p31 #[i6_ 2, i6_ 2, i6_ 1, i6_ 2, i6_ 3] 3, bk_ g2 u2 3, bk_ g u 3, bk_ p7 #[i6_ bb.n, str bb.set, str bb.rel] 28, bk_ p6 #[i6_ aa.n, str aa.set, str aa.rel] 28, bk_ p4 #[i6_ 0, str ([]), str ([])] 28, bk_ p2 #[i6_ 0, str ([]), str ([])] 28] : List (Nat × Obj)) ++ hs) rp p0 bv L 2 w1 (fun w2 hw2 => hb w2 (Own.drop (f := ([bk_ p31 #[i6_ 2, i6_ 2, i6_ 1, i6_ 2, i6_ 3] 3, bk_ g2 u2 3, bk_ g u 3, bk_ p7 #[i6_ bb.n, str bb.set, str bb.rel] 28, bk_ p6 #[i6_ aa.n, str aa.set, str aa.rel] 28, bk_ p4 #[i6_ 0, str ([]), str ([])] 28, bk_ p2 #[i6_ 0, str ([]), str ([])] 28] : List (Nat × Obj))) hw2)) hL8 hL (by omega) hw1).mono fun en w' ⟨k', p', h1, h2, h3⟩ => ⟨k', p', h1, h2, h3⟩) fun k38 p_38 hKp_38 => ?_
  show Ll _ _ (Own _ _ (_ :: _ :: _ :: _ :: _ :: _ :: _ :: _ :: hs)) _ _ ((38, i6_ k38) :: _) _ _ _
  obtain ⟨h0k38, h1k38, hep_38⟩ := hKp_38
  try have hltk38 := h1k38 (by first | omega | (split <;> omega) | decide)
  refine Ll.run 1 rfl ?_
  refine Ll.nil ?_
  refine Kt.sel [0, 2, 4, 6, 7, 8, 9, 10, 39] [_, _, _, _, _, _, _, _, _] rfl ?_
  refine Wk.cond (b := decide (k38 = (0 : Int))) rfl (fun h39 => ?_) (fun h39 => ?_)
  ·
   replace h39 := of_decide_eq_true h39
   refine Wk.seq ?_
   refine Wk.region ?_
   refine Ll.run 1 rfl ?_
   refine Ll.slice (xs := [.const (i6_ (-1))]) (vs := [i6_ (-1)]) Base.elem24 rfl rfl rfl rfl rfl rfl (by decide) rfl fun p41 hp41 => ?_
   refine Ll.appendInts (xs := xs) (ys := [-1]) Base.elem24 3 rfl rfl rfl rfl rfl rfl rfl hcg hlg htg (fun w1 hw1 => (Own.row hw1 (i := 0) rfl (n := 1) (cap := 1) (vs := ints [-1]) rfl rfl (by decide))) ((xs ++ ([-1])).length) (by first | (simp; done) | (simp; omega)) (by first | (simp; done) | (simp; omega) | omega) fun p42 cap42 cur42 hp42 hcp42 hlp42 htp42 => ?_
   show Ll _ _ (Own _ _ (_ :: _ :: _ :: _ :: _ :: _ :: _ :: _ :: _ :: hs)) _ _ ((42, sl_ p42 (((xs ++ ([-1])).length)) cap42) :: _) _ _ _
   refine Ll.run 1 rfl ?_
   refine Ll.nil ?_
   refine Kt.sel [0, 2, 4, 6, 7, 8, 9, 10] [_, _, _, _, _, _, _, _] rfl ?_
   refine Wk.seq ?_
   refine Wk.region ?_
   refine Ll.run 1 rfl ?_
   refine Ll.slice (xs := [.const (i6_ (-1))]) (vs := [i6_ (-1)]) Base.elem24 rfl rfl rfl rfl rfl rfl (by decide) rfl fun p44 hp44 => ?_
   refine Ll.appendInts (xs := ys) (ys := [-1]) Base.elem24 3 rfl rfl rfl rfl rfl rfl rfl hcg2 hlg2 htg2 (fun w1 hw1 => (Own.row hw1 (i := 0) rfl (n := 1) (cap := 1) (vs := ints [-1]) rfl rfl (by decide))) ((ys ++ ([-1])).length) (by first | (simp; done) | (simp; omega)) (by first | (simp; done) | (simp; omega) | omega) fun p45 cap45 cur45 hp45 hcp45 hlp45 htp45 => ?_
   show Ll _ _ (Own _ _ (_ :: _ :: _ :: _ :: _ :: _ :: _ :: _ :: _ :: _ :: hs)) _ _ ((45, sl_ p45 (((ys ++ ([-1])).length)) cap45) :: _) _ _ _
   refine Ll.run 1 rfl ?_
   refine Ll.nil ?_
   refine Kt.sel [0, 2, 4, 6, 7, 8, 9, 10] [_, _, _, _, _, _, _, _] rfl ?_
   refine Wk.exit rfl ?_
   refine Kt.sel [0, 2, 4, 6, 7, 8, 9, 10] [_, _, _, _, _, _, _, _] rfl ?_
   refine Wk.regionQ ?_
   refine Lq.run 1 rfl ?_
   refine Lq.op rfl rfl rfl (OpQ.sub rfl rfl rfl (by omega) (by omega)) ?_
   refine Lq.run 1 rfl ?_
   refine Lq.nil ?_
   refine Kt.again ((m - 1, p42, cap42, cur42, xs ++ ([-1]), p45, cap45, cur45, ys ++ ([-1]), p_38)) ⟨by omega, ⟨by simpa using hcp42, hlp42, by simpa using (by simpa using htp42)⟩, ⟨by simpa using hcp45, hlp45, by simpa using (by simpa using htp45)⟩, (by dsimp only; rw [List.length_append, List.length_singleton]; omega), (by dsimp only; rw [List.length_append, List.length_singleton]; omega), (fun x hx => by rcases List.mem_append.1 hx with h | h; exact hxr x h; rw [List.mem_singleton.1 h]; omega), (by dsimp only; omega)⟩ (by dsimp only; omega) (Sub.sel [0, 2, 4, 6, 7, 8, 9, 10] rfl) (fun _ h => h.sub (List.Sublist.cons _ (List.Sublist.cons _ (List.Sublist.cons_cons _ (List.Sublist.cons_cons _ (List.Sublist.cons_cons _ (List.Sublist.cons_cons _ (List.Sublist.cons_cons _ (List.Sublist.cons_cons _ (List.Sublist.cons_cons _ (List.Sublist.cons_cons _ (List.Sublist.refl _))))))))))))
  ·
   replace h39 := of_decide_eq_false h39
   refine Wk.skip ?_
   refine Kt.sel [0, 2, 4, 6, 7, 8, 9, 10] [_, _, _, _, _, _, _, _] rfl ?_
   refine Wk.seq ?_
   refine Wk.region ?_
   refine Ll.run 2 rfl ?_
   refine Ll.op rfl rfl rfl (OpQ.fieldAddr rfl Tryd.runUnderlying28 rfl Tryd.sizeOf3 rfl rfl) ?_
   refine Ll.op rfl rfl rfl (OpQ.loadOwn 4 rfl Tryd.isAgg3 rfl rfl rfl) ?_
   refine Ll.callRd (rp := rp) (RT := 110) (p := p_38) (bv := bv) (hs := hs) (ok := fun (k : Int) p' => 0 ≤ k ∧ (1 ≤ aa.n → k < aa.n) ∧ p' = p_38 + 1) (v := fun (k : Int) => i6_ k) (new := fun (k : Int) => []) (xs := [.tmp 47, .tmp 49]) (vs := [pt_ rp, i6_ aa.n]) ([bk_ p31 #[i6_ 2, i6_ 2, i6_ 1, i6_ 2, i6_ 3] 3, bk_ g2 u2 3, bk_ g u 3, bk_ p7 #[i6_ bb.n, str bb.set, str bb.rel] 28, bk_ p6 #[i6_ aa.n, str aa.set, str aa.rel] 28, bk_ p4 #[i6_ 0, str ([]), str ([])] 28, bk_ p2 #[i6_ 0, str ([]), str ([])] 28] : List (Nat × Obj)) rfl rfl rfl rfl Tryd.call80 rfl (fun w1 hw1 => (pick_ok B w0 (([bk_ p31 #[i6_ 2, i6_ 2, i6_ 1, i6_ 2, i6_ 3] 3, bk_ g2 u2 3, bk_ g u 3, bk_ p7 #[i6_ bb.n, str bb.set, str bb.rel] 28, bk_ p6 #[i6_ aa.n, str aa.set, str aa.rel] 28, bk_ p4 #[i6_ 0, str ([]), str ([])] 28, bk_ p2 #[i6_ 0, str ([]), str ([])] 28] : List (Nat × Obj)) ++ hs) rp p_38 bv L aa.n w1 (fun w2 hw2 => hb w2 (Own.drop (f := ([bk_ p31 #[i6_ 2, i6_ 2, i6_ 1, i6_ 2, i6_ 3] 3, bk_ g2 u2 3, bk_ g u 3, bk_ p7 #[i6_ bb.n, str bb.set, str bb.rel] 28, bk_ p6 #[i6_ aa.n, str aa.set, str aa.rel] 28, bk_ p4 #[i6_ 0, str ([]), str ([])] 28, bk_ p2 #[i6_ 0, str ([]), str ([])] 28] : List (Nat × Obj))) hw2)) hL8 hL (by omega) hw1).mono fun en w' ⟨k', p', h1, h2, h3⟩ => ⟨k', p', h1, h2, h3⟩) fun k50 p_50 hKp_50 => ?_
   show Ll _ _ (Own _ _ (_ :: _ :: _ :: _ :: _ :: _ :: _ :: _ :: hs)) _ _ ((50, i6_ k50) :: _) _ _ _
   obtain ⟨h0k50, h1k50, hep_50⟩ := hKp_50
   try have hltk50 := h1k50 (by first | omega | (split <;> omega) | decide)
   refine Ll.slice (xs := [.tmp 50]) (vs := [i6_ k50]) Base.elem24 rfl rfl rfl rfl rfl rfl (by decide) rfl fun p51 hp51 => ?_
   refine Ll.appendInts (xs := xs) (ys := [k50]) Base.elem24 3 rfl rfl rfl rfl rfl rfl rfl hcg hlg htg (fun w1 hw1 => (Own.row hw1 (i := 0) rfl (n := 1) (cap := 1) (vs := ints [k50]) rfl rfl (by decide))) ((xs ++ ([k50])).length) (by first | (simp; done) | (simp; omega)) (by first | (simp; done) | (simp; omega) | omega) fun p52 cap52 cur52 hp52 hcp52 hlp52 htp52 => ?_
   show Ll _ _ (Own _ _ (_ :: _ :: _ :: _ :: _ :: _ :: _ :: _ :: _ :: hs)) _ _ ((52, sl_ p52 (((xs ++ ([k50])).length)) cap52) :: _) _ _ _
   refine Ll.run 1 rfl ?_
   refine Ll.nil ?_
   refine Kt.sel [0, 2, 4, 6, 7, 8, 9, 10] [_, _, _, _, _, _, _, _] rfl ?_
   refine Wk.region ?_
   refine Ll.run 2 rfl ?_
   refine Ll.op rfl rfl rfl (OpQ.fieldAddr rfl Tryd.runUnderlying28 rfl Tryd.sizeOf3 rfl rfl) ?_
   refine Ll.op rfl rfl rfl (OpQ.loadOwn 4 rfl Tryd.isAgg3 rfl rfl rfl) ?_
   refine Ll.callRd (rp := rp) (RT := 110) (p := p_50) (bv := bv) (hs := hs) (ok := fun (k : Int) p' => 0 ≤ k ∧ (1 ≤ bb.n → k < bb.n) ∧ p' = p_50 + 1) (v := fun (k : Int) => i6_ k) (new := fun (k : Int) => []) (xs := [.tmp 54, .tmp 56]) (vs := [pt_ rp, i6_ bb.n]) ([bk_ p51 #[i6_ k50] 3, bk_ p31 #[i6_ 2, i6_ 2, i6_ 1, i6_ 2, i6_ 3] 3, bk_ g2 u2 3, bk_ p52 cur52 3, bk_ p7 #[i6_ bb.n, str bb.set, str bb.rel] 28, bk_ p6 #[i6_ aa.n, str aa.set, str aa.rel] 28, bk_ p4 #[i6_ 0, str ([]), str ([])] 28, bk_ p2 #[i6_ 0, str ([]), str ([])] 28] : List (Nat × Obj)) rfl rfl rfl rfl Tryd.call80 rfl (fun w1 hw1 => (pick_ok B w0 (([bk_ p51 #[i6_ k50] 3, bk_ p31 #[i6_ 2, i6_ 2, i6_ 1, i6_ 2, i6_ 3] 3, bk_ g2 u2 3, bk_ p52 cur52 3, bk_ p7 #[i6_ bb.n, str bb.set, str bb.rel] 28, bk_ p6 #[i6_ aa.n, str aa.set, str aa.rel] 28, bk_ p4 #[i6_ 0, str ([]), str ([])] 28, bk_ p2 #[i6_ 0, str ([]), str ([])] 28] : List (Nat × Obj)) ++ hs) rp p_50 bv L bb.n w1 (fun w2 hw2 => hb w2 (Own.drop (f := ([bk_ p51 #[i6_ k50] 3, bk_ p31 #[i6_ 2, i6_ 2, i6_ 1, i6_ 2, i6_ 3] 3, bk_ g2 u2 3, bk_ p52 cur52 3, bk_ p7 #[i6_ bb.n, str bb.set, str bb.rel] 28, bk_ p6 #[i6_ aa.n, str aa.set, str aa.rel] 28, bk_ p4 #[i6_ 0, str ([]), str ([])] 28, bk_ p2 #[i6_ 0, str ([]), str ([])] 28] : List (Nat × Obj))) hw2)) hL8 hL (by omega) hw1).mono fun en w' ⟨k', p', h1, h2, h3⟩ => ⟨k', p', h1, h2, h3⟩) fun k57 p_57 hKp_57 => ?_
   show Ll _ _ (Own _ _ (_ :: _ :: _ :: _ :: _ :: _ :: _ :: _ :: _ :: hs)) _ _ ((57, i6_ k57) :: _) _ _ _
   obtain ⟨h0k57, h1k57, hep_57⟩ := hKp_57
   try have hltk57 := h1k57 (by first | omega | (split <;> omega) | decide)
   refine Ll.slice (xs := [.tmp 57]) (vs := [i6_ k57]) Base.elem24 rfl rfl rfl rfl rfl rfl (by decide) rfl fun p58 hp58 => ?_
   refine Ll.appendInts (xs := ys) (ys := [k57]) Base.elem24 3 rfl rfl rfl rfl rfl rfl rfl hcg2 hlg2 htg2 (fun w1 hw1 => (Own.row hw1 (i := 0) rfl (n := 1) (cap := 1) (vs := ints [k57]) rfl rfl (by decide))) ((ys ++ ([k57])).length) (by first | (simp; done) | (simp; omega)) (by first | (simp; done) | (simp; omega) | omega) fun p59 cap59 cur59 hp59 hcp59 hlp59 htp59 => ?_
   show Ll _ _ (Own _ _ (_ :: _ :: _ :: _ :: _ :: _ :: _ :: _ :: _ :: _ :: hs)) _ _ ((59, sl_ p59 (((ys ++ ([k57])).length)) cap59) :: _) _ _ _
   refine Ll.run 1 rfl ?_
   refine Ll.nil ?_
   refine Kt.sel [0, 2, 4, 6, 7, 8, 9, 10] [_, _, _, _, _, _, _, _] rfl ?_
   refine Wk.regionQ ?_
   refine Lq.run 1 rfl ?_
   refine Lq.op rfl rfl rfl (OpQ.sub rfl rfl rfl (by omega) (by omega)) ?_
   refine Lq.run 1 rfl ?_
   refine Lq.nil ?_
   refine Kt.again ((m - 1, p52, cap52, cur52, xs ++ ([k50]), p59, cap59, cur59, ys ++ ([k57]), p_57)) ⟨by omega, ⟨by simpa using hcp52, hlp52, by simpa using (by simpa using htp52)⟩, ⟨by simpa using hcp59, hlp59, by simpa using (by simpa using htp59)⟩, (by dsimp only; rw [List.length_append, List.length_singleton]; omega), (by dsimp only; rw [List.length_append, List.length_singleton]; omega), (fun x hx => by rcases List.mem_append.1 hx with h | h; exact hxr x h; rw [List.mem_singleton.1 h]; omega), (by dsimp only; omega)⟩ (by dsimp only; omega) (Sub.sel [0, 2, 4, 6, 7, 8, 9, 10] rfl) (fun _ h => h.sub (List.Sublist.cons _ (List.Sublist.cons _ (List.Sublist.cons_cons _ (List.Sublist.cons_cons _ (List.Sublist.cons_cons _ (List.Sublist.cons_cons _ (List.Sublist.cons_cons _ (List.Sublist.cons_cons _ (List.Sublist.cons_cons _ (List.Sublist.cons_cons _ (List.Sublist.refl _))))))))))))
 ·
  replace h34 := of_decide_eq_false h34
  refine Wk.exit rfl ?_
  refine Kt.sel [0, 2, 4, 6, 7, 8, 9] [_, _, _, _, _, _, _] rfl ?_
  refine Wk.seq ?_
  refine Wk.seq ?_
  refine Wk.region ?_
  refine Ll.run 1 rfl ?_
  refine Ll.callRd (rp := rp) (RT := 110) (p := p0) (bv := bv) (hs := hs) (ok := fun (k : Int) p' => 0 ≤ k ∧ (1 ≤ (40 : Int) → k < 40) ∧ p' = p0 + 1) (v := fun (k : Int) => i6_ k) (new := fun (k : Int) => []) (xs := [.tmp 60, .const (i6_ 40)]) (vs := [pt_ rp, i6_ 40]) ([bk_ p31 #[i6_ 2, i6_ 2, i6_ 1, i6_ 2, i6_ 3] 3, bk_ g2 u2 3, bk_ g u 3, bk_ p7 #[i6_ bb.n, str bb.set, str bb.rel] 28, bk_ p6 #[i6_ aa.n, str aa.set, str aa.rel] 28, bk_ p4 #[i6_ 0, str ([]), str ([])] 28, bk_ p2 #[i6_ 0, str ([]), str ([])] 28] : List (Nat × Obj)) rfl rfl rfl rfl Tryd.call80 rfl (fun w1 hw1 => (pick_ok B w0 (([bk_ p31 #[i6_ 2, i6_ 2, i6_ 1, i6_ 2, i6_ 3] 3, bk_ g2 u2 3, bk_ g u 3, bk_ p7 #[i6_ bb.n, str bb.set, str bb.rel] 28, bk_ p6 #[i6_ aa.n, str aa.set, str aa.rel] 28, bk_ p4 #[i6_ 0, str ([]), str ([])] 28, bk_ p2 #[i6_ 0, str ([]), str ([])] 28] : List (Nat × Obj)) ++ hs) rp p0 bv L 40 w1 (fun w2 hw2 => hb w2 (Own.drop (f := ([bk_ p31 #[i6_ 2, i6_ 2, i6_ 1, i6_ 2, i6_ 3] 3, bk_ g2 u2 3, bk_ g u 3, bk_ p7 #[i6_ bb.n, str bb.set, str bb.rel] 28, bk_ p6 #[i6_ aa.n, str aa.set, str aa.rel] 28, bk_ p4 #[i6_ 0, str ([]), str ([])] 28, bk_ p2 #[i6_ 0, str ([]), str ([])] 28] : List (Nat × Obj))) hw2)) hL8 hL (by omega) hw1).mono fun en w' ⟨k', p', h1, h2, h3⟩ => ⟨k', p', h1, h2, h3⟩) fun k61 p_61 hKp_61 => ?_
  show Ll _ _ (Own _ _ (_ :: _ :: _ :: _ :: _ :: _ :: _ :: _ :: hs)) _ _ ((61, i6_ k61) :: _) _ _ _
  obtain ⟨h0k61, h1k61, hep_61⟩ := hKp_61
  try have hltk61 := h1k61 (by first | omega | (split <;> omega) | decide)
  refine Ll.nil ?_
  refine Kt.sel [0, 2, 4, 6, 7, 8, 9, 61] [_, _, _, _, _, _, _, _] rfl ?_
  refine Wk.block ?_
  refine Wk.seq ?_
  refine Wk.regionQ ?_
  refine Lq.run 2 rfl ?_
  refine Lq.nil ?_
  refine Kt.sel [0, 2, 4, 6, 7, 8, 9, 61, 62] [_, _, _, _, _, _, _, _, _] rfl ?_
  refine Wk.cond (b := decide (k61 = (0 : Int))) rfl (fun h62 => ?_) (fun h62 => ?_)
  ·
   replace h62 := of_decide_eq_true h62
   refine Wk.region ?_
   refine Ll.run 2 rfl ?_
   refine Ll.slice (xs := [.const (i6_ (-2)), .const (i6_ 8), .const (i6_ 0)]) (vs := [i6_ (-2), i6_ 8, i6_ 0]) Base.elem24 rfl rfl rfl rfl rfl rfl (by decide) rfl fun p66 hp66 => ?_
   refine Ll.callRd (rp := rp) (RT := 110) (p := p_61) (bv := bv) (hs := hs) (ok := fun (v : Int) p' => v ∈ ([-2, 8, 0]) ∧ p' = p_61 + 1) (v := fun (v : Int) => i6_ v) (new := fun (v : Int) => []) (xs := [.tmp 65, .tmp 66]) (vs := [pt_ rp, sl_ p66 3 3]) ([bk_ p66 #[i6_ (-2), i6_ 8, i6_ 0] 3, bk_ p31 #[i6_ 2, i6_ 2, i6_ 1, i6_ 2, i6_ 3] 3, bk_ g2 u2 3, bk_ g u 3, bk_ p7 #[i6_ bb.n, str bb.set, str bb.rel] 28, bk_ p6 #[i6_ aa.n, str aa.set, str aa.rel] 28, bk_ p4 #[i6_ 0, str ([]), str ([])] 28, bk_ p2 #[i6_ 0, str ([]), str ([])] 28] : List (Nat × Obj)) rfl rfl rfl rfl Tryd.call71 rfl (fun w1 hw1 => (num_ok B w0 (([bk_ p66 #[i6_ (-2), i6_ 8, i6_ 0] 3, bk_ p31 #[i6_ 2, i6_ 2, i6_ 1, i6_ 2, i6_ 3] 3, bk_ g2 u2 3, bk_ g u 3, bk_ p7 #[i6_ bb.n, str bb.set, str bb.rel] 28, bk_ p6 #[i6_ aa.n, str aa.set, str aa.rel] 28, bk_ p4 #[i6_ 0, str ([]), str ([])] 28, bk_ p2 #[i6_ 0, str ([]), str ([])] 28] : List (Nat × Obj)) ++ hs) rp p_61 bv L (sl_ p66 3 3) ([-2, 8, 0]) w1 (fun w2 hw2 => hb w2 (Own.drop (f := ([bk_ p66 #[i6_ (-2), i6_ 8, i6_ 0] 3, bk_ p31 #[i6_ 2, i6_ 2, i6_ 1, i6_ 2, i6_ 3] 3, bk_ g2 u2 3, bk_ g u 3, bk_ p7 #[i6_ bb.n, str bb.set, str bb.rel] 28, bk_ p6 #[i6_ aa.n, str aa.set, str aa.rel] 28, bk_ p4 #[i6_ 0, str ([]), str ([])] 28, bk_ p2 #[i6_ 0, str ([]), str ([])] 28] : List (Nat × Obj))) hw2)) hL8 hL (fun w2 h2 => (Own.row h2 (i := 0) rfl (n := 3) (cap := 3) (vs := ints [-2, 8, 0]) rfl rfl (by decide))) (by simp) (by omega) hw1).mono fun en w' ⟨v', p', h1, h2, h3⟩ => ⟨v', p', h1, h2, h3⟩) fun v67 p_67 hKp_67 => ?_
   show Ll _ _ (Own _ _ (_ :: _ :: _ :: _ :: _ :: _ :: _ :: _ :: _ :: hs)) _ _ ((67, i6_ v67) :: _) _ _ _
   obtain ⟨hmv67, hep_67⟩ := hKp_67
   have hvv67 : -2 ≤ v67 ∧ v67 ≤ 8 := by simp at hmv67; omega
   refine Ll.slice (xs := [.tmp 67]) (vs := [i6_ v67]) Base.elem24 rfl rfl rfl rfl rfl rfl (by decide) rfl fun p68 hp68 => ?_
   refine Ll.appendInts (xs := xs) (ys := [v67]) Base.elem24 4 rfl rfl rfl rfl rfl rfl rfl hcg hlg htg (fun w1 hw1 => (Own.row hw1 (i := 0) rfl (n := 1) (cap := 1) (vs := ints [v67]) rfl rfl (by decide))) ((xs ++ ([v67])).length) (by first | (simp; done) | (simp; omega)) (by first | (simp; done) | (simp; omega) | omega) fun p69 cap69 cur69 hp69 hcp69 hlp69 htp69 => ?_
   show Ll _ _ (Own _ _ (_ :: _ :: _ :: _ :: _ :: _ :: _ :: _ :: _ :: _ :: hs)) _ _ ((69, sl_ p69 (((xs ++ ([v67])).length)) cap69) :: _) _ _ _
   refine Ll.run 1 rfl ?_
   refine Ll.nil ?_
   refine Kt.sel [2, 4, 6, 7, 8, 9] [_, _, _, _, _, _] rfl ?_
   refine Wk.seq ?_
   refine Wk.regionS (S := Own B w0 [bk_ p68 #[i6_ v67] 3, bk_ p66 #[i6_ (-2), i6_ 8, i6_ 0] 3, bk_ p31 #[i6_ 2, i6_ 2, i6_ 1, i6_ 2, i6_ 3] 3, bk_ g2 u2 3, bk_ p69 cur69 3, bk_ p7 #[i6_ bb.n, str bb.set, str bb.rel] 28, bk_ p6 #[i6_ aa.n, str aa.set, str aa.rel] 28, bk_ rp #[bv, i6_ ((p_67 : Int))] 110]) [(0, true), (1, true), (2, true), (3, true), (4, false), (5, true), (6, false), (7, true)] Base.mixed (fun _ h => h.drawn) (by kernel_rfl) ?_
   refine Ld.take rfl rfl rfl rfl rfl (OpQ.loadBox (cs := #[i6_ aa.n, str aa.set, str aa.rel]) 6 rfl Tryd.isAgg28 rfl rfl Tryd.sizeOf28) (pk [0, 1, 2, 3, 4, 5, 6, 9] rfl rfl) ?_
   refine Ld.run 1 rfl (pk [0, 1, 2, 3, 4, 5, 6, 9] rfl rfl) ?_
   refine Ld.take rfl rfl rfl rfl rfl (OpQ.loadBox (cs := #[i6_ bb.n, str bb.set, str bb.rel]) 5 rfl Tryd.isAgg28 rfl rfl Tryd.sizeOf28) (pk [0, 1, 2, 3, 4, 5, 6, 9] rfl rfl) ?_
   refine Ld.run 1 rfl (pk [0, 1, 2, 3, 4, 5, 6, 9] rfl rfl) ?_
   refine Ld.loud rfl ?_
   refine Ll.storeBox (cs' := #[i6_ aa.n, str aa.set, str aa.rel]) (hs' := (_ :: _ :: _ :: _ :: _ :: _ :: _ :: _ :: bk_ p2 #[i6_ aa.n, str aa.set, str aa.rel] 28 :: _ :: hs)) 8 rfl rfl rfl rfl rfl (by kernel_rfl : _ = some Tryd.t28) rfl rfl rfl rfl rfl ?_
   refine Ll.nil (Ld.joint (pk [0, 1, 2, 3, 4, 5, 6, 9] rfl rfl) ?_)
   refine Ld.run 1 rfl (pk [0, 1, 2, 3, 4, 5, 6, 9] rfl rfl) ?_
   refine Ld.loud rfl ?_
   refine Ll.storeBox (cs' := #[i6_ bb.n, str bb.set, str bb.rel]) (hs' := (_ :: _ :: _ :: _ :: _ :: _ :: _ :: bk_ p4 #[i6_ bb.n, str bb.set, str bb.rel] 28 :: _ :: _ :: hs)) 7 rfl rfl rfl rfl rfl (by kernel_rfl : _ = some Tryd.t28) rfl rfl rfl rfl rfl ?_
   refine Ll.nil (Ld.joint (pk [0, 1, 2, 3, 4, 5, 6, 9] rfl rfl) ?_)
   refine Ld.run 1 rfl (pk [0, 1, 2, 3, 4, 5, 6, 9] rfl rfl) ?_
   refine Ld.nil ?_
   refine Kt.sel [2, 3, 4, 5] [_, _, _, _] rfl ?_
   refine Wk.ret (Kt.endMany rfl (.cell (cs := #[i6_ aa.n, str aa.set, str aa.rel]) rfl (fun w1 hw1 => hw1.loadBox 8 rfl Tryd.isAgg28 Tryd.sizeOf28) (.tmp (v := sl_ p69 (((xs ++ ([v67])).length)) cap69) rfl (.cell (cs := #[i6_ bb.n, str bb.set, str bb.rel]) rfl (fun w1 hw1 => hw1.loadBox 7 rfl Tryd.isAgg28 Tryd.sizeOf28) (.tmp (v := sl_ g2 ys.length c2) rfl ResAt.nil)))) (by simp) fun w' hw => ?_)
   -- ret 0: vS aa; sl_ p69 (((xs ++ ([v67])).length)) cap69; vS bb; sl_ g2 ys.length c2
   exact ⟨aa, bb, sl_ p69 (((xs ++ ([v67])).length)) cap69, xs ++ ([v67]), sl_ g2 ys.length c2, ys, [bk_ p68 #[i6_ v67] 3, bk_ p66 #[i6_ (-2), i6_ 8, i6_ 0] 3, bk_ p31 #[i6_ 2, i6_ 2, i6_ 1, i6_ 2, i6_ 3] 3, bk_ g2 u2 3, bk_ p69 cur69 3, bk_ p7 #[i6_ bb.n, str bb.set, str bb.rel] 28, bk_ p6 #[i6_ aa.n, str aa.set, str aa.rel] 28, bk_ p4 #[i6_ bb.n, str bb.set, str bb.rel] 28, bk_ p2 #[i6_ aa.n, str aa.set, str aa.rel] 28], p_67, rfl, ⟨⟨⟨haa.tame, hbb.tame⟩, ⟨(by first | omega | (simp only [List.length_append, List.length_cons, List.length_nil, List.length_take, List.length_set]; omega)), (by first | omega | (simp only [List.length_append, List.length_cons, List.length_nil, List.length_take, List.length_set]; omega))⟩, fun w1 h1 => ⟨(Own.row h1 (i := 4) rfl (by simpa using htp69) (by simp) hlp69), (Own.row h1 (i := 3) rfl htg2 (by simp) hlg2)⟩⟩, by omega⟩, hw.perm (List.perm_middle (l₁ := ([bk_ p68 #[i6_ v67] 3, bk_ p66 #[i6_ (-2), i6_ 8, i6_ 0] 3, bk_ p31 #[i6_ 2, i6_ 2, i6_ 1, i6_ 2, i6_ 3] 3, bk_ g2 u2 3, bk_ p69 cur69 3, bk_ p7 #[i6_ bb.n, str bb.set, str bb.rel] 28, bk_ p6 #[i6_ aa.n, str aa.set, str aa.rel] 28, bk_ p4 #[i6_ bb.n, str bb.set, str bb.rel] 28, bk_ p2 #[i6_ aa.n, str aa.set, str aa.rel] 28] : List (Nat × Obj))) (l₂ := hs))⟩
  ·
   replace h62 := of_decide_eq_false h62
   refine Wk.seq ?_
   refine Wk.regionQ ?_
   refine Lq.run 2 rfl ?_
   refine Lq.nil ?_
   refine Kt.sel [0, 2, 4, 6, 7, 8, 9, 61, 70] [_, _, _, _, _, _, _, _, _] rfl ?_
   refine Wk.cond (b := decide (k61 = (1 : Int))) rfl (fun h70 => ?_) (fun h70 => ?_)
   ·
    replace h70 := of_decide_eq_true h70
    refine Wk.region ?_
    refine Ll.run 2 rfl ?_
    refine Ll.op (v := pf_ g (0 + (0 : Int).toNat)) rfl rfl rfl (OpQ.indexAddr1 rfl Tryd.runUnderlying24 Tryd.sizeOf3 rfl rfl (by omega) (by omega)) ?_
    refine Ll.op (v := i6_ (xs.getD (0 + (0 : Int).toNat) 0)) rfl rfl rfl (OpQ.loadAt 2 rfl Tryd.isAgg3 rfl rfl (cur_at htg (by rw [Nat.zero_add]; exact ints_at2 (by omega)))) ?_
    have hx0 : -1 ≤ xs.getD (0 + (0 : Int).toNat) 0 ∧ xs.getD (0 + (0 : Int).toNat) 0 ≤ 8 := by rw [Nat.zero_add, getD_at (by omega)]; exact hxr _ (List.getElem_mem _)
    refine Ll.op rfl rfl rfl (OpQ.sub rfl rfl rfl (by omega) (by omega)) ?_
    refine Ll.op (v := pf_ g (0 + (0 : Int).toNat)) rfl rfl rfl (OpQ.indexAddr1 rfl Tryd.runUnderlying24 Tryd.sizeOf3 rfl rfl (by omega) (by omega)) ?_
    refine Ll.store1 (v := i6_ ((-1 : Int) - (xs.getD (0 + (0 : Int).toNat) 0))) (hs' := (_ :: _ :: bk_ g ((u.setIfInBounds ((0 : Int).toNat) (i6_ ((-1 : Int) - (xs.getD (0 + (0 : Int).toNat) 0))))) 3 :: _ :: _ :: _ :: _ :: _ :: hs)) 2 rfl rfl rfl rfl rfl rfl Tryd.sizeOf3 rfl (by rw [hcg]; omega) (by simp only [Nat.zero_add]; rfl) ?_
    refine Ll.nil ?_
    refine Kt.sel [2, 4, 6, 7, 8, 9] [_, _, _, _, _, _] rfl ?_
    refine Wk.seq ?_
    refine Wk.regionS (S := Own B w0 [bk_ p31 #[i6_ 2, i6_ 2, i6_ 1, i6_ 2, i6_ 3] 3, bk_ g2 u2 3, bk_ g ((u.setIfInBounds ((0 : Int).toNat) (i6_ ((-1 : Int) - (xs.getD (0 + (0 : Int).toNat) 0))))) 3, bk_ p7 #[i6_ bb.n, str bb.set, str bb.rel] 28, bk_ p6 #[i6_ aa.n, str aa.set, str aa.rel] 28, bk_ rp #[bv, i6_ ((p_61 : Int))] 110]) [(0, true), (1, true), (2, true), (3, true), (4, false), (5, true), (6, false), (7, true)] Base.mixed (fun _ h => h.drawn) (by kernel_rfl) ?_
    refine Ld.take rfl rfl rfl rfl rfl (OpQ.loadBox (cs := #[i6_ aa.n, str aa.set, str aa.rel]) 4 rfl Tryd.isAgg28 rfl rfl Tryd.sizeOf28) (pk [0, 1, 2, 3, 4, 7] rfl rfl) ?_
    refine Ld.run 1 rfl (pk [0, 1, 2, 3, 4, 7] rfl rfl) ?_
    refine Ld.take rfl rfl rfl rfl rfl (OpQ.loadBox (cs := #[i6_ bb.n, str bb.set, str bb.rel]) 3 rfl Tryd.isAgg28 rfl rfl Tryd.sizeOf28) (pk [0, 1, 2, 3, 4, 7] rfl rfl) ?_
    refine Ld.run 1 rfl (pk [0, 1, 2, 3, 4, 7] rfl rfl) ?_
    refine Ld.loud rfl ?_
    refine Ll.storeBox (cs' := #[i6_ aa.n, str aa.set, str aa.rel]) (hs' := (_ :: _ :: _ :: _ :: _ :: _ :: bk_ p2 #[i6_ aa.n, str aa.set, str aa.rel] 28 :: _ :: hs)) 6 rfl rfl rfl rfl rfl (by kernel_rfl : _ = some Tryd.t28) rfl rfl rfl rfl rfl ?_
    refine Ll.nil (Ld.joint (pk [0, 1, 2, 3, 4, 7] rfl rfl) ?_)
    refine Ld.run 1 rfl (pk [0, 1, 2, 3, 4, 7] rfl rfl) ?_
    refine Ld.loud rfl ?_
    refine Ll.storeBox (cs' := #[i6_ bb.n, str bb.set, str bb.rel]) (hs' := (_ :: _ :: _ :: _ :: _ :: bk_ p4 #[i6_ bb.n, str bb.set, str bb.rel] 28 :: _ :: _ :: hs)) 5 rfl rfl rfl rfl rfl (by kernel_rfl : _ = some Tryd.t28) rfl rfl rfl rfl rfl ?_
    refine Ll.nil (Ld.joint (pk [0, 1, 2, 3, 4, 7] rfl rfl) ?_)
    refine Ld.run 1 rfl (pk [0, 1, 2, 3, 4, 7] rfl rfl) ?_
    refine Ld.nil ?_
    refine Kt.sel [2, 3, 4, 5] [_, _, _, _] rfl ?_
    refine Wk.ret (Kt.endMany rfl (.cell (cs := #[i6_ aa.n, str aa.set, str aa.rel]) rfl (fun w1 hw1 => hw1.loadBox 6 rfl Tryd.isAgg28 Tryd.sizeOf28) (.tmp (v := sl_ g xs.length c) rfl (.cell (cs := #[i6_ bb.n, str bb.set, str bb.rel]) rfl (fun w1 hw1 => hw1.loadBox 5 rfl Tryd.isAgg28 Tryd.sizeOf28) (.tmp (v := sl_ g2 ys.length c2) rfl ResAt.nil)))) (by simp) fun w' hw => ?_)
    -- ret 1: vS aa; sl_ g xs.length c; vS bb; sl_ g2 ys.length c2
    exact ⟨aa, bb, sl_ g xs.length c, xs.set ((0 : Int).toNat) ((-1 : Int) - (xs.getD (0 + (0 : Int).toNat) 0)), sl_ g2 ys.length c2, ys, [bk_ p31 #[i6_ 2, i6_ 2, i6_ 1, i6_ 2, i6_ 3] 3, bk_ g2 u2 3, bk_ g ((u.setIfInBounds ((0 : Int).toNat) (i6_ ((-1 : Int) - (xs.getD (0 + (0 : Int).toNat) 0))))) 3, bk_ p7 #[i6_ bb.n, str bb.set, str bb.rel] 28, bk_ p6 #[i6_ aa.n, str aa.set, str aa.rel] 28, bk_ p4 #[i6_ bb.n, str bb.set, str bb.rel] 28, bk_ p2 #[i6_ aa.n, str aa.set, str aa.rel] 28], p_61, rfl, ⟨⟨⟨haa.tame, hbb.tame⟩, ⟨(by first | omega | (simp only [List.length_append, List.length_cons, List.length_nil, List.length_take, List.length_set]; omega)), (by first | omega | (simp only [List.length_append, List.length_cons, List.length_nil, List.length_take, List.length_set]; omega))⟩, fun w1 h1 => ⟨(Own.row h1 (i := 2) rfl (set_takeI htg) (by simp) hlg), (Own.row h1 (i := 1) rfl htg2 (by simp) hlg2)⟩⟩, by omega⟩, hw.perm (List.perm_middle (l₁ := ([bk_ p31 #[i6_ 2, i6_ 2, i6_ 1, i6_ 2, i6_ 3] 3, bk_ g2 u2 3, bk_ g ((u.setIfInBounds ((0 : Int).toNat) (i6_ ((-1 : Int) - (xs.getD (0 + (0 : Int).toNat) 0))))) 3, bk_ p7 #[i6_ bb.n, str bb.set, str bb.rel] 28, bk_ p6 #[i6_ aa.n, str aa.set, str aa.rel] 28, bk_ p4 #[i6_ bb.n, str bb.set, str bb.rel] 28, bk_ p2 #[i6_ aa.n, str aa.set, str aa.rel] 28] : List (Nat × Obj))) (l₂ := hs))⟩
   ·
    replace h70 := of_decide_eq_false h70
    refine Wk.seq ?_
    refine Wk.regionQ ?_
    refine Lq.run 2 rfl ?_
    refine Lq.nil ?_
    refine Kt.sel [0, 2, 4, 6, 7, 8, 9, 61, 78] [_, _, _, _, _, _, _, _, _] rfl ?_
    refine Wk.cond (b := decide (k61 = (2 : Int))) rfl (fun h78 => ?_) (fun h78 => ?_)
    ·
     replace h78 := of_decide_eq_true h78
     refine Wk.region ?_
     refine Ll.run 1 rfl ?_
     refine Ll.op rfl rfl rfl (OpQ.loadBox (cs := #[i6_ aa.n, str aa.set, str aa.rel]) 4 rfl Tryd.isAgg28 rfl rfl Tryd.sizeOf28) ?_
     refine Ll.callRd (rp := rp) (RT := 110) (p := p_61) (bv := bv) (hs := hs) (ok := fun (b : St) p' => ((-9223372036854775808 ≤ b.n ∧ b.n ≤ 9223372036854775807) ∧ b.set.length ≤ 50000 ∧ b.rel.length ≤ 50000) ∧ p' ≤ p_61 + 10) (v := fun (b : St) => vS b) (new := fun (b : St) => []) (xs := [.tmp 80, .tmp 81]) (vs := [pt_ rp, vS aa]) ([bk_ p31 #[i6_ 2, i6_ 2, i6_ 1, i6_ 2, i6_ 3] 3, bk_ g2 u2 3, bk_ g u 3, bk_ p7 #[i6_ bb.n, str bb.set, str bb.rel] 28, bk_ p6 #[i6_ aa.n, str aa.set, str aa.rel] 28, bk_ p4 #[i6_ 0, str ([]), str ([])] 28, bk_ p2 #[i6_ 0, str ([]), str ([])] 28] : List (Nat × Obj)) rfl rfl rfl rfl Tryd.call81 rfl (fun w1 hw1 => (l1Bad_ok B w0 (([bk_ p31 #[i6_ 2, i6_ 2, i6_ 1, i6_ 2, i6_ 3] 3, bk_ g2 u2 3, bk_ g u 3, bk_ p7 #[i6_ bb.n, str bb.set, str bb.rel] 28, bk_ p6 #[i6_ aa.n, str aa.set, str aa.rel] 28, bk_ p4 #[i6_ 0, str ([]), str ([])] 28, bk_ p2 #[i6_ 0, str ([]), str ([])] 28] : List (Nat × Obj)) ++ hs) rp p_61 bv L aa w1 (fun w2 hw2 => hb w2 (Own.drop (f := ([bk_ p31 #[i6_ 2, i6_ 2, i6_ 1, i6_ 2, i6_ 3] 3, bk_ g2 u2 3, bk_ g u 3, bk_ p7 #[i6_ bb.n, str bb.set, str bb.rel] 28, bk_ p6 #[i6_ aa.n, str aa.set, str aa.rel] 28, bk_ p4 #[i6_ 0, str ([]), str ([])] 28, bk_ p2 #[i6_ 0, str ([]), str ([])] 28] : List (Nat × Obj))) hw2)) hL8 hL haa (by omega) hw1).mono fun en w' ⟨b', p', h1, h2, h3⟩ => ⟨b', p', h1, h2, h3⟩) fun b82 p_82 hKp_82 => ?_
     show Ll _ _ (Own _ _ (_ :: _ :: _ :: _ :: _ :: _ :: _ :: _ :: hs)) _ _ ((82, vS b82) :: _) _ _ _
     obtain ⟨⟨⟨hlob82, hhib82⟩, hssb82, hrrb82⟩, hep_82⟩ := hKp_82
     refine Ll.storeBox (cs' := #[i6_ b82.n, str b82.set, str b82.rel]) (hs' := (_ :: _ :: _ :: _ :: bk_ p6 #[i6_ b82.n, str b82.set, str b82.rel] 28 :: _ :: _ :: _ :: hs)) 4 rfl rfl rfl rfl rfl (by kernel_rfl : _ = some Tryd.t28) rfl rfl rfl rfl rfl ?_
     refine Ll.nil ?_
     refine Kt.sel [2, 4, 6, 7, 8, 9] [_, _, _, _, _, _] rfl ?_
     refine Wk.seq ?_
     refine Wk.regionS (S := Own B w0 [bk_ p31 #[i6_ 2, i6_ 2, i6_ 1, i6_ 2, i6_ 3] 3, bk_ g2 u2 3, bk_ g u 3, bk_ p7 #[i6_ bb.n, str bb.set, str bb.rel] 28, bk_ p6 #[i6_ b82.n, str b82.set, str b82.rel] 28, bk_ rp #[bv, i6_ ((p_82 : Int))] 110]) [(0, true), (1, true), (2, true), (3, true), (4, false), (5, true), (6, false), (7, true)] Base.mixed (fun _ h => h.drawn) (by kernel_rfl) ?_
     refine Ld.take rfl rfl rfl rfl rfl (OpQ.loadBox (cs := #[i6_ b82.n, str b82.set, str b82.rel]) 4 rfl Tryd.isAgg28 rfl rfl Tryd.sizeOf28) (pk [0, 1, 2, 3, 4, 7] rfl rfl) ?_
     refine Ld.run 1 rfl (pk [0, 1, 2, 3, 4, 7] rfl rfl) ?_
     refine Ld.take rfl rfl rfl rfl rfl (OpQ.loadBox (cs := #[i6_ bb.n, str bb.set, str bb.rel]) 3 rfl Tryd.isAgg28 rfl rfl Tryd.sizeOf28) (pk [0, 1, 2, 3, 4, 7] rfl rfl) ?_
     refine Ld.run 1 rfl (pk [0, 1, 2, 3, 4, 7] rfl rfl) ?_
     refine Ld.loud rfl ?_
     refine Ll.storeBox (cs' := #[i6_ b82.n, str b82.set, str b82.rel]) (hs' := (_ :: _ :: _ :: _ :: _ :: _ :: bk_ p2 #[i6_ b82.n, str b82.set, str b82.rel] 28 :: _ :: hs)) 6 rfl rfl rfl rfl rfl (by kernel_rfl : _ = some Tryd.t28) rfl rfl rfl rfl rfl ?_
     refine Ll.nil (Ld.joint (pk [0, 1, 2, 3, 4, 7] rfl rfl) ?_)
     refine Ld.run 1 rfl (pk [0, 1, 2, 3, 4, 7] rfl rfl) ?_
     refine Ld.loud rfl ?_
     refine Ll.storeBox (cs' := #[i6_ bb.n, str bb.set, str bb.rel]) (hs' := (_ :: _ :: _ :: _ :: _ :: bk_ p4 #[i6_ bb.n, str bb.set, str bb.rel] 28 :: _ :: _ :: hs)) 5 rfl rfl rfl rfl rfl (by kernel_rfl : _ = some Tryd.t28) rfl rfl rfl rfl rfl ?_
     refine Ll.nil (Ld.joint (pk [0, 1, 2, 3, 4, 7] rfl rfl) ?_)
     refine Ld.run 1 rfl (pk [0, 1, 2, 3, 4, 7] rfl rfl) ?_
     refine Ld.nil ?_
     refine Kt.sel [2, 3, 4, 5] [_, _, _, _] rfl ?_
     refine Wk.ret (Kt.endMany rfl (.cell (cs := #[i6_ b82.n, str b82.set, str b82.rel]) rfl (fun w1 hw1 => hw1.loadBox 6 rfl Tryd.isAgg28 Tryd.sizeOf28) (.tmp (v := sl_ g xs.length c) rfl (.cell (cs := #[i6_ bb.n, str bb.set, str bb.rel]) rfl (fun w1 hw1 => hw1.loadBox 5 rfl Tryd.isAgg28 Tryd.sizeOf28) (.tmp (v := sl_ g2 ys.length c2) rfl ResAt.nil)))) (by simp) fun w' hw => ?_)
     -- ret 2: vS b82; sl_ g xs.length c; vS bb; sl_ g2 ys.length c2
     exact ⟨b82, bb, sl_ g xs.length c, xs, sl_ g2 ys.length c2, ys, [bk_ p31 #[i6_ 2, i6_ 2, i6_ 1, i6_ 2, i6_ 3] 3, bk_ g2 u2 3, bk_ g u 3, bk_ p7 #[i6_ bb.n, str bb.set, str bb.rel] 28, bk_ p6 #[i6_ b82.n, str b82.set, str b82.rel] 28, bk_ p4 #[i6_ bb.n, str bb.set, str bb.rel] 28, bk_ p2 #[i6_ b82.n, str b82.set, str b82.rel] 28], p_82, rfl, ⟨⟨⟨⟨hlob82, hhib82, hssb82, hrrb82⟩, hbb.tame⟩, ⟨(by first | omega | (simp only [List.length_append, List.length_cons, List.length_nil, List.length_take, List.length_set]; omega)), (by first | omega | (simp only [List.length_append, List.length_cons, List.length_nil, List.length_take, List.length_set]; omega))⟩, fun w1 h1 => ⟨(Own.row h1 (i := 2) rfl htg (by simp) hlg), (Own.row h1 (i := 1) rfl htg2 (by simp) hlg2)⟩⟩, by omega⟩, hw.perm (List.perm_middle (l₁ := ([bk_ p31 #[i6_ 2, i6_ 2, i6_ 1, i6_ 2, i6_ 3] 3, bk_ g2 u2 3, bk_ g u 3, bk_ p7 #[i6_ bb.n, str bb.set, str bb.rel] 28, bk_ p6 #[i6_ b82.n, str b82.set, str b82.rel] 28, bk_ p4 #[i6_ bb.n, str bb.set, str bb.rel] 28, bk_ p2 #[i6_ b82.n, str b82.set, str b82.rel] 28] : List (Nat × Obj))) (l₂ := hs))⟩
    ·
     replace h78 := of_decide_eq_false h78
     refine Wk.seq ?_
     refine Wk.regionQ ?_
     refine Lq.run 2 rfl ?_
     refine Lq.nil ?_
     refine Kt.sel [2, 4, 6, 7, 8, 9, 83] [_, _, _, _, _, _, _] rfl ?_
     refine Wk.cond (b := decide (k61 = (3 : Int))) rfl (fun h83 => ?_) (fun h83 => ?_)
     ·
      replace h83 := of_decide_eq_true h83
      refine Wk.seq ?_
      refine Wk.regionU (S := Own B w0 [bk_ p31 #[i6_ 2, i6_ 2, i6_ 1, i6_ 2, i6_ 3] 3, bk_ g2 u2 3, bk_ g u 3, bk_ p7 #[i6_ bb.n, str bb.set, str bb.rel] 28, bk_ p6 #[i6_ aa.n, str aa.set, str aa.rel] 28, bk_ rp #[bv, i6_ ((p_61 : Int))] 110]) (.take 0 (.take 2 (.three 1 (.two 3 (.one 4 (.take 5 (.one 6 (.take 7 .done)))) 4 (.take 5 (.two 3 (.one 6 (.take 7 .done)) 6 (.one 3 (.take 7 .done))))) 3 (.two 1 (.one 4 (.take 5 (.one 6 (.take 7 .done)))) 4 (.one 1 (.take 5 (.one 6 (.take 7 .done))))) 4 (.two 1 (.take 5 (.two 3 (.one 6 (.take 7 .done)) 6 (.one 3 (.take 7 .done)))) 3 (.one 1 (.take 5 (.one 6 (.take 7 .done)))))))) Base.mixed (fun _ h => h.drawn) (by kernel_rfl) ?_
      refine Lu.take rfl rfl rfl rfl rfl (OpQ.loadBox (cs := #[i6_ aa.n, str aa.set, str aa.rel]) 4 rfl Tryd.isAgg28 rfl rfl Tryd.sizeOf28) (pk [0, 1, 2, 3, 4, 7] rfl rfl) ?_
      refine Lu.take rfl rfl rfl rfl rfl (OpQ.loadBox (cs := #[i6_ bb.n, str bb.set, str bb.rel]) 3 rfl Tryd.isAgg28 rfl rfl Tryd.sizeOf28) (pk [0, 1, 2, 3, 4, 7] rfl rfl) ?_
      refine Lu.three rfl rfl rfl ?_ ?_ ?_
      ·
       refine Ll.slice (xs := []) (vs := []) Base.elem24 rfl rfl rfl rfl rfl rfl (by decide) rfl fun p86 hp86 => ?_
       refine Ll.nil (Lu.joint (pk [1, 2, 3, 4, 5, 8] rfl rfl) ?_)
       refine Lu.two rfl rfl ?_ ?_
       ·
        refine Ll.slice (xs := []) (vs := []) Base.elem24 rfl rfl rfl rfl rfl rfl (by decide) rfl fun p88 hp88 => ?_
        refine Ll.nil (Lu.joint (pk [2, 3, 4, 5, 6, 9] rfl rfl) ?_)
        refine Lu.loud rfl ?_
        refine Ll.storeBox (cs' := #[i6_ aa.n, str aa.set, str aa.rel]) (hs' := (_ :: _ :: _ :: _ :: _ :: _ :: _ :: _ :: bk_ p2 #[i6_ aa.n, str aa.set, str aa.rel] 28 :: _ :: hs)) 8 rfl rfl rfl rfl rfl (by kernel_rfl : _ = some Tryd.t28) rfl rfl rfl rfl rfl ?_
        refine Ll.nil (Lu.joint (pk [2, 3, 4, 5, 6, 9] rfl rfl) ?_)
        refine Lu.run 1 rfl (pk [2, 3, 4, 5, 6, 9] rfl rfl) ?_
        refine Lu.loud rfl ?_
        refine Ll.storeBox (cs' := #[i6_ bb.n, str bb.set, str bb.rel]) (hs' := (_ :: _ :: _ :: _ :: _ :: _ :: _ :: bk_ p4 #[i6_ bb.n, str bb.set, str bb.rel] 28 :: _ :: _ :: hs)) 7 rfl rfl rfl rfl rfl (by kernel_rfl : _ = some Tryd.t28) rfl rfl rfl rfl rfl ?_
        refine Ll.nil (Lu.joint (pk [2, 3, 4, 5, 6, 9] rfl rfl) ?_)
        refine Lu.run 1 rfl (pk [2, 3, 4, 5, 6, 9] rfl rfl) ?_
        refine Lu.nil ?_
        refine Kt.sel [2, 3, 4, 5] [_, _, _, _] rfl ?_
        refine Wk.ret (Kt.endMany rfl (.cell (cs := #[i6_ aa.n, str aa.set, str aa.rel]) rfl (fun w1 hw1 => hw1.loadBox 8 rfl Tryd.isAgg28 Tryd.sizeOf28) (.tmp (v := sl_ p86 0 0) rfl (.cell (cs := #[i6_ bb.n, str bb.set, str bb.rel]) rfl (fun w1 hw1 => hw1.loadBox 7 rfl Tryd.isAgg28 Tryd.sizeOf28) (.tmp (v := sl_ p88 0 0) rfl ResAt.nil)))) (by simp) fun w' hw => ?_)
        -- ret 3: vS aa; sl_ p86 0 0; vS bb; sl_ p88 0 0
        exact ⟨aa, bb, sl_ p86 0 0, [], sl_ p88 0 0, [], [bk_ p88 #[] 3, bk_ p86 #[] 3, bk_ p31 #[i6_ 2, i6_ 2, i6_ 1, i6_ 2, i6_ 3] 3, bk_ g2 u2 3, bk_ g u 3, bk_ p7 #[i6_ bb.n, str bb.set, str bb.rel] 28, bk_ p6 #[i6_ aa.n, str aa.set, str aa.rel] 28, bk_ p4 #[i6_ bb.n, str bb.set, str bb.rel] 28, bk_ p2 #[i6_ aa.n, str aa.set, str aa.rel] 28], p_61, rfl, ⟨⟨⟨haa.tame, hbb.tame⟩, ⟨(by first | omega | (simp only [List.length_append, List.length_cons, List.length_nil, List.length_take, List.length_set]; omega)), (by first | omega | (simp only [List.length_append, List.length_cons, List.length_nil, List.length_take, List.length_set]; omega))⟩, fun w1 h1 => ⟨(Own.row h1 (i := 1) rfl (n := 0) (cap := 0) (vs := ints []) rfl rfl (by decide)), (Own.row h1 (i := 0) rfl (n := 0) (cap := 0) (vs := ints []) rfl rfl (by decide))⟩⟩, by omega⟩, hw.perm (List.perm_middle (l₁ := ([bk_ p88 #[] 3, bk_ p86 #[] 3, bk_ p31 #[i6_ 2, i6_ 2, i6_ 1, i6_ 2, i6_ 3] 3, bk_ g2 u2 3, bk_ g u 3, bk_ p7 #[i6_ bb.n, str bb.set, str bb.rel] 28, bk_ p6 #[i6_ aa.n, str aa.set, str aa.rel] 28, bk_ p4 #[i6_ bb.n, str bb.set, str bb.rel] 28, bk_ p2 #[i6_ aa.n, str aa.set, str aa.rel] 28] : List (Nat × Obj))) (l₂ := hs))⟩
       ·
        refine Ll.storeBox (cs' := #[i6_ aa.n, str aa.set, str aa.rel]) (hs' := (_ :: _ :: _ :: _ :: _ :: _ :: _ :: bk_ p2 #[i6_ aa.n, str aa.set, str aa.rel] 28 :: _ :: hs)) 7 rfl rfl rfl rfl rfl (by kernel_rfl : _ = some Tryd.t28) rfl rfl rfl rfl rfl ?_
        refine Ll.nil (Lu.joint (pk [1, 2, 3, 4, 5, 8] rfl rfl) ?_)
        refine Lu.run 1 rfl (pk [1, 2, 3, 4, 5, 8] rfl rfl) ?_
        refine Lu.two rfl rfl ?_ ?_
        ·
         refine Ll.slice (xs := []) (vs := []) Base.elem24 rfl rfl rfl rfl rfl rfl (by decide) rfl fun p88_1 hp88_1 => ?_
         refine Ll.nil (Lu.joint (pk [2, 3, 4, 5, 6, 9] rfl rfl) ?_)
         refine Lu.loud rfl ?_
         refine Ll.storeBox (cs' := #[i6_ bb.n, str bb.set, str bb.rel]) (hs' := (_ :: _ :: _ :: _ :: _ :: _ :: _ :: bk_ p4 #[i6_ bb.n, str bb.set, str bb.rel] 28 :: _ :: _ :: hs)) 7 rfl rfl rfl rfl rfl (by kernel_rfl : _ = some Tryd.t28) rfl rfl rfl rfl rfl ?_
         refine Ll.nil (Lu.joint (pk [2, 3, 4, 5, 6, 9] rfl rfl) ?_)
         refine Lu.run 1 rfl (pk [2, 3, 4, 5, 6, 9] rfl rfl) ?_
         refine Lu.nil ?_
         refine Kt.sel [2, 3, 4, 5] [_, _, _, _] rfl ?_
         refine Wk.ret (Kt.endMany rfl (.cell (cs := #[i6_ aa.n, str aa.set, str aa.rel]) rfl (fun w1 hw1 => hw1.loadBox 8 rfl Tryd.isAgg28 Tryd.sizeOf28) (.tmp (v := sl_ p86 0 0) rfl (.cell (cs := #[i6_ bb.n, str bb.set, str bb.rel]) rfl (fun w1 hw1 => hw1.loadBox 7 rfl Tryd.isAgg28 Tryd.sizeOf28) (.tmp (v := sl_ p88_1 0 0) rfl ResAt.nil)))) (by simp) fun w' hw => ?_)
         -- ret 4: vS aa; sl_ p86 0 0; vS bb; sl_ p88_1 0 0
         exact ⟨aa, bb, sl_ p86 0 0, [], sl_ p88_1 0 0, [], [bk_ p88_1 #[] 3, bk_ p86 #[] 3, bk_ p31 #[i6_ 2, i6_ 2, i6_ 1, i6_ 2, i6_ 3] 3, bk_ g2 u2 3, bk_ g u 3, bk_ p7 #[i6_ bb.n, str bb.set, str bb.rel] 28, bk_ p6 #[i6_ aa.n, str aa.set, str aa.rel] 28, bk_ p4 #[i6_ bb.n, str bb.set, str bb.rel] 28, bk_ p2 #[i6_ aa.n, str aa.set, str aa.rel] 28], p_61, rfl, ⟨⟨⟨haa.tame, hbb.tame⟩, ⟨(by first | omega | (simp only [List.length_append, List.length_cons, List.length_nil, List.length_take, List.length_set]; omega)), (by first | omega | (simp only [List.length_append, List.length_cons, List.length_nil, List.length_take, List.length_set]; omega))⟩, fun w1 h1 => ⟨(Own.row h1 (i := 1) rfl (n := 0) (cap := 0) (vs := ints []) rfl rfl (by decide)), (Own.row h1 (i := 0) rfl (n := 0) (cap := 0) (vs := ints []) rfl rfl (by decide))⟩⟩, by omega⟩, hw.perm (List.perm_middle (l₁ := ([bk_ p88_1 #[] 3, bk_ p86 #[] 3, bk_ p31 #[i6_ 2, i6_ 2, i6_ 1, i6_ 2, i6_ 3] 3, bk_ g2 u2 3, bk_ g u 3, bk_ p7 #[i6_ bb.n, str bb.set, str bb.rel] 28, bk_ p6 #[i6_ aa.n, str aa.set, str aa.rel] 28, bk_ p4 #[i6_ bb.n, str bb.set, str bb.rel] 28, bk_ p2 #[i6_ aa.n, str aa.set, str aa.rel] 28] : List (Nat × Obj))) (l₂ := hs))⟩
        ·
         refine Ll.storeBox (cs' := #[i6_ bb.n, str bb.set, str bb.rel]) (hs' := (_ :: _ :: _ :: _ :: _ :: _ :: bk_ p4 #[i6_ bb.n, str bb.set, str bb.rel] 28 :: _ :: _ :: hs)) 6 rfl rfl rfl rfl rfl (by kernel_rfl : _ = some Tryd.t28) rfl rfl rfl rfl rfl ?_
         refine Ll.nil (Lu.joint (pk [1, 2, 3, 4, 5, 8] rfl rfl) ?_)
         refine Lu.loud rfl ?_
         refine Ll.slice (xs := []) (vs := []) Base.elem24 rfl rfl rfl rfl rfl rfl (by decide) rfl fun p88_2 hp88_2 => ?_
         refine Ll.nil (Lu.joint (pk [2, 3, 4, 5, 6, 9] rfl rfl) ?_)
         refine Lu.run 1 rfl (pk [2, 3, 4, 5, 6, 9] rfl rfl) ?_
         refine Lu.nil ?_
         refine Kt.sel [2, 3, 4, 5] [_, _, _, _] rfl ?_
         refine Wk.ret (Kt.endMany rfl (.cell (cs := #[i6_ aa.n, str aa.set, str aa.rel]) rfl (fun w1 hw1 => hw1.loadBox 8 rfl Tryd.isAgg28 Tryd.sizeOf28) (.tmp (v := sl_ p86 0 0) rfl (.cell (cs := #[i6_ bb.n, str bb.set, str bb.rel]) rfl (fun w1 hw1 => hw1.loadBox 7 rfl Tryd.isAgg28 Tryd.sizeOf28) (.tmp (v := sl_ p88_2 0 0) rfl ResAt.nil)))) (by simp) fun w' hw => ?_)
         -- ret 5: vS aa; sl_ p86 0 0; vS bb; sl_ p88_2 0 0
         exact ⟨aa, bb, sl_ p86 0 0, [], sl_ p88_2 0 0, [], [bk_ p88_2 #[] 3, bk_ p86 #[] 3, bk_ p31 #[i6_ 2, i6_ 2, i6_ 1, i6_ 2, i6_ 3] 3, bk_ g2 u2 3, bk_ g u 3, bk_ p7 #[i6_ bb.n, str bb.set, str bb.rel] 28, bk_ p6 #[i6_ aa.n, str aa.set, str aa.rel] 28, bk_ p4 #[i6_ bb.n, str bb.set, str bb.rel] 28, bk_ p2 #[i6_ aa.n, str aa.set, str aa.rel] 28], p_61, rfl, ⟨⟨⟨haa.tame, hbb.tame⟩, ⟨(by first | omega | (simp only [List.length_append, List.length_cons, List.length_nil, List.length_take, List.length_set]; omega)), (by first | omega | (simp only [List.length_append, List.length_cons, List.length_nil, List.length_take, List.length_set]; omega))⟩, fun w1 h1 => ⟨(Own.row h1 (i := 1) rfl (n := 0) (cap := 0) (vs := ints []) rfl rfl (by decide)), (Own.row h1 (i := 0) rfl (n := 0) (cap := 0) (vs := ints []) rfl rfl (by decide))⟩⟩, by omega⟩, hw.perm (List.perm_middle (l₁ := ([bk_ p88_2 #[] 3, bk_ p86 #[] 3, bk_ p31 #[i6_ 2, i6_ 2, i6_ 1, i6_ 2, i6_ 3] 3, bk_ g2 u2 3, bk_ g u 3, bk_ p7 #[i6_ bb.n, str bb.set, str bb.rel] 28, bk_ p6 #[i6_ aa.n, str aa.set, str aa.rel] 28, bk_ p4 #[i6_ bb.n, str bb.set, str bb.rel] 28, bk_ p2 #[i6_ aa.n, str aa.set, str aa.rel] 28] : List (Nat × Obj))) (l₂ := hs))⟩
      ·
       refine Ll.slice (xs := []) (vs := []) Base.elem24 rfl rfl rfl rfl rfl rfl (by decide) rfl fun p88_3 hp88_3 => ?_
       refine Ll.nil (Lu.joint (pk [1, 2, 3, 4, 5, 8] rfl rfl) ?_)
       refine Lu.two rfl rfl ?_ ?_
       ·
        refine Ll.slice (xs := []) (vs := []) Base.elem24 rfl rfl rfl rfl rfl rfl (by decide) rfl fun p86_1 hp86_1 => ?_
        refine Ll.nil (Lu.joint (pk [2, 3, 4, 5, 6, 9] rfl rfl) ?_)
        refine Lu.loud rfl ?_
        refine Ll.storeBox (cs' := #[i6_ aa.n, str aa.set, str aa.rel]) (hs' := (_ :: _ :: _ :: _ :: _ :: _ :: _ :: _ :: bk_ p2 #[i6_ aa.n, str aa.set, str aa.rel] 28 :: _ :: hs)) 8 rfl rfl rfl rfl rfl (by kernel_rfl : _ = some Tryd.t28) rfl rfl rfl rfl rfl ?_
        refine Ll.nil (Lu.joint (pk [2, 3, 4, 5, 6, 9] rfl rfl) ?_)
        refine Lu.run 1 rfl (pk [2, 3, 4, 5, 6, 9] rfl rfl) ?_
        refine Lu.loud rfl ?_
        refine Ll.storeBox (cs' := #[i6_ bb.n, str bb.set, str bb.rel]) (hs' := (_ :: _ :: _ :: _ :: _ :: _ :: _ :: bk_ p4 #[i6_ bb.n, str bb.set, str bb.rel] 28 :: _ :: _ :: hs)) 7 rfl rfl rfl rfl rfl (by kernel_rfl : _ = some Tryd.t28) rfl rfl rfl rfl rfl ?_
        refine Ll.nil (Lu.joint (pk [2, 3, 4, 5, 6, 9] rfl rfl) ?_)
        refine Lu.run 1 rfl (pk [2, 3, 4, 5, 6, 9] rfl rfl) ?_
        refine Lu.nil ?_
        refine Kt.sel [2, 3, 4, 5] [_, _, _, _] rfl ?_
        refine Wk.ret (Kt.endMany rfl (.cell (cs := #[i6_ aa.n, str aa.set, str aa.rel]) rfl (fun w1 hw1 => hw1.loadBox 8 rfl Tryd.isAgg28 Tryd.sizeOf28) (.tmp (v := sl_ p86_1 0 0) rfl (.cell (cs := #[i6_ bb.n, str bb.set, str bb.rel]) rfl (fun w1 hw1 => hw1.loadBox 7 rfl Tryd.isAgg28 Tryd.sizeOf28) (.tmp (v := sl_ p88_3 0 0) rfl ResAt.nil)))) (by simp) fun w' hw => ?_)
        -- ret 6: vS aa; sl_ p86_1 0 0; vS bb; sl_ p88_3 0 0
        exact ⟨aa, bb, sl_ p86_1 0 0, [], sl_ p88_3 0 0, [], [bk_ p86_1 #[] 3, bk_ p88_3 #[] 3, bk_ p31 #[i6_ 2, i6_ 2, i6_ 1, i6_ 2, i6_ 3] 3, bk_ g2 u2 3, bk_ g u 3, bk_ p7 #[i6_ bb.n, str bb.set, str bb.rel] 28, bk_ p6 #[i6_ aa.n, str aa.set, str aa.rel] 28, bk_ p4 #[i6_ bb.n, str bb.set, str bb.rel] 28, bk_ p2 #[i6_ aa.n, str aa.set, str aa.rel] 28], p_61, rfl, ⟨⟨⟨haa.tame, hbb.tame⟩, ⟨(by first | omega | (simp only [List.length_append, List.length_cons, List.length_nil, List.length_take, List.length_set]; omega)), (by first | omega | (simp only [List.length_append, List.length_cons, List.length_nil, List.length_take, List.length_set]; omega))⟩, fun w1 h1 => ⟨(Own.row h1 (i := 0) rfl (n := 0) (cap := 0) (vs := ints []) rfl rfl (by decide)), (Own.row h1 (i := 1) rfl (n := 0) (cap := 0) (vs := ints []) rfl rfl (by decide))⟩⟩, by omega⟩, hw.perm (List.perm_middle (l₁ := ([bk_ p86_1 #[] 3, bk_ p88_3 #[] 3, bk_ p31 #[i6_ 2, i6_ 2, i6_ 1, i6_ 2, i6_ 3] 3, bk_ g2 u2 3, bk_ g u 3, bk_ p7 #[i6_ bb.n, str bb.set, str bb.rel] 28, bk_ p6 #[i6_ aa.n, str aa.set, str aa.rel] 28, bk_ p4 #[i6_ bb.n, str bb.set, str bb.rel] 28, bk_ p2 #[i6_ aa.n, str aa.set, str aa.rel] 28] : List (Nat × Obj))) (l₂ := hs))⟩
       ·
        refine Ll.storeBox (cs' := #[i6_ aa.n, str aa.set, str aa.rel]) (hs' := (_ :: _ :: _ :: _ :: _ :: _ :: _ :: bk_ p2 #[i6_ aa.n, str aa.set, str aa.rel] 28 :: _ :: hs)) 7 rfl rfl rfl rfl rfl (by kernel_rfl : _ = some Tryd.t28) rfl rfl rfl rfl rfl ?_
        refine Ll.nil (Lu.joint (pk [1, 2, 3, 4, 5, 8] rfl rfl) ?_)
        refine Lu.loud rfl ?_
        refine Ll.slice (xs := []) (vs := []) Base.elem24 rfl rfl rfl rfl rfl rfl (by decide) rfl fun p86_2 hp86_2 => ?_
        refine Ll.nil (Lu.joint (pk [2, 3, 4, 5, 6, 9] rfl rfl) ?_)
        refine Lu.run 1 rfl (pk [2, 3, 4, 5, 6, 9] rfl rfl) ?_
        refine Lu.loud rfl ?_
        refine Ll.storeBox (cs' := #[i6_ bb.n, str bb.set, str bb.rel]) (hs' := (_ :: _ :: _ :: _ :: _ :: _ :: _ :: bk_ p4 #[i6_ bb.n, str bb.set, str bb.rel] 28 :: _ :: _ :: hs)) 7 rfl rfl rfl rfl rfl (by kernel_rfl : _ = some Tryd.t28) rfl rfl rfl rfl rfl ?_
        refine Ll.nil (Lu.joint (pk [2, 3, 4, 5, 6, 9] rfl rfl) ?_)
        refine Lu.run 1 rfl (pk [2, 3, 4, 5, 6, 9] rfl rfl) ?_
        refine Lu.nil ?_
        refine Kt.sel [2, 3, 4, 5] [_, _, _, _] rfl ?_
        refine Wk.ret (Kt.endMany rfl (.cell (cs := #[i6_ aa.n, str aa.set, str aa.rel]) rfl (fun w1 hw1 => hw1.loadBox 8 rfl Tryd.isAgg28 Tryd.sizeOf28) (.tmp (v := sl_ p86_2 0 0) rfl (.cell (cs := #[i6_ bb.n, str bb.set, str bb.rel]) rfl (fun w1 hw1 => hw1.loadBox 7 rfl Tryd.isAgg28 Tryd.sizeOf28) (.tmp (v := sl_ p88_3 0 0) rfl ResAt.nil)))) (by simp) fun w' hw => ?_)
        -- ret 7: vS aa; sl_ p86_2 0 0; vS bb; sl_ p88_3 0 0
        exact ⟨aa, bb, sl_ p86_2 0 0, [], sl_ p88_3 0 0, [], [bk_ p86_2 #[] 3, bk_ p88_3 #[] 3, bk_ p31 #[i6_ 2, i6_ 2, i6_ 1, i6_ 2, i6_ 3] 3, bk_ g2 u2 3, bk_ g u 3, bk_ p7 #[i6_ bb.n, str bb.set, str bb.rel] 28, bk_ p6 #[i6_ aa.n, str aa.set, str aa.rel] 28, bk_ p4 #[i6_ bb.n, str bb.set, str bb.rel] 28, bk_ p2 #[i6_ aa.n, str aa.set, str aa.rel] 28], p_61, rfl, ⟨⟨⟨haa.tame, hbb.tame⟩, ⟨(by first | omega | (simp only [List.length_append, List.length_cons, List.length_nil, List.length_take, List.length_set]; omega)), (by first | omega | (simp only [List.length_append, List.length_cons, List.length_nil, List.length_take, List.length_set]; omega))⟩, fun w1 h1 => ⟨(Own.row h1 (i := 0) rfl (n := 0) (cap := 0) (vs := ints []) rfl rfl (by decide)), (Own.row h1 (i := 1) rfl (n := 0) (cap := 0) (vs := ints []) rfl rfl (by decide))⟩⟩, by omega⟩, hw.perm (List.perm_middle (l₁ := ([bk_ p86_2 #[] 3, bk_ p88_3 #[] 3, bk_ p31 #[i6_ 2, i6_ 2, i6_ 1, i6_ 2, i6_ 3] 3, bk_ g2 u2 3, bk_ g u 3, bk_ p7 #[i6_ bb.n, str bb.set, str bb.rel] 28, bk_ p6 #[i6_ aa.n, str aa.set, str aa.rel] 28, bk_ p4 #[i6_ bb.n, str bb.set, str bb.rel] 28, bk_ p2 #[i6_ aa.n, str aa.set, str aa.rel] 28] : List (Nat × Obj))) (l₂ := hs))⟩
      ·
       refine Ll.storeBox (cs' := #[i6_ aa.n, str aa.set, str aa.rel]) (hs' := (_ :: _ :: _ :: _ :: _ :: _ :: bk_ p2 #[i6_ aa.n, str aa.set, str aa.rel] 28 :: _ :: hs)) 6 rfl rfl rfl rfl rfl (by kernel_rfl : _ = some Tryd.t28) rfl rfl rfl rfl rfl ?_
       refine Ll.nil (Lu.joint (pk [0, 1, 2, 3, 4, 7] rfl rfl) ?_)
       refine Lu.two rfl rfl ?_ ?_
       ·
        refine Ll.slice (xs := []) (vs := []) Base.elem24 rfl rfl rfl rfl rfl rfl (by decide) rfl fun p86_3 hp86_3 => ?_
        refine Ll.nil (Lu.joint (pk [1, 2, 3, 4, 5, 8] rfl rfl) ?_)
        refine Lu.run 1 rfl (pk [1, 2, 3, 4, 5, 8] rfl rfl) ?_
        refine Lu.two rfl rfl ?_ ?_
        ·
         refine Ll.slice (xs := []) (vs := []) Base.elem24 rfl rfl rfl rfl rfl rfl (by decide) rfl fun p88_4 hp88_4 => ?_
         refine Ll.nil (Lu.joint (pk [2, 3, 4, 5, 6, 9] rfl rfl) ?_)
         refine Lu.loud rfl ?_
         refine Ll.storeBox (cs' := #[i6_ bb.n, str bb.set, str bb.rel]) (hs' := (_ :: _ :: _ :: _ :: _ :: _ :: _ :: bk_ p4 #[i6_ bb.n, str bb.set, str bb.rel] 28 :: _ :: _ :: hs)) 7 rfl rfl rfl rfl rfl (by kernel_rfl : _ = some Tryd.t28) rfl rfl rfl rfl rfl ?_
         refine Ll.nil (Lu.joint (pk [2, 3, 4, 5, 6, 9] rfl rfl) ?_)
         refine Lu.run 1 rfl (pk [2, 3, 4, 5, 6, 9] rfl rfl) ?_
         refine Lu.nil ?_
         refine Kt.sel [2, 3, 4, 5] [_, _, _, _] rfl ?_
         refine Wk.ret (Kt.endMany rfl (.cell (cs := #[i6_ aa.n, str aa.set, str aa.rel]) rfl (fun w1 hw1 => hw1.loadBox 8 rfl Tryd.isAgg28 Tryd.sizeOf28) (.tmp (v := sl_ p86_3 0 0) rfl (.cell (cs := #[i6_ bb.n, str bb.set, str bb.rel]) rfl (fun w1 hw1 => hw1.loadBox 7 rfl Tryd.isAgg28 Tryd.sizeOf28) (.tmp (v := sl_ p88_4 0 0) rfl ResAt.nil)))) (by simp) fun w' hw => ?_)
         -- ret 8: vS aa; sl_ p86_3 0 0; vS bb; sl_ p88_4 0 0
         exact ⟨aa, bb, sl_ p86_3 0 0, [], sl_ p88_4 0 0, [], [bk_ p88_4 #[] 3, bk_ p86_3 #[] 3, bk_ p31 #[i6_ 2, i6_ 2, i6_ 1, i6_ 2, i6_ 3] 3, bk_ g2 u2 3, bk_ g u 3, bk_ p7 #[i6_ bb.n, str bb.set, str bb.rel] 28, bk_ p6 #[i6_ aa.n, str aa.set, str aa.rel] 28, bk_ p4 #[i6_ bb.n, str bb.set, str bb.rel] 28, bk_ p2 #[i6_ aa.n, str aa.set, str aa.rel] 28], p_61, rfl, ⟨⟨⟨haa.tame, hbb.tame⟩, ⟨(by first | omega | (simp only [List.length_append, List.length_cons, List.length_nil, List.length_take, List.length_set]; omega)), (by first | omega | (simp only [List.length_append, List.length_cons, List.length_nil, List.length_take, List.length_set]; omega))⟩, fun w1 h1 => ⟨(Own.row h1 (i := 1) rfl (n := 0) (cap := 0) (vs := ints []) rfl rfl (by decide)), (Own.row h1 (i := 0) rfl (n := 0) (cap := 0) (vs := ints []) rfl rfl (by decide))⟩⟩, by omega⟩, hw.perm (List.perm_middle (l₁ := ([bk_ p88_4 #[] 3, bk_ p86_3 #[] 3, bk_ p31 #[i6_ 2, i6_ 2, i6_ 1, i6_ 2, i6_ 3] 3, bk_ g2 u2 3, bk_ g u 3, bk_ p7 #[i6_ bb.n, str bb.set, str bb.rel] 28, bk_ p6 #[i6_ aa.n, str aa.set, str aa.rel] 28, bk_ p4 #[i6_ bb.n, str bb.set, str bb.rel] 28, bk_ p2 #[i6_ aa.n, str aa.set, str aa.rel] 28] : List (Nat × Obj))) (l₂ := hs))⟩
        ·
         refine Ll.storeBox (cs' := #[i6_ bb.n, str bb.set, str bb.rel]) (hs' := (_ :: _ :: _ :: _ :: _ :: _ :: bk_ p4 #[i6_ bb.n, str bb.set, str bb.rel] 28 :: _ :: _ :: hs)) 6 rfl rfl rfl rfl rfl (by kernel_rfl : _ = some Tryd.t28) rfl rfl rfl rfl rfl ?_
         refine Ll.nil (Lu.joint (pk [1, 2, 3, 4, 5, 8] rfl rfl) ?_)
         refine Lu.loud rfl ?_
         refine Ll.slice (xs := []) (vs := []) Base.elem24 rfl rfl rfl rfl rfl rfl (by decide) rfl fun p88_5 hp88_5 => ?_
         refine Ll.nil (Lu.joint (pk [2, 3, 4, 5, 6, 9] rfl rfl) ?_)
         refine Lu.run 1 rfl (pk [2, 3, 4, 5, 6, 9] rfl rfl) ?_
         refine Lu.nil ?_
         refine Kt.sel [2, 3, 4, 5] [_, _, _, _] rfl ?_
         refine Wk.ret (Kt.endMany rfl (.cell (cs := #[i6_ aa.n, str aa.set, str aa.rel]) rfl (fun w1 hw1 => hw1.loadBox 8 rfl Tryd.isAgg28 Tryd.sizeOf28) (.tmp (v := sl_ p86_3 0 0) rfl (.cell (cs := #[i6_ bb.n, str bb.set, str bb.rel]) rfl (fun w1 hw1 => hw1.loadBox 7 rfl Tryd.isAgg28 Tryd.sizeOf28) (.tmp (v := sl_ p88_5 0 0) rfl ResAt.nil)))) (by simp) fun w' hw => ?_)
         -- ret 9: vS aa; sl_ p86_3 0 0; vS bb; sl_ p88_5 0 0
         exact ⟨aa, bb, sl_ p86_3 0 0, [], sl_ p88_5 0 0, [], [bk_ p88_5 #[] 3, bk_ p86_3 #[] 3, bk_ p31 #[i6_ 2, i6_ 2, i6_ 1, i6_ 2, i6_ 3] 3, bk_ g2 u2 3, bk_ g u 3, bk_ p7 #[i6_ bb.n, str bb.set, str bb.rel] 28, bk_ p6 #[i6_ aa.n, str aa.set, str aa.rel] 28, bk_ p4 #[i6_ bb.n, str bb.set, str bb.rel] 28, bk_ p2 #[i6_ aa.n, str aa.set, str aa.rel] 28], p_61, rfl, ⟨⟨⟨haa.tame, hbb.tame⟩, ⟨(by first | omega | (simp only [List.length_append, List.length_cons, List.length_nil, List.length_take, List.length_set]; omega)), (by first | omega | (simp only [List.length_append, List.length_cons, List.length_nil, List.length_take, List.length_set]; omega))⟩, fun w1 h1 => ⟨(Own.row h1 (i := 1) rfl (n := 0) (cap := 0) (vs := ints []) rfl rfl (by decide)), (Own.row h1 (i := 0) rfl (n := 0) (cap := 0) (vs := ints []) rfl rfl (by decide))⟩⟩, by omega⟩, hw.perm (List.perm_middle (l₁ := ([bk_ p88_5 #[] 3, bk_ p86_3 #[] 3, bk_ p31 #[i6_ 2, i6_ 2, i6_ 1, i6_ 2, i6_ 3] 3, bk_ g2 u2 3, bk_ g u 3, bk_ p7 #[i6_ bb.n, str bb.set, str bb.rel] 28, bk_ p6 #[i6_ aa.n, str aa.set, str aa.rel] 28, bk_ p4 #[i6_ bb.n, str bb.set, str bb.rel] 28, bk_ p2 #[i6_ aa.n, str aa.set, str aa.rel] 28] : List (Nat × Obj))) (l₂ := hs))⟩
       ·
        refine Ll.slice (xs := []) (vs := []) Base.elem24 rfl rfl rfl rfl rfl rfl (by decide) rfl fun p88_6 hp88_6 => ?_
        refine Ll.nil (Lu.joint (pk [1, 2, 3, 4, 5, 8] rfl rfl) ?_)
        refine Lu.loud rfl ?_
        refine Ll.slice (xs := []) (vs := []) Base.elem24 rfl rfl rfl rfl rfl rfl (by decide) rfl fun p86_4 hp86_4 => ?_
        refine Ll.nil (Lu.joint (pk [2, 3, 4, 5, 6, 9] rfl rfl) ?_)
        refine Lu.run 1 rfl (pk [2, 3, 4, 5, 6, 9] rfl rfl) ?_
        refine Lu.loud rfl ?_
        refine Ll.storeBox (cs' := #[i6_ bb.n, str bb.set, str bb.rel]) (hs' := (_ :: _ :: _ :: _ :: _ :: _ :: _ :: bk_ p4 #[i6_ bb.n, str bb.set, str bb.rel] 28 :: _ :: _ :: hs)) 7 rfl rfl rfl rfl rfl (by kernel_rfl : _ = some Tryd.t28) rfl rfl rfl rfl rfl ?_
        refine Ll.nil (Lu.joint (pk [2, 3, 4, 5, 6, 9] rfl rfl) ?_)
        refine Lu.run 1 rfl (pk [2, 3, 4, 5, 6, 9] rfl rfl) ?_
        refine Lu.nil ?_
        refine Kt.sel [2, 3, 4, 5] [_, _, _, _] rfl ?_
        refine Wk.ret (Kt.endMany rfl (.cell (cs := #[i6_ aa.n, str aa.set, str aa.rel]) rfl (fun w1 hw1 => hw1.loadBox 8 rfl Tryd.isAgg28 Tryd.sizeOf28) (.tmp (v := sl_ p86_4 0 0) rfl (.cell (cs := #[i6_ bb.n, str bb.set, str bb.rel]) rfl (fun w1 hw1 => hw1.loadBox 7 rfl Tryd.isAgg28 Tryd.sizeOf28) (.tmp (v := sl_ p88_6 0 0) rfl ResAt.nil)))) (by simp) fun w' hw => ?_)
        -- ret 10: vS aa; sl_ p86_4 0 0; vS bb; sl_ p88_6 0 0
        exact ⟨aa, bb, sl_ p86_4 0 0, [], sl_ p88_6 0 0, [], [bk_ p86_4 #[] 3, bk_ p88_6 #[] 3, bk_ p31 #[i6_ 2, i6_ 2, i6_ 1, i6_ 2, i6_ 3] 3, bk_ g2 u2 3, bk_ g u 3, bk_ p7 #[i6_ bb.n, str bb.set, str bb.rel] 28, bk_ p6 #[i6_ aa.n, str aa.set, str aa.rel] 28, bk_ p4 #[i6_ bb.n, str bb.set, str bb.rel] 28, bk_ p2 #[i6_ aa.n, str aa.set, str aa.rel] 28], p_61, rfl, ⟨⟨⟨haa.tame, hbb.tame⟩, ⟨(by first | omega | (simp only [List.length_append, List.length_cons, List.length_nil, List.length_take, List.length_set]; omega)), (by first | omega | (simp only [List.length_append, List.length_cons, List.length_nil, List.length_take, List.length_set]; omega))⟩, fun w1 h1 => ⟨(Own.row h1 (i := 0) rfl (n := 0) (cap := 0) (vs := ints []) rfl rfl (by decide)), (Own.row h1 (i := 1) rfl (n := 0) (cap := 0) (vs := ints []) rfl rfl (by decide))⟩⟩, by omega⟩, hw.perm (List.perm_middle (l₁ := ([bk_ p86_4 #[] 3, bk_ p88_6 #[] 3, bk_ p31 #[i6_ 2, i6_ 2, i6_ 1, i6_ 2, i6_ 3] 3, bk_ g2 u2 3, bk_ g u 3, bk_ p7 #[i6_ bb.n, str bb.set, str bb.rel] 28, bk_ p6 #[i6_ aa.n, str aa.set, str aa.rel] 28, bk_ p4 #[i6_ bb.n, str bb.set, str bb.rel] 28, bk_ p2 #[i6_ aa.n, str aa.set, str aa.rel] 28] : List (Nat × Obj))) (l₂ := hs))⟩
     ·
      replace h83 := of_decide_eq_false h83
      refine Wk.skip ?_
      refine Kt.sel [2, 4, 6, 7, 8, 9] [_, _, _, _, _, _] rfl ?_
      refine Wk.seq ?_
      refine Wk.regionS (S := Own B w0 [bk_ p31 #[i6_ 2, i6_ 2, i6_ 1, i6_ 2, i6_ 3] 3, bk_ g2 u2 3, bk_ g u 3, bk_ p7 #[i6_ bb.n, str bb.set, str bb.rel] 28, bk_ p6 #[i6_ aa.n, str aa.set, str aa.rel] 28, bk_ rp #[bv, i6_ ((p_61 : Int))] 110]) [(0, true), (1, true), (2, true), (3, true), (4, false), (5, true), (6, false), (7, true)] Base.mixed (fun _ h => h.drawn) (by kernel_rfl) ?_
      refine Ld.take rfl rfl rfl rfl rfl (OpQ.loadBox (cs := #[i6_ aa.n, str aa.set, str aa.rel]) 4 rfl Tryd.isAgg28 rfl rfl Tryd.sizeOf28) (pk [0, 1, 2, 3, 4, 7] rfl rfl) ?_
      refine Ld.run 1 rfl (pk [0, 1, 2, 3, 4, 7] rfl rfl) ?_
      refine Ld.take rfl rfl rfl rfl rfl (OpQ.loadBox (cs := #[i6_ bb.n, str bb.set, str bb.rel]) 3 rfl Tryd.isAgg28 rfl rfl Tryd.sizeOf28) (pk [0, 1, 2, 3, 4, 7] rfl rfl) ?_
      refine Ld.run 1 rfl (pk [0, 1, 2, 3, 4, 7] rfl rfl) ?_
      refine Ld.loud rfl ?_
      refine Ll.storeBox (cs' := #[i6_ aa.n, str aa.set, str aa.rel]) (hs' := (_ :: _ :: _ :: _ :: _ :: _ :: bk_ p2 #[i6_ aa.n, str aa.set, str aa.rel] 28 :: _ :: hs)) 6 rfl rfl rfl rfl rfl (by kernel_rfl : _ = some Tryd.t28) rfl rfl rfl rfl rfl ?_
      refine Ll.nil (Ld.joint (pk [0, 1, 2, 3, 4, 7] rfl rfl) ?_)
      refine Ld.run 1 rfl (pk [0, 1, 2, 3, 4, 7] rfl rfl) ?_
      refine Ld.loud rfl ?_
      refine Ll.storeBox (cs' := #[i6_ bb.n, str bb.set, str bb.rel]) (hs' := (_ :: _ :: _ :: _ :: _ :: bk_ p4 #[i6_ bb.n, str bb.set, str bb.rel] 28 :: _ :: _ :: hs)) 5 rfl rfl rfl rfl rfl (by kernel_rfl : _ = some Tryd.t28) rfl rfl rfl rfl rfl ?_
      refine Ll.nil (Ld.joint (pk [0, 1, 2, 3, 4, 7] rfl rfl) ?_)
      refine Ld.run 1 rfl (pk [0, 1, 2, 3, 4, 7] rfl rfl) ?_
      refine Ld.nil ?_
      refine Kt.sel [2, 3, 4, 5] [_, _, _, _] rfl ?_
      refine Wk.ret (Kt.endMany rfl (.cell (cs := #[i6_ aa.n, str aa.set, str aa.rel]) rfl (fun w1 hw1 => hw1.loadBox 6 rfl Tryd.isAgg28 Tryd.sizeOf28) (.tmp (v := sl_ g xs.length c) rfl (.cell (cs := #[i6_ bb.n, str bb.set, str bb.rel]) rfl (fun w1 hw1 => hw1.loadBox 5 rfl Tryd.isAgg28 Tryd.sizeOf28) (.tmp (v := sl_ g2 ys.length c2) rfl ResAt.nil)))) (by simp) fun w' hw => ?_)
      -- ret 11: vS aa; sl_ g xs.length c; vS bb; sl_ g2 ys.length c2
      exact ⟨aa, bb, sl_ g xs.length c, xs, sl_ g2 ys.length c2, ys, [bk_ p31 #[i6_ 2, i6_ 2, i6_ 1, i6_ 2, i6_ 3] 3, bk_ g2 u2 3, bk_ g u 3, bk_ p7 #[i6_ bb.n, str bb.set, str bb.rel] 28, bk_ p6 #[i6_ aa.n, str aa.set, str aa.rel] 28, bk_ p4 #[i6_ bb.n, str bb.set, str bb.rel] 28, bk_ p2 #[i6_ aa.n, str aa.set, str aa.rel] 28], p_61, rfl, ⟨⟨⟨haa.tame, hbb.tame⟩, ⟨(by first | omega | (simp only [List.length_append, List.length_cons, List.length_nil, List.length_take, List.length_set]; omega)), (by first | omega | (simp only [List.length_append, List.length_cons, List.length_nil, List.length_take, List.length_set]; omega))⟩, fun w1 h1 => ⟨(Own.row h1 (i := 2) rfl htg (by simp) hlg), (Own.row h1 (i := 1) rfl htg2 (by simp) hlg2)⟩⟩, by omega⟩, hw.perm (List.perm_middle (l₁ := ([bk_ p31 #[i6_ 2, i6_ 2, i6_ 1, i6_ 2, i6_ 3] 3, bk_ g2 u2 3, bk_ g u 3, bk_ p7 #[i6_ bb.n, str bb.set, str bb.rel] 28, bk_ p6 #[i6_ aa.n, str aa.set, str aa.rel] 28, bk_ p4 #[i6_ bb.n, str bb.set, str bb.rel] 28, bk_ p2 #[i6_ aa.n, str aa.set, str aa.rel] 28] : List (Nat × Obj))) (l₂ := hs))⟩

end Go.Proofs.YtjcoijejhachhaaDoor
