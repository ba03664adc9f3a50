/-
  FnPebbleClasses: all that its proof names (part 7)
-/
import Derived.Test.YtjcoijejhachhaaGreatDoorKFnPebbleClassesf
import Derived.Test.YtjcoijejhachhaaGreatDoorKFnPebbleClassesc
import Derived.Test.YtjcoijejhachhaaGreatDoorKFnPebbleClassese
import Derived.Test.YtjcoijejhachhaaGreatDoorKFnPebbleClassesa
import Derived.Test.YtjcoijejhachhaaGreatDoorKFnPebbleClassesb
namespace Go.Proofs.YtjcoijejhachhaaGreatDoor
open Go.RowKit Go.Wk
set_option linter.unusedSimpArgs false
set_option maxHeartbeats 400000 in
/-- spec.l7Some -/
theorem l7Some_ok (B : Nat) (w0 : World) (hs : List (Nat × Obj)) (rp p : Nat) (bv : Value) (L : List Int) (w : World) (hb : ∀ w, Own B w0 hs w → Row w bv (u8s L)) (hL8 : Bytes8 L) (hL : L.length ≤ 2000) (hp : p ≤ 600000) (hw : Own B w0 ((rp, .cells #[bv, .int .i64 (p : Int)] 59 (0, 0)) :: hs) w) :
    Calls Tryz.prog 10 [pt_ rp].toArray w fun en w' => ∃ a : St, ∃ b : St, ∃ v : Value, ∃ xs : List Int, ∃ u : Value, ∃ ys : List Int, ∃ new : List (Nat × Obj), ∃ p' : Nat, en = .returned (.tuple #[vS a, v, vS b, u]) ∧ (((a.Tame ∧ b.Tame) ∧ (xs.length ≤ 40 ∧ ys.length ≤ 40) ∧ ∀ w1, Own B w0 new w1 → Ints w1 v xs ∧ Ints w1 u ys) ∧ p' ≤ p + 2000) ∧ Own B w0 ((rp, .cells #[bv, .int .i64 (p' : Int)] 59 (0, 0)) :: (new ++ hs)) w' := by
 refine fnStartC (Own B w0 ((rp, .cells #[bv, .int .i64 (p : Int)] 59 (0, 0)) :: hs)) (n := 93) (e := [(0, pt_ rp)]) Tryz.func10 rfl rfl rfl rfl Ends.both hw ?_
 refine Wk.seq ?_
 refine Wk.region ?_
 refine Ll.alloc rfl rfl rfl rfl Tryz.zeroValue24 fun p2 hp2 => ?_
 show Ll _ _ (Own _ _ (bk_ p2 #[i6_ 0, str ([]), str ([])] 24 :: _ :: hs)) _ _ ((2, pt_ p2) :: _) _ _ _
 refine Ll.run 1 rfl ?_
 refine Ll.alloc rfl rfl rfl rfl Tryz.zeroValue24 fun p4 hp4 => ?_
 show Ll _ _ (Own _ _ (bk_ p4 #[i6_ 0, str ([]), str ([])] 24 :: _ :: _ :: hs)) _ _ ((4, pt_ p4) :: _) _ _ _
 refine Ll.run 1 rfl ?_
 refine Ll.nil ?_
 refine Kt.sel [0, 2, 4] [_, _, _] rfl ?_
 refine Wk.seq ?_
 refine Wk.region ?_
 refine Ll.run 1 rfl ?_
 refine Ll.callRd (rp := rp) (RT := 59) (p := p) (bv := bv) (hs := hs) (ok := fun ((a, b) : St × St) p' => ((a.Fine ∧ a.n ≤ 5) ∧ (b.Fine ∧ b.n ≤ 5)) ∧ p' ≤ p + 1000) (v := fun ((a, b) : St × St) => .tuple #[vS a, vS b]) (new := fun ((a, b) : St × St) => []) (xs := [.tmp 12]) (vs := [pt_ rp]) ([bk_ p4 #[i6_ 0, str ([]), str ([])] 24, bk_ p2 #[i6_ 0, str ([]), str ([])] 24] : List (Nat × Obj)) rfl rfl rfl rfl Tryz.call31 rfl (fun w1 hw1 => (l1Pair_ok B w0 (([bk_ p4 #[i6_ 0, str ([]), str ([])] 24, bk_ p2 #[i6_ 0, str ([]), str ([])] 24] : List (Nat × Obj)) ++ hs) rp p bv L w1 (fun w2 hw2 => hb w2 (Own.drop (f := ([bk_ p4 #[i6_ 0, str ([]), str ([])] 24, bk_ p2 #[i6_ 0, str ([]), str ([])] 24] : List (Nat × Obj))) hw2)) hL8 hL (by omega) hw1).mono fun en w' ⟨a', b', p', h1, h2, h3⟩ => ⟨(a', b'), p', h1, h2, h3⟩) fun ⟨a13, b13⟩ p_13 hKp_13 => ?_
 show Ll _ _ (Own _ _ (_ :: _ :: _ :: hs)) _ _ ((13, .tuple #[vS a13, vS b13]) :: _) _ _ _
 obtain ⟨⟨⟨hfa13, h5a13⟩, ⟨hfb13, h5b13⟩⟩, hep_13⟩ := hKp_13
 refine Ll.run 1 rfl ?_
 refine Ll.op (v := vS a13) rfl rfl rfl (OpQ.extract rfl rfl rfl) ?_
 refine Ll.op (v := vS b13) rfl rfl rfl (OpQ.extract rfl rfl rfl) ?_
 refine Ll.alloc rfl rfl rfl rfl Tryz.zeroValue24 fun p6 hp6 => ?_
 show Ll _ _ (Own _ _ (bk_ p6 #[i6_ 0, str ([]), str ([])] 24 :: _ :: _ :: _ :: hs)) _ _ ((6, pt_ p6) :: _) _ _ _
 refine Ll.alloc rfl rfl rfl rfl Tryz.zeroValue24 fun p7 hp7 => ?_
 show Ll _ _ (Own _ _ (bk_ p7 #[i6_ 0, str ([]), str ([])] 24 :: _ :: _ :: _ :: _ :: hs)) _ _ ((7, pt_ p7) :: _) _ _ _
 refine Ll.storeBox (cs' := #[i6_ a13.n, str a13.set, str a13.rel]) (hs' := (_ :: bk_ p6 #[i6_ a13.n, str a13.set, str a13.rel] 24 :: _ :: _ :: _ :: hs)) 1 rfl rfl rfl rfl rfl (by kernel_rfl : _ = some Tryz.t24) rfl rfl rfl rfl rfl ?_
 refine Ll.storeBox (cs' := #[i6_ b13.n, str b13.set, str b13.rel]) (hs' := (bk_ p7 #[i6_ b13.n, str b13.set, str b13.rel] 24 :: _ :: _ :: _ :: _ :: hs)) 0 rfl rfl rfl rfl rfl (by kernel_rfl : _ = some Tryz.t24) rfl rfl rfl rfl rfl ?_
 refine Ll.nil ?_
 refine Kt.sel [0, 2, 4, 6, 7] [_, _, _, _, _] rfl ?_
 refine Wk.seq ?_
 refine Wk.seq ?_
 refine Wk.regionQ ?_
 refine Lq.op rfl rfl rfl (OpQ.fieldAddr rfl Tryz.runUnderlying24 rfl Tryz.sizeOf3 rfl rfl) ?_
 refine Lq.op rfl rfl rfl (OpQ.loadOwn 1 rfl Tryz.isAgg3 rfl rfl rfl) ?_
 refine Lq.run 1 rfl ?_
 refine Lq.nil ?_
 refine Kt.sel [0, 2, 4, 6, 7, 18] [_, _, _, _, _, _] rfl ?_
 refine Wk.join (σ := St) (fun aa => aa.Fine ∧ aa.n ≤ 5) (fun aa => [(0, pt_ rp), (2, pt_ p2), (4, pt_ p4), (6, pt_ p6), (7, pt_ p7)]) (fun aa => Own B w0 (bk_ p7 #[i6_ b13.n, str b13.set, str b13.rel] 24 :: bk_ p6 #[i6_ aa.n, str aa.set, str aa.rel] 24 :: bk_ p4 #[i6_ 0, str ([]), str ([])] 24 :: bk_ p2 #[i6_ 0, str ([]), str ([])] 24 :: bk_ rp #[bv, i6_ ((p_13 : Int))] 59 :: hs)) ?_ ?_
 ·
  refine Wk.cond (b := decide ((4 : Int) < a13.n)) rfl (fun h18 => ?_) (fun h18 => ?_)
  ·
   replace h18 := of_decide_eq_true h18
   refine Wk.region ?_
   refine Ll.op rfl rfl rfl (OpQ.loadBox (cs := #[i6_ a13.n, str a13.set, str a13.rel]) 1 rfl Tryz.isAgg24 rfl rfl Tryz.sizeOf24) ?_
   refine Ll.slice (xs := [.const (i6_ 0), .const (i6_ 1), .const (i6_ 2), .const (i6_ 3)]) (vs := [i6_ 0, i6_ 1, i6_ 2, i6_ 3]) Base.elem28 rfl rfl rfl rfl rfl rfl (by decide) rfl fun p20 hp20 => ?_
   refine Ll.callSome (ok := fun (b : St) => b.n = ([0, 1, 2, 3]).length ∧ (b.set.length : Int) = ([0, 1, 2, 3]).length ∧ b.rel.length = ([0, 1, 2, 3]).length * ([0, 1, 2, 3]).length) (v := fun (b : St) => vS b) (xs := [.tmp 19, .tmp 20]) (vs := [vS a13, sl_ p20 4 4]) rfl rfl rfl rfl Tryz.call32 rfl (fun w1 hw1 => (part_ok a13 (sl_ p20 4 4) ([0, 1, 2, 3]) w1 hfa13 (Own.row hw1 (i := 0) rfl (n := 4) (cap := 4) (vs := ints [0, 1, 2, 3]) rfl rfl (by decide)) (fun x hx => by simp at hx; exact ⟨by omega, by omega⟩) (by decide)).mono fun en w' ⟨b, h1, h2, h3⟩ => ⟨b, h1, h2, h3⟩) fun b21 hS21 => ?_
   show Ll _ _ (Own _ _ (_ :: _ :: _ :: _ :: _ :: _ :: hs)) _ _ ((21, vS b21) :: _) _ _ _
   obtain ⟨hnb21, hsb21, hrb21⟩ := hS21
   refine Ll.storeBox (cs' := #[i6_ b21.n, str b21.set, str b21.rel]) (hs' := (_ :: _ :: bk_ p6 #[i6_ b21.n, str b21.set, str b21.rel] 24 :: _ :: _ :: _ :: hs)) 2 rfl rfl rfl rfl rfl (by kernel_rfl : _ = some Tryz.t24) rfl rfl rfl rfl rfl ?_
   refine Ll.nil ?_
   refine Kt.joined (b21) (part_fine (n := 4) hnb21 hsb21 hrb21 rfl (by decide) (by decide)) (Sub.sel [0, 2, 4, 6, 7] rfl) (fun _ h => h.sub (List.Sublist.cons _ (List.Sublist.cons_cons _ (List.Sublist.cons_cons _ (List.Sublist.cons_cons _ (List.Sublist.cons_cons _ (List.Sublist.cons_cons _ (List.Sublist.refl _))))))))
  ·
   replace h18 := of_decide_eq_false h18
   refine Wk.skip ?_
   refine Kt.joined (a13) ⟨hfa13, h5a13⟩ (Sub.sel [0, 2, 4, 6, 7] rfl) (fun _ h => h.sub (List.Sublist.cons_cons _ (List.Sublist.cons_cons _ (List.Sublist.cons_cons _ (List.Sublist.cons_cons _ (List.Sublist.cons_cons _ (List.Sublist.refl _)))))))
 rintro aa ⟨haa, h5aa⟩
 have hloaa := haa.lo
 refine Kt.sel [0, 2, 4, 6, 7] [_, _, _, _, _] rfl ?_
 refine Wk.seq ?_
 refine Wk.seq ?_
 refine Wk.regionQ ?_
 refine Lq.op rfl rfl rfl (OpQ.fieldAddr rfl Tryz.runUnderlying24 rfl Tryz.sizeOf3 rfl rfl) ?_
 refine Lq.op rfl rfl rfl (OpQ.loadOwn 0 rfl Tryz.isAgg3 rfl rfl rfl) ?_
 refine Lq.run 1 rfl ?_
 refine Lq.nil ?_
 refine Kt.sel [0, 2, 4, 6, 7, 24] [_, _, _, _, _, _] rfl ?_
 refine Wk.join (σ := St) (fun bb => bb.Fine ∧ bb.n ≤ 5) (fun bb => [(0, pt_ rp), (2, pt_ p2), (4, pt_ p4), (6, pt_ p6), (7, pt_ p7)]) (fun bb => Own B w0 (bk_ p7 #[i6_ bb.n, str bb.set, str bb.rel] 24 :: bk_ p6 #[i6_ aa.n, str aa.set, str aa.rel] 24 :: bk_ p4 #[i6_ 0, str ([]), str ([])] 24 :: bk_ p2 #[i6_ 0, str ([]), str ([])] 24 :: bk_ rp #[bv, i6_ ((p_13 : Int))] 59 :: hs)) ?_ ?_
 ·
  refine Wk.cond (b := decide ((4 : Int) < b13.n)) rfl (fun h24 => ?_) (fun h24 => ?_)
  ·
   replace h24 := of_decide_eq_true h24
   refine Wk.region ?_
   refine Ll.op rfl rfl rfl (OpQ.loadBox (cs := #[i6_ b13.n, str b13.set, str b13.rel]) 0 rfl Tryz.isAgg24 rfl rfl Tryz.sizeOf24) ?_
   refine Ll.slice (xs := [.const (i6_ 0), .const (i6_ 1), .const (i6_ 2), .const (i6_ 3)]) (vs := [i6_ 0, i6_ 1, i6_ 2, i6_ 3]) Base.elem28 rfl rfl rfl rfl rfl rfl (by decide) rfl fun p26 hp26 => ?_
   refine Ll.callSome (ok := fun (b : St) => b.n = ([0, 1, 2, 3]).length ∧ (b.set.length : Int) = ([0, 1, 2, 3]).length ∧ b.rel.length = ([0, 1, 2, 3]).length * ([0, 1, 2, 3]).length) (v := fun (b : St) => vS b) (xs := [.tmp 25, .tmp 26]) (vs := [vS b13, sl_ p26 4 4]) rfl rfl rfl rfl Tryz.call32 rfl (fun w1 hw1 => (part_ok b13 (sl_ p26 4 4) ([0, 1, 2, 3]) w1 hfb13 (Own.row hw1 (i := 0) rfl (n := 4) (cap := 4) (vs := ints [0, 1, 2, 3]) rfl rfl (by decide)) (fun x hx => by simp at hx; exact ⟨by omega, by omega⟩) (by decide)).mono fun en w' ⟨b, h1, h2, h3⟩ => ⟨b, h1, h2, h3⟩) fun b27 hS27 => ?_
   show Ll _ _ (Own _ _ (_ :: _ :: _ :: _ :: _ :: _ :: hs)) _ _ ((27, vS b27) :: _) _ _ _
   obtain ⟨hnb27, hsb27, hrb27⟩ := hS27
   refine Ll.storeBox (cs' := #[i6_ b27.n, str b27.set, str b27.rel]) (hs' := (_ :: bk_ p7 #[i6_ b27.n, str b27.set, str b27.rel] 24 :: _ :: _ :: _ :: _ :: hs)) 1 rfl rfl rfl rfl rfl (by kernel_rfl : _ = some Tryz.t24) rfl rfl rfl rfl rfl ?_
   refine Ll.nil ?_
   refine Kt.joined (b27) (part_fine (n := 4) hnb27 hsb27 hrb27 rfl (by decide) (by decide)) (Sub.sel [0, 2, 4, 6, 7] rfl) (fun _ h => h.sub (List.Sublist.cons _ (List.Sublist.cons_cons _ (List.Sublist.cons_cons _ (List.Sublist.cons_cons _ (List.Sublist.cons_cons _ (List.Sublist.cons_cons _ (List.Sublist.refl _))))))))
  ·
   replace h24 := of_decide_eq_false h24
   refine Wk.skip ?_
   refine Kt.joined (b13) ⟨hfb13, h5b13⟩ (Sub.sel [0, 2, 4, 6, 7] rfl) (fun _ h => h.sub (List.Sublist.cons_cons _ (List.Sublist.cons_cons _ (List.Sublist.cons_cons _ (List.Sublist.cons_cons _ (List.Sublist.cons_cons _ (List.Sublist.refl _)))))))
 rintro bb ⟨hbb, h5bb⟩
 have hlobb := hbb.lo
 refine Kt.sel [0, 2, 4, 6, 7] [_, _, _, _, _] rfl ?_
 refine Wk.seq ?_
 refine Wk.region ?_
 refine Ll.slice (xs := []) (vs := []) Base.elem28 rfl rfl rfl rfl rfl rfl (by decide) rfl fun p28 hp28 => ?_
 refine Ll.run 1 rfl ?_
 refine Ll.nil ?_
 refine Kt.sel [0, 2, 4, 6, 7, 8] [_, _, _, _, _, _] rfl ?_
 refine Wk.seq ?_
 refine Wk.region ?_
 refine Ll.slice (xs := []) (vs := []) Base.elem28 rfl rfl rfl rfl rfl rfl (by decide) rfl fun p29 hp29 => ?_
 refine Ll.run 1 rfl ?_
 refine Ll.nil ?_
 refine Kt.sel [0, 2, 4, 6, 7, 8, 9] [_, _, _, _, _, _, _] rfl ?_
 refine Wk.seq ?_
 refine Wk.seq ?_
 refine Wk.region ?_
 refine Ll.run 1 rfl ?_
 refine Ll.slice (xs := [.const (i6_ 2), .const (i6_ 2), .const (i6_ 1), .const (i6_ 2), .const (i6_ 3)]) (vs := [i6_ 2, i6_ 2, i6_ 1, i6_ 2, i6_ 3]) Base.elem28 rfl rfl rfl rfl rfl rfl (by decide) rfl fun p31 hp31 => ?_
 refine Ll.callRd (rp := rp) (RT := 59) (p := p_13) (bv := bv) (hs := hs) (ok := fun (v : Int) p' => v ∈ ([2, 2, 1, 2, 3]) ∧ p' = p_13 + 1) (v := fun (v : Int) => i6_ v) (new := fun (v : Int) => []) (xs := [.tmp 30, .tmp 31]) (vs := [pt_ rp, sl_ p31 5 5]) ([bk_ p31 #[i6_ 2, i6_ 2, i6_ 1, i6_ 2, i6_ 3] 3, bk_ p29 #[] 3, bk_ p28 #[] 3, bk_ p7 #[i6_ bb.n, str bb.set, str bb.rel] 24, bk_ p6 #[i6_ aa.n, str aa.set, str aa.rel] 24, bk_ p4 #[i6_ 0, str ([]), str ([])] 24, bk_ p2 #[i6_ 0, str ([]), str ([])] 24] : List (Nat × Obj)) rfl rfl rfl rfl Tryz.call11 rfl (fun w1 hw1 => (num_ok B w0 (([bk_ p31 #[i6_ 2, i6_ 2, i6_ 1, i6_ 2, i6_ 3] 3, bk_ p29 #[] 3, bk_ p28 #[] 3, bk_ p7 #[i6_ bb.n, str bb.set, str bb.rel] 24, bk_ p6 #[i6_ aa.n, str aa.set, str aa.rel] 24, bk_ p4 #[i6_ 0, str ([]), str ([])] 24, bk_ p2 #[i6_ 0, str ([]), str ([])] 24] : List (Nat × Obj)) ++ hs) rp p_13 bv L (sl_ p31 5 5) ([2, 2, 1, 2, 3]) w1 (fun w2 hw2 => hb w2 (Own.drop (f := ([bk_ p31 #[i6_ 2, i6_ 2, i6_ 1, i6_ 2, i6_ 3] 3, bk_ p29 #[] 3, bk_ p28 #[] 3, bk_ p7 #[i6_ bb.n, str bb.set, str bb.rel] 24, bk_ p6 #[i6_ aa.n, str aa.set, str aa.rel] 24, bk_ p4 #[i6_ 0, str ([]), str ([])] 24, bk_ p2 #[i6_ 0, str ([]), str ([])] 24] : List (Nat × Obj))) hw2)) hL8 hL (fun w2 h2 => (Own.row h2 (i := 0) rfl (n := 5) (cap := 5) (vs := ints [2, 2, 1, 2, 3]) rfl rfl (by decide))) (by simp) (by omega) hw1).mono fun en w' ⟨v', p', h1, h2, h3⟩ => ⟨v', p', h1, h2, h3⟩) fun v32 p_32 hKp_32 => ?_
 show Ll _ _ (Own _ _ (_ :: _ :: _ :: _ :: _ :: _ :: _ :: _ :: hs)) _ _ ((32, i6_ v32) :: _) _ _ _
 obtain ⟨hmv32, hep_32⟩ := hKp_32
 have hvv32 : 1 ≤ v32 ∧ v32 ≤ 3 := by simp at hmv32; omega
 refine Ll.run 1 rfl ?_
 refine Ll.nil ?_
 refine Kt.sel [0, 2, 4, 6, 7, 8, 9, 10] [_, _, _, _, _, _, _, _] rfl ?_
 refine Wk.block ?_
 refine Wk.loop (σ := Int × Nat × Nat × Array Value × List Int × Nat × Nat × Array Value × List Int × Nat) (fun ⟨m, g, c, u, xs, g2, c2, u2, ys, p0⟩ => (0 ≤ m ∧ m ≤ v32) ∧ (u.size = c * 1 ∧ xs.length ≤ c ∧ u.toList.take xs.length = ints xs) ∧ (u2.size = c2 * 1 ∧ ys.length ≤ c2 ∧ u2.toList.take ys.length = ints ys) ∧ (xs.length : Int) + m = v32 ∧ (ys.length : Int) + m = v32 ∧ (∀ x ∈ xs, -1 ≤ x ∧ x ≤ 8) ∧ (p0 : Int) ≤ p_32 + 3 * (v32 - m)) (fun ⟨m, g, c, u, xs, g2, c2, u2, ys, p0⟩ => [(0, pt_ rp), (2, pt_ p2), (4, pt_ p4), (6, pt_ p6), (7, pt_ p7), (8, sl_ g xs.length c), (9, sl_ g2 ys.length c2), (10, i6_ m)]) (fun ⟨m, g, c, u, xs, g2, c2, u2, ys, p0⟩ => Own B w0 (bk_ p31 #[i6_ 2, i6_ 2, i6_ 1, i6_ 2, i6_ 3] 3 :: bk_ g2 u2 3 :: bk_ g u 3 :: bk_ p7 #[i6_ bb.n, str bb.set, str bb.rel] 24 :: bk_ p6 #[i6_ aa.n, str aa.set, str aa.rel] 24 :: bk_ p4 #[i6_ 0, str ([]), str ([])] 24 :: bk_ p2 #[i6_ 0, str ([]), str ([])] 24 :: bk_ rp #[bv, i6_ ((p0 : Int))] 59 :: hs)) (fun ⟨m, g, c, u, xs, g2, c2, u2, ys, p0⟩ => m.toNat) ((v32, p28, 0, #[], [], p29, 0, #[], [], p_32)) ⟨by omega, ⟨rfl, Nat.le_refl 0, rfl⟩, ⟨rfl, Nat.le_refl 0, rfl⟩, by simp, by simp, (fun x hx => by cases hx), by omega⟩ (Sub.sel [0, 2, 4, 6, 7, 8, 9, 10] rfl) (fun _ h => h) ?_
 rintro ⟨m, g, c, u, xs, g2, c2, u2, ys, p0⟩ ⟨⟨hm0, hm1⟩, ⟨hcg, hlg, htg⟩, ⟨hcg2, hlg2, htg2⟩, hxm, hym, hxr, hp0⟩
 dsimp only
 refine Wk.seq ?_
 refine Wk.seq ?_
 refine Wk.regionQ ?_
 refine Lq.run 2 rfl ?_
 refine Lq.nil ?_
 refine Kt.sel [0, 2, 4, 6, 7, 8, 9, 10, 34] [_, _, _, _, _, _, _, _, _] rfl ?_
 refine Wk.cond (b := decide ((0 : Int) < m)) rfl (fun h34 => ?_) (fun h34 => ?_)
 ·
  replace h34 := of_decide_eq_true h34
  refine Wk.skip ?_
  refine Kt.sel [0, 2, 4, 6, 7, 8, 9, 10] [_, _, _, _, _, _, _, _] rfl ?_
  refine Wk.seq ?_
  refine Wk.block ?_
  refine Wk.seq ?_
  refine Wk.seq ?_
  refine Wk.region ?_
  refine Ll.run 1 rfl ?_
  refine Ll.callRd (rp := rp) (RT := 59) (p := p0) (bv := bv) (hs := hs) (ok := fun (k : Int) p' => 0 ≤ k ∧ (1 ≤ (2 : Int) → k < 2) ∧ p' = p0 + 1) (v := fun (k : Int) => i6_ k) (new := fun (k : Int) => []) (xs := [.tmp 37, .const (i6_ 2)]) (vs := [pt_ rp, i6_ 2]) ([bk_ p31 #[i6_ 2, i6_ 2, i6_ 1, i6_ 2, i6_ 3] 3, bk_ g2 u2 3, bk_ g u 3, bk_ p7 #[i6_ bb.n, str bb.set, str bb.rel] 24, bk_ p6 #[i6_ aa.n, str aa.set, str aa.rel] 24, bk_ p4 #[i6_ 0, str ([]), str ([])] 24, bk_ p2 #[i6_ 0, str ([]), str ([])] 24] : List (Nat × Obj)) rfl rfl rfl rfl Tryz.call33 rfl (fun w1 hw1 => (pick_ok B w0 (([bk_ p31 #[i6_ 2, i6_ 2, i6_ 1, i6_ 2, i6_ 3] 3, bk_ g2 u2 3, bk_ g u 3, bk_ p7 #[i6_ bb.n, str bb.set, str bb.rel] 24, bk_ p6 #[i6_ aa.n, str aa.set, str aa.rel] 24, bk_ p4 #[i6_ 0, str ([]), str ([])] 24, bk_ p2 #[i6_ 0, str ([]), str ([])] 24] : List (Nat × Obj)) ++ hs) rp p0 bv L 2 w1 (fun w2 hw2 => hb w2 (Own.drop (f := ([bk_ p31 #[i6_ 2, i6_ 2, i6_ 1, i6_ 2, i6_ 3] 3, bk_ g2 u2 3, bk_ g u 3, bk_ p7 #[i6_ bb.n, str bb.set, str bb.rel] 24, bk_ p6 #[i6_ aa.n, str aa.set, str aa.rel] 24, bk_ p4 #[i6_ 0, str ([]), str ([])] 24, bk_ p2 #[i6_ 0, str ([]), str ([])] 24] : List (Nat × Obj))) hw2)) hL8 hL (by omega) hw1).mono fun en w' ⟨k', p', h1, h2, h3⟩ => ⟨k', p', h1, h2, h3⟩) fun k38 p_38 hKp_38 => ?_
  show Ll _ _ (Own _ _ (_ :: _ :: _ :: _ :: _ :: _ :: _ :: _ :: hs)) _ _ ((38, i6_ k38) :: _) _ _ _
  obtain ⟨h0k38, h1k38, hep_38⟩ := hKp_38
  try have hltk38 := h1k38 (by first | omega | (split <;> omega) | decide)
  refine Ll.run 1 rfl ?_
  refine Ll.nil ?_
  refine Kt.sel [0, 2, 4, 6, 7, 8, 9, 10, 39] [_, _, _, _, _, _, _, _, _] rfl ?_
  refine Wk.cond (b := decide (k38 = (0 : Int))) rfl (fun h39 => ?_) (fun h39 => ?_)
  ·
   replace h39 := of_decide_eq_true h39
   refine Wk.seq ?_
   refine Wk.region ?_
   refine Ll.run 1 rfl ?_
   refine Ll.slice (xs := [.const (i6_ (-1))]) (vs := [i6_ (-1)]) Base.elem28 rfl rfl rfl rfl rfl rfl (by decide) rfl fun p41 hp41 => ?_
   refine Ll.appendInts (xs := xs) (ys := [-1]) Base.elem28 3 rfl rfl rfl rfl rfl rfl rfl hcg hlg htg (fun w1 hw1 => (Own.row hw1 (i := 0) rfl (n := 1) (cap := 1) (vs := ints [-1]) rfl rfl (by decide))) ((xs ++ ([-1])).length) (by first | (simp; done) | (simp; omega)) (by first | (simp; done) | (simp; omega) | omega) fun p42 cap42 cur42 hp42 hcp42 hlp42 htp42 => ?_
   show Ll _ _ (Own _ _ (_ :: _ :: _ :: _ :: _ :: _ :: _ :: _ :: _ :: hs)) _ _ ((42, sl_ p42 (((xs ++ ([-1])).length)) cap42) :: _) _ _ _
   refine Ll.run 1 rfl ?_
   refine Ll.nil ?_
   refine Kt.sel [0, 2, 4, 6, 7, 8, 9, 10] [_, _, _, _, _, _, _, _] rfl ?_
   refine Wk.seq ?_
   refine Wk.region ?_
   refine Ll.run 1 rfl ?_
   refine Ll.slice (xs := [.const (i6_ (-1))]) (vs := [i6_ (-1)]) Base.elem28 rfl rfl rfl rfl rfl rfl (by decide) rfl fun p44 hp44 => ?_
   refine Ll.appendInts (xs := ys) (ys := [-1]) Base.elem28 3 rfl rfl rfl rfl rfl rfl rfl hcg2 hlg2 htg2 (fun w1 hw1 => (Own.row hw1 (i := 0) rfl (n := 1) (cap := 1) (vs := ints [-1]) rfl rfl (by decide))) ((ys ++ ([-1])).length) (by first | (simp; done) | (simp; omega)) (by first | (simp; done) | (simp; omega) | omega) fun p45 cap45 cur45 hp45 hcp45 hlp45 htp45 => ?_
   show Ll _ _ (Own _ _ (_ :: _ :: _ :: _ :: _ :: _ :: _ :: _ :: _ :: _ :: hs)) _ _ ((45, sl_ p45 (((ys ++ ([-1])).length)) cap45) :: _) _ _ _
   refine Ll.run 1 rfl ?_
   refine Ll.nil ?_
   refine Kt.sel [0, 2, 4, 6, 7, 8, 9, 10] [_, _, _, _, _, _, _, _] rfl ?_
   refine Wk.exit rfl ?_
   refine Kt.sel [0, 2, 4, 6, 7, 8, 9, 10] [_, _, _, _, _, _, _, _] rfl ?_
   refine Wk.regionQ ?_
   refine Lq.run 1 rfl ?_
   refine Lq.op rfl rfl rfl (OpQ.sub rfl rfl rfl (by omega) (by omega)) ?_
   refine Lq.run 1 rfl ?_
   refine Lq.nil ?_
   refine Kt.again ((m - 1, p42, cap42, cur42, xs ++ ([-1]), p45, cap45, cur45, ys ++ ([-1]), p_38)) ⟨by omega, ⟨by simpa using hcp42, hlp42, by simpa using (by simpa using htp42)⟩, ⟨by simpa using hcp45, hlp45, by simpa using (by simpa using htp45)⟩, (by dsimp only; rw [List.length_append, List.length_singleton]; omega), (by dsimp only; rw [List.length_append, List.length_singleton]; omega), (fun x hx => by rcases List.mem_append.1 hx with h | h; exact hxr x h; rw [List.mem_singleton.1 h]; omega), (by dsimp only; omega)⟩ (by dsimp only; omega) (Sub.sel [0, 2, 4, 6, 7, 8, 9, 10] rfl) (fun _ h => h.sub (List.Sublist.cons _ (List.Sublist.cons _ (List.Sublist.cons_cons _ (List.Sublist.cons_cons _ (List.Sublist.cons_cons _ (List.Sublist.cons_cons _ (List.Sublist.cons_cons _ (List.Sublist.cons_cons _ (List.Sublist.cons_cons _ (List.Sublist.cons_cons _ (List.Sublist.refl _))))))))))))
  ·
   replace h39 := of_decide_eq_false h39
   refine Wk.skip ?_
   refine Kt.sel [0, 2, 4, 6, 7, 8, 9, 10] [_, _, _, _, _, _, _, _] rfl ?_
   refine Wk.seq ?_
   refine Wk.region ?_
   refine Ll.run 2 rfl ?_
   refine Ll.op rfl rfl rfl (OpQ.fieldAddr rfl Tryz.runUnderlying24 rfl Tryz.sizeOf3 rfl rfl) ?_
   refine Ll.op rfl rfl rfl (OpQ.loadOwn 4 rfl Tryz.isAgg3 rfl rfl rfl) ?_
   refine Ll.callRd (rp := rp) (RT := 59) (p := p_38) (bv := bv) (hs := hs) (ok := fun (k : Int) p' => 0 ≤ k ∧ (1 ≤ aa.n → k < aa.n) ∧ p' = p_38 + 1) (v := fun (k : Int) => i6_ k) (new := fun (k : Int) => []) (xs := [.tmp 47, .tmp 49]) (vs := [pt_ rp, i6_ aa.n]) ([bk_ p31 #[i6_ 2, i6_ 2, i6_ 1, i6_ 2, i6_ 3] 3, bk_ g2 u2 3, bk_ g u 3, bk_ p7 #[i6_ bb.n, str bb.set, str bb.rel] 24, bk_ p6 #[i6_ aa.n, str aa.set, str aa.rel] 24, bk_ p4 #[i6_ 0, str ([]), str ([])] 24, bk_ p2 #[i6_ 0, str ([]), str ([])] 24] : List (Nat × Obj)) rfl rfl rfl rfl Tryz.call33 rfl (fun w1 hw1 => (pick_ok B w0 (([bk_ p31 #[i6_ 2, i6_ 2, i6_ 1, i6_ 2, i6_ 3] 3, bk_ g2 u2 3, bk_ g u 3, bk_ p7 #[i6_ bb.n, str bb.set, str bb.rel] 24, bk_ p6 #[i6_ aa.n, str aa.set, str aa.rel] 24, bk_ p4 #[i6_ 0, str ([]), str ([])] 24, bk_ p2 #[i6_ 0, str ([]), str ([])] 24] : List (Nat × Obj)) ++ hs) rp p_38 bv L aa.n w1 (fun w2 hw2 => hb w2 (Own.drop (f := ([bk_ p31 #[i6_ 2, i6_ 2, i6_ 1, i6_ 2, i6_ 3] 3, bk_ g2 u2 3, bk_ g u 3, bk_ p7 #[i6_ bb.n, str bb.set, str bb.rel] 24, bk_ p6 #[i6_ aa.n, str aa.set, str aa.rel] 24, bk_ p4 #[i6_ 0, str ([]), str ([])] 24, bk_ p2 #[i6_ 0, str ([]), str ([])] 24] : List (Nat × Obj))) hw2)) hL8 hL (by omega) hw1).mono fun en w' ⟨k', p', h1, h2, h3⟩ => ⟨k', p', h1, h2, h3⟩) fun k50 p_50 hKp_50 => ?_
   show Ll _ _ (Own _ _ (_ :: _ :: _ :: _ :: _ :: _ :: _ :: _ :: hs)) _ _ ((50, i6_ k50) :: _) _ _ _
   obtain ⟨h0k50, h1k50, hep_50⟩ := hKp_50
   try have hltk50 := h1k50 (by first | omega | (split <;> omega) | decide)
   refine Ll.slice (xs := [.tmp 50]) (vs := [i6_ k50]) Base.elem28 rfl rfl rfl rfl rfl rfl (by decide) rfl fun p51 hp51 => ?_
   refine Ll.appendInts (xs := xs) (ys := [k50]) Base.elem28 3 rfl rfl rfl rfl rfl rfl rfl hcg hlg htg (fun w1 hw1 => (Own.row hw1 (i := 0) rfl (n := 1) (cap := 1) (vs := ints [k50]) rfl rfl (by decide))) ((xs ++ ([k50])).length) (by first | (simp; done) | (simp; omega)) (by first | (simp; done) | (simp; omega) | omega) fun p52 cap52 cur52 hp52 hcp52 hlp52 htp52 => ?_
   show Ll _ _ (Own _ _ (_ :: _ :: _ :: _ :: _ :: _ :: _ :: _ :: _ :: hs)) _ _ ((52, sl_ p52 (((xs ++ ([k50])).length)) cap52) :: _) _ _ _
   refine Ll.run 1 rfl ?_
   refine Ll.nil ?_
   refine Kt.sel [0, 2, 4, 6, 7, 8, 9, 10] [_, _, _, _, _, _, _, _] rfl ?_
   refine Wk.region ?_
   refine Ll.run 2 rfl ?_
   refine Ll.op rfl rfl rfl (OpQ.fieldAddr rfl Tryz.runUnderlying24 rfl Tryz.sizeOf3 rfl rfl) ?_
   refine Ll.op rfl rfl rfl (OpQ.loadOwn 4 rfl Tryz.isAgg3 rfl rfl rfl) ?_
   refine Ll.callRd (rp := rp) (RT := 59) (p := p_50) (bv := bv) (hs := hs) (ok := fun (k : Int) p' => 0 ≤ k ∧ (1 ≤ bb.n → k < bb.n) ∧ p' = p_50 + 1) (v := fun (k : Int) => i6_ k) (new := fun (k : Int) => []) (xs := [.tmp 54, .tmp 56]) (vs := [pt_ rp, i6_ bb.n]) ([bk_ p51 #[i6_ k50] 3, bk_ p31 #[i6_ 2, i6_ 2, i6_ 1, i6_ 2, i6_ 3] 3, bk_ g2 u2 3, bk_ p52 cur52 3, bk_ p7 #[i6_ bb.n, str bb.set, str bb.rel] 24, bk_ p6 #[i6_ aa.n, str aa.set, str aa.rel] 24, bk_ p4 #[i6_ 0, str ([]), str ([])] 24, bk_ p2 #[i6_ 0, str ([]), str ([])] 24] : List (Nat × Obj)) rfl rfl rfl rfl Tryz.call33 rfl (fun w1 hw1 => (pick_ok B w0 (([bk_ p51 #[i6_ k50] 3, bk_ p31 #[i6_ 2, i6_ 2, i6_ 1, i6_ 2, i6_ 3] 3, bk_ g2 u2 3, bk_ p52 cur52 3, bk_ p7 #[i6_ bb.n, str bb.set, str bb.rel] 24, bk_ p6 #[i6_ aa.n, str aa.set, str aa.rel] 24, bk_ p4 #[i6_ 0, str ([]), str ([])] 24, bk_ p2 #[i6_ 0, str ([]), str ([])] 24] : List (Nat × Obj)) ++ hs) rp p_50 bv L bb.n w1 (fun w2 hw2 => hb w2 (Own.drop (f := ([bk_ p51 #[i6_ k50] 3, bk_ p31 #[i6_ 2, i6_ 2, i6_ 1, i6_ 2, i6_ 3] 3, bk_ g2 u2 3, bk_ p52 cur52 3, bk_ p7 #[i6_ bb.n, str bb.set, str bb.rel] 24, bk_ p6 #[i6_ aa.n, str aa.set, str aa.rel] 24, bk_ p4 #[i6_ 0, str ([]), str ([])] 24, bk_ p2 #[i6_ 0, str ([]), str ([])] 24] : List (Nat × Obj))) hw2)) hL8 hL (by omega) hw1).mono fun en w' ⟨k', p', h1, h2, h3⟩ => ⟨k', p', h1, h2, h3⟩) fun k57 p_57 hKp_57 => ?_
   show Ll _ _ (Own _ _ (_ :: _ :: _ :: _ :: _ :: _ :: _ :: _ :: _ :: hs)) _ _ ((57, i6_ k57) :: _) _ _ _
   obtain ⟨h0k57, h1k57, hep_57⟩ := hKp_57
   try have hltk57 := h1k57 (by first | omega | (split <;> omega) | decide)
   refine Ll.slice (xs := [.tmp 57]) (vs := [i6_ k57]) Base.elem28 rfl rfl rfl rfl rfl rfl (by decide) rfl fun p58 hp58 => ?_
   refine Ll.appendInts (xs := ys) (ys := [k57]) Base.elem28 3 rfl rfl rfl rfl rfl rfl rfl hcg2 hlg2 htg2 (fun w1 hw1 => (Own.row hw1 (i := 0) rfl (n := 1) (cap := 1) (vs := ints [k57]) rfl rfl (by decide))) ((ys ++ ([k57])).length) (by first | (simp; done) | (simp; omega)) (by first | (simp; done) | (simp; omega) | omega) fun p59 cap59 cur59 hp59 hcp59 hlp59 htp59 => ?_
   show Ll _ _ (Own _ _ (_ :: _ :: _ :: _ :: _ :: _ :: _ :: _ :: _ :: _ :: hs)) _ _ ((59, sl_ p59 (((ys ++ ([k57])).length)) cap59) :: _) _ _ _
   refine Ll.run 1 rfl ?_
   refine Ll.nil ?_
   refine Kt.sel [0, 2, 4, 6, 7, 8, 9, 10] [_, _, _, _, _, _, _, _] rfl ?_
   refine Wk.regionQ ?_
   refine Lq.run 1 rfl ?_
   refine Lq.op rfl rfl rfl (OpQ.sub rfl rfl rfl (by omega) (by omega)) ?_
   refine Lq.run 1 rfl ?_
   refine Lq.nil ?_
   refine Kt.again ((m - 1, p52, cap52, cur52, xs ++ ([k50]), p59, cap59, cur59, ys ++ ([k57]), p_57)) ⟨by omega, ⟨by simpa using hcp52, hlp52, by simpa using (by simpa using htp52)⟩, ⟨by simpa using hcp59, hlp59, by simpa using (by simpa using htp59)⟩, (by dsimp only; rw [List.length_append, List.length_singleton]; omega), (by dsimp only; rw [List.length_append, List.length_singleton]; omega), (fun x hx => by rcases List.mem_append.1 hx with h | h; exact hxr x h; rw [List.mem_singleton.1 h]; omega), (by dsimp only; omega)⟩ (by dsimp only; omega) (Sub.sel [0, 2, 4, 6, 7, 8, 9, 10] rfl) (fun _ h => h.sub (List.Sublist.cons _ (List.Sublist.cons _ (List.Sublist.cons_cons _ (List.Sublist.cons_cons _ (List.Sublist.cons_cons _ (List.Sublist.cons_cons _ (List.Sublist.cons_cons _ (List.Sublist.cons_cons _ (List.Sublist.cons_cons _ (List.Sublist.cons_cons _ (List.Sublist.refl _))))))))))))
 ·
  replace h34 := of_decide_eq_false h34
  refine Wk.exit rfl ?_
  refine Kt.sel [0, 2, 4, 6, 7, 8, 9] [_, _, _, _, _, _, _] rfl ?_
  refine Wk.seq ?_
  refine Wk.seq ?_
  refine Wk.region ?_
  refine Ll.run 1 rfl ?_
  refine Ll.callRd (rp := rp) (RT := 59) (p := p0) (bv := bv) (hs := hs) (ok := fun (k : Int) p' => 0 ≤ k ∧ (1 ≤ (40 : Int) → k < 40) ∧ p' = p0 + 1) (v := fun (k : Int) => i6_ k) (new := fun (k : Int) => []) (xs := [.tmp 60, .const (i6_ 40)]) (vs := [pt_ rp, i6_ 40]) ([bk_ p31 #[i6_ 2, i6_ 2, i6_ 1, i6_ 2, i6_ 3] 3, bk_ g2 u2 3, bk_ g u 3, bk_ p7 #[i6_ bb.n, str bb.set, str bb.rel] 24, bk_ p6 #[i6_ aa.n, str aa.set, str aa.rel] 24, bk_ p4 #[i6_ 0, str ([]), str ([])] 24, bk_ p2 #[i6_ 0, str ([]), str ([])] 24] : List (Nat × Obj)) rfl rfl rfl rfl Tryz.call33 rfl (fun w1 hw1 => (pick_ok B w0 (([bk_ p31 #[i6_ 2, i6_ 2, i6_ 1, i6_ 2, i6_ 3] 3, bk_ g2 u2 3, bk_ g u 3, bk_ p7 #[i6_ bb.n, str bb.set, str bb.rel] 24, bk_ p6 #[i6_ aa.n, str aa.set, str aa.rel] 24, bk_ p4 #[i6_ 0, str ([]), str ([])] 24, bk_ p2 #[i6_ 0, str ([]), str ([])] 24] : List (Nat × Obj)) ++ hs) rp p0 bv L 40 w1 (fun w2 hw2 => hb w2 (Own.drop (f := ([bk_ p31 #[i6_ 2, i6_ 2, i6_ 1, i6_ 2, i6_ 3] 3, bk_ g2 u2 3, bk_ g u 3, bk_ p7 #[i6_ bb.n, str bb.set, str bb.rel] 24, bk_ p6 #[i6_ aa.n, str aa.set, str aa.rel] 24, bk_ p4 #[i6_ 0, str ([]), str ([])] 24, bk_ p2 #[i6_ 0, str ([]), str ([])] 24] : List (Nat × Obj))) hw2)) hL8 hL (by omega) hw1).mono fun en w' ⟨k', p', h1, h2, h3⟩ => ⟨k', p', h1, h2, h3⟩) fun k61 p_61 hKp_61 => ?_
  show Ll _ _ (Own _ _ (_ :: _ :: _ :: _ :: _ :: _ :: _ :: _ :: hs)) _ _ ((61, i6_ k61) :: _) _ _ _
  obtain ⟨h0k61, h1k61, hep_61⟩ := hKp_61
  try have hltk61 := h1k61 (by first | omega | (split <;> omega) | decide)
  refine Ll.nil ?_
  refine Kt.sel [0, 2, 4, 6, 7, 8, 9, 61] [_, _, _, _, _, _, _, _] rfl ?_
  refine Wk.block ?_
  refine Wk.seq ?_
  refine Wk.regionQ ?_
  refine Lq.run 2 rfl ?_
  refine Lq.nil ?_
  refine Kt.sel [0, 2, 4, 6, 7, 8, 9, 61, 62] [_, _, _, _, _, _, _, _, _] rfl ?_
  refine Wk.cond (b := decide (k61 = (0 : Int))) rfl (fun h62 => ?_) (fun h62 => ?_)
  ·
   replace h62 := of_decide_eq_true h62
   refine Wk.region ?_
   refine Ll.run 2 rfl ?_
   refine Ll.slice (xs := [.const (i6_ (-2)), .const (i6_ 8), .const (i6_ 0)]) (vs := [i6_ (-2), i6_ 8, i6_ 0]) Base.elem28 rfl rfl rfl rfl rfl rfl (by decide) rfl fun p66 hp66 => ?_
   refine Ll.callRd (rp := rp) (RT := 59) (p := p_61) (bv := bv) (hs := hs) (ok := fun (v : Int) p' => v ∈ ([-2, 8, 0]) ∧ p' = p_61 + 1) (v := fun (v : Int) => i6_ v) (new := fun (v : Int) => []) (xs := [.tmp 65, .tmp 66]) (vs := [pt_ rp, sl_ p66 3 3]) ([bk_ p66 #[i6_ (-2), i6_ 8, i6_ 0] 3, bk_ p31 #[i6_ 2, i6_ 2, i6_ 1, i6_ 2, i6_ 3] 3, bk_ g2 u2 3, bk_ g u 3, bk_ p7 #[i6_ bb.n, str bb.set, str bb.rel] 24, bk_ p6 #[i6_ aa.n, str aa.set, str aa.rel] 24, bk_ p4 #[i6_ 0, str ([]), str ([])] 24, bk_ p2 #[i6_ 0, str ([]), str ([])] 24] : List (Nat × Obj)) rfl rfl rfl rfl Tryz.call11 rfl (fun w1 hw1 => (num_ok B w0 (([bk_ p66 #[i6_ (-2), i6_ 8, i6_ 0] 3, bk_ p31 #[i6_ 2, i6_ 2, i6_ 1, i6_ 2, i6_ 3] 3, bk_ g2 u2 3, bk_ g u 3, bk_ p7 #[i6_ bb.n, str bb.set, str bb.rel] 24, bk_ p6 #[i6_ aa.n, str aa.set, str aa.rel] 24, bk_ p4 #[i6_ 0, str ([]), str ([])] 24, bk_ p2 #[i6_ 0, str ([]), str ([])] 24] : List (Nat × Obj)) ++ hs) rp p_61 bv L (sl_ p66 3 3) ([-2, 8, 0]) w1 (fun w2 hw2 => hb w2 (Own.drop (f := ([bk_ p66 #[i6_ (-2), i6_ 8, i6_ 0] 3, bk_ p31 #[i6_ 2, i6_ 2, i6_ 1, i6_ 2, i6_ 3] 3, bk_ g2 u2 3, bk_ g u 3, bk_ p7 #[i6_ bb.n, str bb.set, str bb.rel] 24, bk_ p6 #[i6_ aa.n, str aa.set, str aa.rel] 24, bk_ p4 #[i6_ 0, str ([]), str ([])] 24, bk_ p2 #[i6_ 0, str ([]), str ([])] 24] : List (Nat × Obj))) hw2)) hL8 hL (fun w2 h2 => (Own.row h2 (i := 0) rfl (n := 3) (cap := 3) (vs := ints [-2, 8, 0]) rfl rfl (by decide))) (by simp) (by omega) hw1).mono fun en w' ⟨v', p', h1, h2, h3⟩ => ⟨v', p', h1, h2, h3⟩) fun v67 p_67 hKp_67 => ?_
   show Ll _ _ (Own _ _ (_ :: _ :: _ :: _ :: _ :: _ :: _ :: _ :: _ :: hs)) _ _ ((67, i6_ v67) :: _) _ _ _
   obtain ⟨hmv67, hep_67⟩ := hKp_67
   have hvv67 : -2 ≤ v67 ∧ v67 ≤ 8 := by simp at hmv67; omega
   refine Ll.slice (xs := [.tmp 67]) (vs := [i6_ v67]) Base.elem28 rfl rfl rfl rfl rfl rfl (by decide) rfl fun p68 hp68 => ?_
   refine Ll.appendInts (xs := xs) (ys := [v67]) Base.elem28 4 rfl rfl rfl rfl rfl rfl rfl hcg hlg htg (fun w1 hw1 => (Own.row hw1 (i := 0) rfl (n := 1) (cap := 1) (vs := ints [v67]) rfl rfl (by decide))) ((xs ++ ([v67])).length) (by first | (simp; done) | (simp; omega)) (by first | (simp; done) | (simp; omega) | omega) fun p69 cap69 cur69 hp69 hcp69 hlp69 htp69 => ?_
   show Ll _ _ (Own _ _ (_ :: _ :: _ :: _ :: _ :: _ :: _ :: _ :: _ :: _ :: hs)) _ _ ((69, sl_ p69 (((xs ++ ([v67])).length)) cap69) :: _) _ _ _
   refine Ll.run 1 rfl ?_
   refine Ll.nil ?_
   refine Kt.sel [2, 4, 6, 7, 8, 9] [_, _, _, _, _, _] rfl ?_
   refine Wk.seq ?_
   refine Wk.regionS (S := Own B w0 [bk_ p68 #[i6_ v67] 3, bk_ p66 #[i6_ (-2), i6_ 8, i6_ 0] 3, bk_ p31 #[i6_ 2, i6_ 2, i6_ 1, i6_ 2, i6_ 3] 3, bk_ g2 u2 3, bk_ p69 cur69 3, bk_ p7 #[i6_ bb.n, str bb.set, str bb.rel] 24, bk_ p6 #[i6_ aa.n, str aa.set, str aa.rel] 24, bk_ rp #[bv, i6_ ((p_67 : Int))] 59]) [(0, true), (1, true), (2, true), (3, true), (4, false), (5, true), (6, false), (7, true)] Base.mixed (fun _ h => h.drawn) (by kernel_rfl) ?_
   refine Ld.take rfl rfl rfl rfl rfl (OpQ.loadBox (cs := #[i6_ aa.n, str aa.set, str aa.rel]) 6 rfl Tryz.isAgg24 rfl rfl Tryz.sizeOf24) (pk [0, 1, 2, 3, 4, 5, 6, 9] rfl rfl) ?_
   refine Ld.run 1 rfl (pk [0, 1, 2, 3, 4, 5, 6, 9] rfl rfl) ?_
   refine Ld.take rfl rfl rfl rfl rfl (OpQ.loadBox (cs := #[i6_ bb.n, str bb.set, str bb.rel]) 5 rfl Tryz.isAgg24 rfl rfl Tryz.sizeOf24) (pk [0, 1, 2, 3, 4, 5, 6, 9] rfl rfl) ?_
   refine Ld.run 1 rfl (pk [0, 1, 2, 3, 4, 5, 6, 9] rfl rfl) ?_
   refine Ld.loud rfl ?_
   refine Ll.storeBox (cs' := #[i6_ aa.n, str aa.set, str aa.rel]) (hs' := (_ :: _ :: _ :: _ :: _ :: _ :: _ :: _ :: bk_ p2 #[i6_ aa.n, str aa.set, str aa.rel] 24 :: _ :: hs)) 8 rfl rfl rfl rfl rfl (by kernel_rfl : _ = some Tryz.t24) rfl rfl rfl rfl rfl ?_
   refine Ll.nil (Ld.joint (pk [0, 1, 2, 3, 4, 5, 6, 9] rfl rfl) ?_)
   refine Ld.run 1 rfl (pk [0, 1, 2, 3, 4, 5, 6, 9] rfl rfl) ?_
   refine Ld.loud rfl ?_
   refine Ll.storeBox (cs' := #[i6_ bb.n, str bb.set, str bb.rel]) (hs' := (_ :: _ :: _ :: _ :: _ :: _ :: _ :: bk_ p4 #[i6_ bb.n, str bb.set, str bb.rel] 24 :: _ :: _ :: hs)) 7 rfl rfl rfl rfl rfl (by kernel_rfl : _ = some Tryz.t24) rfl rfl rfl rfl rfl ?_
   refine Ll.nil (Ld.joint (pk [0, 1, 2, 3, 4, 5, 6, 9] rfl rfl) ?_)
   refine Ld.run 1 rfl (pk [0, 1, 2, 3, 4, 5, 6, 9] rfl rfl) ?_
   refine Ld.nil ?_
   refine Kt.sel [2, 3, 4, 5] [_, _, _, _] rfl ?_
   refine Wk.ret (Kt.endMany rfl (.cell (cs := #[i6_ aa.n, str aa.set, str aa.rel]) rfl (fun w1 hw1 => hw1.loadBox 8 rfl Tryz.isAgg24 Tryz.sizeOf24) (.tmp (v := sl_ p69 (((xs ++ ([v67])).length)) cap69) rfl (.cell (cs := #[i6_ bb.n, str bb.set, str bb.rel]) rfl (fun w1 hw1 => hw1.loadBox 7 rfl Tryz.isAgg24 Tryz.sizeOf24) (.tmp (v := sl_ g2 ys.length c2) rfl ResAt.nil)))) (by simp) fun w' hw => ?_)
   exact ⟨aa, bb, sl_ p69 (((xs ++ ([v67])).length)) cap69, xs ++ ([v67]), sl_ g2 ys.length c2, ys, [bk_ p68 #[i6_ v67] 3, bk_ p66 #[i6_ (-2), i6_ 8, i6_ 0] 3, bk_ p31 #[i6_ 2, i6_ 2, i6_ 1, i6_ 2, i6_ 3] 3, bk_ g2 u2 3, bk_ p69 cur69 3, bk_ p7 #[i6_ bb.n, str bb.set, str bb.rel] 24, bk_ p6 #[i6_ aa.n, str aa.set, str aa.rel] 24, bk_ p4 #[i6_ bb.n, str bb.set, str bb.rel] 24, bk_ p2 #[i6_ aa.n, str aa.set, str aa.rel] 24], p_67, rfl, ⟨⟨⟨haa.tame, hbb.tame⟩, ⟨(by first | omega | (simp only [List.length_append, List.length_cons, List.length_nil, List.length_take, List.length_set]; omega)), (by first | omega | (simp only [List.length_append, List.length_cons, List.length_nil, List.length_take, List.length_set]; omega))⟩, fun w1 h1 => ⟨(Own.row h1 (i := 4) rfl (by simpa using htp69) (by simp) hlp69), (Own.row h1 (i := 3) rfl htg2 (by simp) hlg2)⟩⟩, by omega⟩, hw.perm (List.perm_middle (l₁ := ([bk_ p68 #[i6_ v67] 3, bk_ p66 #[i6_ (-2), i6_ 8, i6_ 0] 3, bk_ p31 #[i6_ 2, i6_ 2, i6_ 1, i6_ 2, i6_ 3] 3, bk_ g2 u2 3, bk_ p69 cur69 3, bk_ p7 #[i6_ bb.n, str bb.set, str bb.rel] 24, bk_ p6 #[i6_ aa.n, str aa.set, str aa.rel] 24, bk_ p4 #[i6_ bb.n, str bb.set, str bb.rel] 24, bk_ p2 #[i6_ aa.n, str aa.set, str aa.rel] 24] : List (Nat × Obj))) (l₂ := hs))⟩
  ·
   replace h62 := of_decide_eq_false h62
   refine Wk.seq ?_
   refine Wk.regionQ ?_
   refine Lq.run 2 rfl ?_
   refine Lq.nil ?_
   refine Kt.sel [0, 2, 4, 6, 7, 8, 9, 61, 70] [_, _, _, _, _, _, _, _, _] rfl ?_
   refine Wk.cond (b := decide (k61 = (1 : Int))) rfl (fun h70 => ?_) (fun h70 => ?_)
   ·
    replace h70 := of_decide_eq_true h70
    refine Wk.region ?_
    refine Ll.run 2 rfl ?_
    refine Ll.op (v := pf_ g (0 + (0 : Int).toNat)) rfl rfl rfl (OpQ.indexAddr1 rfl Tryz.runUnderlying28 Tryz.sizeOf3 rfl rfl (by omega) (by omega)) ?_
    refine Ll.op (v := i6_ (xs.getD (0 + (0 : Int).toNat) 0)) rfl rfl rfl (OpQ.loadAt 2 rfl Tryz.isAgg3 rfl rfl (cur_at htg (by rw [Nat.zero_add]; exact ints_at2 (by omega)))) ?_
    have hx0 : -1 ≤ xs.getD (0 + (0 : Int).toNat) 0 ∧ xs.getD (0 + (0 : Int).toNat) 0 ≤ 8 := by rw [Nat.zero_add, getD_at (by omega)]; exact hxr _ (List.getElem_mem _)
    refine Ll.op rfl rfl rfl (OpQ.sub rfl rfl rfl (by omega) (by omega)) ?_
    refine Ll.op (v := pf_ g (0 + (0 : Int).toNat)) rfl rfl rfl (OpQ.indexAddr1 rfl Tryz.runUnderlying28 Tryz.sizeOf3 rfl rfl (by omega) (by omega)) ?_
    refine Ll.store1 (v := i6_ ((-1 : Int) - (xs.getD (0 + (0 : Int).toNat) 0))) (hs' := (_ :: _ :: bk_ g ((u.setIfInBounds ((0 : Int).toNat) (i6_ ((-1 : Int) - (xs.getD (0 + (0 : Int).toNat) 0))))) 3 :: _ :: _ :: _ :: _ :: _ :: hs)) 2 rfl rfl rfl rfl rfl rfl Tryz.sizeOf3 rfl (by rw [hcg]; omega) (by simp only [Nat.zero_add]; rfl) ?_
    refine Ll.nil ?_
    refine Kt.sel [2, 4, 6, 7, 8, 9] [_, _, _, _, _, _] rfl ?_
    refine Wk.seq ?_
    refine Wk.regionS (S := Own B w0 [bk_ p31 #[i6_ 2, i6_ 2, i6_ 1, i6_ 2, i6_ 3] 3, bk_ g2 u2 3, bk_ g ((u.setIfInBounds ((0 : Int).toNat) (i6_ ((-1 : Int) - (xs.getD (0 + (0 : Int).toNat) 0))))) 3, bk_ p7 #[i6_ bb.n, str bb.set, str bb.rel] 24, bk_ p6 #[i6_ aa.n, str aa.set, str aa.rel] 24, bk_ rp #[bv, i6_ ((p_61 : Int))] 59]) [(0, true), (1, true), (2, true), (3, true), (4, false), (5, true), (6, false), (7, true)] Base.mixed (fun _ h => h.drawn) (by kernel_rfl) ?_
    refine Ld.take rfl rfl rfl rfl rfl (OpQ.loadBox (cs := #[i6_ aa.n, str aa.set, str aa.rel]) 4 rfl Tryz.isAgg24 rfl rfl Tryz.sizeOf24) (pk [0, 1, 2, 3, 4, 7] rfl rfl) ?_
    refine Ld.run 1 rfl (pk [0, 1, 2, 3, 4, 7] rfl rfl) ?_
    refine Ld.take rfl rfl rfl rfl rfl (OpQ.loadBox (cs := #[i6_ bb.n, str bb.set, str bb.rel]) 3 rfl Tryz.isAgg24 rfl rfl Tryz.sizeOf24) (pk [0, 1, 2, 3, 4, 7] rfl rfl) ?_
    refine Ld.run 1 rfl (pk [0, 1, 2, 3, 4, 7] rfl rfl) ?_
    refine Ld.loud rfl ?_
    refine Ll.storeBox (cs' := #[i6_ aa.n, str aa.set, str aa.rel]) (hs' := (_ :: _ :: _ :: _ :: _ :: _ :: bk_ p2 #[i6_ aa.n, str aa.set, str aa.rel] 24 :: _ :: hs)) 6 rfl rfl rfl rfl rfl (by kernel_rfl : _ = some Tryz.t24) rfl rfl rfl rfl rfl ?_
    refine Ll.nil (Ld.joint (pk [0, 1, 2, 3, 4, 7] rfl rfl) ?_)
    refine Ld.run 1 rfl (pk [0, 1, 2, 3, 4, 7] rfl rfl) ?_
    refine Ld.loud rfl ?_
    refine Ll.storeBox (cs' := #[i6_ bb.n, str bb.set, str bb.rel]) (hs' := (_ :: _ :: _ :: _ :: _ :: bk_ p4 #[i6_ bb.n, str bb.set, str bb.rel] 24 :: _ :: _ :: hs)) 5 rfl rfl rfl rfl rfl (by kernel_rfl : _ = some Tryz.t24) rfl rfl rfl rfl rfl ?_
    refine Ll.nil (Ld.joint (pk [0, 1, 2, 3, 4, 7] rfl rfl) ?_)
    refine Ld.run 1 rfl (pk [0, 1, 2, 3, 4, 7] rfl rfl) ?_
    refine Ld.nil ?_
    refine Kt.sel [2, 3, 4, 5] [_, _, _, _] rfl ?_
    refine Wk.ret (Kt.endMany rfl (.cell (cs := #[i6_ aa.n, str aa.set, str aa.rel]) rfl (fun w1 hw1 => hw1.loadBox 6 rfl Tryz.isAgg24 Tryz.sizeOf24) (.tmp (v := sl_ g xs.length c) rfl (.cell (cs := #[i6_ bb.n, str bb.set, str bb.rel]) rfl (fun w1 hw1 => hw1.loadBox 5 rfl Tryz.isAgg24 Tryz.sizeOf24) (.tmp (v := sl_ g2 ys.length c2) rfl ResAt.nil)))) (by simp) fun w' hw => ?_)
    exact ⟨aa, bb, sl_ g xs.length c, xs.set ((0 : Int).toNat) ((-1 : Int) - (xs.getD (0 + (0 : Int).toNat) 0)), sl_ g2 ys.length c2, ys, [bk_ p31 #[i6_ 2, i6_ 2, i6_ 1, i6_ 2, i6_ 3] 3, bk_ g2 u2 3, bk_ g ((u.setIfInBounds ((0 : Int).toNat) (i6_ ((-1 : Int) - (xs.getD (0 + (0 : Int).toNat) 0))))) 3, bk_ p7 #[i6_ bb.n, str bb.set, str bb.rel] 24, bk_ p6 #[i6_ aa.n, str aa.set, str aa.rel] 24, bk_ p4 #[i6_ bb.n, str bb.set, str bb.rel] 24, bk_ p2 #[i6_ aa.n, str aa.set, str aa.rel] 24], p_61, rfl, ⟨⟨⟨haa.tame, hbb.tame⟩, ⟨(by first | omega | (simp only [List.length_append, List.length_cons, List.length_nil, List.length_take, List.length_set]; omega)), (by first | omega | (simp only [List.length_append, List.length_cons, List.length_nil, List.length_take, List.length_set]; omega))⟩, fun w1 h1 => ⟨(Own.row h1 (i := 2) rfl (set_takeI htg) (by simp) hlg), (Own.row h1 (i := 1) rfl htg2 (by simp) hlg2)⟩⟩, by omega⟩, hw.perm (List.perm_middle (l₁ := ([bk_ p31 #[i6_ 2, i6_ 2, i6_ 1, i6_ 2, i6_ 3] 3, bk_ g2 u2 3, bk_ g ((u.setIfInBounds ((0 : Int).toNat) (i6_ ((-1 : Int) - (xs.getD (0 + (0 : Int).toNat) 0))))) 3, bk_ p7 #[i6_ bb.n, str bb.set, str bb.rel] 24, bk_ p6 #[i6_ aa.n, str aa.set, str aa.rel] 24, bk_ p4 #[i6_ bb.n, str bb.set, str bb.rel] 24, bk_ p2 #[i6_ aa.n, str aa.set, str aa.rel] 24] : List (Nat × Obj))) (l₂ := hs))⟩
   ·
    replace h70 := of_decide_eq_false h70
    refine Wk.seq ?_
    refine Wk.regionQ ?_
    refine Lq.run 2 rfl ?_
    refine Lq.nil ?_
    refine Kt.sel [0, 2, 4, 6, 7, 8, 9, 61, 78] [_, _, _, _, _, _, _, _, _] rfl ?_
    refine Wk.cond (b := decide (k61 = (2 : Int))) rfl (fun h78 => ?_) (fun h78 => ?_)
    ·
     replace h78 := of_decide_eq_true h78
     refine Wk.region ?_
     refine Ll.run 1 rfl ?_
     refine Ll.op rfl rfl rfl (OpQ.loadBox (cs := #[i6_ aa.n, str aa.set, str aa.rel]) 4 rfl Tryz.isAgg24 rfl rfl Tryz.sizeOf24) ?_
     refine Ll.callRd (rp := rp) (RT := 59) (p := p_61) (bv := bv) (hs := hs) (ok := fun (b : St) p' => ((-9223372036854775808 ≤ b.n ∧ b.n ≤ 9223372036854775807) ∧ b.set.length ≤ 50000 ∧ b.rel.length ≤ 50000) ∧ p' ≤ p_61 + 10) (v := fun (b : St) => vS b) (new := fun (b : St) => []) (xs := [.tmp 80, .tmp 81]) (vs := [pt_ rp, vS aa]) ([bk_ p31 #[i6_ 2, i6_ 2, i6_ 1, i6_ 2, i6_ 3] 3, bk_ g2 u2 3, bk_ g u 3, bk_ p7 #[i6_ bb.n, str bb.set, str bb.rel] 24, bk_ p6 #[i6_ aa.n, str aa.set, str aa.rel] 24, bk_ p4 #[i6_ 0, str ([]), str ([])] 24, bk_ p2 #[i6_ 0, str ([]), str ([])] 24] : List (Nat × Obj)) rfl rfl rfl rfl Tryz.call34 rfl (fun w1 hw1 => (l1Bad_ok B w0 (([bk_ p31 #[i6_ 2, i6_ 2, i6_ 1, i6_ 2, i6_ 3] 3, bk_ g2 u2 3, bk_ g u 3, bk_ p7 #[i6_ bb.n, str bb.set, str bb.rel] 24, bk_ p6 #[i6_ aa.n, str aa.set, str aa.rel] 24, bk_ p4 #[i6_ 0, str ([]), str ([])] 24, bk_ p2 #[i6_ 0, str ([]), str ([])] 24] : List (Nat × Obj)) ++ hs) rp p_61 bv L aa w1 (fun w2 hw2 => hb w2 (Own.drop (f := ([bk_ p31 #[i6_ 2, i6_ 2, i6_ 1, i6_ 2, i6_ 3] 3, bk_ g2 u2 3, bk_ g u 3, bk_ p7 #[i6_ bb.n, str bb.set, str bb.rel] 24, bk_ p6 #[i6_ aa.n, str aa.set, str aa.rel] 24, bk_ p4 #[i6_ 0, str ([]), str ([])] 24, bk_ p2 #[i6_ 0, str ([]), str ([])] 24] : List (Nat × Obj))) hw2)) hL8 hL haa (by omega) hw1).mono fun en w' ⟨b', p', h1, h2, h3⟩ => ⟨b', p', h1, h2, h3⟩) fun b82 p_82 hKp_82 => ?_
     show Ll _ _ (Own _ _ (_ :: _ :: _ :: _ :: _ :: _ :: _ :: _ :: hs)) _ _ ((82, vS b82) :: _) _ _ _
     obtain ⟨⟨⟨hlob82, hhib82⟩, hssb82, hrrb82⟩, hep_82⟩ := hKp_82
     refine Ll.storeBox (cs' := #[i6_ b82.n, str b82.set, str b82.rel]) (hs' := (_ :: _ :: _ :: _ :: bk_ p6 #[i6_ b82.n, str b82.set, str b82.rel] 24 :: _ :: _ :: _ :: hs)) 4 rfl rfl rfl rfl rfl (by kernel_rfl : _ = some Tryz.t24) rfl rfl rfl rfl rfl ?_
     refine Ll.nil ?_
     refine Kt.sel [2, 4, 6, 7, 8, 9] [_, _, _, _, _, _] rfl ?_
     refine Wk.seq ?_
     refine Wk.regionS (S := Own B w0 [bk_ p31 #[i6_ 2, i6_ 2, i6_ 1, i6_ 2, i6_ 3] 3, bk_ g2 u2 3, bk_ g u 3, bk_ p7 #[i6_ bb.n, str bb.set, str bb.rel] 24, bk_ p6 #[i6_ b82.n, str b82.set, str b82.rel] 24, bk_ rp #[bv, i6_ ((p_82 : Int))] 59]) [(0, true), (1, true), (2, true), (3, true), (4, false), (5, true), (6, false), (7, true)] Base.mixed (fun _ h => h.drawn) (by kernel_rfl) ?_
     refine Ld.take rfl rfl rfl rfl rfl (OpQ.loadBox (cs := #[i6_ b82.n, str b82.set, str b82.rel]) 4 rfl Tryz.isAgg24 rfl rfl Tryz.sizeOf24) (pk [0, 1, 2, 3, 4, 7] rfl rfl) ?_
     refine Ld.run 1 rfl (pk [0, 1, 2, 3, 4, 7] rfl rfl) ?_
     refine Ld.take rfl rfl rfl rfl rfl (OpQ.loadBox (cs := #[i6_ bb.n, str bb.set, str bb.rel]) 3 rfl Tryz.isAgg24 rfl rfl Tryz.sizeOf24) (pk [0, 1, 2, 3, 4, 7] rfl rfl) ?_
     refine Ld.run 1 rfl (pk [0, 1, 2, 3, 4, 7] rfl rfl) ?_
     refine Ld.loud rfl ?_
     refine Ll.storeBox (cs' := #[i6_ b82.n, str b82.set, str b82.rel]) (hs' := (_ :: _ :: _ :: _ :: _ :: _ :: bk_ p2 #[i6_ b82.n, str b82.set, str b82.rel] 24 :: _ :: hs)) 6 rfl rfl rfl rfl rfl (by kernel_rfl : _ = some Tryz.t24) rfl rfl rfl rfl rfl ?_
     refine Ll.nil (Ld.joint (pk [0, 1, 2, 3, 4, 7] rfl rfl) ?_)
     refine Ld.run 1 rfl (pk [0, 1, 2, 3, 4, 7] rfl rfl) ?_
     refine Ld.loud rfl ?_
     refine Ll.storeBox (cs' := #[i6_ bb.n, str bb.set, str bb.rel]) (hs' := (_ :: _ :: _ :: _ :: _ :: bk_ p4 #[i6_ bb.n, str bb.set, str bb.rel] 24 :: _ :: _ :: hs)) 5 rfl rfl rfl rfl rfl (by kernel_rfl : _ = some Tryz.t24) rfl rfl rfl rfl rfl ?_
     refine Ll.nil (Ld.joint (pk [0, 1, 2, 3, 4, 7] rfl rfl) ?_)
     refine Ld.run 1 rfl (pk [0, 1, 2, 3, 4, 7] rfl rfl) ?_
     refine Ld.nil ?_
     refine Kt.sel [2, 3, 4, 5] [_, _, _, _] rfl ?_
     refine Wk.ret (Kt.endMany rfl (.cell (cs := #[i6_ b82.n, str b82.set, str b82.rel]) rfl (fun w1 hw1 => hw1.loadBox 6 rfl Tryz.isAgg24 Tryz.sizeOf24) (.tmp (v := sl_ g xs.length c) rfl (.cell (cs := #[i6_ bb.n, str bb.set, str bb.rel]) rfl (fun w1 hw1 => hw1.loadBox 5 rfl Tryz.isAgg24 Tryz.sizeOf24) (.tmp (v := sl_ g2 ys.length c2) rfl ResAt.nil)))) (by simp) fun w' hw => ?_)
     exact ⟨b82, bb, sl_ g xs.length c, xs, sl_ g2 ys.length c2, ys, [bk_ p31 #[i6_ 2, i6_ 2, i6_ 1, i6_ 2, i6_ 3] 3, bk_ g2 u2 3, bk_ g u 3, bk_ p7 #[i6_ bb.n, str bb.set, str bb.rel] 24, bk_ p6 #[i6_ b82.n, str b82.set, str b82.rel] 24, bk_ p4 #[i6_ bb.n, str bb.set, str bb.rel] 24, bk_ p2 #[i6_ b82.n, str b82.set, str b82.rel] 24], p_82, rfl, ⟨⟨⟨⟨hlob82, hhib82, hssb82, hrrb82⟩, hbb.tame⟩, ⟨(by first | omega | (simp only [List.length_append, List.length_cons, List.length_nil, List.length_take, List.length_set]; omega)), (by first | omega | (simp only [List.length_append, List.length_cons, List.length_nil, List.length_take, List.length_set]; omega))⟩, fun w1 h1 => ⟨(Own.row h1 (i := 2) rfl htg (by simp) hlg), (Own.row h1 (i := 1) rfl htg2 (by simp) hlg2)⟩⟩, by omega⟩, hw.perm (List.perm_middle (l₁ := ([bk_ p31 #[i6_ 2, i6_ 2, i6_ 1, i6_ 2, i6_ 3] 3, bk_ g2 u2 3, bk_ g u 3, bk_ p7 #[i6_ bb.n, str bb.set, str bb.rel] 24, bk_ p6 #[i6_ b82.n, str b82.set, str b82.rel] 24, bk_ p4 #[i6_ bb.n, str bb.set, str bb.rel] 24, bk_ p2 #[i6_ b82.n, str b82.set, str b82.rel] 24] : List (Nat × Obj))) (l₂ := hs))⟩
    ·
     replace h78 := of_decide_eq_false h78
     refine Wk.seq ?_
     refine Wk.regionQ ?_
     refine Lq.run 2 rfl ?_
     refine Lq.nil ?_
     refine Kt.sel [2, 4, 6, 7, 8, 9, 83] [_, _, _, _, _, _, _] rfl ?_
     refine Wk.cond (b := decide (k61 = (3 : Int))) rfl (fun h83 => ?_) (fun h83 => ?_)
     ·
      replace h83 := of_decide_eq_true h83
      refine Wk.seq ?_
      refine Wk.regionU (S := Own B w0 [bk_ p31 #[i6_ 2, i6_ 2, i6_ 1, i6_ 2, i6_ 3] 3, bk_ g2 u2 3, bk_ g u 3, bk_ p7 #[i6_ bb.n, str bb.set, str bb.rel] 24, bk_ p6 #[i6_ aa.n, str aa.set, str aa.rel] 24, bk_ rp #[bv, i6_ ((p_61 : Int))] 59]) (.take 0 (.take 2 (.three 1 (.two 3 (.one 4 (.take 5 (.one 6 (.take 7 .done)))) 4 (.take 5 (.two 3 (.one 6 (.take 7 .done)) 6 (.one 3 (.take 7 .done))))) 3 (.two 1 (.one 4 (.take 5 (.one 6 (.take 7 .done)))) 4 (.one 1 (.take 5 (.one 6 (.take 7 .done))))) 4 (.two 1 (.take 5 (.two 3 (.one 6 (.take 7 .done)) 6 (.one 3 (.take 7 .done)))) 3 (.one 1 (.take 5 (.one 6 (.take 7 .done)))))))) Base.mixed (fun _ h => h.drawn) (by kernel_rfl) ?_
      refine Lu.take rfl rfl rfl rfl rfl (OpQ.loadBox (cs := #[i6_ aa.n, str aa.set, str aa.rel]) 4 rfl Tryz.isAgg24 rfl rfl Tryz.sizeOf24) (pk [0, 1, 2, 3, 4, 7] rfl rfl) ?_
      refine Lu.take rfl rfl rfl rfl rfl (OpQ.loadBox (cs := #[i6_ bb.n, str bb.set, str bb.rel]) 3 rfl Tryz.isAgg24 rfl rfl Tryz.sizeOf24) (pk [0, 1, 2, 3, 4, 7] rfl rfl) ?_
      refine Lu.three rfl rfl rfl ?_ ?_ ?_
      ·
       refine Ll.slice (xs := []) (vs := []) Base.elem28 rfl rfl rfl rfl rfl rfl (by decide) rfl fun p86 hp86 => ?_
       refine Ll.nil (Lu.joint (pk [1, 2, 3, 4, 5, 8] rfl rfl) ?_)
       refine Lu.two rfl rfl ?_ ?_
       ·
        refine Ll.slice (xs := []) (vs := []) Base.elem28 rfl rfl rfl rfl rfl rfl (by decide) rfl fun p88 hp88 => ?_
        refine Ll.nil (Lu.joint (pk [2, 3, 4, 5, 6, 9] rfl rfl) ?_)
        refine Lu.loud rfl ?_
        refine Ll.storeBox (cs' := #[i6_ aa.n, str aa.set, str aa.rel]) (hs' := (_ :: _ :: _ :: _ :: _ :: _ :: _ :: _ :: bk_ p2 #[i6_ aa.n, str aa.set, str aa.rel] 24 :: _ :: hs)) 8 rfl rfl rfl rfl rfl (by kernel_rfl : _ = some Tryz.t24) rfl rfl rfl rfl rfl ?_
        refine Ll.nil (Lu.joint (pk [2, 3, 4, 5, 6, 9] rfl rfl) ?_)
        refine Lu.run 1 rfl (pk [2, 3, 4, 5, 6, 9] rfl rfl) ?_
        refine Lu.loud rfl ?_
        refine Ll.storeBox (cs' := #[i6_ bb.n, str bb.set, str bb.rel]) (hs' := (_ :: _ :: _ :: _ :: _ :: _ :: _ :: bk_ p4 #[i6_ bb.n, str bb.set, str bb.rel] 24 :: _ :: _ :: hs)) 7 rfl rfl rfl rfl rfl (by kernel_rfl : _ = some Tryz.t24) rfl rfl rfl rfl rfl ?_
        refine Ll.nil (Lu.joint (pk [2, 3, 4, 5, 6, 9] rfl rfl) ?_)
        refine Lu.run 1 rfl (pk [2, 3, 4, 5, 6, 9] rfl rfl) ?_
        refine Lu.nil ?_
        refine Kt.sel [2, 3, 4, 5] [_, _, _, _] rfl ?_
        refine Wk.ret (Kt.endMany rfl (.cell (cs := #[i6_ aa.n, str aa.set, str aa.rel]) rfl (fun w1 hw1 => hw1.loadBox 8 rfl Tryz.isAgg24 Tryz.sizeOf24) (.tmp (v := sl_ p86 0 0) rfl (.cell (cs := #[i6_ bb.n, str bb.set, str bb.rel]) rfl (fun w1 hw1 => hw1.loadBox 7 rfl Tryz.isAgg24 Tryz.sizeOf24) (.tmp (v := sl_ p88 0 0) rfl ResAt.nil)))) (by simp) fun w' hw => ?_)
        exact ⟨aa, bb, sl_ p86 0 0, [], sl_ p88 0 0, [], [bk_ p88 #[] 3, bk_ p86 #[] 3, bk_ p31 #[i6_ 2, i6_ 2, i6_ 1, i6_ 2, i6_ 3] 3, bk_ g2 u2 3, bk_ g u 3, bk_ p7 #[i6_ bb.n, str bb.set, str bb.rel] 24, bk_ p6 #[i6_ aa.n, str aa.set, str aa.rel] 24, bk_ p4 #[i6_ bb.n, str bb.set, str bb.rel] 24, bk_ p2 #[i6_ aa.n, str aa.set, str aa.rel] 24], p_61, rfl, ⟨⟨⟨haa.tame, hbb.tame⟩, ⟨(by first | omega | (simp only [List.length_append, List.length_cons, List.length_nil, List.length_take, List.length_set]; omega)), (by first | omega | (simp only [List.length_append, List.length_cons, List.length_nil, List.length_take, List.length_set]; omega))⟩, fun w1 h1 => ⟨(Own.row h1 (i := 1) rfl (n := 0) (cap := 0) (vs := ints []) rfl rfl (by decide)), (Own.row h1 (i := 0) rfl (n := 0) (cap := 0) (vs := ints []) rfl rfl (by decide))⟩⟩, by omega⟩, hw.perm (List.perm_middle (l₁ := ([bk_ p88 #[] 3, bk_ p86 #[] 3, bk_ p31 #[i6_ 2, i6_ 2, i6_ 1, i6_ 2, i6_ 3] 3, bk_ g2 u2 3, bk_ g u 3, bk_ p7 #[i6_ bb.n, str bb.set, str bb.rel] 24, bk_ p6 #[i6_ aa.n, str aa.set, str aa.rel] 24, bk_ p4 #[i6_ bb.n, str bb.set, str bb.rel] 24, bk_ p2 #[i6_ aa.n, str aa.set, str aa.rel] 24] : List (Nat × Obj))) (l₂ := hs))⟩
       ·
        refine Ll.storeBox (cs' := #[i6_ aa.n, str aa.set, str aa.rel]) (hs' := (_ :: _ :: _ :: _ :: _ :: _ :: _ :: bk_ p2 #[i6_ aa.n, str aa.set, str aa.rel] 24 :: _ :: hs)) 7 rfl rfl rfl rfl rfl (by kernel_rfl : _ = some Tryz.t24) rfl rfl rfl rfl rfl ?_
        refine Ll.nil (Lu.joint (pk [1, 2, 3, 4, 5, 8] rfl rfl) ?_)
        refine Lu.run 1 rfl (pk [1, 2, 3, 4, 5, 8] rfl rfl) ?_
        refine Lu.two rfl rfl ?_ ?_
        ·
         refine Ll.slice (xs := []) (vs := []) Base.elem28 rfl rfl rfl rfl rfl rfl (by decide) rfl fun p88_1 hp88_1 => ?_
         refine Ll.nil (Lu.joint (pk [2, 3, 4, 5, 6, 9] rfl rfl) ?_)
         refine Lu.loud rfl ?_
         refine Ll.storeBox (cs' := #[i6_ bb.n, str bb.set, str bb.rel]) (hs' := (_ :: _ :: _ :: _ :: _ :: _ :: _ :: bk_ p4 #[i6_ bb.n, str bb.set, str bb.rel] 24 :: _ :: _ :: hs)) 7 rfl rfl rfl rfl rfl (by kernel_rfl : _ = some Tryz.t24) rfl rfl rfl rfl rfl ?_
         refine Ll.nil (Lu.joint (pk [2, 3, 4, 5, 6, 9] rfl rfl) ?_)
         refine Lu.run 1 rfl (pk [2, 3, 4, 5, 6, 9] rfl rfl) ?_
         refine Lu.nil ?_
         refine Kt.sel [2, 3, 4, 5] [_, _, _, _] rfl ?_
         refine Wk.ret (Kt.endMany rfl (.cell (cs := #[i6_ aa.n, str aa.set, str aa.rel]) rfl (fun w1 hw1 => hw1.loadBox 8 rfl Tryz.isAgg24 Tryz.sizeOf24) (.tmp (v := sl_ p86 0 0) rfl (.cell (cs := #[i6_ bb.n, str bb.set, str bb.rel]) rfl (fun w1 hw1 => hw1.loadBox 7 rfl Tryz.isAgg24 Tryz.sizeOf24) (.tmp (v := sl_ p88_1 0 0) rfl ResAt.nil)))) (by simp) fun w' hw => ?_)
         exact ⟨aa, bb, sl_ p86 0 0, [], sl_ p88_1 0 0, [], [bk_ p88_1 #[] 3, bk_ p86 #[] 3, bk_ p31 #[i6_ 2, i6_ 2, i6_ 1, i6_ 2, i6_ 3] 3, bk_ g2 u2 3, bk_ g u 3, bk_ p7 #[i6_ bb.n, str bb.set, str bb.rel] 24, bk_ p6 #[i6_ aa.n, str aa.set, str aa.rel] 24, bk_ p4 #[i6_ bb.n, str bb.set, str bb.rel] 24, bk_ p2 #[i6_ aa.n, str aa.set, str aa.rel] 24], p_61, rfl, ⟨⟨⟨haa.tame, hbb.tame⟩, ⟨(by first | omega | (simp only [List.length_append, List.length_cons, List.length_nil, List.length_take, List.length_set]; omega)), (by first | omega | (simp only [List.length_append, List.length_cons, List.length_nil, List.length_take, List.length_set]; omega))⟩, fun w1 h1 => ⟨(Own.row h1 (i := 1) rfl (n := 0) (cap := 0) (vs := ints []) rfl rfl (by decide)), (Own.row h1 (i := 0) rfl (n := 0) (cap := 0) (vs := ints []) rfl rfl (by decide))⟩⟩, by omega⟩, hw.perm (List.perm_middle (l₁ := ([bk_ p88_1 #[] 3, bk_ p86 #[] 3, bk_ p31 #[i6_ 2, i6_ 2, i6_ 1, i6_ 2, i6_ 3] 3, bk_ g2 u2 3, bk_ g u 3, bk_ p7 #[i6_ bb.n, str bb.set, str bb.rel] 24, bk_ p6 #[i6_ aa.n, str aa.set, str aa.rel] 24, bk_ p4 #[i6_ bb.n, str bb.set, str bb.rel] 24, bk_ p2 #[i6_ aa.n, str aa.set, str aa.rel] 24] : List (Nat × Obj))) (l₂ := hs))⟩
        ·
         refine Ll.storeBox (cs' := #[i6_ bb.n, str bb.set, str bb.rel]) (hs' := (_ :: _ :: _ :: _ :: _ :: _ :: bk_ p4 #[i6_ bb.n, str bb.set, str bb.rel] 24 :: _ :: _ :: hs)) 6 rfl rfl rfl rfl rfl (by kernel_rfl : _ = some Tryz.t24) rfl rfl rfl rfl rfl ?_
         refine Ll.nil (Lu.joint (pk [1, 2, 3, 4, 5, 8] rfl rfl) ?_)
         refine Lu.loud rfl ?_
         refine Ll.slice (xs := []) (vs := []) Base.elem28 rfl rfl rfl rfl rfl rfl (by decide) rfl fun p88_2 hp88_2 => ?_
         refine Ll.nil (Lu.joint (pk [2, 3, 4, 5, 6, 9] rfl rfl) ?_)
         refine Lu.run 1 rfl (pk [2, 3, 4, 5, 6, 9] rfl rfl) ?_
         refine Lu.nil ?_
         refine Kt.sel [2, 3, 4, 5] [_, _, _, _] rfl ?_
         refine Wk.ret (Kt.endMany rfl (.cell (cs := #[i6_ aa.n, str aa.set, str aa.rel]) rfl (fun w1 hw1 => hw1.loadBox 8 rfl Tryz.isAgg24 Tryz.sizeOf24) (.tmp (v := sl_ p86 0 0) rfl (.cell (cs := #[i6_ bb.n, str bb.set, str bb.rel]) rfl (fun w1 hw1 => hw1.loadBox 7 rfl Tryz.isAgg24 Tryz.sizeOf24) (.tmp (v := sl_ p88_2 0 0) rfl ResAt.nil)))) (by simp) fun w' hw => ?_)
         exact ⟨aa, bb, sl_ p86 0 0, [], sl_ p88_2 0 0, [], [bk_ p88_2 #[] 3, bk_ p86 #[] 3, bk_ p31 #[i6_ 2, i6_ 2, i6_ 1, i6_ 2, i6_ 3] 3, bk_ g2 u2 3, bk_ g u 3, bk_ p7 #[i6_ bb.n, str bb.set, str bb.rel] 24, bk_ p6 #[i6_ aa.n, str aa.set, str aa.rel] 24, bk_ p4 #[i6_ bb.n, str bb.set, str bb.rel] 24, bk_ p2 #[i6_ aa.n, str aa.set, str aa.rel] 24], p_61, rfl, ⟨⟨⟨haa.tame, hbb.tame⟩, ⟨(by first | omega | (simp only [List.length_append, List.length_cons, List.length_nil, List.length_take, List.length_set]; omega)), (by first | omega | (simp only [List.length_append, List.length_cons, List.length_nil, List.length_take, List.length_set]; omega))⟩, fun w1 h1 => ⟨(Own.row h1 (i := 1) rfl (n := 0) (cap := 0) (vs := ints []) rfl rfl (by decide)), (Own.row h1 (i := 0) rfl (n := 0) (cap := 0) (vs := ints []) rfl rfl (by decide))⟩⟩, by omega⟩, hw.perm (List.perm_middle (l₁ := ([bk_ p88_2 #[] 3, bk_ p86 #[] 3, bk_ p31 #[i6_ 2, i6_ 2, i6_ 1, i6_ 2, i6_ 3] 3, bk_ g2 u2 3, bk_ g u 3, bk_ p7 #[i6_ bb.n, str bb.set, str bb.rel] 24, bk_ p6 #[i6_ aa.n, str aa.set, str aa.rel] 24, bk_ p4 #[i6_ bb.n, str bb.set, str bb.rel] 24, bk_ p2 #[i6_ aa.n, str aa.set, str aa.rel] 24] : List (Nat × Obj))) (l₂ := hs))⟩
      ·
       refine Ll.slice (xs := []) (vs := []) Base.elem28 rfl rfl rfl rfl rfl rfl (by decide) rfl fun p88_3 hp88_3 => ?_
       refine Ll.nil (Lu.joint (pk [1, 2, 3, 4, 5, 8] rfl rfl) ?_)
       refine Lu.two rfl rfl ?_ ?_
       ·
        refine Ll.slice (xs := []) (vs := []) Base.elem28 rfl rfl rfl rfl rfl rfl (by decide) rfl fun p86_1 hp86_1 => ?_
        refine Ll.nil (Lu.joint (pk [2, 3, 4, 5, 6, 9] rfl rfl) ?_)
        refine Lu.loud rfl ?_
        refine Ll.storeBox (cs' := #[i6_ aa.n, str aa.set, str aa.rel]) (hs' := (_ :: _ :: _ :: _ :: _ :: _ :: _ :: _ :: bk_ p2 #[i6_ aa.n, str aa.set, str aa.rel] 24 :: _ :: hs)) 8 rfl rfl rfl rfl rfl (by kernel_rfl : _ = some Tryz.t24) rfl rfl rfl rfl rfl ?_
        refine Ll.nil (Lu.joint (pk [2, 3, 4, 5, 6, 9] rfl rfl) ?_)
        refine Lu.run 1 rfl (pk [2, 3, 4, 5, 6, 9] rfl rfl) ?_
        refine Lu.loud rfl ?_
        refine Ll.storeBox (cs' := #[i6_ bb.n, str bb.set, str bb.rel]) (hs' := (_ :: _ :: _ :: _ :: _ :: _ :: _ :: bk_ p4 #[i6_ bb.n, str bb.set, str bb.rel] 24 :: _ :: _ :: hs)) 7 rfl rfl rfl rfl rfl (by kernel_rfl : _ = some Tryz.t24) rfl rfl rfl rfl rfl ?_
        refine Ll.nil (Lu.joint (pk [2, 3, 4, 5, 6, 9] rfl rfl) ?_)
        refine Lu.run 1 rfl (pk [2, 3, 4, 5, 6, 9] rfl rfl) ?_
        refine Lu.nil ?_
        refine Kt.sel [2, 3, 4, 5] [_, _, _, _] rfl ?_
        refine Wk.ret (Kt.endMany rfl (.cell (cs := #[i6_ aa.n, str aa.set, str aa.rel]) rfl (fun w1 hw1 => hw1.loadBox 8 rfl Tryz.isAgg24 Tryz.sizeOf24) (.tmp (v := sl_ p86_1 0 0) rfl (.cell (cs := #[i6_ bb.n, str bb.set, str bb.rel]) rfl (fun w1 hw1 => hw1.loadBox 7 rfl Tryz.isAgg24 Tryz.sizeOf24) (.tmp (v := sl_ p88_3 0 0) rfl ResAt.nil)))) (by simp) fun w' hw => ?_)
        exact ⟨aa, bb, sl_ p86_1 0 0, [], sl_ p88_3 0 0, [], [bk_ p86_1 #[] 3, bk_ p88_3 #[] 3, bk_ p31 #[i6_ 2, i6_ 2, i6_ 1, i6_ 2, i6_ 3] 3, bk_ g2 u2 3, bk_ g u 3, bk_ p7 #[i6_ bb.n, str bb.set, str bb.rel] 24, bk_ p6 #[i6_ aa.n, str aa.set, str aa.rel] 24, bk_ p4 #[i6_ bb.n, str bb.set, str bb.rel] 24, bk_ p2 #[i6_ aa.n, str aa.set, str aa.rel] 24], p_61, rfl, ⟨⟨⟨haa.tame, hbb.tame⟩, ⟨(by first | omega | (simp only [List.length_append, List.length_cons, List.length_nil, List.length_take, List.length_set]; omega)), (by first | omega | (simp only [List.length_append, List.length_cons, List.length_nil, List.length_take, List.length_set]; omega))⟩, fun w1 h1 => ⟨(Own.row h1 (i := 0) rfl (n := 0) (cap := 0) (vs := ints []) rfl rfl (by decide)), (Own.row h1 (i := 1) rfl (n := 0) (cap := 0) (vs := ints []) rfl rfl (by decide))⟩⟩, by omega⟩, hw.perm (List.perm_middle (l₁ := ([bk_ p86_1 #[] 3, bk_ p88_3 #[] 3, bk_ p31 #[i6_ 2, i6_ 2, i6_ 1, i6_ 2, i6_ 3] 3, bk_ g2 u2 3, bk_ g u 3, bk_ p7 #[i6_ bb.n, str bb.set, str bb.rel] 24, bk_ p6 #[i6_ aa.n, str aa.set, str aa.rel] 24, bk_ p4 #[i6_ bb.n, str bb.set, str bb.rel] 24, bk_ p2 #[i6_ aa.n, str aa.set, str aa.rel] 24] : List (Nat × Obj))) (l₂ := hs))⟩
       ·
        refine Ll.storeBox (cs' := #[i6_ aa.n, str aa.set, str aa.rel]) (hs' := (_ :: _ :: _ :: _ :: _ :: _ :: _ :: bk_ p2 #[i6_ aa.n, str aa.set, str aa.rel] 24 :: _ :: hs)) 7 rfl rfl rfl rfl rfl (by kernel_rfl : _ = some Tryz.t24) rfl rfl rfl rfl rfl ?_
        refine Ll.nil (Lu.joint (pk [1, 2, 3, 4, 5, 8] rfl rfl) ?_)
        refine Lu.loud rfl ?_
        refine Ll.slice (xs := []) (vs := []) Base.elem28 rfl rfl rfl rfl rfl rfl (by decide) rfl fun p86_2 hp86_2 => ?_
        refine Ll.nil (Lu.joint (pk [2, 3, 4, 5, 6, 9] rfl rfl) ?_)
        refine Lu.run 1 rfl (pk [2, 3, 4, 5, 6, 9] rfl rfl) ?_
        refine Lu.loud rfl ?_
        refine Ll.storeBox (cs' := #[i6_ bb.n, str bb.set, str bb.rel]) (hs' := (_ :: _ :: _ :: _ :: _ :: _ :: _ :: bk_ p4 #[i6_ bb.n, str bb.set, str bb.rel] 24 :: _ :: _ :: hs)) 7 rfl rfl rfl rfl rfl (by kernel_rfl : _ = some Tryz.t24) rfl rfl rfl rfl rfl ?_
        refine Ll.nil (Lu.joint (pk [2, 3, 4, 5, 6, 9] rfl rfl) ?_)
        refine Lu.run 1 rfl (pk [2, 3, 4, 5, 6, 9] rfl rfl) ?_
        refine Lu.nil ?_
        refine Kt.sel [2, 3, 4, 5] [_, _, _, _] rfl ?_
        refine Wk.ret (Kt.endMany rfl (.cell (cs := #[i6_ aa.n, str aa.set, str aa.rel]) rfl (fun w1 hw1 => hw1.loadBox 8 rfl Tryz.isAgg24 Tryz.sizeOf24) (.tmp (v := sl_ p86_2 0 0) rfl (.cell (cs := #[i6_ bb.n, str bb.set, str bb.rel]) rfl (fun w1 hw1 => hw1.loadBox 7 rfl Tryz.isAgg24 Tryz.sizeOf24) (.tmp (v := sl_ p88_3 0 0) rfl ResAt.nil)))) (by simp) fun w' hw => ?_)
        exact ⟨aa, bb, sl_ p86_2 0 0, [], sl_ p88_3 0 0, [], [bk_ p86_2 #[] 3, bk_ p88_3 #[] 3, bk_ p31 #[i6_ 2, i6_ 2, i6_ 1, i6_ 2, i6_ 3] 3, bk_ g2 u2 3, bk_ g u 3, bk_ p7 #[i6_ bb.n, str bb.set, str bb.rel] 24, bk_ p6 #[i6_ aa.n, str aa.set, str aa.rel] 24, bk_ p4 #[i6_ bb.n, str bb.set, str bb.rel] 24, bk_ p2 #[i6_ aa.n, str aa.set, str aa.rel] 24], p_61, rfl, ⟨⟨⟨haa.tame, hbb.tame⟩, ⟨(by first | omega | (simp only [List.length_append, List.length_cons, List.length_nil, List.length_take, List.length_set]; omega)), (by first | omega | (simp only [List.length_append, List.length_cons, List.length_nil, List.length_take, List.length_set]; omega))⟩, fun w1 h1 => ⟨(Own.row h1 (i := 0) rfl (n := 0) (cap := 0) (vs := ints []) rfl rfl (by decide)), (Own.row h1 (i := 1) rfl (n := 0) (cap := 0) (vs := ints []) rfl rfl (by decide))⟩⟩, by omega⟩, hw.perm (List.perm_middle (l₁ := ([bk_ p86_2 #[] 3, bk_ p88_3 #[] 3, bk_ p31 #[i6_ 2, i6_ 2, i6_ 1, i6_ 2, i6_ 3] 3, bk_ g2 u2 3, bk_ g u 3, bk_ p7 #[i6_ bb.n, str bb.set, str bb.rel] 24, bk_ p6 #[i6_ aa.n, str aa.set, str aa.rel] 24, bk_ p4 #[i6_ bb.n, str bb.set, str bb.rel] 24, bk_ p2 #[i6_ aa.n, str aa.set, str aa.rel] 24] : List (Nat × Obj))) (l₂ := hs))⟩
      ·
       refine Ll.storeBox (cs' := #[i6_ aa.n, str aa.set, str aa.rel]) (hs' := (_ :: _ :: _ :: _ :: _ :: _ :: bk_ p2 #[i6_ aa.n, str aa.set, str aa.rel] 24 :: _ :: hs)) 6 rfl rfl rfl rfl rfl (by kernel_rfl : _ = some Tryz.t24) rfl rfl rfl rfl rfl ?_
       refine Ll.nil (Lu.joint (pk [0, 1, 2, 3, 4, 7] rfl rfl) ?_)
       refine Lu.two rfl rfl ?_ ?_
       ·
        refine Ll.slice (xs := []) (vs := []) Base.elem28 rfl rfl rfl rfl rfl rfl (by decide) rfl fun p86_3 hp86_3 => ?_
        refine Ll.nil (Lu.joint (pk [1, 2, 3, 4, 5, 8] rfl rfl) ?_)
        refine Lu.run 1 rfl (pk [1, 2, 3, 4, 5, 8] rfl rfl) ?_
        refine Lu.two rfl rfl ?_ ?_
        ·
         refine Ll.slice (xs := []) (vs := []) Base.elem28 rfl rfl rfl rfl rfl rfl (by decide) rfl fun p88_4 hp88_4 => ?_
         refine Ll.nil (Lu.joint (pk [2, 3, 4, 5, 6, 9] rfl rfl) ?_)
         refine Lu.loud rfl ?_
         refine Ll.storeBox (cs' := #[i6_ bb.n, str bb.set, str bb.rel]) (hs' := (_ :: _ :: _ :: _ :: _ :: _ :: _ :: bk_ p4 #[i6_ bb.n, str bb.set, str bb.rel] 24 :: _ :: _ :: hs)) 7 rfl rfl rfl rfl rfl (by kernel_rfl : _ = some Tryz.t24) rfl rfl rfl rfl rfl ?_
         refine Ll.nil (Lu.joint (pk [2, 3, 4, 5, 6, 9] rfl rfl) ?_)
         refine Lu.run 1 rfl (pk [2, 3, 4, 5, 6, 9] rfl rfl) ?_
         refine Lu.nil ?_
         refine Kt.sel [2, 3, 4, 5] [_, _, _, _] rfl ?_
         refine Wk.ret (Kt.endMany rfl (.cell (cs := #[i6_ aa.n, str aa.set, str aa.rel]) rfl (fun w1 hw1 => hw1.loadBox 8 rfl Tryz.isAgg24 Tryz.sizeOf24) (.tmp (v := sl_ p86_3 0 0) rfl (.cell (cs := #[i6_ bb.n, str bb.set, str bb.rel]) rfl (fun w1 hw1 => hw1.loadBox 7 rfl Tryz.isAgg24 Tryz.sizeOf24) (.tmp (v := sl_ p88_4 0 0) rfl ResAt.nil)))) (by simp) fun w' hw => ?_)
         exact ⟨aa, bb, sl_ p86_3 0 0, [], sl_ p88_4 0 0, [], [bk_ p88_4 #[] 3, bk_ p86_3 #[] 3, bk_ p31 #[i6_ 2, i6_ 2, i6_ 1, i6_ 2, i6_ 3] 3, bk_ g2 u2 3, bk_ g u 3, bk_ p7 #[i6_ bb.n, str bb.set, str bb.rel] 24, bk_ p6 #[i6_ aa.n, str aa.set, str aa.rel] 24, bk_ p4 #[i6_ bb.n, str bb.set, str bb.rel] 24, bk_ p2 #[i6_ aa.n, str aa.set, str aa.rel] 24], p_61, rfl, ⟨⟨⟨haa.tame, hbb.tame⟩, ⟨(by first | omega | (simp only [List.length_append, List.length_cons, List.length_nil, List.length_take, List.length_set]; omega)), (by first | omega | (simp only [List.length_append, List.length_cons, List.length_nil, List.length_take, List.length_set]; omega))⟩, fun w1 h1 => ⟨(Own.row h1 (i := 1) rfl (n := 0) (cap := 0) (vs := ints []) rfl rfl (by decide)), (Own.row h1 (i := 0) rfl (n := 0) (cap := 0) (vs := ints []) rfl rfl (by decide))⟩⟩, by omega⟩, hw.perm (List.perm_middle (l₁ := ([bk_ p88_4 #[] 3, bk_ p86_3 #[] 3, bk_ p31 #[i6_ 2, i6_ 2, i6_ 1, i6_ 2, i6_ 3] 3, bk_ g2 u2 3, bk_ g u 3, bk_ p7 #[i6_ bb.n, str bb.set, str bb.rel] 24, bk_ p6 #[i6_ aa.n, str aa.set, str aa.rel] 24, bk_ p4 #[i6_ bb.n, str bb.set, str bb.rel] 24, bk_ p2 #[i6_ aa.n, str aa.set, str aa.rel] 24] : List (Nat × Obj))) (l₂ := hs))⟩
        ·
         refine Ll.storeBox (cs' := #[i6_ bb.n, str bb.set, str bb.rel]) (hs' := (_ :: _ :: _ :: _ :: _ :: _ :: bk_ p4 #[i6_ bb.n, str bb.set, str bb.rel] 24 :: _ :: _ :: hs)) 6 rfl rfl rfl rfl rfl (by kernel_rfl : _ = some Tryz.t24) rfl rfl rfl rfl rfl ?_
         refine Ll.nil (Lu.joint (pk [1, 2, 3, 4, 5, 8] rfl rfl) ?_)
         refine Lu.loud rfl ?_
         refine Ll.slice (xs := []) (vs := []) Base.elem28 rfl rfl rfl rfl rfl rfl (by decide) rfl fun p88_5 hp88_5 => ?_
         refine Ll.nil (Lu.joint (pk [2, 3, 4, 5, 6, 9] rfl rfl) ?_)
         refine Lu.run 1 rfl (pk [2, 3, 4, 5, 6, 9] rfl rfl) ?_
         refine Lu.nil ?_
         refine Kt.sel [2, 3, 4, 5] [_, _, _, _] rfl ?_
         refine Wk.ret (Kt.endMany rfl (.cell (cs := #[i6_ aa.n, str aa.set, str aa.rel]) rfl (fun w1 hw1 => hw1.loadBox 8 rfl Tryz.isAgg24 Tryz.sizeOf24) (.tmp (v := sl_ p86_3 0 0) rfl (.cell (cs := #[i6_ bb.n, str bb.set, str bb.rel]) rfl (fun w1 hw1 => hw1.loadBox 7 rfl Tryz.isAgg24 Tryz.sizeOf24) (.tmp (v := sl_ p88_5 0 0) rfl ResAt.nil)))) (by simp) fun w' hw => ?_)
         exact ⟨aa, bb, sl_ p86_3 0 0, [], sl_ p88_5 0 0, [], [bk_ p88_5 #[] 3, bk_ p86_3 #[] 3, bk_ p31 #[i6_ 2, i6_ 2, i6_ 1, i6_ 2, i6_ 3] 3, bk_ g2 u2 3, bk_ g u 3, bk_ p7 #[i6_ bb.n, str bb.set, str bb.rel] 24, bk_ p6 #[i6_ aa.n, str aa.set, str aa.rel] 24, bk_ p4 #[i6_ bb.n, str bb.set, str bb.rel] 24, bk_ p2 #[i6_ aa.n, str aa.set, str aa.rel] 24], p_61, rfl, ⟨⟨⟨haa.tame, hbb.tame⟩, ⟨(by first | omega | (simp only [List.length_append, List.length_cons, List.length_nil, List.length_take, List.length_set]; omega)), (by first | omega | (simp only [List.length_append, List.length_cons, List.length_nil, List.length_take, List.length_set]; omega))⟩, fun w1 h1 => ⟨(Own.row h1 (i := 1) rfl (n := 0) (cap := 0) (vs := ints []) rfl rfl (by decide)), (Own.row h1 (i := 0) rfl (n := 0) (cap := 0) (vs := ints []) rfl rfl (by decide))⟩⟩, by omega⟩, hw.perm (List.perm_middle (l₁ := ([bk_ p88_5 #[] 3, bk_ p86_3 #[] 3, bk_ p31 #[i6_ 2, i6_ 2, i6_ 1, i6_ 2, i6_ 3] 3, bk_ g2 u2 3, bk_ g u 3, bk_ p7 #[i6_ bb.n, str bb.set, str bb.rel] 24, bk_ p6 #[i6_ aa.n, str aa.set, str aa.rel] 24, bk_ p4 #[i6_ bb.n, str bb.set, str bb.rel] 24, bk_ p2 #[i6_ aa.n, str aa.set, str aa.rel] 24] : List (Nat × Obj))) (l₂ := hs))⟩
       ·
        refine Ll.slice (xs := []) (vs := []) Base.elem28 rfl rfl rfl rfl rfl rfl (by decide) rfl fun p88_6 hp88_6 => ?_
        refine Ll.nil (Lu.joint (pk [1, 2, 3, 4, 5, 8] rfl rfl) ?_)
        refine Lu.loud rfl ?_
        refine Ll.slice (xs := []) (vs := []) Base.elem28 rfl rfl rfl rfl rfl rfl (by decide) rfl fun p86_4 hp86_4 => ?_
        refine Ll.nil (Lu.joint (pk [2, 3, 4, 5, 6, 9] rfl rfl) ?_)
        refine Lu.run 1 rfl (pk [2, 3, 4, 5, 6, 9] rfl rfl) ?_
        refine Lu.loud rfl ?_
        refine Ll.storeBox (cs' := #[i6_ bb.n, str bb.set, str bb.rel]) (hs' := (_ :: _ :: _ :: _ :: _ :: _ :: _ :: bk_ p4 #[i6_ bb.n, str bb.set, str bb.rel] 24 :: _ :: _ :: hs)) 7 rfl rfl rfl rfl rfl (by kernel_rfl : _ = some Tryz.t24) rfl rfl rfl rfl rfl ?_
        refine Ll.nil (Lu.joint (pk [2, 3, 4, 5, 6, 9] rfl rfl) ?_)
        refine Lu.run 1 rfl (pk [2, 3, 4, 5, 6, 9] rfl rfl) ?_
        refine Lu.nil ?_
        refine Kt.sel [2, 3, 4, 5] [_, _, _, _] rfl ?_
        refine Wk.ret (Kt.endMany rfl (.cell (cs := #[i6_ aa.n, str aa.set, str aa.rel]) rfl (fun w1 hw1 => hw1.loadBox 8 rfl Tryz.isAgg24 Tryz.sizeOf24) (.tmp (v := sl_ p86_4 0 0) rfl (.cell (cs := #[i6_ bb.n, str bb.set, str bb.rel]) rfl (fun w1 hw1 => hw1.loadBox 7 rfl Tryz.isAgg24 Tryz.sizeOf24) (.tmp (v := sl_ p88_6 0 0) rfl ResAt.nil)))) (by simp) fun w' hw => ?_)
        exact ⟨aa, bb, sl_ p86_4 0 0, [], sl_ p88_6 0 0, [], [bk_ p86_4 #[] 3, bk_ p88_6 #[] 3, bk_ p31 #[i6_ 2, i6_ 2, i6_ 1, i6_ 2, i6_ 3] 3, bk_ g2 u2 3, bk_ g u 3, bk_ p7 #[i6_ bb.n, str bb.set, str bb.rel] 24, bk_ p6 #[i6_ aa.n, str aa.set, str aa.rel] 24, bk_ p4 #[i6_ bb.n, str bb.set, str bb.rel] 24, bk_ p2 #[i6_ aa.n, str aa.set, str aa.rel] 24], p_61, rfl, ⟨⟨⟨haa.tame, hbb.tame⟩, ⟨(by first | omega | (simp only [List.length_append, List.length_cons, List.length_nil, List.length_take, List.length_set]; omega)), (by first | omega | (simp only [List.length_append, List.length_cons, List.length_nil, List.length_take, List.length_set]; omega))⟩, fun w1 h1 => ⟨(Own.row h1 (i := 0) rfl (n := 0) (cap := 0) (vs := ints []) rfl rfl (by decide)), (Own.row h1 (i := 1) rfl (n := 0) (cap := 0) (vs := ints []) rfl rfl (by decide))⟩⟩, by omega⟩, hw.perm (List.perm_middle (l₁ := ([bk_ p86_4 #[] 3, bk_ p88_6 #[] 3, bk_ p31 #[i6_ 2, i6_ 2, i6_ 1, i6_ 2, i6_ 3] 3, bk_ g2 u2 3, bk_ g u 3, bk_ p7 #[i6_ bb.n, str bb.set, str bb.rel] 24, bk_ p6 #[i6_ aa.n, str aa.set, str aa.rel] 24, bk_ p4 #[i6_ bb.n, str bb.set, str bb.rel] 24, bk_ p2 #[i6_ aa.n, str aa.set, str aa.rel] 24] : List (Nat × Obj))) (l₂ := hs))⟩
     ·
      replace h83 := of_decide_eq_false h83
      refine Wk.skip ?_
      refine Kt.sel [2, 4, 6, 7, 8, 9] [_, _, _, _, _, _] rfl ?_
      refine Wk.seq ?_
      refine Wk.regionS (S := Own B w0 [bk_ p31 #[i6_ 2, i6_ 2, i6_ 1, i6_ 2, i6_ 3] 3, bk_ g2 u2 3, bk_ g u 3, bk_ p7 #[i6_ bb.n, str bb.set, str bb.rel] 24, bk_ p6 #[i6_ aa.n, str aa.set, str aa.rel] 24, bk_ rp #[bv, i6_ ((p_61 : Int))] 59]) [(0, true), (1, true), (2, true), (3, true), (4, false), (5, true), (6, false), (7, true)] Base.mixed (fun _ h => h.drawn) (by kernel_rfl) ?_
      refine Ld.take rfl rfl rfl rfl rfl (OpQ.loadBox (cs := #[i6_ aa.n, str aa.set, str aa.rel]) 4 rfl Tryz.isAgg24 rfl rfl Tryz.sizeOf24) (pk [0, 1, 2, 3, 4, 7] rfl rfl) ?_
      refine Ld.run 1 rfl (pk [0, 1, 2, 3, 4, 7] rfl rfl) ?_
      refine Ld.take rfl rfl rfl rfl rfl (OpQ.loadBox (cs := #[i6_ bb.n, str bb.set, str bb.rel]) 3 rfl Tryz.isAgg24 rfl rfl Tryz.sizeOf24) (pk [0, 1, 2, 3, 4, 7] rfl rfl) ?_
      refine Ld.run 1 rfl (pk [0, 1, 2, 3, 4, 7] rfl rfl) ?_
      refine Ld.loud rfl ?_
      refine Ll.storeBox (cs' := #[i6_ aa.n, str aa.set, str aa.rel]) (hs' := (_ :: _ :: _ :: _ :: _ :: _ :: bk_ p2 #[i6_ aa.n, str aa.set, str aa.rel] 24 :: _ :: hs)) 6 rfl rfl rfl rfl rfl (by kernel_rfl : _ = some Tryz.t24) rfl rfl rfl rfl rfl ?_
      refine Ll.nil (Ld.joint (pk [0, 1, 2, 3, 4, 7] rfl rfl) ?_)
      refine Ld.run 1 rfl (pk [0, 1, 2, 3, 4, 7] rfl rfl) ?_
      refine Ld.loud rfl ?_
      refine Ll.storeBox (cs' := #[i6_ bb.n, str bb.set, str bb.rel]) (hs' := (_ :: _ :: _ :: _ :: _ :: bk_ p4 #[i6_ bb.n, str bb.set, str bb.rel] 24 :: _ :: _ :: hs)) 5 rfl rfl rfl rfl rfl (by kernel_rfl : _ = some Tryz.t24) rfl rfl rfl rfl rfl ?_
      refine Ll.nil (Ld.joint (pk [0, 1, 2, 3, 4, 7] rfl rfl) ?_)
      refine Ld.run 1 rfl (pk [0, 1, 2, 3, 4, 7] rfl rfl) ?_
      refine Ld.nil ?_
      refine Kt.sel [2, 3, 4, 5] [_, _, _, _] rfl ?_
      refine Wk.ret (Kt.endMany rfl (.cell (cs := #[i6_ aa.n, str aa.set, str aa.rel]) rfl (fun w1 hw1 => hw1.loadBox 6 rfl Tryz.isAgg24 Tryz.sizeOf24) (.tmp (v := sl_ g xs.length c) rfl (.cell (cs := #[i6_ bb.n, str bb.set, str bb.rel]) rfl (fun w1 hw1 => hw1.loadBox 5 rfl Tryz.isAgg24 Tryz.sizeOf24) (.tmp (v := sl_ g2 ys.length c2) rfl ResAt.nil)))) (by simp) fun w' hw => ?_)
      exact ⟨aa, bb, sl_ g xs.length c, xs, sl_ g2 ys.length c2, ys, [bk_ p31 #[i6_ 2, i6_ 2, i6_ 1, i6_ 2, i6_ 3] 3, bk_ g2 u2 3, bk_ g u 3, bk_ p7 #[i6_ bb.n, str bb.set, str bb.rel] 24, bk_ p6 #[i6_ aa.n, str aa.set, str aa.rel] 24, bk_ p4 #[i6_ bb.n, str bb.set, str bb.rel] 24, bk_ p2 #[i6_ aa.n, str aa.set, str aa.rel] 24], p_61, rfl, ⟨⟨⟨haa.tame, hbb.tame⟩, ⟨(by first | omega | (simp only [List.length_append, List.length_cons, List.length_nil, List.length_take, List.length_set]; omega)), (by first | omega | (simp only [List.length_append, List.length_cons, List.length_nil, List.length_take, List.length_set]; omega))⟩, fun w1 h1 => ⟨(Own.row h1 (i := 2) rfl htg (by simp) hlg), (Own.row h1 (i := 1) rfl htg2 (by simp) hlg2)⟩⟩, by omega⟩, hw.perm (List.perm_middle (l₁ := ([bk_ p31 #[i6_ 2, i6_ 2, i6_ 1, i6_ 2, i6_ 3] 3, bk_ g2 u2 3, bk_ g u 3, bk_ p7 #[i6_ bb.n, str bb.set, str bb.rel] 24, bk_ p6 #[i6_ aa.n, str aa.set, str aa.rel] 24, bk_ p4 #[i6_ bb.n, str bb.set, str bb.rel] 24, bk_ p2 #[i6_ aa.n, str aa.set, str aa.rel] 24] : List (Nat × Obj))) (l₂ := hs))⟩
end Go.Proofs.YtjcoijejhachhaaGreatDoor
namespace Go.Proofs.YtjcoijejhachhaaGreatDoor
open Go.RowKit Go.Wk
set_option linter.unusedSimpArgs false
set_option maxHeartbeats 400000 in
/-- spec.DrawPebbleClasses -/
theorem drawPCls_ok (B : Nat) (w0 : World) (hs : List (Nat × Obj)) (bv : Value) (L : List Int) (w : World) (hb : ∀ w, Own B w0 hs w → Row w bv (u8s L)) (hL8 : Bytes8 L) (hLs : L.length ≤ 1048576) (hw : Own B w0 hs w) :
    Calls Tryz.prog 4 [bv].toArray w fun en w' => ∃ a : St, ∃ x : Int, en = .returned (.tuple #[vS a, .int .i64 x]) ∧ (a.Tame ∧ 0 ≤ x ∧ x ≤ 4) ∧ Own B w0 hs w' := by
 refine fnStartC (Own B w0 hs) (n := 22) (e := [(0, bv)]) Tryz.func4 rfl rfl rfl rfl Ends.both hw ?_
 refine Wk.seq ?_
 refine Wk.region ?_
 refine Ll.alloc rfl rfl rfl rfl Tryz.zeroValue24 fun p2 hp2 => ?_
 show Ll _ _ (Own _ _ (bk_ p2 #[i6_ 0, str ([]), str ([])] 24 :: hs)) _ _ ((2, pt_ p2) :: _) _ _ _
 refine Ll.run 1 rfl ?_
 refine Ll.nil ?_
 refine Kt.sel [0, 2] [_, _] rfl ?_
 refine Wk.seq ?_
 refine Wk.region ?_
 refine Ll.run 1 rfl ?_
 refine Ll.callBack (ok := fun ((rp, v, M) : Nat × Value × List Int) => M.length ≤ 2000 ∧ Bytes8 M ∧ ∀ w1, Own B w0 hs w1 → Row w1 v (u8s M)) (v := fun ((rp, v, M) : Nat × Value × List Int) => .pointer (some ⟨rp, 0, none⟩)) (new := fun ((rp, v, M) : Nat × Value × List Int) => [(rp, .cells #[v, .int .i64 ((0 : Nat) : Int)] 59 (0, 0))]) (hs := hs) (xs := [.tmp 9]) (vs := [bv]) ([bk_ p2 #[i6_ 0, str ([]), str ([])] 24] : List (Nat × Obj)) rfl rfl rfl rfl Tryz.call9 rfl (fun w1 hw1 => (open_ok B w0 ([bk_ p2 #[i6_ 0, str ([]), str ([])] 24] : List (Nat × Obj)) hs _ _ w1 hb hL8 hLs hw1).mono fun en w' ⟨rp, v, M, h1, h2, h3⟩ => ⟨(rp, v, M), h1, h2, h3⟩) fun ⟨rp, dv, M⟩ hO => ?_
 dsimp only at hO
 obtain ⟨hM2, hM8, hMb⟩ := hO
 show Ll _ _ (Own _ _ (_ :: _ :: hs)) _ _ ((10, pt_ rp) :: _) _ _ _
 refine Ll.run 1 rfl ?_
 refine Ll.nil ?_
 refine Kt.sel [2, 4] [_, _] rfl ?_
 refine Wk.seq ?_
 refine Wk.region ?_
 refine Ll.run 1 rfl ?_
 refine Ll.callRdL (rp := rp) (RT := 59) (p := 0) (bv := dv) (hs := hs) (ok := fun ((a, b, v, xs, u, ys, new) : St × St × Value × List Int × Value × List Int × List (Nat × Obj)) p' => ((a.Tame ∧ b.Tame) ∧ (xs.length ≤ 40 ∧ ys.length ≤ 40) ∧ ∀ w1, Own B w0 new w1 → Ints w1 v xs ∧ Ints w1 u ys) ∧ p' ≤ 0 + 2000) (v := fun ((a, b, v, xs, u, ys, new) : St × St × Value × List Int × Value × List Int × List (Nat × Obj)) => .tuple #[vS a, v, vS b, u]) (new := fun ((a, b, v, xs, u, ys, new) : St × St × Value × List Int × Value × List Int × List (Nat × Obj)) => new) (xs := [.tmp 12]) (vs := [pt_ rp]) ([bk_ p2 #[i6_ 0, str ([]), str ([])] 24] : List (Nat × Obj)) rfl rfl rfl rfl Tryz.call10 rfl (fun w1 hw1 => (l7Some_ok B w0 (([bk_ p2 #[i6_ 0, str ([]), str ([])] 24] : List (Nat × Obj)) ++ hs) rp 0 dv M w1 (fun w2 hw2 => hMb w2 (Own.drop (f := ([bk_ p2 #[i6_ 0, str ([]), str ([])] 24] : List (Nat × Obj))) hw2)) hM8 hM2 (by omega) hw1).mono fun en w' ⟨a, b, v, xs, u, ys, new, p', h1, h2, h3⟩ => ⟨(a, b, v, xs, u, ys, new), p', h1, h2, h3⟩) fun ⟨a13, b13, v13, xs13, u13, ys13, new13⟩ p_13 hK => ?_
 dsimp only at hK
 obtain ⟨⟨⟨hta13, htb13⟩, ⟨hlxs13, hlys13⟩, hrw⟩, hep_13⟩ := hK
 have hIv13 : ∀ w1, Own B w0 new13 w1 → Ints w1 v13 xs13 := fun w1 h => (hrw w1 h).1
 have hIu13 : ∀ w1, Own B w0 new13 w1 → Ints w1 u13 ys13 := fun w1 h => (hrw w1 h).2
 show Ll _ _ (Own _ _ (_ :: _ :: (new13 ++ hs))) _ _ ((13, .tuple #[vS a13, v13, vS b13, u13]) :: _) _ _ _
 refine Ll.run 1 rfl ?_
 refine Ll.op (v := vS a13) rfl rfl rfl (OpQ.extract rfl rfl rfl) ?_
 refine Ll.op (v := v13) rfl rfl rfl (OpQ.extract rfl rfl rfl) ?_
 refine Ll.op (v := vS b13) rfl rfl rfl (OpQ.extract rfl rfl rfl) ?_
 refine Ll.op (v := u13) rfl rfl rfl (OpQ.extract rfl rfl rfl) ?_
 refine Ll.alloc rfl rfl rfl rfl Tryz.zeroValue24 fun p5 hp5 => ?_
 show Ll _ _ (Own _ _ (bk_ p5 #[i6_ 0, str ([]), str ([])] 24 :: _ :: _ :: (new13 ++ hs))) _ _ ((5, pt_ p5) :: _) _ _ _
 refine Ll.alloc rfl rfl rfl rfl Tryz.zeroValue24 fun p7 hp7 => ?_
 show Ll _ _ (Own _ _ (bk_ p7 #[i6_ 0, str ([]), str ([])] 24 :: _ :: _ :: _ :: (new13 ++ hs))) _ _ ((7, pt_ p7) :: _) _ _ _
 refine Ll.storeBox (cs' := #[i6_ a13.n, str a13.set, str a13.rel]) (hs' := (_ :: bk_ p5 #[i6_ a13.n, str a13.set, str a13.rel] 24 :: _ :: _ :: (new13 ++ hs))) 1 rfl rfl rfl rfl rfl (by kernel_rfl : _ = some Tryz.t24) rfl rfl rfl rfl rfl ?_
 refine Ll.run 1 rfl ?_
 refine Ll.storeBox (cs' := #[i6_ b13.n, str b13.set, str b13.rel]) (hs' := (bk_ p7 #[i6_ b13.n, str b13.set, str b13.rel] 24 :: _ :: _ :: _ :: (new13 ++ hs))) 0 rfl rfl rfl rfl rfl (by kernel_rfl : _ = some Tryz.t24) rfl rfl rfl rfl rfl ?_
 refine Ll.run 1 rfl ?_
 refine Ll.nil ?_
 refine Kt.sel [2, 4, 5] [_, _, _] rfl ?_
 refine Wk.seq ?_
 refine Wk.regionS (S := Own B w0 [bk_ p7 #[i6_ b13.n, str b13.set, str b13.rel] 24, bk_ p5 #[i6_ a13.n, str a13.set, str a13.rel] 24]) [(0, true), (1, true), (2, false), (3, false), (4, false), (5, true)] Base.mixed (fun _ h => h.drawn) (by kernel_rfl) ?_
 refine Ld.take rfl rfl rfl rfl rfl (OpQ.loadBox (cs := #[i6_ a13.n, str a13.set, str a13.rel]) 1 rfl Tryz.isAgg24 rfl rfl Tryz.sizeOf24) (pk [0, 1] rfl rfl) ?_
 refine Ld.run 1 rfl (pk [0, 1] rfl rfl) ?_
 refine Ld.loud rfl ?_
 refine Ll.slice (xs := [.const (i6_ 2), .const (i6_ 1), .const (i6_ 2), .const (i6_ 3), .const (i6_ 0), .const (i6_ 4)]) (vs := [i6_ 2, i6_ 1, i6_ 2, i6_ 3, i6_ 0, i6_ 4]) Base.elem28 rfl rfl rfl rfl rfl rfl (by decide) rfl fun p20 hp20 => ?_
 refine Ll.nil (Ld.joint (pk [1, 2] rfl rfl) ?_)
 refine Ld.loud rfl ?_
 refine Ll.callRd (rp := rp) (RT := 59) (p := p_13) (bv := dv) (hs := (new13 ++ hs)) (ok := fun (v : Int) p' => v ∈ ([2, 1, 2, 3, 0, 4]) ∧ p' = p_13 + 1) (v := fun (v : Int) => i6_ v) (new := fun (v : Int) => []) (xs := [.tmp 19, .tmp 20]) (vs := [pt_ rp, sl_ p20 6 6]) ([bk_ p20 #[i6_ 2, i6_ 1, i6_ 2, i6_ 3, i6_ 0, i6_ 4] 3, bk_ p7 #[i6_ b13.n, str b13.set, str b13.rel] 24, bk_ p5 #[i6_ a13.n, str a13.set, str a13.rel] 24, bk_ p2 #[i6_ 0, str ([]), str ([])] 24] : List (Nat × Obj)) rfl rfl rfl rfl Tryz.call11 rfl (fun w1 hw1 => (num_ok B w0 (([bk_ p20 #[i6_ 2, i6_ 1, i6_ 2, i6_ 3, i6_ 0, i6_ 4] 3, bk_ p7 #[i6_ b13.n, str b13.set, str b13.rel] 24, bk_ p5 #[i6_ a13.n, str a13.set, str a13.rel] 24, bk_ p2 #[i6_ 0, str ([]), str ([])] 24] : List (Nat × Obj)) ++ (new13 ++ hs)) rp p_13 dv M (sl_ p20 6 6) ([2, 1, 2, 3, 0, 4]) w1 (fun w2 hw2 => (fun w h => hMb w (Own.drop (f := new13) h)) w2 (Own.drop (f := ([bk_ p20 #[i6_ 2, i6_ 1, i6_ 2, i6_ 3, i6_ 0, i6_ 4] 3, bk_ p7 #[i6_ b13.n, str b13.set, str b13.rel] 24, bk_ p5 #[i6_ a13.n, str a13.set, str a13.rel] 24, bk_ p2 #[i6_ 0, str ([]), str ([])] 24] : List (Nat × Obj))) hw2)) hM8 hM2 (fun w2 h2 => (Own.row h2 (i := 0) rfl (n := 6) (cap := 6) (vs := ints [2, 1, 2, 3, 0, 4]) rfl rfl (by decide))) (by simp) (by omega) hw1).mono fun en w' ⟨v', p', h1, h2, h3⟩ => ⟨v', p', h1, h2, h3⟩) fun v21 p_21 hKp_21 => ?_
 show Ll _ _ (Own _ _ (_ :: _ :: _ :: _ :: _ :: (new13 ++ hs))) _ _ ((21, i6_ v21) :: _) _ _ _
 obtain ⟨hmv21, hep_21⟩ := hKp_21
 have hvv21 : 0 ≤ v21 ∧ v21 ≤ 4 := by simp at hmv21; omega
 refine Ll.nil (Ld.joint (pk [1, 2] rfl rfl) ?_)
 refine Ld.loud rfl ?_
 refine Ll.storeBox (cs' := #[i6_ a13.n, str a13.set, str a13.rel]) (hs' := (_ :: _ :: _ :: bk_ p2 #[i6_ a13.n, str a13.set, str a13.rel] 24 :: _ :: (new13 ++ hs))) 3 rfl rfl rfl rfl rfl (by kernel_rfl : _ = some Tryz.t24) rfl rfl rfl rfl rfl ?_
 refine Ll.nil (Ld.joint (pk [1, 2] rfl rfl) ?_)
 refine Ld.run 1 rfl (pk [1, 2] rfl rfl) ?_
 refine Ld.nil ?_
 refine Kt.sel [2, 3] [_, _] rfl ?_
 refine Wk.ret (Kt.endMany rfl (.cell (cs := #[i6_ a13.n, str a13.set, str a13.rel]) rfl (fun w1 hw1 => hw1.loadBox 3 rfl Tryz.isAgg24 Tryz.sizeOf24) (.tmp (v := i6_ v21) rfl ResAt.nil)) (by simp) fun w' hw => ?_)
 exact ⟨a13, v21, rfl, ⟨hta13, ⟨by omega, by omega⟩⟩, Own.drop (f := new13) (Own.drop (f := [_, _, _, _, _]) hw)⟩
set_option maxHeartbeats 400000 in
/-- laws.FnPebbleClasses -/
theorem lawFnPCls (bv : Value) (L : List Int) (w : World) (hbv : Row w bv (u8s L)) (hL8 : Bytes8 L) (hLm : L.length ≤ 9223372036854775807) :
    Calls Tryz.prog 3 [bv].toArray w fun en w' => en = .returned (.bool true) ∧ Below w.heap.size w w' := by
 refine fnStart (n := 81) (e := [(0, bv)]) Tryz.func3 rfl rfl rfl rfl Ends.both ?_
 refine Wk.seq ?_
 refine Wk.regionQ ?_
 refine Lq.run 1 rfl ?_
 refine Lq.nil ?_
 refine Kt.sel [0] [_] rfl ?_
 refine Wk.seq ?_
 refine Wk.seq ?_
 refine Wk.regionQ ?_
 refine Lq.run 1 rfl ?_
 refine Lq.op (v := i6_ ((L.length : Int))) rfl rfl rfl (OpQ.lenRow rfl Tryz.runUnderlying22 rfl (u8s_length _) (fun w1 hw1 => Row.own hbv hw1)) ?_
 refine Lq.run 1 rfl ?_
 refine Lq.nil ?_
 refine Kt.sel [0, 11] [_, _] rfl ?_
 refine Wk.cond (b := decide ((1048576 : Int) < ((L.length : Int)))) rfl (fun h11 => ?_) (fun h11 => ?_)
 ·
  replace h11 := of_decide_eq_true h11
  refine Wk.seq ?_
  refine Wk.regionQ ?_
  refine Lq.run 1 rfl ?_
  refine Lq.nil ?_
  refine Kt.sel [2] [_] rfl ?_
  refine Wk.ret (Kt.end1 rfl rfl fun w' hw => ?_)
  exact ⟨ret_b (by first | rfl | (simp_all; done) | exact decide_eq_true (hon (by omega))), hw.below⟩
 ·
  replace h11 := of_decide_eq_false h11
  refine Wk.skip ?_
  refine Kt.sel [0] [_] rfl ?_
  refine Wk.seq ?_
  refine Wk.region ?_
  refine Ll.run 1 rfl ?_
  refine Ll.callGet (σ := St × Int) (ok := fun (a, x) => a.Tame ∧ 0 ≤ x ∧ x ≤ 4) (v := fun (a, x) => .tuple #[vS a, .int .i64 x]) (hs' := fun _ => []) (xs := [.tmp 13]) (vs := [bv]) rfl rfl rfl rfl Tryz.call4 rfl (fun w1 hw1 => (drawPCls_ok w.heap.size w [] bv L w1 (fun w2 hw2 => Row.own hbv hw2) hL8 (by omega) hw1).mono fun en w' ⟨a, x, h1, h2, h3⟩ => ⟨(a, x), h1, h2, h3⟩) fun ⟨a14, x14⟩ hK => ?_
  dsimp only at hK
  obtain ⟨hta14, hba14⟩ := hK
  have hsa14 := hta14.small
  have loa14 := hta14.lo
  have hia14 := hta14.hi
  show Ll _ _ (Own _ _ []) _ _ ((14, .tuple #[vS a14, i6_ x14]) :: _) _ _ _
  refine Ll.run 1 rfl ?_
  refine Ll.op (v := vS a14) rfl rfl rfl (OpQ.extract rfl rfl rfl) ?_
  refine Ll.op (v := i6_ x14) rfl rfl rfl (OpQ.extract rfl rfl rfl) ?_
  refine Ll.alloc rfl rfl rfl rfl Tryz.zeroValue24 fun p3 hp3 => ?_
  show Ll _ _ (Own _ _ [bk_ p3 #[i6_ 0, str ([]), str ([])] 24]) _ _ ((3, pt_ p3) :: _) _ _ _
  refine Ll.storeBox (cs' := #[i6_ a14.n, str a14.set, str a14.rel]) (hs' := [bk_ p3 #[i6_ a14.n, str a14.set, str a14.rel] 24]) 0 rfl rfl rfl rfl rfl (by kernel_rfl : _ = some Tryz.t24) rfl rfl rfl rfl rfl ?_
  refine Ll.run 1 rfl ?_
  refine Ll.nil ?_
  refine Kt.sel [3, 4] [_, _] rfl ?_
  refine Wk.seq ?_
  refine Wk.regionQ ?_
  refine Lq.op rfl rfl rfl (OpQ.loadBox (cs := #[i6_ a14.n, str a14.set, str a14.rel]) 0 rfl Tryz.isAgg24 rfl rfl Tryz.sizeOf24) ?_
  refine Lq.run 1 rfl ?_
  refine Lq.op (v := i6_ (pebClsB a14 x14)) rfl rfl rfl (OpQ.call rfl Tryz.call5 rfl Own.stable (fun w1 hw1 => iPCls_ok a14 x14 w1 hsa14)) ?_
  refine Lq.run 1 rfl ?_
  refine Lq.nil ?_
  refine Kt.sel [3, 4, 5] [_, _, _] rfl ?_
  refine Wk.seq ?_
  refine Wk.seq ?_
  refine Wk.regionQ ?_
  refine Lq.run 1 rfl ?_
  refine Lq.op rfl rfl rfl (OpQ.loadBox (cs := #[i6_ a14.n, str a14.set, str a14.rel]) 0 rfl Tryz.isAgg24 rfl rfl Tryz.sizeOf24) ?_
  refine Lq.run 1 rfl ?_
  refine Lq.op (v := i6_ (pebClsB a14 x14)) rfl rfl rfl (OpQ.call rfl Tryz.call6 rfl Own.stable (fun w1 hw1 => sPCls_ok a14 x14 w1 hsa14 loa14 hia14)) ?_
  refine Lq.run 2 rfl ?_
  refine Lq.bool fun b25 hg25 => ?_
  cases b25
  ·
   replace hg25 := not_false hg25
   replace hg25 := of_decide_eq_true hg25
   refine Lq.run 3 rfl ?_
   refine Lq.nil ?_
   refine Kt.sel [3, 4, 5, 28] [_, _, _, _] rfl ?_
   refine Wk.cond (b := decide ((pebClsB a14 x14) < (0 : Int))) rfl (fun h28 => ?_) (fun h28 => ?_)
   ·
    replace h28 := of_decide_eq_true h28
    refine Wk.seq ?_
    refine Wk.regionQ ?_
    refine Lq.run 1 rfl ?_
    refine Lq.op rfl rfl rfl (OpQ.loadBox (cs := #[i6_ a14.n, str a14.set, str a14.rel]) 0 rfl Tryz.isAgg24 rfl rfl Tryz.sizeOf24) ?_
    refine Lq.run 1 rfl ?_
    refine Lq.op (v := i6_ (pebClsB a14 x14)) rfl rfl rfl (OpQ.call rfl Tryz.call6 rfl Own.stable (fun w1 hw1 => sPCls_ok a14 x14 w1 hsa14 loa14 hia14)) ?_
    refine Lq.run 2 rfl ?_
    refine Lq.nil ?_
    refine Kt.sel [2] [_] rfl ?_
    refine Wk.ret (Kt.end1 rfl rfl fun w' hw => ?_)
    exact ⟨ret_b (by first | rfl | (simp_all; done) | exact decide_eq_true (hon (by omega))), hw.below⟩
   ·
    replace h28 := of_decide_eq_false h28
    obtain ⟨hV, hq1, hq3, hcq⟩ := pebClsB_ok (a := a14) (q := x14) (by first | assumption | (simp_all; done))
    have ha := validB_fine hV
    have hm8 := ha.hi
    have hm1 := ha.lo
    have h1 : 1 ≤ x14.toNat := by omega
    have h3 : x14.toNat ≤ 3 := by omega
    refine Wk.skip ?_
    refine Kt.sel [3, 4, 5] [_, _, _] rfl ?_
    refine Wk.seq ?_
    refine Wk.regionQ ?_
    refine Lq.run 1 rfl ?_
    refine Lq.nil ?_
    refine Kt.sel [3, 4, 5, 6] [_, _, _, _] rfl ?_
    refine Wk.seq ?_
    refine Wk.seq ?_
    refine Wk.regionQ ?_
    refine Lq.run 1 rfl ?_
    refine Lq.nil ?_
    refine Kt.sel [3, 4, 5, 6, 7] [_, _, _, _, _] rfl ?_
    refine Wk.block ?_
    refine Wk.loop (σ := Nat × Int) (fun ⟨i, o⟩ => (i : Int) ≤ a14.n ∧ ((repsL (qE a14 x14.toNat) i).length : Int) ≤ o ∧ 0 ≤ o ∧ o ≤ i) (fun ⟨i, o⟩ => [(3, pt_ p3), (4, i6_ x14), (5, i6_ (pebClsB a14 x14)), (6, i6_ o), (7, i6_ ((i : Int)))]) (fun ⟨i, o⟩ => Own w.heap.size w [bk_ p3 #[i6_ a14.n, str a14.set, str a14.rel] 24]) (fun ⟨i, o⟩ => (a14.n - i).toNat) ((0, 0)) ⟨by omega, by simp [repsL], by omega, by omega⟩ (Sub.cons rfl (Sub.cons rfl (Sub.cons rfl (Sub.cons (by rfl) (Sub.sel [7] rfl))))) (fun _ h => h) ?_
    rintro ⟨i, o⟩ ⟨hi, hro, ho0, hoi⟩
    dsimp only
    refine Wk.seq ?_
    refine Wk.seq ?_
    refine Wk.regionQ ?_
    refine Lq.run 1 rfl ?_
    refine Lq.op rfl rfl rfl (OpQ.fieldAddr rfl Tryz.runUnderlying24 rfl Tryz.sizeOf3 rfl rfl) ?_
    refine Lq.op rfl rfl rfl (OpQ.loadOwn 0 rfl Tryz.isAgg3 rfl rfl rfl) ?_
    refine Lq.run 1 rfl ?_
    refine Lq.nil ?_
    refine Kt.sel [3, 4, 5, 6, 7, 37] [_, _, _, _, _, _] rfl ?_
    refine Wk.cond (b := decide (((i : Int)) < a14.n)) rfl (fun h37 => ?_) (fun h37 => ?_)
    ·
     replace h37 := of_decide_eq_true h37
     refine Wk.skip ?_
     refine Kt.sel [3, 4, 5, 6, 7] [_, _, _, _, _] rfl ?_
     refine Wk.seq ?_
     refine Wk.block ?_
     refine Wk.seq ?_
     refine Wk.region ?_
     refine Ll.op rfl rfl rfl (OpQ.loadBox (cs := #[i6_ a14.n, str a14.set, str a14.rel]) 0 rfl Tryz.isAgg24 rfl rfl Tryz.sizeOf24) ?_
     refine Ll.run 1 rfl ?_
     refine Ll.callGet (σ := List Int × Nat × Nat × Array Value) (ok := fun (zs, g, c, u) => (u.size = c * 1 ∧ zs.length ≤ c ∧ u.toList.take zs.length = ints zs) ∧ zs.length ≤ 8 ∧ (0 < zs.length ∧ zs.getD 0 0 ≤ ((i : Int))) ∧ ∀ z ∈ zs, a14.El z ∧ Moved a14 ((i : Int)) z) (v := fun (zs, g, c, u) => .slice (some ⟨g, 0, none⟩) zs.length c) (hs' := fun (zs, g, c, u) => (g, .cells u 3 (0, 0)) :: [bk_ p3 #[i6_ a14.n, str a14.set, str a14.rel] 24]) (xs := [.tmp 40, .tmp 41]) (vs := [vS a14, i6_ ((i : Int))]) rfl rfl rfl rfl Tryz.call7 rfl (fun w1 hw1 => (iOrbit_ok a14 ((i : Int)) w.heap.size w [bk_ p3 #[i6_ a14.n, str a14.set, str a14.rel] 24] w1 hsa14 hV ⟨by omega, by omega⟩ hw1).mono fun en w' ⟨zs, g, c, u, h1, h2, h3⟩ => ⟨(zs, g, c, u), h1, h2, h3⟩) fun ⟨zs42, g42, c42, u42⟩ ⟨⟨hcg42, hlg42, htg42⟩, hz8, hzf, hzm⟩ => ?_
     show Ll _ _ (Own _ _ [_, _]) _ _ ((42, sl_ g42 zs42.length c42) :: _) _ _ _
     refine Ll.op (v := pf_ g42 (0 + (0 : Int).toNat)) rfl rfl rfl (OpQ.indexAddr1 rfl Tryz.runUnderlying28 Tryz.sizeOf3 rfl rfl (by omega) (by omega)) ?_
     refine Ll.op (v := i6_ (zs42.getD (0 + (0 : Int).toNat) 0)) rfl rfl rfl (OpQ.loadAt 0 rfl Tryz.isAgg3 rfl rfl (cur_at htg42 (by exact ints_at2 hzf.1))) ?_
     refine Ll.run 2 rfl ?_
     refine Ll.nil ?_
     refine Kt.sel [3, 4, 5, 6, 7, 46] [_, _, _, _, _, _] rfl ?_
     refine Wk.cond (b := decide ((zs42.getD (0 + (0 : Int).toNat) 0) = ((i : Int)))) rfl (fun h46 => ?_) (fun h46 => ?_)
     ·
      replace h46 := of_decide_eq_true h46
      refine Wk.regionQ ?_
      refine Lq.run 1 rfl ?_
      refine Lq.op rfl rfl rfl (OpQ.add rfl rfl rfl (by omega) (by omega)) ?_
      refine Lq.run 1 rfl ?_
      refine Lq.nil ?_
      refine Kt.sel [3, 4, 5, 6, 7] [_, _, _, _, _] rfl ?_
      refine Wk.regionQ ?_
      refine Lq.run 1 rfl ?_
      refine Lq.op rfl rfl rfl (OpQ.add rfl rfl rfl (by omega) (by omega)) ?_
      refine Lq.run 1 rfl ?_
      refine Lq.nil ?_
      refine Kt.again ((i + 1, o + (1 : Int))) ⟨by omega, orb_yes hro, by omega, by omega⟩ (by omega) (Sub.sel [3, 4, 5, 6, 7] rfl) (fun _ h => h.sub (List.Sublist.cons _ (List.Sublist.cons_cons _ (List.Sublist.refl _))))
     ·
      replace h46 := of_decide_eq_false h46
      have hzz := hzm (zs42.getD 0 0) (by rw [getD_at hzf.1]; exact List.getElem_mem _)
      obtain ⟨hz1, hz2⟩ := hzz
      have hne : ¬ zs42.getD 0 0 = (i : Int) := h46
      refine Wk.skip ?_
      refine Kt.sel [3, 4, 5, 6, 7] [_, _, _, _, _] rfl ?_
      refine Wk.regionQ ?_
      refine Lq.run 1 rfl ?_
      refine Lq.op rfl rfl rfl (OpQ.add rfl rfl rfl (by omega) (by omega)) ?_
      refine Lq.run 1 rfl ?_
      refine Lq.nil ?_
      refine Kt.again ((i + 1, o)) ⟨by omega, orb_no hV h1 h3 (by omega) hro hz1 hz2 hzf.2 hne, by omega, by omega⟩ (by omega) (Sub.sel [3, 4, 5, 6, 7] rfl) (fun _ h => h.sub (List.Sublist.cons _ (List.Sublist.cons_cons _ (List.Sublist.refl _))))
    ·
     replace h37 := of_decide_eq_false h37
     obtain rfl : i = a14.n.toNat := by omega
     have hcl : (pebCls a14 x14.toNat : Int) ≤ o := by rw [pebCls_reps]; exact hro
     have hkd := pebCls_kinds hV h1 h3
     have hnx := pebClsB_next (q := x14) hV hq1 hq3
     have hon : ¬ 1 < x14 → (pebCls a14 x14.toNat : Int) = kindsI a14 1 := fun h => by
      rw [show x14.toNat = 1 by omega]; exact pebCls_one hV
     refine Wk.exit rfl ?_
     refine Kt.sel [3, 4, 5, 6] [_, _, _, _] rfl ?_
     refine Wk.seq ?_
     refine Wk.regionQ ?_
     refine Lq.op rfl rfl rfl (OpQ.loadBox (cs := #[i6_ a14.n, str a14.set, str a14.rel]) 0 rfl Tryz.isAgg24 rfl rfl Tryz.sizeOf24) ?_
     refine Lq.run 1 rfl ?_
     refine Lq.op rfl rfl rfl (OpQ.add rfl rfl rfl (by omega) (by omega)) ?_
     refine Lq.op (v := i6_ (pebClsB a14 (x14 + (1 : Int)))) rfl rfl rfl (OpQ.call rfl Tryz.call5 rfl Own.stable (fun w1 hw1 => iPCls_ok a14 (x14 + (1 : Int)) w1 hsa14)) ?_
     refine Lq.run 1 rfl ?_
     refine Lq.nil ?_
     refine Kt.sel [3, 4, 5, 6, 8] [_, _, _, _, _] rfl ?_
     refine Wk.seq ?_
     refine Wk.regionQ ?_
     refine Lq.run 1 rfl ?_
     refine Lq.op rfl rfl rfl (OpQ.loadBox (cs := #[i6_ a14.n, str a14.set, str a14.rel]) 0 rfl Tryz.isAgg24 rfl rfl Tryz.sizeOf24) ?_
     refine Lq.op (v := i6_ (kindsI a14 1)) rfl rfl rfl (OpQ.call rfl Tryz.call8 rfl Own.stable (fun w1 hw1 => iKinds_ok a14 1 w1 hsa14)) ?_
     refine Lq.run 2 rfl ?_
     refine Lq.bool fun b57 hg57 => ?_
     cases b57
     ·
      replace hg57 := of_decide_eq_false hg57
      refine Lq.pass rfl rfl rfl ?_
      refine Lq.pass rfl rfl rfl ?_
      refine Lq.pass rfl rfl rfl ?_
      refine Lq.run 2 rfl ?_
      refine Lq.pass rfl rfl rfl ?_
      refine Lq.pass rfl rfl rfl ?_
      refine Lq.pass rfl rfl rfl ?_
      refine Lq.pass rfl rfl rfl ?_
      refine Lq.pass rfl rfl rfl ?_
      refine Lq.pass rfl rfl rfl ?_
      refine Lq.pass rfl rfl rfl ?_
      refine Lq.run 2 rfl ?_
      refine Lq.pass rfl rfl rfl ?_
      refine Lq.pass rfl rfl rfl ?_
      refine Lq.pass rfl rfl rfl ?_
      refine Lq.pass rfl rfl rfl ?_
      refine Lq.pass rfl rfl rfl ?_
      refine Lq.pass rfl rfl rfl ?_
      refine Lq.pass rfl rfl rfl ?_
      refine Lq.pass rfl rfl rfl ?_
      refine Lq.run 2 rfl ?_
      refine Lq.nil ?_
      refine Kt.sel [2] [_] rfl ?_
      refine Wk.ret (Kt.end1 rfl rfl fun w' hw => ?_)
      exact ⟨ret_b (by first | rfl | (simp_all; done) | exact decide_eq_true (hon (by omega))), hw.below⟩
     ·
      replace hg57 := of_decide_eq_true hg57
      refine Lq.run 5 rfl ?_
      refine Lq.bool fun b62 hg62 => ?_
      cases b62
      ·
       replace hg62 := of_decide_eq_false hg62
       refine Lq.pass rfl rfl rfl ?_
       refine Lq.pass rfl rfl rfl ?_
       refine Lq.pass rfl rfl rfl ?_
       refine Lq.pass rfl rfl rfl ?_
       refine Lq.pass rfl rfl rfl ?_
       refine Lq.pass rfl rfl rfl ?_
       refine Lq.pass rfl rfl rfl ?_
       refine Lq.run 2 rfl ?_
       refine Lq.pass rfl rfl rfl ?_
       refine Lq.pass rfl rfl rfl ?_
       refine Lq.pass rfl rfl rfl ?_
       refine Lq.pass rfl rfl rfl ?_
       refine Lq.pass rfl rfl rfl ?_
       refine Lq.pass rfl rfl rfl ?_
       refine Lq.pass rfl rfl rfl ?_
       refine Lq.pass rfl rfl rfl ?_
       refine Lq.run 2 rfl ?_
       refine Lq.nil ?_
       refine Kt.sel [2] [_] rfl ?_
       refine Wk.ret (Kt.end1 rfl rfl fun w' hw => ?_)
       exact ⟨ret_b (by first | rfl | (simp_all; done) | exact decide_eq_true (hon (by omega))), hw.below⟩
      ·
       replace hg62 := of_decide_eq_true hg62
       refine Lq.run 3 rfl ?_
       refine Lq.bool fun b65 hg65 => ?_
       cases b65
       ·
        replace hg65 := of_decide_eq_false hg65
        refine Lq.run 6 rfl ?_
        refine Lq.bool fun b71 hg71 => ?_
        cases b71
        ·
         replace hg71 := of_decide_eq_false hg71
         refine Lq.pass rfl rfl rfl ?_
         refine Lq.pass rfl rfl rfl ?_
         refine Lq.pass rfl rfl rfl ?_
         refine Lq.pass rfl rfl rfl ?_
         refine Lq.pass rfl rfl rfl ?_
         refine Lq.pass rfl rfl rfl ?_
         refine Lq.pass rfl rfl rfl ?_
         refine Lq.pass rfl rfl rfl ?_
         refine Lq.run 2 rfl ?_
         refine Lq.nil ?_
         refine Kt.sel [2] [_] rfl ?_
         refine Wk.ret (Kt.end1 rfl rfl fun w' hw => ?_)
         exact ⟨ret_b (by first | rfl | (simp_all; done) | exact decide_eq_true (hon (by omega))), hw.below⟩
        ·
         replace hg71 := of_decide_eq_true hg71
         refine Lq.run 3 rfl ?_
         refine Lq.bool fun b74 hg74 => ?_
         cases b74
         ·
          replace hg74 := of_decide_eq_false hg74
          refine Lq.run 1 rfl ?_
          refine Lq.op rfl rfl rfl (OpQ.loadBox (cs := #[i6_ a14.n, str a14.set, str a14.rel]) 0 rfl Tryz.isAgg24 rfl rfl Tryz.sizeOf24) ?_
          refine Lq.op (v := i6_ (kindsI a14 1)) rfl rfl rfl (OpQ.call rfl Tryz.call8 rfl Own.stable (fun w1 hw1 => iKinds_ok a14 1 w1 hsa14)) ?_
          refine Lq.run 4 rfl ?_
          refine Lq.nil ?_
          refine Kt.sel [2] [_] rfl ?_
          refine Wk.ret (Kt.end1 rfl rfl fun w' hw => ?_)
          exact ⟨ret_b (by first | rfl | (simp_all; done) | exact decide_eq_true (hon (by omega))), hw.below⟩
         ·
          replace hg74 := of_decide_eq_true hg74
          refine Lq.pass rfl rfl rfl ?_
          refine Lq.pass rfl rfl rfl ?_
          refine Lq.pass rfl rfl rfl ?_
          refine Lq.pass rfl rfl rfl ?_
          refine Lq.run 3 rfl ?_
          refine Lq.nil ?_
          refine Kt.sel [2] [_] rfl ?_
          refine Wk.ret (Kt.end1 rfl rfl fun w' hw => ?_)
          exact ⟨ret_b (by first | rfl | (simp_all; done) | exact decide_eq_true (hon (by omega))), hw.below⟩
       ·
        replace hg65 := of_decide_eq_true hg65
        refine Lq.pass rfl rfl rfl ?_
        refine Lq.pass rfl rfl rfl ?_
        refine Lq.pass rfl rfl rfl ?_
        refine Lq.run 6 rfl ?_
        refine Lq.bool fun b74 hg74_1 => ?_
        cases b74
        ·
         replace hg74_1 := of_decide_eq_false hg74_1
         refine Lq.run 1 rfl ?_
         refine Lq.op rfl rfl rfl (OpQ.loadBox (cs := #[i6_ a14.n, str a14.set, str a14.rel]) 0 rfl Tryz.isAgg24 rfl rfl Tryz.sizeOf24) ?_
         refine Lq.op (v := i6_ (kindsI a14 1)) rfl rfl rfl (OpQ.call rfl Tryz.call8 rfl Own.stable (fun w1 hw1 => iKinds_ok a14 1 w1 hsa14)) ?_
         refine Lq.run 4 rfl ?_
         refine Lq.nil ?_
         refine Kt.sel [2] [_] rfl ?_
         refine Wk.ret (Kt.end1 rfl rfl fun w' hw => ?_)
         exact ⟨ret_b (by first | rfl | (simp_all; done) | exact decide_eq_true (hon (by omega))), hw.below⟩
        ·
         replace hg74_1 := of_decide_eq_true hg74_1
         refine Lq.pass rfl rfl rfl ?_
         refine Lq.pass rfl rfl rfl ?_
         refine Lq.pass rfl rfl rfl ?_
         refine Lq.pass rfl rfl rfl ?_
         refine Lq.run 3 rfl ?_
         refine Lq.nil ?_
         refine Kt.sel [2] [_] rfl ?_
         refine Wk.ret (Kt.end1 rfl rfl fun w' hw => ?_)
         exact ⟨ret_b (by first | rfl | (simp_all; done) | exact decide_eq_true (hon (by omega))), hw.below⟩
  ·
   replace hg25 := not_true hg25
   replace hg25 := of_decide_eq_false hg25
   exact absurd rfl hg25
end Go.Proofs.YtjcoijejhachhaaGreatDoor
namespace Go.Proofs.YtjcoijejhachhaaGreatDoor
open Go.ChangeShapes Go.WideShapes Go.ChangeAt Go.RowKit Go.Wk
namespace FnPebbleClasses
def W0 : Array Value := #[.slice none 0 0]
set_option maxRecDepth 100000 in
/-- The contract of the row, at every world and every argument. -/
theorem contract (H : Type) (enc : TypeId × Value → H) (W : World) (base : Nat) (args : Array Value) (ds gs : List (DataW H)) (before : List MemPlace)
    (hval : ∀ (j : Nat) t v, Tryz.f3.params[j]? = some t → args[j]? = some v → Value.okWide Tryz.prog W .any base t v)
    (hW : DataW.Whole enc Tryz.prog Tryz.f3.params.toList Rows.fnPebbleClassesSpec.vars false W args.toList ds gs before) :
    Calls Tryz.prog 3 args W fun e W' => ∃ v, e = .returned v ∧ Rows.fnPebbleClassesSpec.post enc Tryz.prog Tryz.f3 false true false false W args v W' := by
  have hW' := hW
  obtain ⟨p, q, hA0, hV, rfl, hfz, hnd⟩ := hW
  have hA : DataW.TrodAll enc Tryz.prog W 0 (fun _ => true) true Tryz.f3.params.toList args.toList ds p := hA0
  rw [Tryz.params3] at hA hval
  obtain ⟨v0, vs0, d0, ds0, p0, q0, hargs0, rfl, rfl, h0, r0⟩ := trodAll_cons hA
  obtain ⟨rfl, rfl, rfl⟩ := trodAll_nil r0
  obtain rfl : args = #[v0] := by cases args; simp_all
  obtain ⟨l0, row0, eight0, len0⟩ := open_B Tryz.underlying22 Tryz.underlying5 (by kernel_rfl) (hval 0 22 v0 rfl rfl) h0
  have walk : Calls Tryz.prog 3 #[v0] W fun e w' => e = .returned (.bool true) ∧ Below W.heap.size W w' := by
    exact lawFnPCls v0 l0 W row0 eight0 len0
  refine walk.mono fun e W' ⟨he, hb⟩ => ⟨_, he, ?_⟩
  exact post_true laidOut (by rw [Tryz.params3]; intro t ht; simp only [List.mem_cons, List.not_mem_nil, or_false] at ht; rcases ht with rfl <;> exact ⟨by kernel_rfl, of_decide_eq_true (by kernel_rfl)⟩) rfl hW' rfl (by kernel_rfl) Tryz.underlying4 hb
theorem reads (os : Os) {H : Type} (enc : TypeId × Value → H) : ∃ places, DataW.whole enc Tryz.prog ((laidWorld os).forCall (fun _ _ => 0) ⟨#[], W0, []⟩).memory Tryz.f3.params.toList Rows.fnPebbleClassesSpec.vars false W0.toList 8 = some ([.nil], [], places) :=
  ⟨[], by kernel_rfl⟩
set_option maxRecDepth 100000 in
theorem lifted (os : Os) (started : os.Started) (H : Type) (enc : TypeId × Value → H) (F : Stop.Interp) :
    ReturnsInHanded {} Tryz.checked os 3 .any ((OpenSpec.ofChange Rows.fnPebbleClassesSpec).preRow enc Tryz.prog Tryz.f3 Rows.fnPebbleClassesRow.domain false Rows.fnPebbleClassesRow.laid) (((OpenSpec.ofChange Rows.fnPebbleClassesSpec).at F).post enc Tryz.prog Tryz.f3 false true false false) := by
  obtain ⟨places, hx⟩ := reads os enc
  refine returnsInHanded_of_row (C := Tryz.checked) (s := OpenSpec.ofChange Rows.fnPebbleClassesSpec) own started (by kernel_rfl) Tryz.func3
    (witness_row_at (enc := enc) (C := Tryz.checked) false (laidWorld os) W0 rfl (by kernel_rfl) (by kernel_rfl) (by kernel_rfl)
      (OpenSpec.preRow_of_cond 8 hx (by kernel_rfl) (fun k hk => by cases hk) (by kernel_rfl) (laid_met os W0))) ?_
  intro W base args ds gs before hval hW _ _ _ hL _ _
  exact contract H enc W base args ds gs before hval hW
theorem k0 : (Rows.fnPebbleClassesRow.wf (OpenSpec.ofChange (OpenSpec.ofChange Rows.fnPebbleClassesSpec).bare)) = true := by kernel_rfl
theorem k3 : (Tryz.f3.params.all (Tryz.pinned.checked.prog.readableRec ·)) = true := by kernel_rfl
theorem k4 : (namedTie Tryz.pinned.checked.prog Rows.fnPebbleClassesRow.named (OpenSpec.ofChange Rows.fnPebbleClassesSpec).bare.vars) = true := by kernel_rfl
theorem k9 : ((Rows.fnPebbleClassesRow.inPlace == Tryz.pinned.checked.prog.inPlace 3)) = true := by kernel_rfl
theorem k10 : ((Rows.fnPebbleClassesRow.unfollowed == Tryz.pinned.checked.prog.unfollowed 3)) = true := by kernel_rfl
theorem k11 : ((Rows.fnPebbleClassesRow.recurses == Tryz.pinned.checked.prog.recurses 3)) = true := by kernel_rfl
theorem k12 : ((Rows.fnPebbleClassesRow.named == Tryz.pinned.checked.prog.varsNamed 3)) = true := by kernel_rfl
theorem k13 : ((Rows.fnPebbleClassesRow.maps == (Tryz.f3.params.toList ++ (OpenSpec.ofChange Rows.fnPebbleClassesSpec).bare.plain.varTypes Tryz.pinned.checked.prog).any (Tryz.pinned.checked.prog.mapsRec ·))) = true := by kernel_rfl
theorem k14 : ((Rows.fnPebbleClassesRow.ifaces == (Tryz.f3.params.toList ++ (OpenSpec.ofChange Rows.fnPebbleClassesSpec).bare.plain.varTypes Tryz.pinned.checked.prog).any (Tryz.pinned.checked.prog.ifacesRec ·))) = true := by kernel_rfl
theorem k15 : ((Rows.fnPebbleClassesRow.mapsOut == Tryz.pinned.checked.prog.mapsAmong Tryz.f3.resultTypes.toList)) = true := by kernel_rfl
theorem k16 : ((Rows.fnPebbleClassesRow.loops == (Tryz.f3.params.toList ++ (OpenSpec.ofChange Rows.fnPebbleClassesSpec).bare.plain.varTypes Tryz.pinned.checked.prog).any (Tryz.pinned.checked.prog.loopsFrom ·))) = true := by kernel_rfl
theorem k17 : ((Rows.fnPebbleClassesRow.wideKeys == (Tryz.f3.params.toList ++ (OpenSpec.ofChange Rows.fnPebbleClassesSpec).bare.plain.varTypes Tryz.pinned.checked.prog ++ Tryz.f3.resultTypes.toList).any (Tryz.pinned.checked.prog.wideKeysFrom ·))) = true := by kernel_rfl
theorem k19 : (Tryz.f3.resultTypes.all (fun t => Tryz.pinned.checked.prog.readableRec t && decide (t < Tryz.pinned.checked.prog.types.size))) = true := by kernel_rfl
theorem k20 : ((Rows.fnPebbleClassesRow.ifacesOut == Tryz.f3.resultTypes.toList.any (Tryz.pinned.checked.prog.ifacesRec ·))) = true := by kernel_rfl
theorem k21 : ((Rows.fnPebbleClassesRow.loopsOut == Tryz.f3.resultTypes.toList.any (Tryz.pinned.checked.prog.loopsFrom ·))) = true := by kernel_rfl
theorem k30 : ((Rows.fnPebbleClassesRow.veiled == (Tryz.f3.params.toList ++ (OpenSpec.ofChange Rows.fnPebbleClassesSpec).bare.plain.varTypes Tryz.pinned.checked.prog ++ Tryz.f3.resultTypes.toList).any (Tryz.pinned.checked.prog.veiledRec ·))) = true := by kernel_rfl
theorem k31 : (Rows.fnPebbleClassesRow.veiledFits Tryz.pinned.checked.prog Tryz.f3.params.toList (Tryz.f3.params.toList ++ (OpenSpec.ofChange Rows.fnPebbleClassesSpec).bare.plain.varTypes Tryz.pinned.checked.prog ++ Tryz.f3.resultTypes.toList)) = true := by kernel_rfl
theorem closed : joinedFacts Tryz.pinned.checked.prog 3 Tryz.f3 (OpenSpec.ofChange Rows.fnPebbleClassesSpec).bare Rows.fnPebbleClassesRow = true :=
  facts_of k0 Laid1 Laid2 k3 k4 (by kernel_rfl) Laid6 (by kernel_rfl) Laid8 k9 k10 k11 k12 k13 k14 k15 k16 k17 (by kernel_rfl) k19 k20 k21 Laid22 (by kernel_rfl) Laid24 Laid25 Laid26 Laid27 (by kernel_rfl) (by kernel_rfl) k30 k31
theorem said : Rows.FnPebbleClassesSaid :=
  OpenClaim.holds_of_cond 3 Tryz.f3 rfl rfl rfl rfl rfl rfl rfl ⟨rfl, rfl, rfl, rfl, rfl⟩ rfl rfl rfl rfl rfl (by kernel_rfl) Tryz.func3 closed
    (of_decide_eq_true (by kernel_rfl)) (by unfold Func.isWrapper; first | (rw [if_pos (by decide +kernel)]; kernel_rfl) | (rw [if_neg (by decide +kernel)]; exact ⟨rfl, rfl⟩))
    (fun os started H enc _ F => by rw [OpenClaim.pre_eq_preRow]; exact lifted os started H enc F)
theorem plain (f : FuncId) (fn : Func) (hf : Tryz.pinned.checked.prog.funcNamed Rows.fnPebbleClassesRow.func = some f) (hfn : Tryz.pinned.checked.prog.funcs[f]? = some fn) :
    false = Tryz.pinned.checked.prog.looks [] ∧ ∀ (j : Nat) t, fn.params[j]? = some t → Tryz.pinned.checked.prog.wantsStandIn t = false := by
  obtain rfl : f = 3 := Option.some.inj ((show Tryz.pinned.checked.prog.funcNamed Rows.fnPebbleClassesRow.func = some 3 by kernel_rfl).symm.trans hf) |>.symm
  obtain rfl : fn = Tryz.f3 := (Option.some.inj (Tryz.func3.symm.trans hfn)).symm
  refine ⟨by kernel_rfl, fun j t ht => ?_⟩
  rw [Tryz.params3] at ht
  have hm : t ∈ [22] := by simpa using Array.mem_of_getElem? ht
  simp only [List.mem_cons, List.not_mem_nil, or_false] at hm
  rcases hm with rfl <;> (show Tryz.prog.wantsStandIn _ = false) <;> kernel_rfl
theorem hw : Rows.fnPebbleClassesRow.wfByText (OpenSpec.ofChange Rows.fnPebbleClassesSpec) = true := by kernel_rfl
theorem hm : Tryz.pinned.checked.prog.mainIs = some (Rows.fnPebbleClassesCard.stood.harness.1, Rows.fnPebbleClassesCard.stood.harness.2.toList) := by kernel_rfl
theorem hg : false = Rows.fnPebbleClassesRow.goesBy Tryz.pinned.checked.prog := by kernel_rfl
end FnPebbleClasses
/-- The tied card. -/
theorem cardFnPebbleClasses : Rows.FnPebbleClassesCardSaid :=
  Claim7.holds_tied_plain_at .later [] _ _ _ _ FnPebbleClasses.said (fun _ h => by cases h) FnPebbleClasses.hw (fun _ h => by cases h) fnPebbleClasses_row_tie rfl ⟨rfl, rfl⟩ FnPebbleClasses.hm rfl FnPebbleClasses.plain FnPebbleClasses.hg
end Go.Proofs.YtjcoijejhachhaaGreatDoor
