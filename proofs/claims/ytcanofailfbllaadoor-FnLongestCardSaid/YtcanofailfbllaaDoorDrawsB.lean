/-
  Walks: drawn structures, lists.
-/
import Derived.Test.YtcanofailfbllaaDoorPlain24
import Derived.Test.YtcanofailfbllaaDoorDrawsA
import Derived.Test.YtcanofailfbllaaDoorBase
namespace Go.Proofs.YtcanofailfbllaaDoor
open Go.RowKit Go.Wk
set_option linter.unusedSimpArgs false

set_option maxHeartbeats 400000 in
/-- spec.l1Draw -/
theorem l1Draw_ok (B : Nat) (w0 : World) (hs : List (Nat × Obj)) (rp p : Nat) (bv : Value) (L : List Int) (n : Int) (w : World) (hb : ∀ w, Own B w0 hs w → Row w bv (u8s L)) (hL8 : Bytes8 L) (hL : L.length ≤ 2000) (hn0 : 0 ≤ n) (hn8 : n ≤ 8) (hp : p ≤ 900000) (hw : Own B w0 ((rp, .cells #[bv, .int .i64 (p : Int)] 106 (0, 0)) :: hs) w) :
    Calls Tryd.prog 130 [.pointer (some ⟨rp, 0, none⟩), .int .i64 n].toArray w fun en w' => ∃ a : St, ∃ p' : Nat, en = .returned (vS a) ∧ ((a.n = n ∧ (a.set.length : Int) = n ∧ a.rel.length = n.toNat * n.toNat) ∧ p' ≤ p + 100) ∧ Own B w0 (((rp, .cells #[bv, .int .i64 (p' : Int)] 106 (0, 0)) :: hs)) w' := by
 refine fnStartC (Own B w0 ((rp, .cells #[bv, .int .i64 (p : Int)] 106 (0, 0)) :: hs)) (n := 111) (e := [(0, .pointer (some ⟨rp, 0, none⟩)), (1, .int .i64 n)]) Tryd.func130 rfl rfl rfl rfl Ends.both hw ?_
 refine Wk.seq ?_
 refine Wk.region ?_
 refine Ll.alloc rfl rfl rfl rfl Tryd.zeroValue26 fun p4 hp4 => ?_
 show Ll _ _ (Own _ _ ((p4, .cells #[.int .i64 0, str ([]), str ([])] 26 (0, 0)) :: (rp, .cells #[bv, .int .i64 ((p : Int))] 106 (0, 0)) :: hs)) _ _ ((4, .pointer (some ⟨p4, 0, none⟩)) :: _) _ _ _
 refine Ll.nil ?_
 refine Kt.onSub (e' := [(0, .pointer (some ⟨rp, 0, none⟩)), (1, .int .i64 n), (4, .pointer (some ⟨p4, 0, none⟩))]) (Sub.cons rfl (Sub.cons rfl (Sub.cons rfl Sub.nil))) ?_
 refine Wk.seq ?_
 refine Wk.region ?_
 refine Ll.op rfl rfl rfl (OpQ.move rfl rfl) ?_
 refine Ll.op (v := .agg #[.int .i64 n, str ([]), str ([])]) rfl rfl rfl (OpQ.build (xs := [.tmp 10]) (vs := [.int .i64 n]) rfl rfl (by kernel_rfl)) ?_
 refine Ll.alloc rfl rfl rfl rfl Tryd.zeroValue26 fun p5 hp5 => ?_
 show Ll _ _ (Own _ _ ((p5, .cells #[.int .i64 0, str ([]), str ([])] 26 (0, 0)) :: (p4, .cells #[.int .i64 0, str ([]), str ([])] 26 (0, 0)) :: (rp, .cells #[bv, .int .i64 ((p : Int))] 106 (0, 0)) :: hs)) _ _ ((5, .pointer (some ⟨p5, 0, none⟩)) :: _) _ _ _
 refine Ll.storeBox (cs' := #[.int .i64 n, str ([]), str ([])]) (hs' := ((p5, .cells #[.int .i64 n, str ([]), str ([])] 26 (0, 0)) :: (p4, .cells #[.int .i64 0, str ([]), str ([])] 26 (0, 0)) :: (rp, .cells #[bv, .int .i64 ((p : Int))] 106 (0, 0)) :: hs)) 0 rfl rfl rfl rfl rfl (by kernel_rfl : _ = some Tryd.t26) rfl rfl rfl rfl rfl ?_
 refine Ll.nil ?_
 refine Kt.onSub (e' := [(0, .pointer (some ⟨rp, 0, none⟩)), (1, .int .i64 n), (4, .pointer (some ⟨p4, 0, none⟩)), (5, .pointer (some ⟨p5, 0, none⟩))]) (Sub.cons rfl (Sub.cons rfl (Sub.cons rfl (Sub.cons rfl Sub.nil)))) ?_
 refine Wk.seq ?_
 refine Wk.region ?_
 refine Ll.op rfl rfl rfl (OpQ.move rfl rfl) ?_
 refine Ll.callRd (rp := rp) (RT := 106) (p := p) (bv := bv) (hs := hs) (ok := fun (k : Int) p' => 0 ≤ k ∧ (1 ≤ (8 : Int) → k < 8) ∧ p' = p + 1) (v := fun (k : Int) => .int .i64 k) (new := fun (k : Int) => []) (xs := [.tmp 12, .const (.int .i64 8)]) (vs := [.pointer (some ⟨rp, 0, none⟩), .int .i64 8]) ([(p5, .cells #[.int .i64 n, str ([]), str ([])] 26 (0, 0)), (p4, .cells #[.int .i64 0, str ([]), str ([])] 26 (0, 0))] : List (Nat × Obj)) rfl rfl rfl rfl Tryd.call113 rfl (fun w1 hw1 => (pick_ok B w0 (([(p5, .cells #[.int .i64 n, str ([]), str ([])] 26 (0, 0)), (p4, .cells #[.int .i64 0, str ([]), str ([])] 26 (0, 0))] : List (Nat × Obj)) ++ hs) rp p bv L 8 w1 (fun w2 hw2 => hb w2 (Own.drop (f := ([(p5, .cells #[.int .i64 n, str ([]), str ([])] 26 (0, 0)), (p4, .cells #[.int .i64 0, str ([]), str ([])] 26 (0, 0))] : List (Nat × Obj))) hw2)) hL8 hL (by omega) hw1).mono fun en w' ⟨k', p', h1, h2, h3⟩ => ⟨k', p', h1, h2, h3⟩) fun k13 p_13 hKp_13 => ?_
 show Ll _ _ (Own _ _ ((p5, .cells #[.int .i64 n, str ([]), str ([])] 26 (0, 0)) :: (p4, .cells #[.int .i64 0, str ([]), str ([])] 26 (0, 0)) :: (rp, .cells #[bv, .int .i64 ((p_13 : Int))] 106 (0, 0)) :: hs)) _ _ ((13, .int .i64 k13) :: _) _ _ _
 obtain ⟨h0k13, h1k13, hep_13⟩ := hKp_13
 try have hltk13 := h1k13 (by first | omega | (split <;> omega) | decide)
 refine Ll.op rfl rfl rfl (OpQ.assign rfl rfl) ?_
 refine Ll.nil ?_
 refine Kt.onSub (e' := [(0, .pointer (some ⟨rp, 0, none⟩)), (1, .int .i64 n), (4, .pointer (some ⟨p4, 0, none⟩)), (5, .pointer (some ⟨p5, 0, none⟩)), (6, .int .i64 k13)]) (Sub.cons rfl (Sub.cons rfl (Sub.cons rfl (Sub.cons rfl (Sub.cons rfl Sub.nil))))) ?_
 refine Wk.seq ?_
 refine Wk.seq ?_
 refine Wk.regionQ ?_
 refine Lq.op rfl rfl rfl (OpQ.assign rfl rfl) ?_
 refine Lq.nil ?_
 refine Kt.onSub (e' := [(0, .pointer (some ⟨rp, 0, none⟩)), (1, .int .i64 n), (4, .pointer (some ⟨p4, 0, none⟩)), (5, .pointer (some ⟨p5, 0, none⟩)), (6, .int .i64 k13), (7, .int .i64 0)]) (Sub.cons rfl (Sub.cons rfl (Sub.cons rfl (Sub.cons rfl (Sub.cons rfl (Sub.cons rfl Sub.nil)))))) ?_
 refine Wk.block ?_
 refine Wk.loop (σ := Nat × List UInt8 × List UInt8 × Nat) (fun ⟨k, S, R, p0⟩ => (k : Int) ≤ n ∧ S.length = k ∧ R.length = k * n.toNat ∧ p0 ≤ p + 2 + k * 9) (fun ⟨k, S, R, p0⟩ => [(0, .pointer (some ⟨rp, 0, none⟩)), (1, .int .i64 n), (4, .pointer (some ⟨p4, 0, none⟩)), (5, .pointer (some ⟨p5, 0, none⟩)), (6, .int .i64 k13), (7, .int .i64 ((k : Int)))]) (fun ⟨k, S, R, p0⟩ => Own B w0 ((p5, .cells #[.int .i64 n, str S, str R] 26 (0, 0)) :: (p4, .cells #[.int .i64 0, str ([]), str ([])] 26 (0, 0)) :: (rp, .cells #[bv, .int .i64 ((p0 : Int))] 106 (0, 0)) :: hs)) (fun ⟨k, S, R, p0⟩ => (n - k).toNat) ((0, [], [], p_13)) ⟨by omega, rfl, by simp, by omega⟩ (Sub.cons rfl (Sub.cons rfl (Sub.cons rfl (Sub.cons rfl (Sub.cons rfl (Sub.cons rfl Sub.nil)))))) (fun _ h => h) ?_
 rintro ⟨k, S, R, p0⟩ ⟨hk, hS, hR, hp0⟩
 dsimp only
 have hkn : k * n.toNat ≤ 8 * 8 := Nat.mul_le_mul (by omega) (by omega)
 refine Wk.seq ?_
 refine Wk.seq ?_
 refine Wk.regionQ ?_
 refine Lq.op rfl rfl rfl (OpQ.move rfl rfl) ?_
 refine Lq.op rfl rfl rfl (OpQ.move rfl rfl) ?_
 refine Lq.op (v := .bool (decide (((k : Int)) < n))) rfl rfl rfl (OpQ.lss rfl rfl rfl) ?_
 refine Lq.nil ?_
 refine Kt.onSub (e' := [(0, .pointer (some ⟨rp, 0, none⟩)), (1, .int .i64 n), (4, .pointer (some ⟨p4, 0, none⟩)), (5, .pointer (some ⟨p5, 0, none⟩)), (6, .int .i64 k13), (7, .int .i64 ((k : Int))), (16, .bool (decide (((k : Int)) < n)))]) (Sub.cons rfl (Sub.cons rfl (Sub.cons rfl (Sub.cons rfl (Sub.cons rfl (Sub.cons rfl (Sub.cons rfl Sub.nil))))))) ?_
 refine Wk.cond (b := decide (((k : Int)) < n)) rfl (fun h16 => ?_) (fun h16 => ?_)
 ·
  replace h16 := of_decide_eq_true h16
  refine Wk.skip ?_
  refine Kt.onSub (e' := [(0, .pointer (some ⟨rp, 0, none⟩)), (1, .int .i64 n), (4, .pointer (some ⟨p4, 0, none⟩)), (5, .pointer (some ⟨p5, 0, none⟩)), (6, .int .i64 k13), (7, .int .i64 ((k : Int)))]) (Sub.cons rfl (Sub.cons rfl (Sub.cons rfl (Sub.cons rfl (Sub.cons rfl (Sub.cons rfl Sub.nil)))))) ?_
  refine Wk.seq ?_
  refine Wk.block ?_
  refine Wk.seq ?_
  refine Wk.join (σ := List UInt8 × Nat) (fun ⟨S2, p2⟩ => S2.length = k + 1 ∧ p2 ≤ p0 + 1) (fun ⟨S2, p2⟩ => [(0, .pointer (some ⟨rp, 0, none⟩)), (1, .int .i64 n), (4, .pointer (some ⟨p4, 0, none⟩)), (5, .pointer (some ⟨p5, 0, none⟩)), (6, .int .i64 k13), (7, .int .i64 ((k : Int)))]) (fun ⟨S2, p2⟩ => Own B w0 ((p5, .cells #[.int .i64 n, str S2, str R] 26 (0, 0)) :: (p4, .cells #[.int .i64 0, str ([]), str ([])] 26 (0, 0)) :: (rp, .cells #[bv, .int .i64 ((p2 : Int))] 106 (0, 0)) :: hs)) ?_ ?_
  ·
   refine Wk.regionU (S := Own B w0 [(p4, .cells #[.int .i64 0, str ([]), str ([])] 26 (0, 0))]) (.take 0 (.take 2 (.take 3 (.take 4 (.take 5 (.two 1 (.one 6 (.take 7 (.take 8 (.one 9 (.take 10 (.take 11 (.one 12 .done))))))) 6 (.take 7 (.take 8 (.two 1 (.one 9 (.take 10 (.take 11 (.one 12 .done)))) 9 (.one 1 (.take 10 (.take 11 (.one 12 .done))))))))))))) Base.mixed (fun _ h => h.drawn) (by kernel_rfl) ?_
   refine Lu.take (v := .pointer (some ⟨p5, 1, none⟩)) rfl rfl rfl rfl rfl (OpQ.fieldAddr rfl Tryd.runUnderlying26 rfl Tryd.sizeOf9 rfl rfl) (fun _ h => h.pick [1] rfl (by decide)) ?_
   refine Lu.take rfl rfl rfl rfl rfl (OpQ.move rfl rfl) (fun _ h => h.pick [1] rfl (by decide)) ?_
   refine Lu.take (v := .bool (decide ((2 : Int) < k13))) rfl rfl rfl rfl rfl (OpQ.gtr rfl rfl rfl) (fun _ h => h.pick [1] rfl (by decide)) ?_
   refine Lu.take (v := .bool (decide ((2 : Int) < k13))) rfl rfl rfl rfl rfl (OpQ.move rfl rfl) (fun _ h => h.pick [1] rfl (by decide)) ?_
   refine Lu.bool fun b23 hg23 => ?_
   cases b23
   ·
    replace hg23 := of_decide_eq_false hg23
    refine Lu.pass rfl rfl rfl rfl (fun _ h => h.pick [1] rfl (by decide)) ?_
    refine Lu.two rfl rfl ?_ ?_
    ·
     refine Ll.op (v := str S) rfl rfl rfl (OpQ.loadOwn 0 rfl Tryd.isAgg9 rfl rfl rfl) ?_
     refine Ll.nil (Lu.joint (fun _ h => h.pick [1] rfl (by decide)) ?_)
     refine Lu.loud rfl ?_
     refine Ll.pass rfl rfl rfl ?_
     refine Ll.nil (Lu.joint (fun _ h => h.pick [1] rfl (by decide)) ?_)
     refine Lu.pass rfl rfl rfl rfl (fun _ h => h.pick [1] rfl (by decide)) ?_
     refine Lu.take (v := .bool false) rfl rfl rfl rfl rfl (OpQ.pickF rfl rfl rfl) (fun _ h => h.pick [1] rfl (by decide)) ?_
     refine Lu.loud rfl ?_
     refine Ll.op (v := str ((if false then [49] else [48]))) rfl rfl rfl (OpQ.call rfl Tryd.call97 rfl Own.stable (fun w1 hw1 => bitD_ok false w1 )) ?_
     refine Ll.nil (Lu.joint (fun _ h => h.pick [1] rfl (by decide)) ?_)
     refine Lu.take (v := str (S ++ ((if false then [49] else [48])))) rfl rfl rfl rfl rfl (OpQ.sadd rfl rfl rfl (by first | (rw [bit_len]; omega) | omega)) (fun _ h => h.pick [1] rfl (by decide)) ?_
     refine Lu.take (v := .pointer (some ⟨p5, 1, none⟩)) rfl rfl rfl rfl rfl (OpQ.fieldAddr rfl Tryd.runUnderlying26 rfl Tryd.sizeOf9 rfl rfl) (fun _ h => h.pick [1] rfl (by decide)) ?_
     refine Lu.loud rfl ?_
     refine Ll.store1 (v := str (S ++ ((if false then [49] else [48])))) (hs' := ((p5, .cells #[.int .i64 n, str (S ++ ((if false then [49] else [48]))), str R] 26 (0, 0)) :: (p4, .cells #[.int .i64 0, str ([]), str ([])] 26 (0, 0)) :: (rp, .cells #[bv, .int .i64 ((p0 : Int))] 106 (0, 0)) :: hs)) 0 rfl rfl rfl rfl rfl rfl Tryd.sizeOf9 rfl (by simp) rfl ?_
     refine Ll.nil (Lu.joint (fun _ h => h.pick [1] rfl (by decide)) ?_)
     refine Lu.nil ?_
     refine Kt.joined ((S ++ ((if false then [49] else [48])), p0)) ⟨by (try dsimp only); rw [List.length_append]; first | (rw [bit_len]; omega) | (simp; omega), by (try dsimp only); omega⟩ (Sub.cons rfl (Sub.cons rfl (Sub.cons rfl (Sub.cons rfl (Sub.cons rfl (Sub.cons rfl Sub.nil)))))) (fun _ h => h)
    ·
     refine Ll.pass rfl rfl rfl ?_
     refine Ll.nil (Lu.joint (fun _ h => h.pick [1] rfl (by decide)) ?_)
     refine Lu.pass rfl rfl rfl rfl (fun _ h => h.pick [1] rfl (by decide)) ?_
     refine Lu.take (v := .bool false) rfl rfl rfl rfl rfl (OpQ.pickF rfl rfl rfl) (fun _ h => h.pick [1] rfl (by decide)) ?_
     refine Lu.two rfl rfl ?_ ?_
     ·
      refine Ll.op (v := str S) rfl rfl rfl (OpQ.loadOwn 0 rfl Tryd.isAgg9 rfl rfl rfl) ?_
      refine Ll.nil (Lu.joint (fun _ h => h.pick [1] rfl (by decide)) ?_)
      refine Lu.loud rfl ?_
      refine Ll.op (v := str ((if false then [49] else [48]))) rfl rfl rfl (OpQ.call rfl Tryd.call97 rfl Own.stable (fun w1 hw1 => bitD_ok false w1 )) ?_
      refine Ll.nil (Lu.joint (fun _ h => h.pick [1] rfl (by decide)) ?_)
      refine Lu.take (v := str (S ++ ((if false then [49] else [48])))) rfl rfl rfl rfl rfl (OpQ.sadd rfl rfl rfl (by first | (rw [bit_len]; omega) | omega)) (fun _ h => h.pick [1] rfl (by decide)) ?_
      refine Lu.take (v := .pointer (some ⟨p5, 1, none⟩)) rfl rfl rfl rfl rfl (OpQ.fieldAddr rfl Tryd.runUnderlying26 rfl Tryd.sizeOf9 rfl rfl) (fun _ h => h.pick [1] rfl (by decide)) ?_
      refine Lu.loud rfl ?_
      refine Ll.store1 (v := str (S ++ ((if false then [49] else [48])))) (hs' := ((p5, .cells #[.int .i64 n, str (S ++ ((if false then [49] else [48]))), str R] 26 (0, 0)) :: (p4, .cells #[.int .i64 0, str ([]), str ([])] 26 (0, 0)) :: (rp, .cells #[bv, .int .i64 ((p0 : Int))] 106 (0, 0)) :: hs)) 0 rfl rfl rfl rfl rfl rfl Tryd.sizeOf9 rfl (by simp) rfl ?_
      refine Ll.nil (Lu.joint (fun _ h => h.pick [1] rfl (by decide)) ?_)
      refine Lu.nil ?_
      refine Kt.joined ((S ++ ((if false then [49] else [48])), p0)) ⟨by (try dsimp only); rw [List.length_append]; first | (rw [bit_len]; omega) | (simp; omega), by (try dsimp only); omega⟩ (Sub.cons rfl (Sub.cons rfl (Sub.cons rfl (Sub.cons rfl (Sub.cons rfl (Sub.cons rfl Sub.nil)))))) (fun _ h => h)
     ·
      refine Ll.op (v := str ((if false then [49] else [48]))) rfl rfl rfl (OpQ.call rfl Tryd.call97 rfl Own.stable (fun w1 hw1 => bitD_ok false w1 )) ?_
      refine Ll.nil (Lu.joint (fun _ h => h.pick [1] rfl (by decide)) ?_)
      refine Lu.loud rfl ?_
      refine Ll.op (v := str S) rfl rfl rfl (OpQ.loadOwn 0 rfl Tryd.isAgg9 rfl rfl rfl) ?_
      refine Ll.nil (Lu.joint (fun _ h => h.pick [1] rfl (by decide)) ?_)
      refine Lu.take (v := str (S ++ ((if false then [49] else [48])))) rfl rfl rfl rfl rfl (OpQ.sadd rfl rfl rfl (by first | (rw [bit_len]; omega) | omega)) (fun _ h => h.pick [1] rfl (by decide)) ?_
      refine Lu.take (v := .pointer (some ⟨p5, 1, none⟩)) rfl rfl rfl rfl rfl (OpQ.fieldAddr rfl Tryd.runUnderlying26 rfl Tryd.sizeOf9 rfl rfl) (fun _ h => h.pick [1] rfl (by decide)) ?_
      refine Lu.loud rfl ?_
      refine Ll.store1 (v := str (S ++ ((if false then [49] else [48])))) (hs' := ((p5, .cells #[.int .i64 n, str (S ++ ((if false then [49] else [48]))), str R] 26 (0, 0)) :: (p4, .cells #[.int .i64 0, str ([]), str ([])] 26 (0, 0)) :: (rp, .cells #[bv, .int .i64 ((p0 : Int))] 106 (0, 0)) :: hs)) 0 rfl rfl rfl rfl rfl rfl Tryd.sizeOf9 rfl (by simp) rfl ?_
      refine Ll.nil (Lu.joint (fun _ h => h.pick [1] rfl (by decide)) ?_)
      refine Lu.nil ?_
      refine Kt.joined ((S ++ ((if false then [49] else [48])), p0)) ⟨by (try dsimp only); rw [List.length_append]; first | (rw [bit_len]; omega) | (simp; omega), by (try dsimp only); omega⟩ (Sub.cons rfl (Sub.cons rfl (Sub.cons rfl (Sub.cons rfl (Sub.cons rfl (Sub.cons rfl Sub.nil)))))) (fun _ h => h)
   ·
    replace hg23 := of_decide_eq_true hg23
    refine Lu.take rfl rfl rfl rfl rfl (OpQ.move rfl rfl) (fun _ h => h.pick [1] rfl (by decide)) ?_
    refine Lu.two rfl rfl ?_ ?_
    ·
     refine Ll.op (v := str S) rfl rfl rfl (OpQ.loadOwn 0 rfl Tryd.isAgg9 rfl rfl rfl) ?_
     refine Ll.nil (Lu.joint (fun _ h => h.pick [1] rfl (by decide)) ?_)
     refine Lu.loud rfl ?_
     refine Ll.callRd (rp := rp) (RT := 106) (p := p0) (bv := bv) (hs := hs) (ok := fun (k : Int) p' => 0 ≤ k ∧ (1 ≤ (3 : Int) → k < 3) ∧ p' = p0 + 1) (v := fun (k : Int) => .int .i64 k) (new := fun (k : Int) => []) (xs := [.tmp 24, .const (.int .i64 3)]) (vs := [.pointer (some ⟨rp, 0, none⟩), .int .i64 3]) ([(p5, .cells #[.int .i64 n, str S, str R] 26 (0, 0)), (p4, .cells #[.int .i64 0, str ([]), str ([])] 26 (0, 0))] : List (Nat × Obj)) rfl rfl rfl rfl Tryd.call113 rfl (fun w1 hw1 => (pick_ok B w0 (([(p5, .cells #[.int .i64 n, str S, str R] 26 (0, 0)), (p4, .cells #[.int .i64 0, str ([]), str ([])] 26 (0, 0))] : List (Nat × Obj)) ++ hs) rp p0 bv L 3 w1 (fun w2 hw2 => hb w2 (Own.drop (f := ([(p5, .cells #[.int .i64 n, str S, str R] 26 (0, 0)), (p4, .cells #[.int .i64 0, str ([]), str ([])] 26 (0, 0))] : List (Nat × Obj))) hw2)) hL8 hL (by omega) hw1).mono fun en w' ⟨k', p', h1, h2, h3⟩ => ⟨k', p', h1, h2, h3⟩) fun k25 p_25 hKp_25 => ?_
     show Ll _ _ (Own _ _ ((p5, .cells #[.int .i64 n, str S, str R] 26 (0, 0)) :: (p4, .cells #[.int .i64 0, str ([]), str ([])] 26 (0, 0)) :: (rp, .cells #[bv, .int .i64 ((p_25 : Int))] 106 (0, 0)) :: hs)) _ _ ((25, .int .i64 k25) :: _) _ _ _
     obtain ⟨h0k25, h1k25, hep_25⟩ := hKp_25
     try have hltk25 := h1k25 (by first | omega | (split <;> omega) | decide)
     refine Ll.nil (Lu.joint (fun _ h => h.pick [1] rfl (by decide)) ?_)
     refine Lu.take (v := .bool (decide (k25 = (0 : Int)))) rfl rfl rfl rfl rfl (OpQ.eql rfl rfl rfl) (fun _ h => h.pick [1] rfl (by decide)) ?_
     refine Lu.take (v := .bool (decide (k25 = (0 : Int)))) rfl rfl rfl rfl rfl (OpQ.pickT rfl rfl rfl) (fun _ h => h.pick [1] rfl (by decide)) ?_
     refine Lu.loud rfl ?_
     refine Ll.op (v := str ((if decide (k25 = (0 : Int)) then [49] else [48]))) rfl rfl rfl (OpQ.call rfl Tryd.call97 rfl Own.stable (fun w1 hw1 => bitD_ok (decide (k25 = (0 : Int))) w1 )) ?_
     refine Ll.nil (Lu.joint (fun _ h => h.pick [1] rfl (by decide)) ?_)
     refine Lu.take (v := str (S ++ ((if decide (k25 = (0 : Int)) then [49] else [48])))) rfl rfl rfl rfl rfl (OpQ.sadd rfl rfl rfl (by first | (rw [bit_len]; omega) | omega)) (fun _ h => h.pick [1] rfl (by decide)) ?_
     refine Lu.take (v := .pointer (some ⟨p5, 1, none⟩)) rfl rfl rfl rfl rfl (OpQ.fieldAddr rfl Tryd.runUnderlying26 rfl Tryd.sizeOf9 rfl rfl) (fun _ h => h.pick [1] rfl (by decide)) ?_
     refine Lu.loud rfl ?_
     refine Ll.store1 (v := str (S ++ ((if decide (k25 = (0 : Int)) then [49] else [48])))) (hs' := ((p5, .cells #[.int .i64 n, str (S ++ ((if decide (k25 = (0 : Int)) then [49] else [48]))), str R] 26 (0, 0)) :: (p4, .cells #[.int .i64 0, str ([]), str ([])] 26 (0, 0)) :: (rp, .cells #[bv, .int .i64 ((p_25 : Int))] 106 (0, 0)) :: hs)) 0 rfl rfl rfl rfl rfl rfl Tryd.sizeOf9 rfl (by simp) rfl ?_
     refine Ll.nil (Lu.joint (fun _ h => h.pick [1] rfl (by decide)) ?_)
     refine Lu.nil ?_
     refine Kt.joined ((S ++ ((if decide (k25 = (0 : Int)) then [49] else [48])), p_25)) ⟨by (try dsimp only); rw [List.length_append]; first | (rw [bit_len]; omega) | (simp; omega), by (try dsimp only); omega⟩ (Sub.cons rfl (Sub.cons rfl (Sub.cons rfl (Sub.cons rfl (Sub.cons rfl (Sub.cons rfl Sub.nil)))))) (fun _ h => h)
    ·
     refine Ll.callRd (rp := rp) (RT := 106) (p := p0) (bv := bv) (hs := hs) (ok := fun (k : Int) p' => 0 ≤ k ∧ (1 ≤ (3 : Int) → k < 3) ∧ p' = p0 + 1) (v := fun (k : Int) => .int .i64 k) (new := fun (k : Int) => []) (xs := [.tmp 24, .const (.int .i64 3)]) (vs := [.pointer (some ⟨rp, 0, none⟩), .int .i64 3]) ([(p5, .cells #[.int .i64 n, str S, str R] 26 (0, 0)), (p4, .cells #[.int .i64 0, str ([]), str ([])] 26 (0, 0))] : List (Nat × Obj)) rfl rfl rfl rfl Tryd.call113 rfl (fun w1 hw1 => (pick_ok B w0 (([(p5, .cells #[.int .i64 n, str S, str R] 26 (0, 0)), (p4, .cells #[.int .i64 0, str ([]), str ([])] 26 (0, 0))] : List (Nat × Obj)) ++ hs) rp p0 bv L 3 w1 (fun w2 hw2 => hb w2 (Own.drop (f := ([(p5, .cells #[.int .i64 n, str S, str R] 26 (0, 0)), (p4, .cells #[.int .i64 0, str ([]), str ([])] 26 (0, 0))] : List (Nat × Obj))) hw2)) hL8 hL (by omega) hw1).mono fun en w' ⟨k', p', h1, h2, h3⟩ => ⟨k', p', h1, h2, h3⟩) fun k25_1 p_25_1 hKp_25_1 => ?_
     show Ll _ _ (Own _ _ ((p5, .cells #[.int .i64 n, str S, str R] 26 (0, 0)) :: (p4, .cells #[.int .i64 0, str ([]), str ([])] 26 (0, 0)) :: (rp, .cells #[bv, .int .i64 ((p_25_1 : Int))] 106 (0, 0)) :: hs)) _ _ ((25, .int .i64 k25_1) :: _) _ _ _
     obtain ⟨h0k25_1, h1k25_1, hep_25_1⟩ := hKp_25_1
     try have hltk25_1 := h1k25_1 (by first | omega | (split <;> omega) | decide)
     refine Ll.nil (Lu.joint (fun _ h => h.pick [1] rfl (by decide)) ?_)
     refine Lu.take (v := .bool (decide (k25_1 = (0 : Int)))) rfl rfl rfl rfl rfl (OpQ.eql rfl rfl rfl) (fun _ h => h.pick [1] rfl (by decide)) ?_
     refine Lu.take (v := .bool (decide (k25_1 = (0 : Int)))) rfl rfl rfl rfl rfl (OpQ.pickT rfl rfl rfl) (fun _ h => h.pick [1] rfl (by decide)) ?_
     refine Lu.two rfl rfl ?_ ?_
     ·
      refine Ll.op (v := str S) rfl rfl rfl (OpQ.loadOwn 0 rfl Tryd.isAgg9 rfl rfl rfl) ?_
      refine Ll.nil (Lu.joint (fun _ h => h.pick [1] rfl (by decide)) ?_)
      refine Lu.loud rfl ?_
      refine Ll.op (v := str ((if decide (k25_1 = (0 : Int)) then [49] else [48]))) rfl rfl rfl (OpQ.call rfl Tryd.call97 rfl Own.stable (fun w1 hw1 => bitD_ok (decide (k25_1 = (0 : Int))) w1 )) ?_
      refine Ll.nil (Lu.joint (fun _ h => h.pick [1] rfl (by decide)) ?_)
      refine Lu.take (v := str (S ++ ((if decide (k25_1 = (0 : Int)) then [49] else [48])))) rfl rfl rfl rfl rfl (OpQ.sadd rfl rfl rfl (by first | (rw [bit_len]; omega) | omega)) (fun _ h => h.pick [1] rfl (by decide)) ?_
      refine Lu.take (v := .pointer (some ⟨p5, 1, none⟩)) rfl rfl rfl rfl rfl (OpQ.fieldAddr rfl Tryd.runUnderlying26 rfl Tryd.sizeOf9 rfl rfl) (fun _ h => h.pick [1] rfl (by decide)) ?_
      refine Lu.loud rfl ?_
      refine Ll.store1 (v := str (S ++ ((if decide (k25_1 = (0 : Int)) then [49] else [48])))) (hs' := ((p5, .cells #[.int .i64 n, str (S ++ ((if decide (k25_1 = (0 : Int)) then [49] else [48]))), str R] 26 (0, 0)) :: (p4, .cells #[.int .i64 0, str ([]), str ([])] 26 (0, 0)) :: (rp, .cells #[bv, .int .i64 ((p_25_1 : Int))] 106 (0, 0)) :: hs)) 0 rfl rfl rfl rfl rfl rfl Tryd.sizeOf9 rfl (by simp) rfl ?_
      refine Ll.nil (Lu.joint (fun _ h => h.pick [1] rfl (by decide)) ?_)
      refine Lu.nil ?_
      refine Kt.joined ((S ++ ((if decide (k25_1 = (0 : Int)) then [49] else [48])), p_25_1)) ⟨by (try dsimp only); rw [List.length_append]; first | (rw [bit_len]; omega) | (simp; omega), by (try dsimp only); omega⟩ (Sub.cons rfl (Sub.cons rfl (Sub.cons rfl (Sub.cons rfl (Sub.cons rfl (Sub.cons rfl Sub.nil)))))) (fun _ h => h)
     ·
      refine Ll.op (v := str ((if decide (k25_1 = (0 : Int)) then [49] else [48]))) rfl rfl rfl (OpQ.call rfl Tryd.call97 rfl Own.stable (fun w1 hw1 => bitD_ok (decide (k25_1 = (0 : Int))) w1 )) ?_
      refine Ll.nil (Lu.joint (fun _ h => h.pick [1] rfl (by decide)) ?_)
      refine Lu.loud rfl ?_
      refine Ll.op (v := str S) rfl rfl rfl (OpQ.loadOwn 0 rfl Tryd.isAgg9 rfl rfl rfl) ?_
      refine Ll.nil (Lu.joint (fun _ h => h.pick [1] rfl (by decide)) ?_)
      refine Lu.take (v := str (S ++ ((if decide (k25_1 = (0 : Int)) then [49] else [48])))) rfl rfl rfl rfl rfl (OpQ.sadd rfl rfl rfl (by first | (rw [bit_len]; omega) | omega)) (fun _ h => h.pick [1] rfl (by decide)) ?_
      refine Lu.take (v := .pointer (some ⟨p5, 1, none⟩)) rfl rfl rfl rfl rfl (OpQ.fieldAddr rfl Tryd.runUnderlying26 rfl Tryd.sizeOf9 rfl rfl) (fun _ h => h.pick [1] rfl (by decide)) ?_
      refine Lu.loud rfl ?_
      refine Ll.store1 (v := str (S ++ ((if decide (k25_1 = (0 : Int)) then [49] else [48])))) (hs' := ((p5, .cells #[.int .i64 n, str (S ++ ((if decide (k25_1 = (0 : Int)) then [49] else [48]))), str R] 26 (0, 0)) :: (p4, .cells #[.int .i64 0, str ([]), str ([])] 26 (0, 0)) :: (rp, .cells #[bv, .int .i64 ((p_25_1 : Int))] 106 (0, 0)) :: hs)) 0 rfl rfl rfl rfl rfl rfl Tryd.sizeOf9 rfl (by simp) rfl ?_
      refine Ll.nil (Lu.joint (fun _ h => h.pick [1] rfl (by decide)) ?_)
      refine Lu.nil ?_
      refine Kt.joined ((S ++ ((if decide (k25_1 = (0 : Int)) then [49] else [48])), p_25_1)) ⟨by (try dsimp only); rw [List.length_append]; first | (rw [bit_len]; omega) | (simp; omega), by (try dsimp only); omega⟩ (Sub.cons rfl (Sub.cons rfl (Sub.cons rfl (Sub.cons rfl (Sub.cons rfl (Sub.cons rfl Sub.nil)))))) (fun _ h => h)
  rintro ⟨S2, p2⟩ ⟨hS2, hp2⟩
  dsimp only
  refine Kt.onSub (e' := [(0, .pointer (some ⟨rp, 0, none⟩)), (1, .int .i64 n), (4, .pointer (some ⟨p4, 0, none⟩)), (5, .pointer (some ⟨p5, 0, none⟩)), (6, .int .i64 k13), (7, .int .i64 ((k : Int)))]) (Sub.cons rfl (Sub.cons rfl (Sub.cons rfl (Sub.cons rfl (Sub.cons rfl (Sub.cons rfl Sub.nil)))))) ?_
  refine Wk.seq ?_
  refine Wk.regionQ ?_
  refine Lq.op rfl rfl rfl (OpQ.assign rfl rfl) ?_
  refine Lq.nil ?_
  refine Kt.onSub (e' := [(0, .pointer (some ⟨rp, 0, none⟩)), (1, .int .i64 n), (4, .pointer (some ⟨p4, 0, none⟩)), (5, .pointer (some ⟨p5, 0, none⟩)), (6, .int .i64 k13), (7, .int .i64 ((k : Int))), (8, .int .i64 0)]) (Sub.cons rfl (Sub.cons rfl (Sub.cons rfl (Sub.cons rfl (Sub.cons rfl (Sub.cons rfl (Sub.cons rfl Sub.nil))))))) ?_
  refine Wk.block ?_
  refine Wk.loop (σ := Nat × List UInt8 × Nat) (fun ⟨j, R1, p1⟩ => (j : Int) ≤ n ∧ R1.length = k * n.toNat + j ∧ p1 ≤ p + 3 + k * 9 + j) (fun ⟨j, R1, p1⟩ => [(0, .pointer (some ⟨rp, 0, none⟩)), (1, .int .i64 n), (4, .pointer (some ⟨p4, 0, none⟩)), (5, .pointer (some ⟨p5, 0, none⟩)), (6, .int .i64 k13), (7, .int .i64 ((k : Int))), (8, .int .i64 ((j : Int)))]) (fun ⟨j, R1, p1⟩ => Own B w0 ((p5, .cells #[.int .i64 n, str S2, str R1] 26 (0, 0)) :: (p4, .cells #[.int .i64 0, str ([]), str ([])] 26 (0, 0)) :: (rp, .cells #[bv, .int .i64 ((p1 : Int))] 106 (0, 0)) :: hs)) (fun ⟨j, R1, p1⟩ => (n - j).toNat) ((0, R, p2)) ⟨by omega, by omega, by omega⟩ (Sub.cons rfl (Sub.cons rfl (Sub.cons rfl (Sub.cons rfl (Sub.cons rfl (Sub.cons rfl (Sub.cons rfl Sub.nil))))))) (fun _ h => h) ?_
  rintro ⟨j, R1, p1⟩ ⟨hj, hR1, hp1⟩
  dsimp only
  have hj8 : j ≤ 8 := by omega
  refine Wk.seq ?_
  refine Wk.seq ?_
  refine Wk.regionQ ?_
  refine Lq.op rfl rfl rfl (OpQ.move rfl rfl) ?_
  refine Lq.op rfl rfl rfl (OpQ.move rfl rfl) ?_
  refine Lq.op (v := .bool (decide (((j : Int)) < n))) rfl rfl rfl (OpQ.lss rfl rfl rfl) ?_
  refine Lq.nil ?_
  refine Kt.onSub (e' := [(0, .pointer (some ⟨rp, 0, none⟩)), (1, .int .i64 n), (4, .pointer (some ⟨p4, 0, none⟩)), (5, .pointer (some ⟨p5, 0, none⟩)), (6, .int .i64 k13), (7, .int .i64 ((k : Int))), (8, .int .i64 ((j : Int))), (33, .bool (decide (((j : Int)) < n)))]) (Sub.cons rfl (Sub.cons rfl (Sub.cons rfl (Sub.cons rfl (Sub.cons rfl (Sub.cons rfl (Sub.cons rfl (Sub.cons rfl Sub.nil)))))))) ?_
  refine Wk.cond (b := decide (((j : Int)) < n)) rfl (fun h33 => ?_) (fun h33 => ?_)
  ·
   replace h33 := of_decide_eq_true h33
   refine Wk.skip ?_
   refine Kt.onSub (e' := [(0, .pointer (some ⟨rp, 0, none⟩)), (1, .int .i64 n), (4, .pointer (some ⟨p4, 0, none⟩)), (5, .pointer (some ⟨p5, 0, none⟩)), (6, .int .i64 k13), (7, .int .i64 ((k : Int))), (8, .int .i64 ((j : Int)))]) (Sub.cons rfl (Sub.cons rfl (Sub.cons rfl (Sub.cons rfl (Sub.cons rfl (Sub.cons rfl (Sub.cons rfl Sub.nil))))))) ?_
   refine Wk.seq ?_
   refine Wk.block ?_
   refine Wk.seq ?_
   refine Wk.region ?_
   refine Ll.op rfl rfl rfl (OpQ.move rfl rfl) ?_
   refine Ll.callRd (rp := rp) (RT := 106) (p := p1) (bv := bv) (hs := hs) (ok := fun (k : Int) p' => 0 ≤ k ∧ (1 ≤ (3 : Int) → k < 3) ∧ p' = p1 + 1) (v := fun (k : Int) => .int .i64 k) (new := fun (k : Int) => []) (xs := [.tmp 36, .const (.int .i64 3)]) (vs := [.pointer (some ⟨rp, 0, none⟩), .int .i64 3]) ([(p5, .cells #[.int .i64 n, str S2, str R1] 26 (0, 0)), (p4, .cells #[.int .i64 0, str ([]), str ([])] 26 (0, 0))] : List (Nat × Obj)) rfl rfl rfl rfl Tryd.call113 rfl (fun w1 hw1 => (pick_ok B w0 (([(p5, .cells #[.int .i64 n, str S2, str R1] 26 (0, 0)), (p4, .cells #[.int .i64 0, str ([]), str ([])] 26 (0, 0))] : List (Nat × Obj)) ++ hs) rp p1 bv L 3 w1 (fun w2 hw2 => hb w2 (Own.drop (f := ([(p5, .cells #[.int .i64 n, str S2, str R1] 26 (0, 0)), (p4, .cells #[.int .i64 0, str ([]), str ([])] 26 (0, 0))] : List (Nat × Obj))) hw2)) hL8 hL (by omega) hw1).mono fun en w' ⟨k', p', h1, h2, h3⟩ => ⟨k', p', h1, h2, h3⟩) fun k37 p_37 hKp_37 => ?_
   show Ll _ _ (Own _ _ ((p5, .cells #[.int .i64 n, str S2, str R1] 26 (0, 0)) :: (p4, .cells #[.int .i64 0, str ([]), str ([])] 26 (0, 0)) :: (rp, .cells #[bv, .int .i64 ((p_37 : Int))] 106 (0, 0)) :: hs)) _ _ ((37, .int .i64 k37) :: _) _ _ _
   obtain ⟨h0k37, h1k37, hep_37⟩ := hKp_37
   try have hltk37 := h1k37 (by first | omega | (split <;> omega) | decide)
   refine Ll.op (v := .bool (decide (k37 = (0 : Int)))) rfl rfl rfl (OpQ.eql rfl rfl rfl) ?_
   refine Ll.op (v := .bool (decide (k37 = (0 : Int)))) rfl rfl rfl (OpQ.assign rfl rfl) ?_
   refine Ll.nil ?_
   refine Kt.onSub (e' := [(0, .pointer (some ⟨rp, 0, none⟩)), (1, .int .i64 n), (4, .pointer (some ⟨p4, 0, none⟩)), (5, .pointer (some ⟨p5, 0, none⟩)), (6, .int .i64 k13), (7, .int .i64 ((k : Int))), (8, .int .i64 ((j : Int))), (9, .bool (decide (k37 = (0 : Int))))]) (Sub.cons rfl (Sub.cons rfl (Sub.cons rfl (Sub.cons rfl (Sub.cons rfl (Sub.cons rfl (Sub.cons rfl (Sub.cons rfl Sub.nil)))))))) ?_
   refine Wk.seq ?_
   refine Wk.seq ?_
   refine Wk.regionQ ?_
   refine Lq.op rfl rfl rfl (OpQ.move rfl rfl) ?_
   refine Lq.nil ?_
   refine Kt.onSub (e' := [(0, .pointer (some ⟨rp, 0, none⟩)), (1, .int .i64 n), (4, .pointer (some ⟨p4, 0, none⟩)), (5, .pointer (some ⟨p5, 0, none⟩)), (6, .int .i64 k13), (7, .int .i64 ((k : Int))), (8, .int .i64 ((j : Int))), (9, .bool (decide (k37 = (0 : Int)))), (39, .int .i64 k13)]) (Sub.cons rfl (Sub.cons rfl (Sub.cons rfl (Sub.cons rfl (Sub.cons rfl (Sub.cons rfl (Sub.cons rfl (Sub.cons rfl (Sub.cons rfl Sub.nil))))))))) ?_
   refine Wk.join (σ := Bool) (fun b9 => True) (fun b9 => [(0, .pointer (some ⟨rp, 0, none⟩)), (1, .int .i64 n), (4, .pointer (some ⟨p4, 0, none⟩)), (5, .pointer (some ⟨p5, 0, none⟩)), (6, .int .i64 k13), (7, .int .i64 ((k : Int))), (8, .int .i64 ((j : Int))), (9, .bool b9)]) (fun b9 => Own B w0 ((p5, .cells #[.int .i64 n, str S2, str R1] 26 (0, 0)) :: (p4, .cells #[.int .i64 0, str ([]), str ([])] 26 (0, 0)) :: (rp, .cells #[bv, .int .i64 ((p_37 : Int))] 106 (0, 0)) :: hs)) ?_ ?_
   ·
    refine Wk.block ?_
    refine Wk.seq ?_
    refine Wk.regionQ ?_
    refine Lq.op (v := .bool (decide (k13 = (0 : Int)))) rfl rfl rfl (OpQ.eql rfl rfl rfl) ?_
    refine Lq.op (v := .bool (decide (k13 = (0 : Int)))) rfl rfl rfl (OpQ.assign rfl rfl) ?_
    refine Lq.nil ?_
    refine Kt.onSub (e' := [(0, .pointer (some ⟨rp, 0, none⟩)), (1, .int .i64 n), (4, .pointer (some ⟨p4, 0, none⟩)), (5, .pointer (some ⟨p5, 0, none⟩)), (6, .int .i64 k13), (7, .int .i64 ((k : Int))), (8, .int .i64 ((j : Int))), (9, .bool (decide (k37 = (0 : Int)))), (39, .int .i64 k13), (40, .bool (decide (k13 = (0 : Int))))]) (Sub.cons rfl (Sub.cons rfl (Sub.cons rfl (Sub.cons rfl (Sub.cons rfl (Sub.cons rfl (Sub.cons rfl (Sub.cons rfl (Sub.cons rfl (Sub.cons rfl Sub.nil)))))))))) ?_
    refine Wk.cond (b := decide (k13 = (0 : Int))) rfl (fun h40 => ?_) (fun h40 => ?_)
    ·
     replace h40 := of_decide_eq_true h40
     refine Wk.regionQ ?_
     refine Lq.op rfl rfl rfl (OpQ.move rfl rfl) ?_
     refine Lq.op rfl rfl rfl (OpQ.move rfl rfl) ?_
     refine Lq.op (v := .int .i64 (((k : Int)) + (1 : Int))) rfl rfl rfl (OpQ.add rfl rfl rfl (by omega) (by omega)) ?_
     refine Lq.op rfl rfl rfl (OpQ.move rfl rfl) ?_
     refine Lq.op (v := .int .i64 ((((k : Int)) + (1 : Int)) % n)) rfl rfl rfl (OpQ.rem rfl rfl rfl (by omega) (by omega)) ?_
     refine Lq.op (v := .bool (decide (((j : Int)) = ((((k : Int)) + (1 : Int)) % n)))) rfl rfl rfl (OpQ.eql rfl rfl rfl) ?_
     refine Lq.op (v := .bool (decide (((j : Int)) = ((((k : Int)) + (1 : Int)) % n)))) rfl rfl rfl (OpQ.assign rfl rfl) ?_
     refine Lq.nil ?_
     refine Kt.joined (decide (((j : Int)) = ((((k : Int)) + (1 : Int)) % n))) trivial (Sub.cons rfl (Sub.cons rfl (Sub.cons rfl (Sub.cons rfl (Sub.cons rfl (Sub.cons rfl (Sub.cons rfl (Sub.cons rfl Sub.nil)))))))) (fun _ h => h)
    ·
     replace h40 := of_decide_eq_false h40
     refine Wk.seq ?_
     refine Wk.regionQ ?_
     refine Lq.op (v := .bool (decide (k13 = (1 : Int)))) rfl rfl rfl (OpQ.eql rfl rfl rfl) ?_
     refine Lq.op (v := .bool (decide (k13 = (1 : Int)))) rfl rfl rfl (OpQ.assign rfl rfl) ?_
     refine Lq.nil ?_
     refine Kt.onSub (e' := [(0, .pointer (some ⟨rp, 0, none⟩)), (1, .int .i64 n), (4, .pointer (some ⟨p4, 0, none⟩)), (5, .pointer (some ⟨p5, 0, none⟩)), (6, .int .i64 k13), (7, .int .i64 ((k : Int))), (8, .int .i64 ((j : Int))), (9, .bool (decide (k37 = (0 : Int)))), (39, .int .i64 k13), (48, .bool (decide (k13 = (1 : Int))))]) (Sub.cons rfl (Sub.cons rfl (Sub.cons rfl (Sub.cons rfl (Sub.cons rfl (Sub.cons rfl (Sub.cons rfl (Sub.cons rfl (Sub.cons rfl (Sub.cons rfl Sub.nil)))))))))) ?_
     refine Wk.cond (b := decide (k13 = (1 : Int))) rfl (fun h48 => ?_) (fun h48 => ?_)
     ·
      replace h48 := of_decide_eq_true h48
      refine Wk.regionQ ?_
      refine Lq.op rfl rfl rfl (OpQ.move rfl rfl) ?_
      refine Lq.op rfl rfl rfl (OpQ.move rfl rfl) ?_
      refine Lq.op (v := .bool (decide (((k : Int)) < ((j : Int))))) rfl rfl rfl (OpQ.lss rfl rfl rfl) ?_
      refine Lq.op (v := .bool (decide (((k : Int)) < ((j : Int))))) rfl rfl rfl (OpQ.assign rfl rfl) ?_
      refine Lq.nil ?_
      refine Kt.joined (decide (((k : Int)) < ((j : Int)))) trivial (Sub.cons rfl (Sub.cons rfl (Sub.cons rfl (Sub.cons rfl (Sub.cons rfl (Sub.cons rfl (Sub.cons rfl (Sub.cons rfl Sub.nil)))))))) (fun _ h => h)
     ·
      replace h48 := of_decide_eq_false h48
      refine Wk.seq ?_
      refine Wk.regionQ ?_
      refine Lq.op (v := .bool (decide (k13 = (2 : Int)))) rfl rfl rfl (OpQ.eql rfl rfl rfl) ?_
      refine Lq.op (v := .bool (decide (k13 = (2 : Int)))) rfl rfl rfl (OpQ.assign rfl rfl) ?_
      refine Lq.nil ?_
      refine Kt.onSub (e' := [(0, .pointer (some ⟨rp, 0, none⟩)), (1, .int .i64 n), (4, .pointer (some ⟨p4, 0, none⟩)), (5, .pointer (some ⟨p5, 0, none⟩)), (6, .int .i64 k13), (7, .int .i64 ((k : Int))), (8, .int .i64 ((j : Int))), (9, .bool (decide (k37 = (0 : Int)))), (39, .int .i64 k13), (53, .bool (decide (k13 = (2 : Int))))]) (Sub.cons rfl (Sub.cons rfl (Sub.cons rfl (Sub.cons rfl (Sub.cons rfl (Sub.cons rfl (Sub.cons rfl (Sub.cons rfl (Sub.cons rfl (Sub.cons rfl Sub.nil)))))))))) ?_
      refine Wk.cond (b := decide (k13 = (2 : Int))) rfl (fun h53 => ?_) (fun h53 => ?_)
      ·
       replace h53 := of_decide_eq_true h53
       refine Wk.regionQ ?_
       refine Lq.op rfl rfl rfl (OpQ.move rfl rfl) ?_
       refine Lq.op rfl rfl rfl (OpQ.move rfl rfl) ?_
       refine Lq.op (v := .bool (!(decide (((k : Int)) = ((j : Int)))))) rfl rfl rfl (OpQ.neq rfl rfl rfl) ?_
       refine Lq.op (v := .bool (!(decide (((k : Int)) = ((j : Int)))))) rfl rfl rfl (OpQ.move rfl rfl) ?_
       refine Lq.bool fun b58 hg58 => ?_
       cases b58
       ·
        replace hg58 := not_false hg58
        replace hg58 := of_decide_eq_true hg58
        refine Lq.pass rfl rfl rfl ?_
        refine Lq.pass rfl rfl rfl ?_
        refine Lq.pass rfl rfl rfl ?_
        refine Lq.pass rfl rfl rfl ?_
        refine Lq.pass rfl rfl rfl ?_
        refine Lq.op (v := .bool false) rfl rfl rfl (OpQ.pickF rfl rfl rfl) ?_
        refine Lq.op (v := .bool false) rfl rfl rfl (OpQ.assign rfl rfl) ?_
        refine Lq.nil ?_
        refine Kt.joined (false) trivial (Sub.cons rfl (Sub.cons rfl (Sub.cons rfl (Sub.cons rfl (Sub.cons rfl (Sub.cons rfl (Sub.cons rfl (Sub.cons rfl Sub.nil)))))))) (fun _ h => h)
       ·
        replace hg58 := not_true hg58
        replace hg58 := of_decide_eq_false hg58
        refine Lq.op rfl rfl rfl (OpQ.move rfl rfl) ?_
        refine Lq.op rfl rfl rfl (OpQ.move rfl rfl) ?_
        refine Lq.op (v := .int .i64 (((k : Int)) + ((j : Int)))) rfl rfl rfl (OpQ.add rfl rfl rfl (by omega) (by omega)) ?_
        refine Lq.op (v := .int .i64 ((((k : Int)) + ((j : Int))) % (2 : Int))) rfl rfl rfl (OpQ.rem rfl rfl rfl (by omega) (by decide)) ?_
        refine Lq.op (v := .bool (decide (((((k : Int)) + ((j : Int))) % (2 : Int)) = (1 : Int)))) rfl rfl rfl (OpQ.eql rfl rfl rfl) ?_
        refine Lq.op (v := .bool (decide (((((k : Int)) + ((j : Int))) % (2 : Int)) = (1 : Int)))) rfl rfl rfl (OpQ.pickT rfl rfl rfl) ?_
        refine Lq.op (v := .bool (decide (((((k : Int)) + ((j : Int))) % (2 : Int)) = (1 : Int)))) rfl rfl rfl (OpQ.assign rfl rfl) ?_
        refine Lq.nil ?_
        refine Kt.joined (decide (((((k : Int)) + ((j : Int))) % (2 : Int)) = (1 : Int))) trivial (Sub.cons rfl (Sub.cons rfl (Sub.cons rfl (Sub.cons rfl (Sub.cons rfl (Sub.cons rfl (Sub.cons rfl (Sub.cons rfl Sub.nil)))))))) (fun _ h => h)
      ·
       replace h53 := of_decide_eq_false h53
       refine Wk.seq ?_
       refine Wk.regionQ ?_
       refine Lq.op (v := .bool (decide (k13 = (3 : Int)))) rfl rfl rfl (OpQ.eql rfl rfl rfl) ?_
       refine Lq.op (v := .bool (decide (k13 = (3 : Int)))) rfl rfl rfl (OpQ.assign rfl rfl) ?_
       refine Lq.nil ?_
       refine Kt.onSub (e' := [(0, .pointer (some ⟨rp, 0, none⟩)), (1, .int .i64 n), (4, .pointer (some ⟨p4, 0, none⟩)), (5, .pointer (some ⟨p5, 0, none⟩)), (6, .int .i64 k13), (7, .int .i64 ((k : Int))), (8, .int .i64 ((j : Int))), (9, .bool (decide (k37 = (0 : Int)))), (39, .int .i64 k13), (65, .bool (decide (k13 = (3 : Int))))]) (Sub.cons rfl (Sub.cons rfl (Sub.cons rfl (Sub.cons rfl (Sub.cons rfl (Sub.cons rfl (Sub.cons rfl (Sub.cons rfl (Sub.cons rfl (Sub.cons rfl Sub.nil)))))))))) ?_
       refine Wk.cond (b := decide (k13 = (3 : Int))) rfl (fun h65 => ?_) (fun h65 => ?_)
       ·
        replace h65 := of_decide_eq_true h65
        refine Wk.regionQ ?_
        refine Lq.op rfl rfl rfl (OpQ.move rfl rfl) ?_
        refine Lq.op rfl rfl rfl (OpQ.move rfl rfl) ?_
        refine Lq.op (v := .bool (decide (((k : Int)) = ((j : Int))))) rfl rfl rfl (OpQ.eql rfl rfl rfl) ?_
        refine Lq.op (v := .bool (decide (((k : Int)) = ((j : Int))))) rfl rfl rfl (OpQ.move rfl rfl) ?_
        refine Lq.bool fun b70 hg70 => ?_
        cases b70
        ·
         replace hg70 := of_decide_eq_false hg70
         refine Lq.op rfl rfl rfl (OpQ.move rfl rfl) ?_
         refine Lq.op rfl rfl rfl (OpQ.move rfl rfl) ?_
         refine Lq.op (v := .int .i64 (((k : Int)) + (1 : Int))) rfl rfl rfl (OpQ.add rfl rfl rfl (by omega) (by omega)) ?_
         refine Lq.op (v := .bool (decide (((j : Int)) = (((k : Int)) + (1 : Int))))) rfl rfl rfl (OpQ.eql rfl rfl rfl) ?_
         refine Lq.op (v := .bool (decide (((j : Int)) = (((k : Int)) + (1 : Int))))) rfl rfl rfl (OpQ.pickF rfl rfl rfl) ?_
         refine Lq.op (v := .bool (decide (((j : Int)) = (((k : Int)) + (1 : Int))))) rfl rfl rfl (OpQ.move rfl rfl) ?_
         refine Lq.bool fun b76 hg76 => ?_
         cases b76
         ·
          replace hg76 := of_decide_eq_false hg76
          refine Lq.op rfl rfl rfl (OpQ.move rfl rfl) ?_
          refine Lq.op rfl rfl rfl (OpQ.move rfl rfl) ?_
          refine Lq.op (v := .int .i64 (((j : Int)) + (1 : Int))) rfl rfl rfl (OpQ.add rfl rfl rfl (by omega) (by omega)) ?_
          refine Lq.op (v := .bool (decide (((k : Int)) = (((j : Int)) + (1 : Int))))) rfl rfl rfl (OpQ.eql rfl rfl rfl) ?_
          refine Lq.op (v := .bool (decide (((k : Int)) = (((j : Int)) + (1 : Int))))) rfl rfl rfl (OpQ.pickF rfl rfl rfl) ?_
          refine Lq.op (v := .bool (decide (((k : Int)) = (((j : Int)) + (1 : Int))))) rfl rfl rfl (OpQ.assign rfl rfl) ?_
          refine Lq.nil ?_
          refine Kt.joined (decide (((k : Int)) = (((j : Int)) + (1 : Int)))) trivial (Sub.cons rfl (Sub.cons rfl (Sub.cons rfl (Sub.cons rfl (Sub.cons rfl (Sub.cons rfl (Sub.cons rfl (Sub.cons rfl Sub.nil)))))))) (fun _ h => h)
         ·
          replace hg76 := of_decide_eq_true hg76
          refine Lq.pass rfl rfl rfl ?_
          refine Lq.pass rfl rfl rfl ?_
          refine Lq.pass rfl rfl rfl ?_
          refine Lq.pass rfl rfl rfl ?_
          refine Lq.op (v := .bool true) rfl rfl rfl (OpQ.pickT rfl rfl rfl) ?_
          refine Lq.op (v := .bool true) rfl rfl rfl (OpQ.assign rfl rfl) ?_
          refine Lq.nil ?_
          refine Kt.joined (true) trivial (Sub.cons rfl (Sub.cons rfl (Sub.cons rfl (Sub.cons rfl (Sub.cons rfl (Sub.cons rfl (Sub.cons rfl (Sub.cons rfl Sub.nil)))))))) (fun _ h => h)
        ·
         replace hg70 := of_decide_eq_true hg70
         refine Lq.pass rfl rfl rfl ?_
         refine Lq.pass rfl rfl rfl ?_
         refine Lq.pass rfl rfl rfl ?_
         refine Lq.pass rfl rfl rfl ?_
         refine Lq.op (v := .bool true) rfl rfl rfl (OpQ.pickT rfl rfl rfl) ?_
         refine Lq.op (v := .bool true) rfl rfl rfl (OpQ.move rfl rfl) ?_
         refine Lq.pass rfl rfl rfl ?_
         refine Lq.pass rfl rfl rfl ?_
         refine Lq.pass rfl rfl rfl ?_
         refine Lq.pass rfl rfl rfl ?_
         refine Lq.op (v := .bool true) rfl rfl rfl (OpQ.pickT rfl rfl rfl) ?_
         refine Lq.op (v := .bool true) rfl rfl rfl (OpQ.assign rfl rfl) ?_
         refine Lq.nil ?_
         refine Kt.joined (true) trivial (Sub.cons rfl (Sub.cons rfl (Sub.cons rfl (Sub.cons rfl (Sub.cons rfl (Sub.cons rfl (Sub.cons rfl (Sub.cons rfl Sub.nil)))))))) (fun _ h => h)
       ·
        replace h65 := of_decide_eq_false h65
        refine Wk.seq ?_
        refine Wk.regionQ ?_
        refine Lq.op (v := .bool (decide (k13 = (4 : Int)))) rfl rfl rfl (OpQ.eql rfl rfl rfl) ?_
        refine Lq.op (v := .bool (decide (k13 = (4 : Int)))) rfl rfl rfl (OpQ.assign rfl rfl) ?_
        refine Lq.nil ?_
        refine Kt.onSub (e' := [(0, .pointer (some ⟨rp, 0, none⟩)), (1, .int .i64 n), (4, .pointer (some ⟨p4, 0, none⟩)), (5, .pointer (some ⟨p5, 0, none⟩)), (6, .int .i64 k13), (7, .int .i64 ((k : Int))), (8, .int .i64 ((j : Int))), (9, .bool (decide (k37 = (0 : Int)))), (39, .int .i64 k13), (82, .bool (decide (k13 = (4 : Int))))]) (Sub.cons rfl (Sub.cons rfl (Sub.cons rfl (Sub.cons rfl (Sub.cons rfl (Sub.cons rfl (Sub.cons rfl (Sub.cons rfl (Sub.cons rfl (Sub.cons rfl Sub.nil)))))))))) ?_
        refine Wk.cond (b := decide (k13 = (4 : Int))) rfl (fun h82 => ?_) (fun h82 => ?_)
        ·
         replace h82 := of_decide_eq_true h82
         refine Wk.regionQ ?_
         refine Lq.op (v := .bool (decide (k37 = (0 : Int)))) rfl rfl rfl (OpQ.move rfl rfl) ?_
         refine Lq.op (v := .bool (decide (k37 = (0 : Int)))) rfl rfl rfl (OpQ.move rfl rfl) ?_
         refine Lq.bool fun b85 hg85 => ?_
         cases b85
         ·
          replace hg85 := of_decide_eq_false hg85
          refine Lq.pass rfl rfl rfl ?_
          refine Lq.pass rfl rfl rfl ?_
          refine Lq.pass rfl rfl rfl ?_
          refine Lq.op (v := .bool false) rfl rfl rfl (OpQ.pickF rfl rfl rfl) ?_
          refine Lq.op (v := .bool false) rfl rfl rfl (OpQ.assign rfl rfl) ?_
          refine Lq.nil ?_
          refine Kt.joined (false) trivial (Sub.cons rfl (Sub.cons rfl (Sub.cons rfl (Sub.cons rfl (Sub.cons rfl (Sub.cons rfl (Sub.cons rfl (Sub.cons rfl Sub.nil)))))))) (fun _ h => h)
         ·
          replace hg85 := of_decide_eq_true hg85
          refine Lq.op rfl rfl rfl (OpQ.move rfl rfl) ?_
          refine Lq.op rfl rfl rfl (OpQ.move rfl rfl) ?_
          refine Lq.op (v := .bool (!(decide (((k : Int)) = ((j : Int)))))) rfl rfl rfl (OpQ.neq rfl rfl rfl) ?_
          refine Lq.op (v := .bool (!(decide (((k : Int)) = ((j : Int)))))) rfl rfl rfl (OpQ.pickT rfl rfl rfl) ?_
          refine Lq.op (v := .bool (!(decide (((k : Int)) = ((j : Int)))))) rfl rfl rfl (OpQ.assign rfl rfl) ?_
          refine Lq.nil ?_
          refine Kt.joined (!(decide (((k : Int)) = ((j : Int))))) trivial (Sub.cons rfl (Sub.cons rfl (Sub.cons rfl (Sub.cons rfl (Sub.cons rfl (Sub.cons rfl (Sub.cons rfl (Sub.cons rfl Sub.nil)))))))) (fun _ h => h)
        ·
         replace h82 := of_decide_eq_false h82
         refine Wk.seq ?_
         refine Wk.regionQ ?_
         refine Lq.op (v := .bool (decide (k13 = (5 : Int)))) rfl rfl rfl (OpQ.eql rfl rfl rfl) ?_
         refine Lq.op (v := .bool (decide (k13 = (5 : Int)))) rfl rfl rfl (OpQ.assign rfl rfl) ?_
         refine Lq.nil ?_
         refine Kt.onSub (e' := [(0, .pointer (some ⟨rp, 0, none⟩)), (1, .int .i64 n), (4, .pointer (some ⟨p4, 0, none⟩)), (5, .pointer (some ⟨p5, 0, none⟩)), (6, .int .i64 k13), (7, .int .i64 ((k : Int))), (8, .int .i64 ((j : Int))), (9, .bool (decide (k37 = (0 : Int)))), (90, .bool (decide (k13 = (5 : Int))))]) (Sub.cons rfl (Sub.cons rfl (Sub.cons rfl (Sub.cons rfl (Sub.cons rfl (Sub.cons rfl (Sub.cons rfl (Sub.cons rfl (Sub.cons rfl Sub.nil))))))))) ?_
         refine Wk.cond (b := decide (k13 = (5 : Int))) rfl (fun h90 => ?_) (fun h90 => ?_)
         ·
          replace h90 := of_decide_eq_true h90
          refine Wk.regionQ ?_
          refine Lq.op rfl rfl rfl (OpQ.move rfl rfl) ?_
          refine Lq.op (v := .int .i64 (((k : Int)) + (1 : Int))) rfl rfl rfl (OpQ.add rfl rfl rfl (by omega) (by omega)) ?_
          refine Lq.op (v := .int .i64 ((((k : Int)) + (1 : Int)) / (2 : Int))) rfl rfl rfl (OpQ.quo rfl rfl rfl (by omega) (by omega) (by decide)) ?_
          refine Lq.op rfl rfl rfl (OpQ.move rfl rfl) ?_
          refine Lq.op (v := .int .i64 (((j : Int)) + (1 : Int))) rfl rfl rfl (OpQ.add rfl rfl rfl (by omega) (by omega)) ?_
          refine Lq.op (v := .int .i64 ((((j : Int)) + (1 : Int)) / (2 : Int))) rfl rfl rfl (OpQ.quo rfl rfl rfl (by omega) (by omega) (by decide)) ?_
          refine Lq.op (v := .bool (decide (((((k : Int)) + (1 : Int)) / (2 : Int)) = ((((j : Int)) + (1 : Int)) / (2 : Int))))) rfl rfl rfl (OpQ.eql rfl rfl rfl) ?_
          refine Lq.op (v := .bool (decide (((((k : Int)) + (1 : Int)) / (2 : Int)) = ((((j : Int)) + (1 : Int)) / (2 : Int))))) rfl rfl rfl (OpQ.move rfl rfl) ?_
          refine Lq.bool fun b99 hg99 => ?_
          cases b99
          ·
           replace hg99 := of_decide_eq_false hg99
           refine Lq.pass rfl rfl rfl ?_
           refine Lq.pass rfl rfl rfl ?_
           refine Lq.pass rfl rfl rfl ?_
           refine Lq.op (v := .bool false) rfl rfl rfl (OpQ.pickF rfl rfl rfl) ?_
           refine Lq.op (v := .bool false) rfl rfl rfl (OpQ.assign rfl rfl) ?_
           refine Lq.nil ?_
           refine Kt.joined (false) trivial (Sub.cons rfl (Sub.cons rfl (Sub.cons rfl (Sub.cons rfl (Sub.cons rfl (Sub.cons rfl (Sub.cons rfl (Sub.cons rfl Sub.nil)))))))) (fun _ h => h)
          ·
           replace hg99 := of_decide_eq_true hg99
           refine Lq.op rfl rfl rfl (OpQ.move rfl rfl) ?_
           refine Lq.op rfl rfl rfl (OpQ.move rfl rfl) ?_
           refine Lq.op (v := .bool (!(decide (((k : Int)) = ((j : Int)))))) rfl rfl rfl (OpQ.neq rfl rfl rfl) ?_
           refine Lq.op (v := .bool (!(decide (((k : Int)) = ((j : Int)))))) rfl rfl rfl (OpQ.pickT rfl rfl rfl) ?_
           refine Lq.op (v := .bool (!(decide (((k : Int)) = ((j : Int)))))) rfl rfl rfl (OpQ.assign rfl rfl) ?_
           refine Lq.nil ?_
           refine Kt.joined (!(decide (((k : Int)) = ((j : Int))))) trivial (Sub.cons rfl (Sub.cons rfl (Sub.cons rfl (Sub.cons rfl (Sub.cons rfl (Sub.cons rfl (Sub.cons rfl (Sub.cons rfl Sub.nil)))))))) (fun _ h => h)
         ·
          replace h90 := of_decide_eq_false h90
          refine Wk.skip ?_
          refine Kt.joined (decide (k37 = (0 : Int))) trivial (Sub.cons rfl (Sub.cons rfl (Sub.cons rfl (Sub.cons rfl (Sub.cons rfl (Sub.cons rfl (Sub.cons rfl (Sub.cons rfl Sub.nil)))))))) (fun _ h => h)
   rintro b9 _
   refine Kt.onSub (e' := [(0, .pointer (some ⟨rp, 0, none⟩)), (1, .int .i64 n), (4, .pointer (some ⟨p4, 0, none⟩)), (5, .pointer (some ⟨p5, 0, none⟩)), (6, .int .i64 k13), (7, .int .i64 ((k : Int))), (8, .int .i64 ((j : Int))), (9, .bool b9)]) (Sub.cons rfl (Sub.cons rfl (Sub.cons rfl (Sub.cons rfl (Sub.cons rfl (Sub.cons rfl (Sub.cons rfl (Sub.cons rfl Sub.nil)))))))) ?_
   refine Wk.regionU (S := Own B w0 [(p4, .cells #[.int .i64 0, str ([]), str ([])] 26 (0, 0)), (rp, .cells #[bv, .int .i64 ((p_37 : Int))] 106 (0, 0))]) (.take 0 (.take 2 (.two 1 (.one 3 (.take 4 (.take 5 (.one 6 .done)))) 3 (.one 1 (.take 4 (.take 5 (.one 6 .done))))))) Base.mixed (fun _ h => h.drawn) (by kernel_rfl) ?_
   refine Lu.take (v := .pointer (some ⟨p5, 2, none⟩)) rfl rfl rfl rfl rfl (OpQ.fieldAddr rfl Tryd.runUnderlying26 rfl Tryd.sizeOf9 rfl rfl) (fun _ h => h.pick [1, 2] rfl (by decide)) ?_
   refine Lu.take (v := .bool b9) rfl rfl rfl rfl rfl (OpQ.move rfl rfl) (fun _ h => h.pick [1, 2] rfl (by decide)) ?_
   refine Lu.two rfl rfl ?_ ?_
   ·
    refine Ll.op (v := str R1) rfl rfl rfl (OpQ.loadOwn 0 rfl Tryd.isAgg9 rfl rfl rfl) ?_
    refine Ll.nil (Lu.joint (fun _ h => h.pick [1, 2] rfl (by decide)) ?_)
    refine Lu.loud rfl ?_
    refine Ll.op (v := str ((if b9 then [49] else [48]))) rfl rfl rfl (OpQ.call rfl Tryd.call97 rfl Own.stable (fun w1 hw1 => bitD_ok b9 w1 )) ?_
    refine Ll.nil (Lu.joint (fun _ h => h.pick [1, 2] rfl (by decide)) ?_)
    refine Lu.take (v := str (R1 ++ ((if b9 then [49] else [48])))) rfl rfl rfl rfl rfl (OpQ.sadd rfl rfl rfl (by first | (rw [bit_len]; omega) | omega)) (fun _ h => h.pick [1, 2] rfl (by decide)) ?_
    refine Lu.take (v := .pointer (some ⟨p5, 2, none⟩)) rfl rfl rfl rfl rfl (OpQ.fieldAddr rfl Tryd.runUnderlying26 rfl Tryd.sizeOf9 rfl rfl) (fun _ h => h.pick [1, 2] rfl (by decide)) ?_
    refine Lu.loud rfl ?_
    refine Ll.store1 (v := str (R1 ++ ((if b9 then [49] else [48])))) (hs' := ((p5, .cells #[.int .i64 n, str S2, str (R1 ++ ((if b9 then [49] else [48])))] 26 (0, 0)) :: (p4, .cells #[.int .i64 0, str ([]), str ([])] 26 (0, 0)) :: (rp, .cells #[bv, .int .i64 ((p_37 : Int))] 106 (0, 0)) :: hs)) 0 rfl rfl rfl rfl rfl rfl Tryd.sizeOf9 rfl (by simp) rfl ?_
    refine Ll.nil (Lu.joint (fun _ h => h.pick [1, 2] rfl (by decide)) ?_)
    refine Lu.nil ?_
    refine Kt.onSub (e' := [(0, .pointer (some ⟨rp, 0, none⟩)), (1, .int .i64 n), (4, .pointer (some ⟨p4, 0, none⟩)), (5, .pointer (some ⟨p5, 0, none⟩)), (6, .int .i64 k13), (7, .int .i64 ((k : Int))), (8, .int .i64 ((j : Int)))]) (Sub.cons rfl (Sub.cons rfl (Sub.cons rfl (Sub.cons rfl (Sub.cons rfl (Sub.cons rfl (Sub.cons rfl Sub.nil))))))) ?_
    refine Wk.regionQ ?_
    refine Lq.op rfl rfl rfl (OpQ.move rfl rfl) ?_
    refine Lq.op (v := .int .i64 (((j : Int)) + (1 : Int))) rfl rfl rfl (OpQ.add rfl rfl rfl (by omega) (by omega)) ?_
    refine Lq.op rfl rfl rfl (OpQ.assign rfl rfl) ?_
    refine Lq.nil ?_
    refine Kt.again ((j + 1, R1 ++ ((if b9 then [49] else [48])), p_37)) ⟨by omega, by (try dsimp only); rw [List.length_append, bit_len]; omega, by (try dsimp only); omega⟩ (by omega) (Sub.cons rfl (Sub.cons rfl (Sub.cons rfl (Sub.cons rfl (Sub.cons rfl (Sub.cons rfl (Sub.cons rfl Sub.nil))))))) (fun _ h => h)
   ·
    refine Ll.op (v := str ((if b9 then [49] else [48]))) rfl rfl rfl (OpQ.call rfl Tryd.call97 rfl Own.stable (fun w1 hw1 => bitD_ok b9 w1 )) ?_
    refine Ll.nil (Lu.joint (fun _ h => h.pick [1, 2] rfl (by decide)) ?_)
    refine Lu.loud rfl ?_
    refine Ll.op (v := str R1) rfl rfl rfl (OpQ.loadOwn 0 rfl Tryd.isAgg9 rfl rfl rfl) ?_
    refine Ll.nil (Lu.joint (fun _ h => h.pick [1, 2] rfl (by decide)) ?_)
    refine Lu.take (v := str (R1 ++ ((if b9 then [49] else [48])))) rfl rfl rfl rfl rfl (OpQ.sadd rfl rfl rfl (by first | (rw [bit_len]; omega) | omega)) (fun _ h => h.pick [1, 2] rfl (by decide)) ?_
    refine Lu.take (v := .pointer (some ⟨p5, 2, none⟩)) rfl rfl rfl rfl rfl (OpQ.fieldAddr rfl Tryd.runUnderlying26 rfl Tryd.sizeOf9 rfl rfl) (fun _ h => h.pick [1, 2] rfl (by decide)) ?_
    refine Lu.loud rfl ?_
    refine Ll.store1 (v := str (R1 ++ ((if b9 then [49] else [48])))) (hs' := ((p5, .cells #[.int .i64 n, str S2, str (R1 ++ ((if b9 then [49] else [48])))] 26 (0, 0)) :: (p4, .cells #[.int .i64 0, str ([]), str ([])] 26 (0, 0)) :: (rp, .cells #[bv, .int .i64 ((p_37 : Int))] 106 (0, 0)) :: hs)) 0 rfl rfl rfl rfl rfl rfl Tryd.sizeOf9 rfl (by simp) rfl ?_
    refine Ll.nil (Lu.joint (fun _ h => h.pick [1, 2] rfl (by decide)) ?_)
    refine Lu.nil ?_
    refine Kt.onSub (e' := [(0, .pointer (some ⟨rp, 0, none⟩)), (1, .int .i64 n), (4, .pointer (some ⟨p4, 0, none⟩)), (5, .pointer (some ⟨p5, 0, none⟩)), (6, .int .i64 k13), (7, .int .i64 ((k : Int))), (8, .int .i64 ((j : Int)))]) (Sub.cons rfl (Sub.cons rfl (Sub.cons rfl (Sub.cons rfl (Sub.cons rfl (Sub.cons rfl (Sub.cons rfl Sub.nil))))))) ?_
    refine Wk.regionQ ?_
    refine Lq.op rfl rfl rfl (OpQ.move rfl rfl) ?_
    refine Lq.op (v := .int .i64 (((j : Int)) + (1 : Int))) rfl rfl rfl (OpQ.add rfl rfl rfl (by omega) (by omega)) ?_
    refine Lq.op rfl rfl rfl (OpQ.assign rfl rfl) ?_
    refine Lq.nil ?_
    refine Kt.again ((j + 1, R1 ++ ((if b9 then [49] else [48])), p_37)) ⟨by omega, by (try dsimp only); rw [List.length_append, bit_len]; omega, by (try dsimp only); omega⟩ (by omega) (Sub.cons rfl (Sub.cons rfl (Sub.cons rfl (Sub.cons rfl (Sub.cons rfl (Sub.cons rfl (Sub.cons rfl Sub.nil))))))) (fun _ h => h)
  ·
   replace h33 := of_decide_eq_false h33
   refine Wk.exit rfl ?_
   refine Kt.onSub (e' := [(0, .pointer (some ⟨rp, 0, none⟩)), (1, .int .i64 n), (4, .pointer (some ⟨p4, 0, none⟩)), (5, .pointer (some ⟨p5, 0, none⟩)), (6, .int .i64 k13), (7, .int .i64 ((k : Int)))]) (Sub.cons rfl (Sub.cons rfl (Sub.cons rfl (Sub.cons rfl (Sub.cons rfl (Sub.cons rfl Sub.nil)))))) ?_
   refine Wk.regionQ ?_
   refine Lq.op rfl rfl rfl (OpQ.move rfl rfl) ?_
   refine Lq.op (v := .int .i64 (((k : Int)) + (1 : Int))) rfl rfl rfl (OpQ.add rfl rfl rfl (by omega) (by omega)) ?_
   refine Lq.op rfl rfl rfl (OpQ.assign rfl rfl) ?_
   refine Lq.nil ?_
   refine Kt.again ((k + 1, S2, R1, p1)) ⟨by omega, by (try dsimp only); omega, by (try dsimp only); rw [Nat.add_mul, Nat.one_mul]; omega, by (try dsimp only); omega⟩ (by omega) (Sub.cons rfl (Sub.cons rfl (Sub.cons rfl (Sub.cons rfl (Sub.cons rfl (Sub.cons rfl Sub.nil)))))) (fun _ h => h)
 ·
  replace h16 := of_decide_eq_false h16
  refine Wk.exit rfl ?_
  refine Kt.onSub (e' := [(4, .pointer (some ⟨p4, 0, none⟩)), (5, .pointer (some ⟨p5, 0, none⟩))]) (Sub.cons rfl (Sub.cons rfl Sub.nil)) ?_
  refine Wk.seq ?_
  refine Wk.region ?_
  refine Ll.op (v := .agg #[.int .i64 n, str S, str R]) rfl rfl rfl (OpQ.loadBox (cs := #[.int .i64 n, str S, str R]) 0 rfl Tryd.isAgg26 rfl rfl Tryd.sizeOf26) ?_
  refine Ll.storeBox (cs' := #[.int .i64 n, str S, str R]) (hs' := ((p5, .cells #[.int .i64 n, str S, str R] 26 (0, 0)) :: (p4, .cells #[.int .i64 n, str S, str R] 26 (0, 0)) :: (rp, .cells #[bv, .int .i64 ((p0 : Int))] 106 (0, 0)) :: hs)) 1 rfl rfl rfl rfl rfl (by kernel_rfl : _ = some Tryd.t26) rfl rfl rfl rfl rfl ?_
  refine Ll.nil ?_
  refine Kt.onSub (e' := [(4, .pointer (some ⟨p4, 0, none⟩))]) (Sub.cons rfl Sub.nil) ?_
  refine Wk.ret (Kt.endBox (cs := #[.int .i64 n, str S, str R]) 1 rfl rfl rfl Tryd.isAgg26 Tryd.sizeOf26 fun w' hw => ?_)
  -- ret 0: .pointer (some ⟨p4, 0, none⟩)
  exact ⟨⟨n, S, R⟩, p0, rfl, ⟨⟨rfl, by dsimp only; omega, by dsimp only; rw [hR, show k = n.toNat from by omega]⟩, by omega⟩, hw.sub (List.Sublist.cons _ (List.Sublist.cons _ (List.Sublist.cons_cons _ (List.Sublist.refl _))))⟩

set_option maxHeartbeats 400000 in
/-- spec.l1Some -/
theorem l1Some_ok (B : Nat) (w0 : World) (hs : List (Nat × Obj)) (rp p : Nat) (bv : Value) (L : List Int) (w : World) (hb : ∀ w, Own B w0 hs w → Row w bv (u8s L)) (hL8 : Bytes8 L) (hL : L.length ≤ 2000) (hp : p ≤ 800000) (hw : Own B w0 ((rp, .cells #[bv, .int .i64 (p : Int)] 106 (0, 0)) :: hs) w) :
    Calls Tryd.prog 127 [.pointer (some ⟨rp, 0, none⟩)].toArray w fun en w' => ∃ a : St, ∃ p' : Nat, en = .returned (vS a) ∧ ((a.Fine ∧ a.n ≤ 5) ∧ p' ≤ p + 200) ∧ Own B w0 (((rp, .cells #[bv, .int .i64 (p' : Int)] 106 (0, 0)) :: hs)) w' := by
 refine fnStartC (Own B w0 ((rp, .cells #[bv, .int .i64 (p : Int)] 106 (0, 0)) :: hs)) (n := 8) (e := [(0, .pointer (some ⟨rp, 0, none⟩))]) Tryd.func127 rfl rfl rfl rfl Ends.both hw ?_
 refine Wk.seq ?_
 refine Wk.region ?_
 refine Ll.alloc rfl rfl rfl rfl Tryd.zeroValue26 fun p2 hp2 => ?_
 show Ll _ _ (Own _ _ ((p2, .cells #[.int .i64 0, str ([]), str ([])] 26 (0, 0)) :: (rp, .cells #[bv, .int .i64 ((p : Int))] 106 (0, 0)) :: hs)) _ _ ((2, .pointer (some ⟨p2, 0, none⟩)) :: _) _ _ _
 refine Ll.nil ?_
 refine Kt.onSub (e' := [(0, .pointer (some ⟨rp, 0, none⟩)), (2, .pointer (some ⟨p2, 0, none⟩))]) (Sub.cons rfl (Sub.cons rfl Sub.nil)) ?_
 refine Wk.seq ?_
 refine Wk.region ?_
 refine Ll.op rfl rfl rfl (OpQ.move rfl rfl) ?_
 refine Ll.op rfl rfl rfl (OpQ.move rfl rfl) ?_
 refine Ll.slice (xs := [.const (.int .i64 3), .const (.int .i64 4), .const (.int .i64 2), .const (.int .i64 1), .const (.int .i64 5), .const (.int .i64 3)]) (vs := [.int .i64 3, .int .i64 4, .int .i64 2, .int .i64 1, .int .i64 5, .int .i64 3]) Base.elem31 rfl rfl rfl rfl rfl rfl (by decide) rfl fun p5 hp5 => ?_
 refine Ll.callRd (rp := rp) (RT := 106) (p := p) (bv := bv) (hs := hs) (ok := fun (v : Int) p' => v ∈ ([3, 4, 2, 1, 5, 3]) ∧ p' = p + 1) (v := fun (v : Int) => .int .i64 v) (new := fun (v : Int) => []) (xs := [.tmp 4, .tmp 5]) (vs := [.pointer (some ⟨rp, 0, none⟩), .slice (some ⟨p5, 0, none⟩) 6 6]) ([(p5, .cells #[.int .i64 3, .int .i64 4, .int .i64 2, .int .i64 1, .int .i64 5, .int .i64 3] 3 (0, 0)), (p2, .cells #[.int .i64 0, str ([]), str ([])] 26 (0, 0))] : List (Nat × Obj)) rfl rfl rfl rfl Tryd.call110 rfl (fun w1 hw1 => (num_ok B w0 (([(p5, .cells #[.int .i64 3, .int .i64 4, .int .i64 2, .int .i64 1, .int .i64 5, .int .i64 3] 3 (0, 0)), (p2, .cells #[.int .i64 0, str ([]), str ([])] 26 (0, 0))] : List (Nat × Obj)) ++ hs) rp p bv L (.slice (some ⟨p5, 0, none⟩) 6 6) ([3, 4, 2, 1, 5, 3]) w1 (fun w2 hw2 => hb w2 (Own.drop (f := ([(p5, .cells #[.int .i64 3, .int .i64 4, .int .i64 2, .int .i64 1, .int .i64 5, .int .i64 3] 3 (0, 0)), (p2, .cells #[.int .i64 0, str ([]), str ([])] 26 (0, 0))] : List (Nat × Obj))) hw2)) hL8 hL (fun w2 h2 => (Own.row h2 (i := 0) rfl (n := 6) (cap := 6) (vs := ints [3, 4, 2, 1, 5, 3]) rfl rfl (by decide))) (by simp) (by omega) hw1).mono fun en w' ⟨v', p', h1, h2, h3⟩ => ⟨v', p', h1, h2, h3⟩) fun v6 p_6 hKp_6 => ?_
 show Ll _ _ (Own _ _ ((p5, .cells #[.int .i64 3, .int .i64 4, .int .i64 2, .int .i64 1, .int .i64 5, .int .i64 3] 3 (0, 0)) :: (p2, .cells #[.int .i64 0, str ([]), str ([])] 26 (0, 0)) :: (rp, .cells #[bv, .int .i64 ((p_6 : Int))] 106 (0, 0)) :: hs)) _ _ ((6, .int .i64 v6) :: _) _ _ _
 obtain ⟨hmv6, hep_6⟩ := hKp_6
 have hvv6 : 1 ≤ v6 ∧ v6 ≤ 5 := by simp at hmv6; omega
 have hv6 : 1 ≤ v6 ∧ v6 ≤ 5 := by simp at hmv6; omega
 refine Ll.callRd (rp := rp) (RT := 106) (p := p_6) (bv := bv) (hs := hs) (ok := fun (a : St) p' => (a.n = v6 ∧ (a.set.length : Int) = v6 ∧ a.rel.length = v6.toNat * v6.toNat) ∧ p' ≤ p_6 + 100) (v := fun (a : St) => vS a) (new := fun (a : St) => []) (xs := [.tmp 3, .tmp 6]) (vs := [.pointer (some ⟨rp, 0, none⟩), .int .i64 v6]) ([(p5, .cells #[.int .i64 3, .int .i64 4, .int .i64 2, .int .i64 1, .int .i64 5, .int .i64 3] 3 (0, 0)), (p2, .cells #[.int .i64 0, str ([]), str ([])] 26 (0, 0))] : List (Nat × Obj)) rfl rfl rfl rfl Tryd.call130 rfl (fun w1 hw1 => (l1Draw_ok B w0 (([(p5, .cells #[.int .i64 3, .int .i64 4, .int .i64 2, .int .i64 1, .int .i64 5, .int .i64 3] 3 (0, 0)), (p2, .cells #[.int .i64 0, str ([]), str ([])] 26 (0, 0))] : List (Nat × Obj)) ++ hs) rp p_6 bv L v6 w1 (fun w2 hw2 => hb w2 (Own.drop (f := ([(p5, .cells #[.int .i64 3, .int .i64 4, .int .i64 2, .int .i64 1, .int .i64 5, .int .i64 3] 3 (0, 0)), (p2, .cells #[.int .i64 0, str ([]), str ([])] 26 (0, 0))] : List (Nat × Obj))) hw2)) hL8 hL (by omega) (by omega) (by omega) hw1).mono fun en w' ⟨a', p', h1, h2, h3⟩ => ⟨a', p', h1, h2, h3⟩) fun a7 p_7 hKp_7 => ?_
 show Ll _ _ (Own _ _ ((p5, .cells #[.int .i64 3, .int .i64 4, .int .i64 2, .int .i64 1, .int .i64 5, .int .i64 3] 3 (0, 0)) :: (p2, .cells #[.int .i64 0, str ([]), str ([])] 26 (0, 0)) :: (rp, .cells #[bv, .int .i64 ((p_7 : Int))] 106 (0, 0)) :: hs)) _ _ ((7, vS a7) :: _) _ _ _
 obtain ⟨⟨hna7, hsa7, hra7⟩, hep_7⟩ := hKp_7
 refine Ll.storeBox (cs' := #[.int .i64 a7.n, str a7.set, str a7.rel]) (hs' := ((p5, .cells #[.int .i64 3, .int .i64 4, .int .i64 2, .int .i64 1, .int .i64 5, .int .i64 3] 3 (0, 0)) :: (p2, .cells #[.int .i64 a7.n, str a7.set, str a7.rel] 26 (0, 0)) :: (rp, .cells #[bv, .int .i64 ((p_7 : Int))] 106 (0, 0)) :: hs)) 1 rfl rfl rfl rfl rfl (by kernel_rfl : _ = some Tryd.t26) rfl rfl rfl rfl rfl ?_
 refine Ll.nil ?_
 refine Kt.onSub (e' := [(2, .pointer (some ⟨p2, 0, none⟩))]) (Sub.cons rfl Sub.nil) ?_
 refine Wk.ret (Kt.endBox (cs := #[.int .i64 a7.n, str a7.set, str a7.rel]) 1 rfl rfl rfl Tryd.isAgg26 Tryd.sizeOf26 fun w' hw => ?_)
 -- ret 0: .pointer (some ⟨p2, 0, none⟩)
 exact ⟨a7, p_7, rfl, ⟨⟨⟨by omega, by omega, by omega, by rw [hra7, hna7]; exact sq_cast (by omega)⟩, by omega⟩, by omega⟩, hw.sub (List.Sublist.cons _ (List.Sublist.cons _ (List.Sublist.cons_cons _ (List.Sublist.refl _))))⟩

set_option maxHeartbeats 400000 in
/-- spec.l1Shuffle -/
theorem shuffle_ok (B : Nat) (w0 : World) (hs : List (Nat × Obj)) (rp p : Nat) (bv : Value) (L : List Int) (n : Int) (w : World) (hb : ∀ w, Own B w0 hs w → Row w bv (u8s L)) (hL8 : Bytes8 L) (hL : L.length ≤ 2000) (hn0 : 0 ≤ n) (hn8 : n ≤ 8) (hp : p ≤ 900000) (hw : Own B w0 ((rp, .cells #[bv, .int .i64 (p : Int)] 106 (0, 0)) :: hs) w) :
    Calls Tryd.prog 128 [.pointer (some ⟨rp, 0, none⟩), .int .i64 n].toArray w fun en w' => ∃ g : Nat, ∃ c : Nat, ∃ u : Array Value, ∃ xs : List Int, ∃ p' : Nat, en = .returned (.slice (some ⟨g, 0, none⟩) xs.length c) ∧ ((u.size = c * 1 ∧ xs.length ≤ c ∧ u.toList.take xs.length = ints xs) ∧ (xs.length = n.toNat ∧ ∀ x ∈ xs, 0 ≤ x ∧ x < n) ∧ p' ≤ p + 10) ∧ Own B w0 ([(g, .cells u 3 (0, 0))] ++ ((rp, .cells #[bv, .int .i64 (p' : Int)] 106 (0, 0)) :: hs)) w' := by
 refine fnStartC (Own B w0 ((rp, .cells #[bv, .int .i64 (p : Int)] 106 (0, 0)) :: hs)) (n := 32) (e := [(0, .pointer (some ⟨rp, 0, none⟩)), (1, .int .i64 n)]) Tryd.func128 rfl rfl rfl rfl Ends.both hw ?_
 refine Wk.seq ?_
 refine Wk.regionQ ?_
 refine Lq.op rfl rfl rfl (OpQ.assign rfl rfl) ?_
 refine Lq.nil ?_
 refine Kt.onSub (e' := [(0, .pointer (some ⟨rp, 0, none⟩)), (1, .int .i64 n)]) (Sub.cons rfl (Sub.cons rfl Sub.nil)) ?_
 refine Wk.seq ?_
 refine Wk.region ?_
 refine Ll.slice (xs := []) (vs := []) Base.elem31 rfl rfl rfl rfl rfl rfl (by decide) rfl fun p8 hp8 => ?_
 refine Ll.op rfl rfl rfl (OpQ.assign rfl rfl) ?_
 refine Ll.nil ?_
 refine Kt.onSub (e' := [(0, .pointer (some ⟨rp, 0, none⟩)), (1, .int .i64 n), (5, .slice (some ⟨p8, 0, none⟩) 0 0)]) (Sub.cons rfl (Sub.cons rfl (Sub.cons rfl Sub.nil))) ?_
 refine Wk.seq ?_
 refine Wk.seq ?_
 refine Wk.regionQ ?_
 refine Lq.op rfl rfl rfl (OpQ.assign rfl rfl) ?_
 refine Lq.nil ?_
 refine Kt.onSub (e' := [(0, .pointer (some ⟨rp, 0, none⟩)), (1, .int .i64 n), (5, .slice (some ⟨p8, 0, none⟩) 0 0), (6, .int .i64 0)]) (Sub.cons rfl (Sub.cons rfl (Sub.cons rfl (Sub.cons rfl Sub.nil)))) ?_
 refine Wk.block ?_
 refine Wk.loop (σ := Nat × Nat × Nat × Array Value × List Int × Nat) (fun ⟨k, g, c, u, xs, p0⟩ => (k : Int) ≤ n ∧ (u.size = c * 1 ∧ xs.length ≤ c ∧ u.toList.take xs.length = ints xs) ∧ (xs.length = k ∧ ∀ x ∈ xs, 0 ≤ x ∧ x < (k : Int)) ∧ p0 ≤ p + k) (fun ⟨k, g, c, u, xs, p0⟩ => [(0, .pointer (some ⟨rp, 0, none⟩)), (1, .int .i64 n), (5, .slice (some ⟨g, 0, none⟩) xs.length c), (6, .int .i64 ((k : Int)))]) (fun ⟨k, g, c, u, xs, p0⟩ => Own B w0 ((g, .cells u 3 (0, 0)) :: (rp, .cells #[bv, .int .i64 ((p0 : Int))] 106 (0, 0)) :: hs)) (fun ⟨k, g, c, u, xs, p0⟩ => (n - k).toNat) ((0, p8, 0, #[], [], p)) ⟨by omega, ⟨rfl, Nat.le_refl 0, rfl⟩, ⟨rfl, fun x hx => by cases hx⟩, by omega⟩ (Sub.cons rfl (Sub.cons rfl (Sub.cons rfl (Sub.cons rfl Sub.nil)))) (fun _ h => h) ?_
 rintro ⟨k, g, c, u, xs, p0⟩ ⟨hk, ⟨hcg, hlg, htg⟩, ⟨hxl, hxr⟩, hp0⟩
 dsimp only
 refine Wk.seq ?_
 refine Wk.seq ?_
 refine Wk.regionQ ?_
 refine Lq.op rfl rfl rfl (OpQ.move rfl rfl) ?_
 refine Lq.op rfl rfl rfl (OpQ.move rfl rfl) ?_
 refine Lq.op (v := .bool (decide (((k : Int)) < n))) rfl rfl rfl (OpQ.lss rfl rfl rfl) ?_
 refine Lq.nil ?_
 refine Kt.onSub (e' := [(0, .pointer (some ⟨rp, 0, none⟩)), (1, .int .i64 n), (5, .slice (some ⟨g, 0, none⟩) xs.length c), (6, .int .i64 ((k : Int))), (11, .bool (decide (((k : Int)) < n)))]) (Sub.cons rfl (Sub.cons rfl (Sub.cons rfl (Sub.cons rfl (Sub.cons rfl Sub.nil))))) ?_
 refine Wk.cond (b := decide (((k : Int)) < n)) rfl (fun h11 => ?_) (fun h11 => ?_)
 ·
  replace h11 := of_decide_eq_true h11
  have hxl8 : xs.length ≤ 8 := by omega
  refine Wk.skip ?_
  refine Kt.onSub (e' := [(0, .pointer (some ⟨rp, 0, none⟩)), (1, .int .i64 n), (5, .slice (some ⟨g, 0, none⟩) xs.length c), (6, .int .i64 ((k : Int)))]) (Sub.cons rfl (Sub.cons rfl (Sub.cons rfl (Sub.cons rfl Sub.nil)))) ?_
  refine Wk.seq ?_
  refine Wk.block ?_
  refine Wk.seq ?_
  refine Wk.region ?_
  refine Ll.op rfl rfl rfl (OpQ.move rfl rfl) ?_
  refine Ll.op rfl rfl rfl (OpQ.move rfl rfl) ?_
  refine Ll.op (v := .int .i64 ((xs.length : Int))) rfl rfl rfl (OpQ.lenS rfl Tryd.runUnderlying31 rfl) ?_
  refine Ll.op (v := .int .i64 (((xs.length : Int)) + (1 : Int))) rfl rfl rfl (OpQ.add rfl rfl rfl (by omega) (by omega)) ?_
  refine Ll.callRd (rp := rp) (RT := 106) (p := p0) (bv := bv) (hs := hs) (ok := fun (k : Int) p' => 0 ≤ k ∧ (1 ≤ (((xs.length : Int)) + (1 : Int)) → k < (((xs.length : Int)) + (1 : Int))) ∧ p' = p0 + 1) (v := fun (k : Int) => .int .i64 k) (new := fun (k : Int) => []) (xs := [.tmp 14, .tmp 17]) (vs := [.pointer (some ⟨rp, 0, none⟩), .int .i64 (((xs.length : Int)) + (1 : Int))]) ([(g, .cells u 3 (0, 0))] : List (Nat × Obj)) rfl rfl rfl rfl Tryd.call113 rfl (fun w1 hw1 => (pick_ok B w0 (([(g, .cells u 3 (0, 0))] : List (Nat × Obj)) ++ hs) rp p0 bv L (((xs.length : Int)) + (1 : Int)) w1 (fun w2 hw2 => hb w2 (Own.drop (f := ([(g, .cells u 3 (0, 0))] : List (Nat × Obj))) hw2)) hL8 hL (by omega) hw1).mono fun en w' ⟨k', p', h1, h2, h3⟩ => ⟨k', p', h1, h2, h3⟩) fun k18 p_18 hKp_18 => ?_
  show Ll _ _ (Own _ _ ((g, .cells u 3 (0, 0)) :: (rp, .cells #[bv, .int .i64 ((p_18 : Int))] 106 (0, 0)) :: hs)) _ _ ((18, .int .i64 k18) :: _) _ _ _
  obtain ⟨h0k18, h1k18, hep_18⟩ := hKp_18
  try have hltk18 := h1k18 (by first | omega | (split <;> omega) | decide)
  refine Ll.op rfl rfl rfl (OpQ.assign rfl rfl) ?_
  refine Ll.nil ?_
  refine Kt.onSub (e' := [(0, .pointer (some ⟨rp, 0, none⟩)), (1, .int .i64 n), (5, .slice (some ⟨g, 0, none⟩) xs.length c), (6, .int .i64 ((k : Int))), (7, .int .i64 k18)]) (Sub.cons rfl (Sub.cons rfl (Sub.cons rfl (Sub.cons rfl (Sub.cons rfl Sub.nil))))) ?_
  refine Wk.regionU (S := Own B w0 [(g, .cells u 3 (0, 0)), (rp, .cells #[bv, .int .i64 ((p_18 : Int))] 106 (0, 0))]) (.take 1 (.take 2 (.take 3 (.take 5 (.take 8 (.take 9 (.take 10 (.two 0 (.two 4 (.one 6 (.one 7 (.one 11 (.take 12 .done)))) 6 (.one 4 (.one 7 (.one 11 (.take 12 .done))))) 6 (.one 0 (.one 4 (.one 7 (.one 11 (.take 12 .done))))))))))))) Base.mixed (fun _ h => h.drawn) (by kernel_rfl) ?_
  refine Lu.take rfl rfl rfl rfl rfl (OpQ.move rfl rfl) (fun _ h => h.pick [0, 1] rfl (by decide)) ?_
  refine Lu.take rfl rfl rfl rfl rfl (OpQ.move rfl rfl) (fun _ h => h.pick [0, 1] rfl (by decide)) ?_
  refine Lu.take (v := .slice (some ⟨g, 0, none⟩) ((k18).toNat) c) rfl rfl rfl rfl rfl (OpQ.takeS (i := k18) rfl Tryd.runUnderlying31 Tryd.sizeOf3 rfl rfl (by omega) (by omega)) (fun _ h => h.pick [0, 1] rfl (by decide)) ?_
  refine Lu.take rfl rfl rfl rfl rfl (OpQ.move rfl rfl) (fun _ h => h.pick [0, 1] rfl (by decide)) ?_
  refine Lu.take rfl rfl rfl rfl rfl (OpQ.move rfl rfl) (fun _ h => h.pick [0, 1] rfl (by decide)) ?_
  refine Lu.take rfl rfl rfl rfl rfl (OpQ.move rfl rfl) (fun _ h => h.pick [0, 1] rfl (by decide)) ?_
  refine Lu.take (v := .slice (some ⟨g, (dropOff (k18).toNat c), none⟩) (xs.length - (k18).toNat) (c - (k18).toNat)) rfl rfl rfl rfl rfl (OpQ.dropE rfl Tryd.runUnderlying31 Tryd.sizeOf3 rfl rfl (by omega) (by omega) (by omega)) (fun _ h => h.pick [0, 1] rfl (by decide)) ?_
  refine Lu.two rfl rfl ?_ ?_
  ·
   refine Ll.slice (xs := []) (vs := []) Base.elem31 rfl rfl rfl rfl rfl rfl (by decide) rfl fun p19 hp19 => ?_
   refine Ll.nil (Lu.joint (fun _ h => h.pick [1, 2] rfl (by decide)) ?_)
   refine Lu.two rfl rfl ?_ ?_
   ·
    refine Ll.appendInts (xs := []) (ys := (xs).take ((k18).toNat)) Base.elem31 0 rfl rfl rfl rfl rfl rfl rfl rfl (by decide) rfl (fun w1 hw1 => (Own.rowTake hw1 (i := 1) rfl htg (by omega) hlg)) (((xs).take ((k18).toNat)).length) (by first | (simp; done) | (simp; omega)) (by first | (simp; done) | (simp; omega) | omega) fun p23 cap23 cur23 hp23 hcp23 hlp23 htp23 => ?_
    show Ll _ _ (Own _ _ ((p23, .cells cur23 3 (0, 0)) :: (g, .cells u 3 (0, 0)) :: (rp, .cells #[bv, .int .i64 ((p_18 : Int))] 106 (0, 0)) :: hs)) _ _ ((23, .slice (some ⟨p23, 0, none⟩) ((((xs).take ((k18).toNat)).length)) cap23) :: _) _ _ _
    refine Ll.nil (Lu.joint (fun _ h => h.pick [1, 2] rfl (by decide)) ?_)
    refine Lu.loud rfl ?_
    refine Ll.slice (xs := [.tmp 24]) (vs := [.int .i64 ((k : Int))]) Base.elem31 rfl rfl rfl rfl rfl rfl (by decide) rfl fun p25 hp25 => ?_
    refine Ll.nil (Lu.joint (fun _ h => h.pick [2, 3] rfl (by decide)) ?_)
    refine Lu.loud rfl ?_
    refine Ll.appendInts (xs := (xs).take ((k18).toNat)) (ys := [(k : Int)]) Base.elem31 1 rfl rfl rfl rfl rfl rfl rfl hcp23 hlp23 (by simpa using htp23) (fun w1 hw1 => (Own.row hw1 (i := 0) rfl (n := 1) (cap := 1) (vs := ints [(k : Int)]) rfl rfl (by decide))) ((((xs).take ((k18).toNat)) ++ ([(k : Int)])).length) (by first | (simp; done) | (simp; omega)) (by first | (simp; done) | (simp; omega) | omega) fun p26 cap26 cur26 hp26 hcp26 hlp26 htp26 => ?_
    show Ll _ _ (Own _ _ ((p25, .cells #[.int .i64 ((k : Int))] 3 (0, 0)) :: (p26, .cells cur26 3 (0, 0)) :: (g, .cells u 3 (0, 0)) :: (rp, .cells #[bv, .int .i64 ((p_18 : Int))] 106 (0, 0)) :: hs)) _ _ ((26, .slice (some ⟨p26, 0, none⟩) (((((xs).take ((k18).toNat)) ++ ([(k : Int)])).length)) cap26) :: _) _ _ _
    refine Ll.nil (Lu.joint (fun _ h => h.pick [2, 3] rfl (by decide)) ?_)
    refine Lu.loud rfl ?_
    refine Ll.appendInts (xs := ((xs).take ((k18).toNat)) ++ ([(k : Int)])) (ys := xs.drop (k18).toNat) Base.elem31 1 rfl rfl rfl rfl rfl rfl rfl hcp26 hlp26 (by simpa using htp26) (fun w1 hw1 => (Own.rowDropE hw1 (i := 2) rfl htg (by omega) hlg)) (((((xs).take ((k18).toNat)) ++ ([(k : Int)])) ++ (xs.drop (k18).toNat)).length) (by first | (simp; done) | (simp; omega)) (by first | (simp; done) | (simp; omega) | omega) fun p30 cap30 cur30 hp30 hcp30 hlp30 htp30 => ?_
    show Ll _ _ (Own _ _ ((p25, .cells #[.int .i64 ((k : Int))] 3 (0, 0)) :: (p30, .cells cur30 3 (0, 0)) :: (g, .cells u 3 (0, 0)) :: (rp, .cells #[bv, .int .i64 ((p_18 : Int))] 106 (0, 0)) :: hs)) _ _ ((30, .slice (some ⟨p30, 0, none⟩) ((((((xs).take ((k18).toNat)) ++ ([(k : Int)])) ++ (xs.drop (k18).toNat)).length)) cap30) :: _) _ _ _
    refine Ll.nil (Lu.joint (fun _ h => h.pick [2, 3] rfl (by decide)) ?_)
    refine Lu.take rfl rfl rfl rfl rfl (OpQ.assign rfl rfl) (fun _ h => h.pick [2, 3] rfl (by decide)) ?_
    refine Lu.nil ?_
    refine Kt.onSub (e' := [(0, .pointer (some ⟨rp, 0, none⟩)), (1, .int .i64 n), (5, .slice (some ⟨p30, 0, none⟩) ((((((xs).take ((k18).toNat)) ++ ([(k : Int)])) ++ (xs.drop (k18).toNat)).length)) cap30), (6, .int .i64 ((k : Int)))]) (Sub.cons rfl (Sub.cons rfl (Sub.cons rfl (Sub.cons rfl Sub.nil)))) ?_
    refine Wk.regionQ ?_
    refine Lq.op rfl rfl rfl (OpQ.move rfl rfl) ?_
    refine Lq.op (v := .int .i64 (((k : Int)) + (1 : Int))) rfl rfl rfl (OpQ.add rfl rfl rfl (by omega) (by omega)) ?_
    refine Lq.op rfl rfl rfl (OpQ.assign rfl rfl) ?_
    refine Lq.nil ?_
    refine Kt.again ((k + 1, p30, cap30, cur30, (((xs).take ((k18).toNat)) ++ ([(k : Int)])) ++ (xs.drop (k18).toNat), p_18)) ⟨by omega, ⟨by simpa using hcp30, hlp30, by simpa using (by simpa using htp30)⟩, ⟨by (try dsimp only); simp; omega, shuf_all hxr⟩, by (try dsimp only); omega⟩ (by omega) (Sub.cons rfl (Sub.cons rfl (Sub.cons rfl (Sub.cons rfl Sub.nil)))) (fun _ h => h.sub (List.Sublist.cons _ (List.Sublist.cons_cons _ (List.Sublist.cons _ (List.Sublist.cons_cons _ (List.Sublist.refl _))))))
   ·
    refine Ll.slice (xs := [.tmp 24]) (vs := [.int .i64 ((k : Int))]) Base.elem31 rfl rfl rfl rfl rfl rfl (by decide) rfl fun p25_1 hp25_1 => ?_
    refine Ll.nil (Lu.joint (fun _ h => h.pick [2, 3] rfl (by decide)) ?_)
    refine Lu.loud rfl ?_
    refine Ll.appendInts (xs := []) (ys := (xs).take ((k18).toNat)) Base.elem31 1 rfl rfl rfl rfl rfl rfl rfl rfl (by decide) rfl (fun w1 hw1 => (Own.rowTake hw1 (i := 2) rfl htg (by omega) hlg)) (((xs).take ((k18).toNat)).length) (by first | (simp; done) | (simp; omega)) (by first | (simp; done) | (simp; omega) | omega) fun p23_1 cap23_1 cur23_1 hp23_1 hcp23_1 hlp23_1 htp23_1 => ?_
    show Ll _ _ (Own _ _ ((p25_1, .cells #[.int .i64 ((k : Int))] 3 (0, 0)) :: (p23_1, .cells cur23_1 3 (0, 0)) :: (g, .cells u 3 (0, 0)) :: (rp, .cells #[bv, .int .i64 ((p_18 : Int))] 106 (0, 0)) :: hs)) _ _ ((23, .slice (some ⟨p23_1, 0, none⟩) ((((xs).take ((k18).toNat)).length)) cap23_1) :: _) _ _ _
    refine Ll.nil (Lu.joint (fun _ h => h.pick [2, 3] rfl (by decide)) ?_)
    refine Lu.loud rfl ?_
    refine Ll.appendInts (xs := (xs).take ((k18).toNat)) (ys := [(k : Int)]) Base.elem31 1 rfl rfl rfl rfl rfl rfl rfl hcp23_1 hlp23_1 (by simpa using htp23_1) (fun w1 hw1 => (Own.row hw1 (i := 0) rfl (n := 1) (cap := 1) (vs := ints [(k : Int)]) rfl rfl (by decide))) ((((xs).take ((k18).toNat)) ++ ([(k : Int)])).length) (by first | (simp; done) | (simp; omega)) (by first | (simp; done) | (simp; omega) | omega) fun p26_1 cap26_1 cur26_1 hp26_1 hcp26_1 hlp26_1 htp26_1 => ?_
    show Ll _ _ (Own _ _ ((p25_1, .cells #[.int .i64 ((k : Int))] 3 (0, 0)) :: (p26_1, .cells cur26_1 3 (0, 0)) :: (g, .cells u 3 (0, 0)) :: (rp, .cells #[bv, .int .i64 ((p_18 : Int))] 106 (0, 0)) :: hs)) _ _ ((26, .slice (some ⟨p26_1, 0, none⟩) (((((xs).take ((k18).toNat)) ++ ([(k : Int)])).length)) cap26_1) :: _) _ _ _
    refine Ll.nil (Lu.joint (fun _ h => h.pick [2, 3] rfl (by decide)) ?_)
    refine Lu.loud rfl ?_
    refine Ll.appendInts (xs := ((xs).take ((k18).toNat)) ++ ([(k : Int)])) (ys := xs.drop (k18).toNat) Base.elem31 1 rfl rfl rfl rfl rfl rfl rfl hcp26_1 hlp26_1 (by simpa using htp26_1) (fun w1 hw1 => (Own.rowDropE hw1 (i := 2) rfl htg (by omega) hlg)) (((((xs).take ((k18).toNat)) ++ ([(k : Int)])) ++ (xs.drop (k18).toNat)).length) (by first | (simp; done) | (simp; omega)) (by first | (simp; done) | (simp; omega) | omega) fun p30_1 cap30_1 cur30_1 hp30_1 hcp30_1 hlp30_1 htp30_1 => ?_
    show Ll _ _ (Own _ _ ((p25_1, .cells #[.int .i64 ((k : Int))] 3 (0, 0)) :: (p30_1, .cells cur30_1 3 (0, 0)) :: (g, .cells u 3 (0, 0)) :: (rp, .cells #[bv, .int .i64 ((p_18 : Int))] 106 (0, 0)) :: hs)) _ _ ((30, .slice (some ⟨p30_1, 0, none⟩) ((((((xs).take ((k18).toNat)) ++ ([(k : Int)])) ++ (xs.drop (k18).toNat)).length)) cap30_1) :: _) _ _ _
    refine Ll.nil (Lu.joint (fun _ h => h.pick [2, 3] rfl (by decide)) ?_)
    refine Lu.take rfl rfl rfl rfl rfl (OpQ.assign rfl rfl) (fun _ h => h.pick [2, 3] rfl (by decide)) ?_
    refine Lu.nil ?_
    refine Kt.onSub (e' := [(0, .pointer (some ⟨rp, 0, none⟩)), (1, .int .i64 n), (5, .slice (some ⟨p30_1, 0, none⟩) ((((((xs).take ((k18).toNat)) ++ ([(k : Int)])) ++ (xs.drop (k18).toNat)).length)) cap30_1), (6, .int .i64 ((k : Int)))]) (Sub.cons rfl (Sub.cons rfl (Sub.cons rfl (Sub.cons rfl Sub.nil)))) ?_
    refine Wk.regionQ ?_
    refine Lq.op rfl rfl rfl (OpQ.move rfl rfl) ?_
    refine Lq.op (v := .int .i64 (((k : Int)) + (1 : Int))) rfl rfl rfl (OpQ.add rfl rfl rfl (by omega) (by omega)) ?_
    refine Lq.op rfl rfl rfl (OpQ.assign rfl rfl) ?_
    refine Lq.nil ?_
    refine Kt.again ((k + 1, p30_1, cap30_1, cur30_1, (((xs).take ((k18).toNat)) ++ ([(k : Int)])) ++ (xs.drop (k18).toNat), p_18)) ⟨by omega, ⟨by simpa using hcp30_1, hlp30_1, by simpa using (by simpa using htp30_1)⟩, ⟨by (try dsimp only); simp; omega, shuf_all hxr⟩, by (try dsimp only); omega⟩ (by omega) (Sub.cons rfl (Sub.cons rfl (Sub.cons rfl (Sub.cons rfl Sub.nil)))) (fun _ h => h.sub (List.Sublist.cons _ (List.Sublist.cons_cons _ (List.Sublist.cons _ (List.Sublist.cons_cons _ (List.Sublist.refl _))))))
  ·
   refine Ll.slice (xs := [.tmp 24]) (vs := [.int .i64 ((k : Int))]) Base.elem31 rfl rfl rfl rfl rfl rfl (by decide) rfl fun p25_2 hp25_2 => ?_
   refine Ll.nil (Lu.joint (fun _ h => h.pick [1, 2] rfl (by decide)) ?_)
   refine Lu.loud rfl ?_
   refine Ll.slice (xs := []) (vs := []) Base.elem31 rfl rfl rfl rfl rfl rfl (by decide) rfl fun p19_1 hp19_1 => ?_
   refine Ll.nil (Lu.joint (fun _ h => h.pick [2, 3] rfl (by decide)) ?_)
   refine Lu.loud rfl ?_
   refine Ll.appendInts (xs := []) (ys := (xs).take ((k18).toNat)) Base.elem31 0 rfl rfl rfl rfl rfl rfl rfl rfl (by decide) rfl (fun w1 hw1 => (Own.rowTake hw1 (i := 2) rfl htg (by omega) hlg)) (((xs).take ((k18).toNat)).length) (by first | (simp; done) | (simp; omega)) (by first | (simp; done) | (simp; omega) | omega) fun p23_2 cap23_2 cur23_2 hp23_2 hcp23_2 hlp23_2 htp23_2 => ?_
   show Ll _ _ (Own _ _ ((p23_2, .cells cur23_2 3 (0, 0)) :: (p25_2, .cells #[.int .i64 ((k : Int))] 3 (0, 0)) :: (g, .cells u 3 (0, 0)) :: (rp, .cells #[bv, .int .i64 ((p_18 : Int))] 106 (0, 0)) :: hs)) _ _ ((23, .slice (some ⟨p23_2, 0, none⟩) ((((xs).take ((k18).toNat)).length)) cap23_2) :: _) _ _ _
   refine Ll.nil (Lu.joint (fun _ h => h.pick [2, 3] rfl (by decide)) ?_)
   refine Lu.loud rfl ?_
   refine Ll.appendInts (xs := (xs).take ((k18).toNat)) (ys := [(k : Int)]) Base.elem31 0 rfl rfl rfl rfl rfl rfl rfl hcp23_2 hlp23_2 (by simpa using htp23_2) (fun w1 hw1 => (Own.row hw1 (i := 1) rfl (n := 1) (cap := 1) (vs := ints [(k : Int)]) rfl rfl (by decide))) ((((xs).take ((k18).toNat)) ++ ([(k : Int)])).length) (by first | (simp; done) | (simp; omega)) (by first | (simp; done) | (simp; omega) | omega) fun p26_2 cap26_2 cur26_2 hp26_2 hcp26_2 hlp26_2 htp26_2 => ?_
   show Ll _ _ (Own _ _ ((p26_2, .cells cur26_2 3 (0, 0)) :: (p25_2, .cells #[.int .i64 ((k : Int))] 3 (0, 0)) :: (g, .cells u 3 (0, 0)) :: (rp, .cells #[bv, .int .i64 ((p_18 : Int))] 106 (0, 0)) :: hs)) _ _ ((26, .slice (some ⟨p26_2, 0, none⟩) (((((xs).take ((k18).toNat)) ++ ([(k : Int)])).length)) cap26_2) :: _) _ _ _
   refine Ll.nil (Lu.joint (fun _ h => h.pick [2, 3] rfl (by decide)) ?_)
   refine Lu.loud rfl ?_
   refine Ll.appendInts (xs := ((xs).take ((k18).toNat)) ++ ([(k : Int)])) (ys := xs.drop (k18).toNat) Base.elem31 0 rfl rfl rfl rfl rfl rfl rfl hcp26_2 hlp26_2 (by simpa using htp26_2) (fun w1 hw1 => (Own.rowDropE hw1 (i := 2) rfl htg (by omega) hlg)) (((((xs).take ((k18).toNat)) ++ ([(k : Int)])) ++ (xs.drop (k18).toNat)).length) (by first | (simp; done) | (simp; omega)) (by first | (simp; done) | (simp; omega) | omega) fun p30_2 cap30_2 cur30_2 hp30_2 hcp30_2 hlp30_2 htp30_2 => ?_
   show Ll _ _ (Own _ _ ((p30_2, .cells cur30_2 3 (0, 0)) :: (p25_2, .cells #[.int .i64 ((k : Int))] 3 (0, 0)) :: (g, .cells u 3 (0, 0)) :: (rp, .cells #[bv, .int .i64 ((p_18 : Int))] 106 (0, 0)) :: hs)) _ _ ((30, .slice (some ⟨p30_2, 0, none⟩) ((((((xs).take ((k18).toNat)) ++ ([(k : Int)])) ++ (xs.drop (k18).toNat)).length)) cap30_2) :: _) _ _ _
   refine Ll.nil (Lu.joint (fun _ h => h.pick [2, 3] rfl (by decide)) ?_)
   refine Lu.take rfl rfl rfl rfl rfl (OpQ.assign rfl rfl) (fun _ h => h.pick [2, 3] rfl (by decide)) ?_
   refine Lu.nil ?_
   refine Kt.onSub (e' := [(0, .pointer (some ⟨rp, 0, none⟩)), (1, .int .i64 n), (5, .slice (some ⟨p30_2, 0, none⟩) ((((((xs).take ((k18).toNat)) ++ ([(k : Int)])) ++ (xs.drop (k18).toNat)).length)) cap30_2), (6, .int .i64 ((k : Int)))]) (Sub.cons rfl (Sub.cons rfl (Sub.cons rfl (Sub.cons rfl Sub.nil)))) ?_
   refine Wk.regionQ ?_
   refine Lq.op rfl rfl rfl (OpQ.move rfl rfl) ?_
   refine Lq.op (v := .int .i64 (((k : Int)) + (1 : Int))) rfl rfl rfl (OpQ.add rfl rfl rfl (by omega) (by omega)) ?_
   refine Lq.op rfl rfl rfl (OpQ.assign rfl rfl) ?_
   refine Lq.nil ?_
   refine Kt.again ((k + 1, p30_2, cap30_2, cur30_2, (((xs).take ((k18).toNat)) ++ ([(k : Int)])) ++ (xs.drop (k18).toNat), p_18)) ⟨by omega, ⟨by simpa using hcp30_2, hlp30_2, by simpa using (by simpa using htp30_2)⟩, ⟨by (try dsimp only); simp; omega, shuf_all hxr⟩, by (try dsimp only); omega⟩ (by omega) (Sub.cons rfl (Sub.cons rfl (Sub.cons rfl (Sub.cons rfl Sub.nil)))) (fun _ h => h.sub (List.Sublist.cons_cons _ (List.Sublist.cons _ (List.Sublist.cons _ (List.Sublist.cons_cons _ (List.Sublist.refl _))))))
 ·
  replace h11 := of_decide_eq_false h11
  refine Wk.exit rfl ?_
  refine Kt.onSub (e' := [(5, .slice (some ⟨g, 0, none⟩) xs.length c)]) (Sub.cons rfl Sub.nil) ?_
  refine Wk.seq ?_
  refine Wk.regionQ ?_
  refine Lq.op rfl rfl rfl (OpQ.move rfl rfl) ?_
  refine Lq.op rfl rfl rfl (OpQ.assign rfl rfl) ?_
  refine Lq.nil ?_
  refine Kt.onSub (e' := [(4, .slice (some ⟨g, 0, none⟩) xs.length c)]) (Sub.cons rfl Sub.nil) ?_
  refine Wk.ret (Kt.end1 rfl rfl fun w' hw => ?_)
  -- ret 0: .slice (some ⟨g, 0, none⟩) xs.length c
  exact ⟨g, c, u, xs, p0, rfl, ⟨⟨by simpa using hcg, hlg, by simpa using htg⟩, ⟨by omega, fun x hx => by have := hxr x hx; omega⟩, by omega⟩, hw.sub (List.Sublist.cons_cons _ (List.Sublist.cons_cons _ (List.Sublist.refl _)))⟩

set_option maxHeartbeats 400000 in
/-- spec.l1Element -/
theorem element_ok (B : Nat) (w0 : World) (hs : List (Nat × Obj)) (rp p : Nat) (bv : Value) (L : List Int) (w : World) (hb : ∀ w, Own B w0 hs w → Row w bv (u8s L)) (hL8 : Bytes8 L) (hL : L.length ≤ 2000) (hp : p ≤ 900000) (hw : Own B w0 ((rp, .cells #[bv, .int .i64 (p : Int)] 106 (0, 0)) :: hs) w) :
    Calls Tryd.prog 91 [.pointer (some ⟨rp, 0, none⟩)].toArray w fun en w' => ∃ v : Int, ∃ p' : Nat, en = .returned (.int .i64 v) ∧ ((-1 ≤ v ∧ v ≤ 9223372036854775807) ∧ p' ≤ p + 2) ∧ Own B w0 (((rp, .cells #[bv, .int .i64 (p' : Int)] 106 (0, 0)) :: hs)) w' := by
 refine fnStartC (Own B w0 ((rp, .cells #[bv, .int .i64 (p : Int)] 106 (0, 0)) :: hs)) (n := 11) (e := [(0, .pointer (some ⟨rp, 0, none⟩))]) Tryd.func91 rfl rfl rfl rfl Ends.both hw ?_
 refine Wk.seq ?_
 refine Wk.regionQ ?_
 refine Lq.op rfl rfl rfl (OpQ.assign rfl rfl) ?_
 refine Lq.nil ?_
 refine Kt.onSub (e' := [(0, .pointer (some ⟨rp, 0, none⟩))]) (Sub.cons rfl Sub.nil) ?_
 refine Wk.seq ?_
 refine Wk.seq ?_
 refine Wk.region ?_
 refine Ll.op rfl rfl rfl (OpQ.move rfl rfl) ?_
 refine Ll.callRd (rp := rp) (RT := 106) (p := p) (bv := bv) (hs := hs) (ok := fun (k : Int) p' => 0 ≤ k ∧ (1 ≤ (20 : Int) → k < 20) ∧ p' = p + 1) (v := fun (k : Int) => .int .i64 k) (new := fun (k : Int) => []) (xs := [.tmp 3, .const (.int .i64 20)]) (vs := [.pointer (some ⟨rp, 0, none⟩), .int .i64 20]) ([] : List (Nat × Obj)) rfl rfl rfl rfl Tryd.call113 rfl (fun w1 hw1 => (pick_ok B w0 (([] : List (Nat × Obj)) ++ hs) rp p bv L 20 w1 (fun w2 hw2 => hb w2 (Own.drop (f := ([] : List (Nat × Obj))) hw2)) hL8 hL (by omega) hw1).mono fun en w' ⟨k', p', h1, h2, h3⟩ => ⟨k', p', h1, h2, h3⟩) fun k4 p_4 hKp_4 => ?_
 show Ll _ _ (Own _ _ ((rp, .cells #[bv, .int .i64 ((p_4 : Int))] 106 (0, 0)) :: hs)) _ _ ((4, .int .i64 k4) :: _) _ _ _
 obtain ⟨h0k4, h1k4, hep_4⟩ := hKp_4
 try have hltk4 := h1k4 (by first | omega | (split <;> omega) | decide)
 refine Ll.op (v := .bool (decide (k4 = (0 : Int)))) rfl rfl rfl (OpQ.eql rfl rfl rfl) ?_
 refine Ll.nil ?_
 refine Kt.onSub (e' := [(0, .pointer (some ⟨rp, 0, none⟩)), (5, .bool (decide (k4 = (0 : Int))))]) (Sub.cons rfl (Sub.cons rfl Sub.nil)) ?_
 refine Wk.cond (b := decide (k4 = (0 : Int))) rfl (fun h5 => ?_) (fun h5 => ?_)
 ·
  replace h5 := of_decide_eq_true h5
  refine Wk.seq ?_
  refine Wk.region ?_
  refine Ll.op rfl rfl rfl (OpQ.move rfl rfl) ?_
  refine Ll.slice (xs := [.const (.int .i64 (-1)), .const (.int .i64 8), .const (.int .i64 7), .const (.int .i64 9223372036854775807)]) (vs := [.int .i64 (-1), .int .i64 8, .int .i64 7, .int .i64 9223372036854775807]) Base.elem31 rfl rfl rfl rfl rfl rfl (by decide) rfl fun p7 hp7 => ?_
  refine Ll.callRd (rp := rp) (RT := 106) (p := p_4) (bv := bv) (hs := hs) (ok := fun (v : Int) p' => v ∈ ([-1, 8, 7, 9223372036854775807]) ∧ p' = p_4 + 1) (v := fun (v : Int) => .int .i64 v) (new := fun (v : Int) => []) (xs := [.tmp 6, .tmp 7]) (vs := [.pointer (some ⟨rp, 0, none⟩), .slice (some ⟨p7, 0, none⟩) 4 4]) ([(p7, .cells #[.int .i64 (-1), .int .i64 8, .int .i64 7, .int .i64 9223372036854775807] 3 (0, 0))] : List (Nat × Obj)) rfl rfl rfl rfl Tryd.call110 rfl (fun w1 hw1 => (num_ok B w0 (([(p7, .cells #[.int .i64 (-1), .int .i64 8, .int .i64 7, .int .i64 9223372036854775807] 3 (0, 0))] : List (Nat × Obj)) ++ hs) rp p_4 bv L (.slice (some ⟨p7, 0, none⟩) 4 4) ([-1, 8, 7, 9223372036854775807]) w1 (fun w2 hw2 => hb w2 (Own.drop (f := ([(p7, .cells #[.int .i64 (-1), .int .i64 8, .int .i64 7, .int .i64 9223372036854775807] 3 (0, 0))] : List (Nat × Obj))) hw2)) hL8 hL (fun w2 h2 => (Own.row h2 (i := 0) rfl (n := 4) (cap := 4) (vs := ints [-1, 8, 7, 9223372036854775807]) rfl rfl (by decide))) (by simp) (by omega) hw1).mono fun en w' ⟨v', p', h1, h2, h3⟩ => ⟨v', p', h1, h2, h3⟩) fun v8 p_8 hKp_8 => ?_
  show Ll _ _ (Own _ _ ((p7, .cells #[.int .i64 (-1), .int .i64 8, .int .i64 7, .int .i64 9223372036854775807] 3 (0, 0)) :: (rp, .cells #[bv, .int .i64 ((p_8 : Int))] 106 (0, 0)) :: hs)) _ _ ((8, .int .i64 v8) :: _) _ _ _
  obtain ⟨hmv8, hep_8⟩ := hKp_8
  have hvv8 : -1 ≤ v8 ∧ v8 ≤ 9223372036854775807 := by simp at hmv8; omega
  refine Ll.op rfl rfl rfl (OpQ.assign rfl rfl) ?_
  refine Ll.nil ?_
  refine Kt.onSub (e' := [(2, .int .i64 v8)]) (Sub.cons rfl Sub.nil) ?_
  refine Wk.ret (Kt.end1 rfl rfl fun w' hw => ?_)
  -- ret 0: .int .i64 v8
  exact ⟨_, p_8, rfl, ⟨⟨by first | omega | (simp at *; omega), by first | omega | (simp at *; omega)⟩, by omega⟩, hw.sub (List.Sublist.cons _ (List.Sublist.cons_cons _ (List.Sublist.refl _)))⟩
 ·
  replace h5 := of_decide_eq_false h5
  refine Wk.skip ?_
  refine Kt.onSub (e' := [(0, .pointer (some ⟨rp, 0, none⟩))]) (Sub.cons rfl Sub.nil) ?_
  refine Wk.seq ?_
  refine Wk.region ?_
  refine Ll.op rfl rfl rfl (OpQ.move rfl rfl) ?_
  refine Ll.callRd (rp := rp) (RT := 106) (p := p_4) (bv := bv) (hs := hs) (ok := fun (k : Int) p' => 0 ≤ k ∧ (1 ≤ (4 : Int) → k < 4) ∧ p' = p_4 + 1) (v := fun (k : Int) => .int .i64 k) (new := fun (k : Int) => []) (xs := [.tmp 9, .const (.int .i64 4)]) (vs := [.pointer (some ⟨rp, 0, none⟩), .int .i64 4]) ([] : List (Nat × Obj)) rfl rfl rfl rfl Tryd.call113 rfl (fun w1 hw1 => (pick_ok B w0 (([] : List (Nat × Obj)) ++ hs) rp p_4 bv L 4 w1 (fun w2 hw2 => hb w2 (Own.drop (f := ([] : List (Nat × Obj))) hw2)) hL8 hL (by omega) hw1).mono fun en w' ⟨k', p', h1, h2, h3⟩ => ⟨k', p', h1, h2, h3⟩) fun k10 p_10 hKp_10 => ?_
  show Ll _ _ (Own _ _ ((rp, .cells #[bv, .int .i64 ((p_10 : Int))] 106 (0, 0)) :: hs)) _ _ ((10, .int .i64 k10) :: _) _ _ _
  obtain ⟨h0k10, h1k10, hep_10⟩ := hKp_10
  try have hltk10 := h1k10 (by first | omega | (split <;> omega) | decide)
  refine Ll.op rfl rfl rfl (OpQ.assign rfl rfl) ?_
  refine Ll.nil ?_
  refine Kt.onSub (e' := [(2, .int .i64 k10)]) (Sub.cons rfl Sub.nil) ?_
  refine Wk.ret (Kt.end1 rfl rfl fun w' hw => ?_)
  -- ret 1: .int .i64 k10
  exact ⟨_, p_10, rfl, ⟨⟨by first | omega | (simp at *; omega), by first | omega | (simp at *; omega)⟩, by omega⟩, hw.sub (List.Sublist.cons_cons _ (List.Sublist.refl _))⟩

set_option maxHeartbeats 400000 in
/-- spec.l4Some -/
theorem l4Some_ok (B : Nat) (w0 : World) (hs : List (Nat × Obj)) (rp p : Nat) (bv : Value) (L : List Int) (a : St) (n : Int) (w : World) (hb : ∀ w, Own B w0 hs w → Row w bv (u8s L)) (hL8 : Bytes8 L) (hL : L.length ≤ 2000) (hn0 : 0 ≤ n) (hn8 : n ≤ 8) (hp : p ≤ 900000) (hw : Own B w0 ((rp, .cells #[bv, .int .i64 (p : Int)] 106 (0, 0)) :: hs) w) :
    Calls Tryd.prog 111 [.pointer (some ⟨rp, 0, none⟩), vS a, .int .i64 n].toArray w fun en w' => ∃ g : Nat, ∃ c : Nat, ∃ u : Array Value, ∃ xs : List Int, ∃ p' : Nat, en = .returned (.slice (some ⟨g, 0, none⟩) xs.length c) ∧ ((u.size = c * 1 ∧ xs.length ≤ c ∧ u.toList.take xs.length = ints xs) ∧ xs.length = n.toNat ∧ p' ≤ p + 10) ∧ Own B w0 ([(g, .cells u 3 (0, 0))] ++ ((rp, .cells #[bv, .int .i64 (p' : Int)] 106 (0, 0)) :: hs)) w' := by
 refine fnStartC (Own B w0 ((rp, .cells #[bv, .int .i64 (p : Int)] 106 (0, 0)) :: hs)) (n := 25) (e := [(0, .pointer (some ⟨rp, 0, none⟩)), (1, vS a), (2, .int .i64 n)]) Tryd.func111 rfl rfl rfl rfl Ends.both hw ?_
 refine Wk.seq ?_
 refine Wk.region ?_
 refine Ll.box (v := vS a) rfl rfl rfl rfl rfl fun p4 hp4 => ?_
 show Ll _ _ (Own _ _ ((p4, .cells #[.int .i64 a.n, str a.set, str a.rel] 26 (0, 0)) :: (rp, .cells #[bv, .int .i64 ((p : Int))] 106 (0, 0)) :: hs)) _ _ ((4, .pointer (some ⟨p4, 0, none⟩)) :: _) _ _ _
 refine Ll.op rfl rfl rfl (OpQ.assign rfl rfl) ?_
 refine Ll.nil ?_
 refine Kt.onSub (e' := [(0, .pointer (some ⟨rp, 0, none⟩)), (2, .int .i64 n), (4, .pointer (some ⟨p4, 0, none⟩))]) (Sub.cons rfl (Sub.cons rfl (Sub.cons rfl Sub.nil))) ?_
 refine Wk.seq ?_
 refine Wk.region ?_
 refine Ll.slice (xs := []) (vs := []) Base.elem31 rfl rfl rfl rfl rfl rfl (by decide) rfl fun p9 hp9 => ?_
 refine Ll.op rfl rfl rfl (OpQ.assign rfl rfl) ?_
 refine Ll.nil ?_
 refine Kt.onSub (e' := [(0, .pointer (some ⟨rp, 0, none⟩)), (2, .int .i64 n), (4, .pointer (some ⟨p4, 0, none⟩)), (7, .slice (some ⟨p9, 0, none⟩) 0 0)]) (Sub.cons rfl (Sub.cons rfl (Sub.cons rfl (Sub.cons rfl Sub.nil)))) ?_
 refine Wk.seq ?_
 refine Wk.seq ?_
 refine Wk.regionQ ?_
 refine Lq.op rfl rfl rfl (OpQ.assign rfl rfl) ?_
 refine Lq.nil ?_
 refine Kt.onSub (e' := [(0, .pointer (some ⟨rp, 0, none⟩)), (2, .int .i64 n), (4, .pointer (some ⟨p4, 0, none⟩)), (7, .slice (some ⟨p9, 0, none⟩) 0 0), (8, .int .i64 0)]) (Sub.cons rfl (Sub.cons rfl (Sub.cons rfl (Sub.cons rfl (Sub.cons rfl Sub.nil))))) ?_
 refine Wk.block ?_
 refine Wk.loop (σ := Nat × Nat × Nat × Array Value × List Int × Nat) (fun ⟨k, g, c, u, xs, p0⟩ => (k : Int) ≤ n ∧ (u.size = c * 1 ∧ xs.length ≤ c ∧ u.toList.take xs.length = ints xs) ∧ (xs.length = k ∧ ∀ x ∈ xs, 0 ≤ x) ∧ p0 ≤ p + k) (fun ⟨k, g, c, u, xs, p0⟩ => [(0, .pointer (some ⟨rp, 0, none⟩)), (2, .int .i64 n), (4, .pointer (some ⟨p4, 0, none⟩)), (7, .slice (some ⟨g, 0, none⟩) xs.length c), (8, .int .i64 ((k : Int)))]) (fun ⟨k, g, c, u, xs, p0⟩ => Own B w0 ((g, .cells u 3 (0, 0)) :: (p4, .cells #[.int .i64 a.n, str a.set, str a.rel] 26 (0, 0)) :: (rp, .cells #[bv, .int .i64 ((p0 : Int))] 106 (0, 0)) :: hs)) (fun ⟨k, g, c, u, xs, p0⟩ => (n - k).toNat) ((0, p9, 0, #[], [], p)) ⟨by omega, ⟨rfl, Nat.le_refl 0, rfl⟩, ⟨rfl, fun x hx => by cases hx⟩, by omega⟩ (Sub.cons rfl (Sub.cons rfl (Sub.cons rfl (Sub.cons rfl (Sub.cons rfl Sub.nil))))) (fun _ h => h) ?_
 rintro ⟨k, g, c, u, xs, p0⟩ ⟨hk, ⟨hcg, hlg, htg⟩, ⟨hxl, hxr⟩, hp0⟩
 dsimp only
 refine Wk.seq ?_
 refine Wk.seq ?_
 refine Wk.regionQ ?_
 refine Lq.op rfl rfl rfl (OpQ.move rfl rfl) ?_
 refine Lq.op rfl rfl rfl (OpQ.move rfl rfl) ?_
 refine Lq.op (v := .bool (decide (((k : Int)) < n))) rfl rfl rfl (OpQ.lss rfl rfl rfl) ?_
 refine Lq.nil ?_
 refine Kt.onSub (e' := [(0, .pointer (some ⟨rp, 0, none⟩)), (2, .int .i64 n), (4, .pointer (some ⟨p4, 0, none⟩)), (7, .slice (some ⟨g, 0, none⟩) xs.length c), (8, .int .i64 ((k : Int))), (12, .bool (decide (((k : Int)) < n)))]) (Sub.cons rfl (Sub.cons rfl (Sub.cons rfl (Sub.cons rfl (Sub.cons rfl (Sub.cons rfl Sub.nil)))))) ?_
 refine Wk.cond (b := decide (((k : Int)) < n)) rfl (fun h12 => ?_) (fun h12 => ?_)
 ·
  replace h12 := of_decide_eq_true h12
  have hxl8 : xs.length ≤ 8 := by omega
  refine Wk.skip ?_
  refine Kt.onSub (e' := [(0, .pointer (some ⟨rp, 0, none⟩)), (2, .int .i64 n), (4, .pointer (some ⟨p4, 0, none⟩)), (7, .slice (some ⟨g, 0, none⟩) xs.length c), (8, .int .i64 ((k : Int)))]) (Sub.cons rfl (Sub.cons rfl (Sub.cons rfl (Sub.cons rfl (Sub.cons rfl Sub.nil))))) ?_
  refine Wk.seq ?_
  refine Wk.block ?_
  refine Wk.region ?_
  refine Ll.op rfl rfl rfl (OpQ.move rfl rfl) ?_
  refine Ll.op rfl rfl rfl (OpQ.move rfl rfl) ?_
  refine Ll.op (v := .pointer (some ⟨p4, 0, none⟩)) rfl rfl rfl (OpQ.fieldAddr rfl Tryd.runUnderlying26 rfl Tryd.sizeOf3 rfl rfl) ?_
  refine Ll.op (v := .int .i64 a.n) rfl rfl rfl (OpQ.loadOwn 1 rfl Tryd.isAgg3 rfl rfl rfl) ?_
  refine Ll.op (v := .int .i64 (if 8 < a.n then 8 else a.n)) rfl rfl rfl (OpQ.min2 rfl rfl rfl) ?_
  refine Ll.op (v := .int .i64 (if 1 > (if 8 < a.n then 8 else a.n) then 1 else (if 8 < a.n then 8 else a.n))) rfl rfl rfl (OpQ.maxU rfl rfl rfl) ?_
  refine Ll.callRd (rp := rp) (RT := 106) (p := p0) (bv := bv) (hs := hs) (ok := fun (k : Int) p' => 0 ≤ k ∧ (1 ≤ (if 1 > (if 8 < a.n then 8 else a.n) then 1 else (if 8 < a.n then 8 else a.n)) → k < (if 1 > (if 8 < a.n then 8 else a.n) then 1 else (if 8 < a.n then 8 else a.n))) ∧ p' = p0 + 1) (v := fun (k : Int) => .int .i64 k) (new := fun (k : Int) => []) (xs := [.tmp 16, .tmp 20]) (vs := [.pointer (some ⟨rp, 0, none⟩), .int .i64 (if 1 > (if 8 < a.n then 8 else a.n) then 1 else (if 8 < a.n then 8 else a.n))]) ([(g, .cells u 3 (0, 0)), (p4, .cells #[.int .i64 a.n, str a.set, str a.rel] 26 (0, 0))] : List (Nat × Obj)) rfl rfl rfl rfl Tryd.call113 rfl (fun w1 hw1 => (pick_ok B w0 (([(g, .cells u 3 (0, 0)), (p4, .cells #[.int .i64 a.n, str a.set, str a.rel] 26 (0, 0))] : List (Nat × Obj)) ++ hs) rp p0 bv L (if 1 > (if 8 < a.n then 8 else a.n) then 1 else (if 8 < a.n then 8 else a.n)) w1 (fun w2 hw2 => hb w2 (Own.drop (f := ([(g, .cells u 3 (0, 0)), (p4, .cells #[.int .i64 a.n, str a.set, str a.rel] 26 (0, 0))] : List (Nat × Obj))) hw2)) hL8 hL (by omega) hw1).mono fun en w' ⟨k', p', h1, h2, h3⟩ => ⟨k', p', h1, h2, h3⟩) fun k21 p_21 hKp_21 => ?_
  show Ll _ _ (Own _ _ ((g, .cells u 3 (0, 0)) :: (p4, .cells #[.int .i64 a.n, str a.set, str a.rel] 26 (0, 0)) :: (rp, .cells #[bv, .int .i64 ((p_21 : Int))] 106 (0, 0)) :: hs)) _ _ ((21, .int .i64 k21) :: _) _ _ _
  obtain ⟨h0k21, h1k21, hep_21⟩ := hKp_21
  try have hltk21 := h1k21 (by first | omega | (split <;> omega) | decide)
  refine Ll.slice (xs := [.tmp 21]) (vs := [.int .i64 k21]) Base.elem31 rfl rfl rfl rfl rfl rfl (by decide) rfl fun p22 hp22 => ?_
  refine Ll.appendInts (xs := xs) (ys := [k21]) Base.elem31 1 rfl rfl rfl rfl rfl rfl rfl hcg hlg htg (fun w1 hw1 => (Own.row hw1 (i := 0) rfl (n := 1) (cap := 1) (vs := ints [k21]) rfl rfl (by decide))) ((xs ++ ([k21])).length) (by first | (simp; done) | (simp; omega)) (by first | (simp; done) | (simp; omega) | omega) fun p23 cap23 cur23 hp23 hcp23 hlp23 htp23 => ?_
  show Ll _ _ (Own _ _ ((p22, .cells #[.int .i64 k21] 3 (0, 0)) :: (p23, .cells cur23 3 (0, 0)) :: (p4, .cells #[.int .i64 a.n, str a.set, str a.rel] 26 (0, 0)) :: (rp, .cells #[bv, .int .i64 ((p_21 : Int))] 106 (0, 0)) :: hs)) _ _ ((23, .slice (some ⟨p23, 0, none⟩) (((xs ++ ([k21])).length)) cap23) :: _) _ _ _
  refine Ll.op rfl rfl rfl (OpQ.assign rfl rfl) ?_
  refine Ll.nil ?_
  refine Kt.onSub (e' := [(0, .pointer (some ⟨rp, 0, none⟩)), (2, .int .i64 n), (4, .pointer (some ⟨p4, 0, none⟩)), (7, .slice (some ⟨p23, 0, none⟩) (((xs ++ ([k21])).length)) cap23), (8, .int .i64 ((k : Int)))]) (Sub.cons rfl (Sub.cons rfl (Sub.cons rfl (Sub.cons rfl (Sub.cons rfl Sub.nil))))) ?_
  refine Wk.regionQ ?_
  refine Lq.op rfl rfl rfl (OpQ.move rfl rfl) ?_
  refine Lq.op (v := .int .i64 (((k : Int)) + (1 : Int))) rfl rfl rfl (OpQ.add rfl rfl rfl (by omega) (by omega)) ?_
  refine Lq.op rfl rfl rfl (OpQ.assign rfl rfl) ?_
  refine Lq.nil ?_
  refine Kt.again ((k + 1, p23, cap23, cur23, xs ++ ([k21]), p_21)) ⟨by omega, ⟨by simpa using hcp23, hlp23, by simpa using (by simpa using htp23)⟩, ⟨by (try dsimp only); simp; omega, fun x hx => by rcases List.mem_append.1 hx with h | h; exact hxr x h; rw [List.mem_singleton.1 h]; omega⟩, by (try dsimp only); omega⟩ (by omega) (Sub.cons rfl (Sub.cons rfl (Sub.cons rfl (Sub.cons rfl (Sub.cons rfl Sub.nil))))) (fun _ h => h.sub (List.Sublist.cons _ (List.Sublist.cons_cons _ (List.Sublist.cons_cons _ (List.Sublist.cons_cons _ (List.Sublist.refl _))))))
 ·
  replace h12 := of_decide_eq_false h12
  refine Wk.exit rfl ?_
  refine Kt.onSub (e' := [(7, .slice (some ⟨g, 0, none⟩) xs.length c)]) (Sub.cons rfl Sub.nil) ?_
  refine Wk.seq ?_
  refine Wk.regionQ ?_
  refine Lq.op rfl rfl rfl (OpQ.move rfl rfl) ?_
  refine Lq.op rfl rfl rfl (OpQ.assign rfl rfl) ?_
  refine Lq.nil ?_
  refine Kt.onSub (e' := [(6, .slice (some ⟨g, 0, none⟩) xs.length c)]) (Sub.cons rfl Sub.nil) ?_
  refine Wk.ret (Kt.end1 rfl rfl fun w' hw => ?_)
  -- ret 0: .slice (some ⟨g, 0, none⟩) xs.length c
  exact ⟨g, c, u, xs, p0, rfl, ⟨⟨by simpa using hcg, hlg, by simpa using htg⟩, by omega, by omega⟩, hw.sub (List.Sublist.cons_cons _ (List.Sublist.cons _ (List.Sublist.cons_cons _ (List.Sublist.refl _))))⟩

set_option maxHeartbeats 400000 in
/-- spec.l1Part -/
theorem part_ok (a : St) (va : Value) (xs : List Int) (w : World) (ha : a.Fine) (hva : Ints w va xs) (hA : a.Els xs) (h8 : xs.length ≤ 8) :
    Calls Tryd.prog 119 [vS a, va].toArray w fun en w' => ∃ b : St, en = .returned (vS b) ∧ (b.n = xs.length ∧ (b.set.length : Int) = xs.length ∧ b.rel.length = xs.length * xs.length) ∧ Below w.heap.size w w' := by
 refine fnStart (n := 50) (e := [(0, vS a), (1, va)]) Tryd.func119 rfl rfl rfl rfl Ends.both ?_
 refine Wk.seq ?_
 refine Wk.region ?_
 refine Ll.box (v := vS a) rfl rfl rfl rfl rfl fun p2 hp2 => ?_
 show Ll _ _ (Own _ _ [(p2, .cells #[.int .i64 a.n, str a.set, str a.rel] 26 (0, 0))]) _ _ ((2, .pointer (some ⟨p2, 0, none⟩)) :: _) _ _ _
 refine Ll.alloc rfl rfl rfl rfl Tryd.zeroValue26 fun p4 hp4 => ?_
 show Ll _ _ (Own _ _ [(p4, .cells #[.int .i64 0, str ([]), str ([])] 26 (0, 0)), (p2, .cells #[.int .i64 a.n, str a.set, str a.rel] 26 (0, 0))]) _ _ ((4, .pointer (some ⟨p4, 0, none⟩)) :: _) _ _ _
 refine Ll.nil ?_
 refine Kt.onSub (e' := [(1, va), (2, .pointer (some ⟨p2, 0, none⟩)), (4, .pointer (some ⟨p4, 0, none⟩))]) (Sub.cons rfl (Sub.cons rfl (Sub.cons rfl Sub.nil))) ?_
 refine Wk.seq ?_
 refine Wk.region ?_
 refine Ll.op rfl rfl rfl (OpQ.move rfl rfl) ?_
 refine Ll.op (v := .int .i64 ((xs.length : Int))) rfl rfl rfl (OpQ.lenRow rfl Tryd.runUnderlying31 rfl (ints_length _) (fun w1 hw1 => Row.own hva hw1)) ?_
 refine Ll.op (v := .agg #[.int .i64 ((xs.length : Int)), str ([]), str ([])]) rfl rfl rfl (OpQ.build (xs := [.tmp 9]) (vs := [.int .i64 ((xs.length : Int))]) rfl rfl (by kernel_rfl)) ?_
 refine Ll.alloc rfl rfl rfl rfl Tryd.zeroValue26 fun p5 hp5 => ?_
 show Ll _ _ (Own _ _ [(p5, .cells #[.int .i64 0, str ([]), str ([])] 26 (0, 0)), (p4, .cells #[.int .i64 0, str ([]), str ([])] 26 (0, 0)), (p2, .cells #[.int .i64 a.n, str a.set, str a.rel] 26 (0, 0))]) _ _ ((5, .pointer (some ⟨p5, 0, none⟩)) :: _) _ _ _
 refine Ll.storeBox (cs' := #[.int .i64 ((xs.length : Int)), str ([]), str ([])]) (hs' := [(p5, .cells #[.int .i64 ((xs.length : Int)), str ([]), str ([])] 26 (0, 0)), (p4, .cells #[.int .i64 0, str ([]), str ([])] 26 (0, 0)), (p2, .cells #[.int .i64 a.n, str a.set, str a.rel] 26 (0, 0))]) 0 rfl rfl rfl rfl rfl (by kernel_rfl : _ = some Tryd.t26) rfl rfl rfl rfl rfl ?_
 refine Ll.nil ?_
 refine Kt.onSub (e' := [(1, va), (2, .pointer (some ⟨p2, 0, none⟩)), (4, .pointer (some ⟨p4, 0, none⟩)), (5, .pointer (some ⟨p5, 0, none⟩))]) (Sub.cons rfl (Sub.cons rfl (Sub.cons rfl (Sub.cons rfl Sub.nil)))) ?_
 refine Wk.seq ?_
 refine Wk.seq ?_
 refine Wk.regionQ ?_
 refine Lq.op rfl rfl rfl (OpQ.assign rfl rfl) ?_
 refine Lq.nil ?_
 refine Kt.onSub (e' := [(1, va), (2, .pointer (some ⟨p2, 0, none⟩)), (4, .pointer (some ⟨p4, 0, none⟩)), (5, .pointer (some ⟨p5, 0, none⟩)), (6, .int .i64 0)]) (Sub.cons rfl (Sub.cons rfl (Sub.cons rfl (Sub.cons rfl (Sub.cons rfl Sub.nil))))) ?_
 refine Wk.block ?_
 refine Wk.loop (σ := Nat × List UInt8 × List UInt8) (fun ⟨k, S, R⟩ => k ≤ xs.length ∧ S.length = k ∧ R.length = k * xs.length) (fun ⟨k, S, R⟩ => [(1, va), (2, .pointer (some ⟨p2, 0, none⟩)), (4, .pointer (some ⟨p4, 0, none⟩)), (5, .pointer (some ⟨p5, 0, none⟩)), (6, .int .i64 ((k : Int)))]) (fun ⟨k, S, R⟩ => Own w.heap.size w [(p5, .cells #[.int .i64 ((xs.length : Int)), str S, str R] 26 (0, 0)), (p4, .cells #[.int .i64 0, str ([]), str ([])] 26 (0, 0)), (p2, .cells #[.int .i64 a.n, str a.set, str a.rel] 26 (0, 0))]) (fun ⟨k, S, R⟩ => xs.length - k) ((0, [], [])) ⟨by omega, rfl, by simp⟩ (Sub.cons rfl (Sub.cons rfl (Sub.cons rfl (Sub.cons rfl (Sub.cons rfl Sub.nil))))) (fun _ h => h) ?_
 rintro ⟨k, S, R⟩ ⟨hk, hS, hR⟩
 dsimp only
 have hkn : k * xs.length ≤ 8 * 8 := Nat.mul_le_mul (by omega) (by omega)
 refine Wk.seq ?_
 refine Wk.seq ?_
 refine Wk.regionQ ?_
 refine Lq.op rfl rfl rfl (OpQ.move rfl rfl) ?_
 refine Lq.op rfl rfl rfl (OpQ.move rfl rfl) ?_
 refine Lq.op (v := .int .i64 ((xs.length : Int))) rfl rfl rfl (OpQ.lenRow rfl Tryd.runUnderlying31 rfl (ints_length _) (fun w1 hw1 => Row.own hva hw1)) ?_
 refine Lq.op (v := .bool (decide (((k : Int)) < ((xs.length : Int))))) rfl rfl rfl (OpQ.lss rfl rfl rfl) ?_
 refine Lq.nil ?_
 refine Kt.onSub (e' := [(1, va), (2, .pointer (some ⟨p2, 0, none⟩)), (4, .pointer (some ⟨p4, 0, none⟩)), (5, .pointer (some ⟨p5, 0, none⟩)), (6, .int .i64 ((k : Int))), (14, .bool (decide (((k : Int)) < ((xs.length : Int)))))]) (Sub.cons rfl (Sub.cons rfl (Sub.cons rfl (Sub.cons rfl (Sub.cons rfl (Sub.cons rfl Sub.nil)))))) ?_
 refine Wk.cond (b := decide (((k : Int)) < ((xs.length : Int)))) rfl (fun h14 => ?_) (fun h14 => ?_)
 ·
  replace h14 := of_decide_eq_true h14
  refine Wk.skip ?_
  refine Kt.onSub (e' := [(1, va), (2, .pointer (some ⟨p2, 0, none⟩)), (4, .pointer (some ⟨p4, 0, none⟩)), (5, .pointer (some ⟨p5, 0, none⟩)), (6, .int .i64 ((k : Int)))]) (Sub.cons rfl (Sub.cons rfl (Sub.cons rfl (Sub.cons rfl (Sub.cons rfl Sub.nil))))) ?_
  refine Wk.seq ?_
  refine Wk.block ?_
  refine Wk.seq ?_
  refine Wk.regionU (S := Own w.heap.size w [(p4, .cells #[.int .i64 0, str ([]), str ([])] 26 (0, 0)), (p2, .cells #[.int .i64 a.n, str a.set, str a.rel] 26 (0, 0))]) (.take 0 (.take 2 (.take 3 (.take 4 (.take 5 (.take 6 (.two 1 (.one 7 (.one 8 (.take 9 (.take 10 (.one 11 .done))))) 7 (.two 1 (.one 8 (.take 9 (.take 10 (.one 11 .done)))) 8 (.one 1 (.take 9 (.take 10 (.one 11 .done)))))))))))) Base.mixed (fun _ h => h.drawn) (by kernel_rfl) ?_
  refine Lu.take (v := .pointer (some ⟨p5, 1, none⟩)) rfl rfl rfl rfl rfl (OpQ.fieldAddr rfl Tryd.runUnderlying26 rfl Tryd.sizeOf9 rfl rfl) (fun _ h => h.tail) ?_
  refine Lu.take (v := vS a) rfl rfl rfl rfl rfl (OpQ.loadBox (cs := #[.int .i64 a.n, str a.set, str a.rel]) 1 rfl Tryd.isAgg26 rfl rfl Tryd.sizeOf26) (fun _ h => h.tail) ?_
  refine Lu.take rfl rfl rfl rfl rfl (OpQ.move rfl rfl) (fun _ h => h.tail) ?_
  refine Lu.take rfl rfl rfl rfl rfl (OpQ.move rfl rfl) (fun _ h => h.tail) ?_
  refine Lu.take (v := .pointer (some (sAt va ((k : Int))))) rfl rfl rfl rfl rfl (OpQ.atRow rfl Tryd.runUnderlying31 Tryd.sizeOf3 rfl rfl (by omega) (by rw [ints_length]; omega) (fun w1 hw1 => Row.own hva hw1)) (fun _ h => h.tail) ?_
  refine Lu.take (v := .int .i64 (xs.getD (((k : Int)).toNat) 0)) rfl rfl rfl rfl rfl (OpQ.load1 rfl Tryd.isAgg3 rfl (fun w1 hw1 => Ints.cell (Row.own hva hw1) (by omega) (by omega))) (fun _ h => h.tail) ?_
  refine Lu.two rfl rfl ?_ ?_
  ·
   refine Ll.op (v := str S) rfl rfl rfl (OpQ.loadOwn 0 rfl Tryd.isAgg9 rfl rfl rfl) ?_
   refine Ll.nil (Lu.joint (fun _ h => h.tail) ?_)
   refine Lu.loud rfl ?_
   refine Ll.op (v := .bool (a.inSet (xs.getD (((k : Int)).toNat) 0))) rfl rfl rfl (OpQ.call rfl Tryd.call117 rfl Own.stable (fun w1 hw1 => l1Set_ok a (xs.getD (((k : Int)).toNat) 0) w1 ha (by first | assumption | exact St.Els.at (by assumption) (by omega) (by omega)))) ?_
   refine Ll.nil (Lu.joint (fun _ h => h.tail) ?_)
   refine Lu.loud rfl ?_
   refine Ll.op (v := str ((if a.inSet (xs.getD (((k : Int)).toNat) 0) then [49] else [48]))) rfl rfl rfl (OpQ.call rfl Tryd.call97 rfl Own.stable (fun w1 hw1 => bitD_ok (a.inSet (xs.getD (((k : Int)).toNat) 0)) w1 )) ?_
   refine Ll.nil (Lu.joint (fun _ h => h.tail) ?_)
   refine Lu.take (v := str (S ++ ((if a.inSet (xs.getD (((k : Int)).toNat) 0) then [49] else [48])))) rfl rfl rfl rfl rfl (OpQ.sadd rfl rfl rfl (by first | (rw [bit_len]; omega) | omega)) (fun _ h => h.tail) ?_
   refine Lu.take (v := .pointer (some ⟨p5, 1, none⟩)) rfl rfl rfl rfl rfl (OpQ.fieldAddr rfl Tryd.runUnderlying26 rfl Tryd.sizeOf9 rfl rfl) (fun _ h => h.tail) ?_
   refine Lu.loud rfl ?_
   refine Ll.store1 (v := str (S ++ ((if a.inSet (xs.getD (((k : Int)).toNat) 0) then [49] else [48])))) (hs' := [(p5, .cells #[.int .i64 ((xs.length : Int)), str (S ++ ((if a.inSet (xs.getD (((k : Int)).toNat) 0) then [49] else [48]))), str R] 26 (0, 0)), (p4, .cells #[.int .i64 0, str ([]), str ([])] 26 (0, 0)), (p2, .cells #[.int .i64 a.n, str a.set, str a.rel] 26 (0, 0))]) 0 rfl rfl rfl rfl rfl rfl Tryd.sizeOf9 rfl (by simp) rfl ?_
   refine Ll.nil (Lu.joint (fun _ h => h.tail) ?_)
   refine Lu.nil ?_
   refine Kt.onSub (e' := [(1, va), (2, .pointer (some ⟨p2, 0, none⟩)), (4, .pointer (some ⟨p4, 0, none⟩)), (5, .pointer (some ⟨p5, 0, none⟩)), (6, .int .i64 ((k : Int)))]) (Sub.cons rfl (Sub.cons rfl (Sub.cons rfl (Sub.cons rfl (Sub.cons rfl Sub.nil))))) ?_
   refine Wk.seq ?_
   refine Wk.regionQ ?_
   refine Lq.op rfl rfl rfl (OpQ.assign rfl rfl) ?_
   refine Lq.nil ?_
   refine Kt.onSub (e' := [(1, va), (2, .pointer (some ⟨p2, 0, none⟩)), (4, .pointer (some ⟨p4, 0, none⟩)), (5, .pointer (some ⟨p5, 0, none⟩)), (6, .int .i64 ((k : Int))), (7, .int .i64 0)]) (Sub.cons rfl (Sub.cons rfl (Sub.cons rfl (Sub.cons rfl (Sub.cons rfl (Sub.cons rfl Sub.nil)))))) ?_
   refine Wk.block ?_
   refine Wk.loop (σ := Nat × List UInt8) (fun ⟨j, R1⟩ => j ≤ xs.length ∧ R1.length = k * xs.length + j) (fun ⟨j, R1⟩ => [(1, va), (2, .pointer (some ⟨p2, 0, none⟩)), (4, .pointer (some ⟨p4, 0, none⟩)), (5, .pointer (some ⟨p5, 0, none⟩)), (6, .int .i64 ((k : Int))), (7, .int .i64 ((j : Int)))]) (fun ⟨j, R1⟩ => Own w.heap.size w [(p5, .cells #[.int .i64 ((xs.length : Int)), str (S ++ ((if a.inSet (xs.getD (((k : Int)).toNat) 0) then [49] else [48]))), str R1] 26 (0, 0)), (p4, .cells #[.int .i64 0, str ([]), str ([])] 26 (0, 0)), (p2, .cells #[.int .i64 a.n, str a.set, str a.rel] 26 (0, 0))]) (fun ⟨j, R1⟩ => xs.length - j) ((0, R)) ⟨by omega, by omega⟩ (Sub.cons rfl (Sub.cons rfl (Sub.cons rfl (Sub.cons rfl (Sub.cons rfl (Sub.cons rfl Sub.nil)))))) (fun _ h => h) ?_
   rintro ⟨j, R1⟩ ⟨hj, hR1⟩
   dsimp only
   refine Wk.seq ?_
   refine Wk.seq ?_
   refine Wk.regionQ ?_
   refine Lq.op rfl rfl rfl (OpQ.move rfl rfl) ?_
   refine Lq.op rfl rfl rfl (OpQ.move rfl rfl) ?_
   refine Lq.op (v := .int .i64 ((xs.length : Int))) rfl rfl rfl (OpQ.lenRow rfl Tryd.runUnderlying31 rfl (ints_length _) (fun w1 hw1 => Row.own hva hw1)) ?_
   refine Lq.op (v := .bool (decide (((j : Int)) < ((xs.length : Int))))) rfl rfl rfl (OpQ.lss rfl rfl rfl) ?_
   refine Lq.nil ?_
   refine Kt.onSub (e' := [(1, va), (2, .pointer (some ⟨p2, 0, none⟩)), (4, .pointer (some ⟨p4, 0, none⟩)), (5, .pointer (some ⟨p5, 0, none⟩)), (6, .int .i64 ((k : Int))), (7, .int .i64 ((j : Int))), (31, .bool (decide (((j : Int)) < ((xs.length : Int)))))]) (Sub.cons rfl (Sub.cons rfl (Sub.cons rfl (Sub.cons rfl (Sub.cons rfl (Sub.cons rfl (Sub.cons rfl Sub.nil))))))) ?_
   refine Wk.cond (b := decide (((j : Int)) < ((xs.length : Int)))) rfl (fun h31 => ?_) (fun h31 => ?_)
   ·
    replace h31 := of_decide_eq_true h31
    refine Wk.skip ?_
    refine Kt.onSub (e' := [(1, va), (2, .pointer (some ⟨p2, 0, none⟩)), (4, .pointer (some ⟨p4, 0, none⟩)), (5, .pointer (some ⟨p5, 0, none⟩)), (6, .int .i64 ((k : Int))), (7, .int .i64 ((j : Int)))]) (Sub.cons rfl (Sub.cons rfl (Sub.cons rfl (Sub.cons rfl (Sub.cons rfl (Sub.cons rfl Sub.nil)))))) ?_
    refine Wk.seq ?_
    refine Wk.block ?_
    refine Wk.regionU (S := Own w.heap.size w [(p4, .cells #[.int .i64 0, str ([]), str ([])] 26 (0, 0)), (p2, .cells #[.int .i64 a.n, str a.set, str a.rel] 26 (0, 0))]) (.take 0 (.take 2 (.take 3 (.take 4 (.take 5 (.take 6 (.take 7 (.take 8 (.take 9 (.take 10 (.two 1 (.one 11 (.one 12 (.take 13 (.take 14 (.one 15 .done))))) 11 (.two 1 (.one 12 (.take 13 (.take 14 (.one 15 .done)))) 12 (.one 1 (.take 13 (.take 14 (.one 15 .done)))))))))))))))) Base.mixed (fun _ h => h.drawn) (by kernel_rfl) ?_
    refine Lu.take (v := .pointer (some ⟨p5, 2, none⟩)) rfl rfl rfl rfl rfl (OpQ.fieldAddr rfl Tryd.runUnderlying26 rfl Tryd.sizeOf9 rfl rfl) (fun _ h => h.tail) ?_
    refine Lu.take (v := vS a) rfl rfl rfl rfl rfl (OpQ.loadBox (cs := #[.int .i64 a.n, str a.set, str a.rel]) 1 rfl Tryd.isAgg26 rfl rfl Tryd.sizeOf26) (fun _ h => h.tail) ?_
    refine Lu.take rfl rfl rfl rfl rfl (OpQ.move rfl rfl) (fun _ h => h.tail) ?_
    refine Lu.take rfl rfl rfl rfl rfl (OpQ.move rfl rfl) (fun _ h => h.tail) ?_
    refine Lu.take (v := .pointer (some (sAt va ((k : Int))))) rfl rfl rfl rfl rfl (OpQ.atRow rfl Tryd.runUnderlying31 Tryd.sizeOf3 rfl rfl (by omega) (by rw [ints_length]; omega) (fun w1 hw1 => Row.own hva hw1)) (fun _ h => h.tail) ?_
    refine Lu.take (v := .int .i64 (xs.getD (((k : Int)).toNat) 0)) rfl rfl rfl rfl rfl (OpQ.load1 rfl Tryd.isAgg3 rfl (fun w1 hw1 => Ints.cell (Row.own hva hw1) (by omega) (by omega))) (fun _ h => h.tail) ?_
    refine Lu.take rfl rfl rfl rfl rfl (OpQ.move rfl rfl) (fun _ h => h.tail) ?_
    refine Lu.take rfl rfl rfl rfl rfl (OpQ.move rfl rfl) (fun _ h => h.tail) ?_
    refine Lu.take (v := .pointer (some (sAt va ((j : Int))))) rfl rfl rfl rfl rfl (OpQ.atRow rfl Tryd.runUnderlying31 Tryd.sizeOf3 rfl rfl (by omega) (by rw [ints_length]; omega) (fun w1 hw1 => Row.own hva hw1)) (fun _ h => h.tail) ?_
    refine Lu.take (v := .int .i64 (xs.getD (((j : Int)).toNat) 0)) rfl rfl rfl rfl rfl (OpQ.load1 rfl Tryd.isAgg3 rfl (fun w1 hw1 => Ints.cell (Row.own hva hw1) (by omega) (by omega))) (fun _ h => h.tail) ?_
    refine Lu.two rfl rfl ?_ ?_
    ·
     refine Ll.op (v := str R1) rfl rfl rfl (OpQ.loadOwn 0 rfl Tryd.isAgg9 rfl rfl rfl) ?_
     refine Ll.nil (Lu.joint (fun _ h => h.tail) ?_)
     refine Lu.loud rfl ?_
     refine Ll.op (v := .bool (a.inRel (xs.getD (((k : Int)).toNat) 0) (xs.getD (((j : Int)).toNat) 0))) rfl rfl rfl (OpQ.call rfl Tryd.call118 rfl Own.stable (fun w1 hw1 => l1Rel_ok a (xs.getD (((k : Int)).toNat) 0) (xs.getD (((j : Int)).toNat) 0) w1 ha (by first | assumption | exact St.Els.at (by assumption) (by omega) (by omega)) (by first | assumption | exact St.Els.at (by assumption) (by omega) (by omega)))) ?_
     refine Ll.nil (Lu.joint (fun _ h => h.tail) ?_)
     refine Lu.loud rfl ?_
     refine Ll.op (v := str ((if a.inRel (xs.getD (((k : Int)).toNat) 0) (xs.getD (((j : Int)).toNat) 0) then [49] else [48]))) rfl rfl rfl (OpQ.call rfl Tryd.call97 rfl Own.stable (fun w1 hw1 => bitD_ok (a.inRel (xs.getD (((k : Int)).toNat) 0) (xs.getD (((j : Int)).toNat) 0)) w1 )) ?_
     refine Ll.nil (Lu.joint (fun _ h => h.tail) ?_)
     refine Lu.take (v := str (R1 ++ ((if a.inRel (xs.getD (((k : Int)).toNat) 0) (xs.getD (((j : Int)).toNat) 0) then [49] else [48])))) rfl rfl rfl rfl rfl (OpQ.sadd rfl rfl rfl (by first | (rw [bit_len]; omega) | omega)) (fun _ h => h.tail) ?_
     refine Lu.take (v := .pointer (some ⟨p5, 2, none⟩)) rfl rfl rfl rfl rfl (OpQ.fieldAddr rfl Tryd.runUnderlying26 rfl Tryd.sizeOf9 rfl rfl) (fun _ h => h.tail) ?_
     refine Lu.loud rfl ?_
     refine Ll.store1 (v := str (R1 ++ ((if a.inRel (xs.getD (((k : Int)).toNat) 0) (xs.getD (((j : Int)).toNat) 0) then [49] else [48])))) (hs' := [(p5, .cells #[.int .i64 ((xs.length : Int)), str (S ++ ((if a.inSet (xs.getD (((k : Int)).toNat) 0) then [49] else [48]))), str (R1 ++ ((if a.inRel (xs.getD (((k : Int)).toNat) 0) (xs.getD (((j : Int)).toNat) 0) then [49] else [48])))] 26 (0, 0)), (p4, .cells #[.int .i64 0, str ([]), str ([])] 26 (0, 0)), (p2, .cells #[.int .i64 a.n, str a.set, str a.rel] 26 (0, 0))]) 0 rfl rfl rfl rfl rfl rfl Tryd.sizeOf9 rfl (by simp) rfl ?_
     refine Ll.nil (Lu.joint (fun _ h => h.tail) ?_)
     refine Lu.nil ?_
     refine Kt.onSub (e' := [(1, va), (2, .pointer (some ⟨p2, 0, none⟩)), (4, .pointer (some ⟨p4, 0, none⟩)), (5, .pointer (some ⟨p5, 0, none⟩)), (6, .int .i64 ((k : Int))), (7, .int .i64 ((j : Int)))]) (Sub.cons rfl (Sub.cons rfl (Sub.cons rfl (Sub.cons rfl (Sub.cons rfl (Sub.cons rfl Sub.nil)))))) ?_
     refine Wk.regionQ ?_
     refine Lq.op rfl rfl rfl (OpQ.move rfl rfl) ?_
     refine Lq.op (v := .int .i64 (((j : Int)) + (1 : Int))) rfl rfl rfl (OpQ.add rfl rfl rfl (by omega) (by omega)) ?_
     refine Lq.op rfl rfl rfl (OpQ.assign rfl rfl) ?_
     refine Lq.nil ?_
     refine Kt.again ((j + 1, R1 ++ ((if a.inRel (xs.getD (((k : Int)).toNat) 0) (xs.getD (((j : Int)).toNat) 0) then [49] else [48])))) ⟨by omega, by (try dsimp only); rw [List.length_append, bit_len]; omega⟩ (by omega) (Sub.cons rfl (Sub.cons rfl (Sub.cons rfl (Sub.cons rfl (Sub.cons rfl (Sub.cons rfl Sub.nil)))))) (fun _ h => h)
    ·
     refine Ll.op (v := .bool (a.inRel (xs.getD (((k : Int)).toNat) 0) (xs.getD (((j : Int)).toNat) 0))) rfl rfl rfl (OpQ.call rfl Tryd.call118 rfl Own.stable (fun w1 hw1 => l1Rel_ok a (xs.getD (((k : Int)).toNat) 0) (xs.getD (((j : Int)).toNat) 0) w1 ha (by first | assumption | exact St.Els.at (by assumption) (by omega) (by omega)) (by first | assumption | exact St.Els.at (by assumption) (by omega) (by omega)))) ?_
     refine Ll.nil (Lu.joint (fun _ h => h.tail) ?_)
     refine Lu.two rfl rfl ?_ ?_
     ·
      refine Ll.op (v := str R1) rfl rfl rfl (OpQ.loadOwn 0 rfl Tryd.isAgg9 rfl rfl rfl) ?_
      refine Ll.nil (Lu.joint (fun _ h => h.tail) ?_)
      refine Lu.loud rfl ?_
      refine Ll.op (v := str ((if a.inRel (xs.getD (((k : Int)).toNat) 0) (xs.getD (((j : Int)).toNat) 0) then [49] else [48]))) rfl rfl rfl (OpQ.call rfl Tryd.call97 rfl Own.stable (fun w1 hw1 => bitD_ok (a.inRel (xs.getD (((k : Int)).toNat) 0) (xs.getD (((j : Int)).toNat) 0)) w1 )) ?_
      refine Ll.nil (Lu.joint (fun _ h => h.tail) ?_)
      refine Lu.take (v := str (R1 ++ ((if a.inRel (xs.getD (((k : Int)).toNat) 0) (xs.getD (((j : Int)).toNat) 0) then [49] else [48])))) rfl rfl rfl rfl rfl (OpQ.sadd rfl rfl rfl (by first | (rw [bit_len]; omega) | omega)) (fun _ h => h.tail) ?_
      refine Lu.take (v := .pointer (some ⟨p5, 2, none⟩)) rfl rfl rfl rfl rfl (OpQ.fieldAddr rfl Tryd.runUnderlying26 rfl Tryd.sizeOf9 rfl rfl) (fun _ h => h.tail) ?_
      refine Lu.loud rfl ?_
      refine Ll.store1 (v := str (R1 ++ ((if a.inRel (xs.getD (((k : Int)).toNat) 0) (xs.getD (((j : Int)).toNat) 0) then [49] else [48])))) (hs' := [(p5, .cells #[.int .i64 ((xs.length : Int)), str (S ++ ((if a.inSet (xs.getD (((k : Int)).toNat) 0) then [49] else [48]))), str (R1 ++ ((if a.inRel (xs.getD (((k : Int)).toNat) 0) (xs.getD (((j : Int)).toNat) 0) then [49] else [48])))] 26 (0, 0)), (p4, .cells #[.int .i64 0, str ([]), str ([])] 26 (0, 0)), (p2, .cells #[.int .i64 a.n, str a.set, str a.rel] 26 (0, 0))]) 0 rfl rfl rfl rfl rfl rfl Tryd.sizeOf9 rfl (by simp) rfl ?_
      refine Ll.nil (Lu.joint (fun _ h => h.tail) ?_)
      refine Lu.nil ?_
      refine Kt.onSub (e' := [(1, va), (2, .pointer (some ⟨p2, 0, none⟩)), (4, .pointer (some ⟨p4, 0, none⟩)), (5, .pointer (some ⟨p5, 0, none⟩)), (6, .int .i64 ((k : Int))), (7, .int .i64 ((j : Int)))]) (Sub.cons rfl (Sub.cons rfl (Sub.cons rfl (Sub.cons rfl (Sub.cons rfl (Sub.cons rfl Sub.nil)))))) ?_
      refine Wk.regionQ ?_
      refine Lq.op rfl rfl rfl (OpQ.move rfl rfl) ?_
      refine Lq.op (v := .int .i64 (((j : Int)) + (1 : Int))) rfl rfl rfl (OpQ.add rfl rfl rfl (by omega) (by omega)) ?_
      refine Lq.op rfl rfl rfl (OpQ.assign rfl rfl) ?_
      refine Lq.nil ?_
      refine Kt.again ((j + 1, R1 ++ ((if a.inRel (xs.getD (((k : Int)).toNat) 0) (xs.getD (((j : Int)).toNat) 0) then [49] else [48])))) ⟨by omega, by (try dsimp only); rw [List.length_append, bit_len]; omega⟩ (by omega) (Sub.cons rfl (Sub.cons rfl (Sub.cons rfl (Sub.cons rfl (Sub.cons rfl (Sub.cons rfl Sub.nil)))))) (fun _ h => h)
     ·
      refine Ll.op (v := str ((if a.inRel (xs.getD (((k : Int)).toNat) 0) (xs.getD (((j : Int)).toNat) 0) then [49] else [48]))) rfl rfl rfl (OpQ.call rfl Tryd.call97 rfl Own.stable (fun w1 hw1 => bitD_ok (a.inRel (xs.getD (((k : Int)).toNat) 0) (xs.getD (((j : Int)).toNat) 0)) w1 )) ?_
      refine Ll.nil (Lu.joint (fun _ h => h.tail) ?_)
      refine Lu.loud rfl ?_
      refine Ll.op (v := str R1) rfl rfl rfl (OpQ.loadOwn 0 rfl Tryd.isAgg9 rfl rfl rfl) ?_
      refine Ll.nil (Lu.joint (fun _ h => h.tail) ?_)
      refine Lu.take (v := str (R1 ++ ((if a.inRel (xs.getD (((k : Int)).toNat) 0) (xs.getD (((j : Int)).toNat) 0) then [49] else [48])))) rfl rfl rfl rfl rfl (OpQ.sadd rfl rfl rfl (by first | (rw [bit_len]; omega) | omega)) (fun _ h => h.tail) ?_
      refine Lu.take (v := .pointer (some ⟨p5, 2, none⟩)) rfl rfl rfl rfl rfl (OpQ.fieldAddr rfl Tryd.runUnderlying26 rfl Tryd.sizeOf9 rfl rfl) (fun _ h => h.tail) ?_
      refine Lu.loud rfl ?_
      refine Ll.store1 (v := str (R1 ++ ((if a.inRel (xs.getD (((k : Int)).toNat) 0) (xs.getD (((j : Int)).toNat) 0) then [49] else [48])))) (hs' := [(p5, .cells #[.int .i64 ((xs.length : Int)), str (S ++ ((if a.inSet (xs.getD (((k : Int)).toNat) 0) then [49] else [48]))), str (R1 ++ ((if a.inRel (xs.getD (((k : Int)).toNat) 0) (xs.getD (((j : Int)).toNat) 0) then [49] else [48])))] 26 (0, 0)), (p4, .cells #[.int .i64 0, str ([]), str ([])] 26 (0, 0)), (p2, .cells #[.int .i64 a.n, str a.set, str a.rel] 26 (0, 0))]) 0 rfl rfl rfl rfl rfl rfl Tryd.sizeOf9 rfl (by simp) rfl ?_
      refine Ll.nil (Lu.joint (fun _ h => h.tail) ?_)
      refine Lu.nil ?_
      refine Kt.onSub (e' := [(1, va), (2, .pointer (some ⟨p2, 0, none⟩)), (4, .pointer (some ⟨p4, 0, none⟩)), (5, .pointer (some ⟨p5, 0, none⟩)), (6, .int .i64 ((k : Int))), (7, .int .i64 ((j : Int)))]) (Sub.cons rfl (Sub.cons rfl (Sub.cons rfl (Sub.cons rfl (Sub.cons rfl (Sub.cons rfl Sub.nil)))))) ?_
      refine Wk.regionQ ?_
      refine Lq.op rfl rfl rfl (OpQ.move rfl rfl) ?_
      refine Lq.op (v := .int .i64 (((j : Int)) + (1 : Int))) rfl rfl rfl (OpQ.add rfl rfl rfl (by omega) (by omega)) ?_
      refine Lq.op rfl rfl rfl (OpQ.assign rfl rfl) ?_
      refine Lq.nil ?_
      refine Kt.again ((j + 1, R1 ++ ((if a.inRel (xs.getD (((k : Int)).toNat) 0) (xs.getD (((j : Int)).toNat) 0) then [49] else [48])))) ⟨by omega, by (try dsimp only); rw [List.length_append, bit_len]; omega⟩ (by omega) (Sub.cons rfl (Sub.cons rfl (Sub.cons rfl (Sub.cons rfl (Sub.cons rfl (Sub.cons rfl Sub.nil)))))) (fun _ h => h)
   ·
    replace h31 := of_decide_eq_false h31
    refine Wk.exit rfl ?_
    refine Kt.onSub (e' := [(1, va), (2, .pointer (some ⟨p2, 0, none⟩)), (4, .pointer (some ⟨p4, 0, none⟩)), (5, .pointer (some ⟨p5, 0, none⟩)), (6, .int .i64 ((k : Int)))]) (Sub.cons rfl (Sub.cons rfl (Sub.cons rfl (Sub.cons rfl (Sub.cons rfl Sub.nil))))) ?_
    refine Wk.regionQ ?_
    refine Lq.op rfl rfl rfl (OpQ.move rfl rfl) ?_
    refine Lq.op (v := .int .i64 (((k : Int)) + (1 : Int))) rfl rfl rfl (OpQ.add rfl rfl rfl (by omega) (by omega)) ?_
    refine Lq.op rfl rfl rfl (OpQ.assign rfl rfl) ?_
    refine Lq.nil ?_
    refine Kt.again ((k + 1, S ++ ((if a.inSet (xs.getD (((k : Int)).toNat) 0) then [49] else [48])), R1)) ⟨by omega, by (try dsimp only); rw [List.length_append, bit_len]; omega, by (try dsimp only); rw [Nat.add_mul, Nat.one_mul]; omega⟩ (by omega) (Sub.cons rfl (Sub.cons rfl (Sub.cons rfl (Sub.cons rfl (Sub.cons rfl Sub.nil))))) (fun _ h => h)
  ·
   refine Ll.op (v := .bool (a.inSet (xs.getD (((k : Int)).toNat) 0))) rfl rfl rfl (OpQ.call rfl Tryd.call117 rfl Own.stable (fun w1 hw1 => l1Set_ok a (xs.getD (((k : Int)).toNat) 0) w1 ha (by first | assumption | exact St.Els.at (by assumption) (by omega) (by omega)))) ?_
   refine Ll.nil (Lu.joint (fun _ h => h.tail) ?_)
   refine Lu.two rfl rfl ?_ ?_
   ·
    refine Ll.op (v := str S) rfl rfl rfl (OpQ.loadOwn 0 rfl Tryd.isAgg9 rfl rfl rfl) ?_
    refine Ll.nil (Lu.joint (fun _ h => h.tail) ?_)
    refine Lu.loud rfl ?_
    refine Ll.op (v := str ((if a.inSet (xs.getD (((k : Int)).toNat) 0) then [49] else [48]))) rfl rfl rfl (OpQ.call rfl Tryd.call97 rfl Own.stable (fun w1 hw1 => bitD_ok (a.inSet (xs.getD (((k : Int)).toNat) 0)) w1 )) ?_
    refine Ll.nil (Lu.joint (fun _ h => h.tail) ?_)
    refine Lu.take (v := str (S ++ ((if a.inSet (xs.getD (((k : Int)).toNat) 0) then [49] else [48])))) rfl rfl rfl rfl rfl (OpQ.sadd rfl rfl rfl (by first | (rw [bit_len]; omega) | omega)) (fun _ h => h.tail) ?_
    refine Lu.take (v := .pointer (some ⟨p5, 1, none⟩)) rfl rfl rfl rfl rfl (OpQ.fieldAddr rfl Tryd.runUnderlying26 rfl Tryd.sizeOf9 rfl rfl) (fun _ h => h.tail) ?_
    refine Lu.loud rfl ?_
    refine Ll.store1 (v := str (S ++ ((if a.inSet (xs.getD (((k : Int)).toNat) 0) then [49] else [48])))) (hs' := [(p5, .cells #[.int .i64 ((xs.length : Int)), str (S ++ ((if a.inSet (xs.getD (((k : Int)).toNat) 0) then [49] else [48]))), str R] 26 (0, 0)), (p4, .cells #[.int .i64 0, str ([]), str ([])] 26 (0, 0)), (p2, .cells #[.int .i64 a.n, str a.set, str a.rel] 26 (0, 0))]) 0 rfl rfl rfl rfl rfl rfl Tryd.sizeOf9 rfl (by simp) rfl ?_
    refine Ll.nil (Lu.joint (fun _ h => h.tail) ?_)
    refine Lu.nil ?_
    refine Kt.onSub (e' := [(1, va), (2, .pointer (some ⟨p2, 0, none⟩)), (4, .pointer (some ⟨p4, 0, none⟩)), (5, .pointer (some ⟨p5, 0, none⟩)), (6, .int .i64 ((k : Int)))]) (Sub.cons rfl (Sub.cons rfl (Sub.cons rfl (Sub.cons rfl (Sub.cons rfl Sub.nil))))) ?_
    refine Wk.seq ?_
    refine Wk.regionQ ?_
    refine Lq.op rfl rfl rfl (OpQ.assign rfl rfl) ?_
    refine Lq.nil ?_
    refine Kt.onSub (e' := [(1, va), (2, .pointer (some ⟨p2, 0, none⟩)), (4, .pointer (some ⟨p4, 0, none⟩)), (5, .pointer (some ⟨p5, 0, none⟩)), (6, .int .i64 ((k : Int))), (7, .int .i64 0)]) (Sub.cons rfl (Sub.cons rfl (Sub.cons rfl (Sub.cons rfl (Sub.cons rfl (Sub.cons rfl Sub.nil)))))) ?_
    refine Wk.block ?_
    refine Wk.loop (σ := Nat × List UInt8) (fun ⟨j, R1⟩ => j ≤ xs.length ∧ R1.length = k * xs.length + j) (fun ⟨j, R1⟩ => [(1, va), (2, .pointer (some ⟨p2, 0, none⟩)), (4, .pointer (some ⟨p4, 0, none⟩)), (5, .pointer (some ⟨p5, 0, none⟩)), (6, .int .i64 ((k : Int))), (7, .int .i64 ((j : Int)))]) (fun ⟨j, R1⟩ => Own w.heap.size w [(p5, .cells #[.int .i64 ((xs.length : Int)), str (S ++ ((if a.inSet (xs.getD (((k : Int)).toNat) 0) then [49] else [48]))), str R1] 26 (0, 0)), (p4, .cells #[.int .i64 0, str ([]), str ([])] 26 (0, 0)), (p2, .cells #[.int .i64 a.n, str a.set, str a.rel] 26 (0, 0))]) (fun ⟨j, R1⟩ => xs.length - j) ((0, R)) ⟨by omega, by omega⟩ (Sub.cons rfl (Sub.cons rfl (Sub.cons rfl (Sub.cons rfl (Sub.cons rfl (Sub.cons rfl Sub.nil)))))) (fun _ h => h) ?_
    rintro ⟨j, R1⟩ ⟨hj, hR1⟩
    dsimp only
    refine Wk.seq ?_
    refine Wk.seq ?_
    refine Wk.regionQ ?_
    refine Lq.op rfl rfl rfl (OpQ.move rfl rfl) ?_
    refine Lq.op rfl rfl rfl (OpQ.move rfl rfl) ?_
    refine Lq.op (v := .int .i64 ((xs.length : Int))) rfl rfl rfl (OpQ.lenRow rfl Tryd.runUnderlying31 rfl (ints_length _) (fun w1 hw1 => Row.own hva hw1)) ?_
    refine Lq.op (v := .bool (decide (((j : Int)) < ((xs.length : Int))))) rfl rfl rfl (OpQ.lss rfl rfl rfl) ?_
    refine Lq.nil ?_
    refine Kt.onSub (e' := [(1, va), (2, .pointer (some ⟨p2, 0, none⟩)), (4, .pointer (some ⟨p4, 0, none⟩)), (5, .pointer (some ⟨p5, 0, none⟩)), (6, .int .i64 ((k : Int))), (7, .int .i64 ((j : Int))), (31, .bool (decide (((j : Int)) < ((xs.length : Int)))))]) (Sub.cons rfl (Sub.cons rfl (Sub.cons rfl (Sub.cons rfl (Sub.cons rfl (Sub.cons rfl (Sub.cons rfl Sub.nil))))))) ?_
    refine Wk.cond (b := decide (((j : Int)) < ((xs.length : Int)))) rfl (fun h31_1 => ?_) (fun h31_1 => ?_)
    ·
     replace h31_1 := of_decide_eq_true h31_1
     refine Wk.skip ?_
     refine Kt.onSub (e' := [(1, va), (2, .pointer (some ⟨p2, 0, none⟩)), (4, .pointer (some ⟨p4, 0, none⟩)), (5, .pointer (some ⟨p5, 0, none⟩)), (6, .int .i64 ((k : Int))), (7, .int .i64 ((j : Int)))]) (Sub.cons rfl (Sub.cons rfl (Sub.cons rfl (Sub.cons rfl (Sub.cons rfl (Sub.cons rfl Sub.nil)))))) ?_
     refine Wk.seq ?_
     refine Wk.block ?_
     refine Wk.regionU (S := Own w.heap.size w [(p4, .cells #[.int .i64 0, str ([]), str ([])] 26 (0, 0)), (p2, .cells #[.int .i64 a.n, str a.set, str a.rel] 26 (0, 0))]) (.take 0 (.take 2 (.take 3 (.take 4 (.take 5 (.take 6 (.take 7 (.take 8 (.take 9 (.take 10 (.two 1 (.one 11 (.one 12 (.take 13 (.take 14 (.one 15 .done))))) 11 (.two 1 (.one 12 (.take 13 (.take 14 (.one 15 .done)))) 12 (.one 1 (.take 13 (.take 14 (.one 15 .done)))))))))))))))) Base.mixed (fun _ h => h.drawn) (by kernel_rfl) ?_
     refine Lu.take (v := .pointer (some ⟨p5, 2, none⟩)) rfl rfl rfl rfl rfl (OpQ.fieldAddr rfl Tryd.runUnderlying26 rfl Tryd.sizeOf9 rfl rfl) (fun _ h => h.tail) ?_
     refine Lu.take (v := vS a) rfl rfl rfl rfl rfl (OpQ.loadBox (cs := #[.int .i64 a.n, str a.set, str a.rel]) 1 rfl Tryd.isAgg26 rfl rfl Tryd.sizeOf26) (fun _ h => h.tail) ?_
     refine Lu.take rfl rfl rfl rfl rfl (OpQ.move rfl rfl) (fun _ h => h.tail) ?_
     refine Lu.take rfl rfl rfl rfl rfl (OpQ.move rfl rfl) (fun _ h => h.tail) ?_
     refine Lu.take (v := .pointer (some (sAt va ((k : Int))))) rfl rfl rfl rfl rfl (OpQ.atRow rfl Tryd.runUnderlying31 Tryd.sizeOf3 rfl rfl (by omega) (by rw [ints_length]; omega) (fun w1 hw1 => Row.own hva hw1)) (fun _ h => h.tail) ?_
     refine Lu.take (v := .int .i64 (xs.getD (((k : Int)).toNat) 0)) rfl rfl rfl rfl rfl (OpQ.load1 rfl Tryd.isAgg3 rfl (fun w1 hw1 => Ints.cell (Row.own hva hw1) (by omega) (by omega))) (fun _ h => h.tail) ?_
     refine Lu.take rfl rfl rfl rfl rfl (OpQ.move rfl rfl) (fun _ h => h.tail) ?_
     refine Lu.take rfl rfl rfl rfl rfl (OpQ.move rfl rfl) (fun _ h => h.tail) ?_
     refine Lu.take (v := .pointer (some (sAt va ((j : Int))))) rfl rfl rfl rfl rfl (OpQ.atRow rfl Tryd.runUnderlying31 Tryd.sizeOf3 rfl rfl (by omega) (by rw [ints_length]; omega) (fun w1 hw1 => Row.own hva hw1)) (fun _ h => h.tail) ?_
     refine Lu.take (v := .int .i64 (xs.getD (((j : Int)).toNat) 0)) rfl rfl rfl rfl rfl (OpQ.load1 rfl Tryd.isAgg3 rfl (fun w1 hw1 => Ints.cell (Row.own hva hw1) (by omega) (by omega))) (fun _ h => h.tail) ?_
     refine Lu.two rfl rfl ?_ ?_
     ·
      refine Ll.op (v := str R1) rfl rfl rfl (OpQ.loadOwn 0 rfl Tryd.isAgg9 rfl rfl rfl) ?_
      refine Ll.nil (Lu.joint (fun _ h => h.tail) ?_)
      refine Lu.loud rfl ?_
      refine Ll.op (v := .bool (a.inRel (xs.getD (((k : Int)).toNat) 0) (xs.getD (((j : Int)).toNat) 0))) rfl rfl rfl (OpQ.call rfl Tryd.call118 rfl Own.stable (fun w1 hw1 => l1Rel_ok a (xs.getD (((k : Int)).toNat) 0) (xs.getD (((j : Int)).toNat) 0) w1 ha (by first | assumption | exact St.Els.at (by assumption) (by omega) (by omega)) (by first | assumption | exact St.Els.at (by assumption) (by omega) (by omega)))) ?_
      refine Ll.nil (Lu.joint (fun _ h => h.tail) ?_)
      refine Lu.loud rfl ?_
      refine Ll.op (v := str ((if a.inRel (xs.getD (((k : Int)).toNat) 0) (xs.getD (((j : Int)).toNat) 0) then [49] else [48]))) rfl rfl rfl (OpQ.call rfl Tryd.call97 rfl Own.stable (fun w1 hw1 => bitD_ok (a.inRel (xs.getD (((k : Int)).toNat) 0) (xs.getD (((j : Int)).toNat) 0)) w1 )) ?_
      refine Ll.nil (Lu.joint (fun _ h => h.tail) ?_)
      refine Lu.take (v := str (R1 ++ ((if a.inRel (xs.getD (((k : Int)).toNat) 0) (xs.getD (((j : Int)).toNat) 0) then [49] else [48])))) rfl rfl rfl rfl rfl (OpQ.sadd rfl rfl rfl (by first | (rw [bit_len]; omega) | omega)) (fun _ h => h.tail) ?_
      refine Lu.take (v := .pointer (some ⟨p5, 2, none⟩)) rfl rfl rfl rfl rfl (OpQ.fieldAddr rfl Tryd.runUnderlying26 rfl Tryd.sizeOf9 rfl rfl) (fun _ h => h.tail) ?_
      refine Lu.loud rfl ?_
      refine Ll.store1 (v := str (R1 ++ ((if a.inRel (xs.getD (((k : Int)).toNat) 0) (xs.getD (((j : Int)).toNat) 0) then [49] else [48])))) (hs' := [(p5, .cells #[.int .i64 ((xs.length : Int)), str (S ++ ((if a.inSet (xs.getD (((k : Int)).toNat) 0) then [49] else [48]))), str (R1 ++ ((if a.inRel (xs.getD (((k : Int)).toNat) 0) (xs.getD (((j : Int)).toNat) 0) then [49] else [48])))] 26 (0, 0)), (p4, .cells #[.int .i64 0, str ([]), str ([])] 26 (0, 0)), (p2, .cells #[.int .i64 a.n, str a.set, str a.rel] 26 (0, 0))]) 0 rfl rfl rfl rfl rfl rfl Tryd.sizeOf9 rfl (by simp) rfl ?_
      refine Ll.nil (Lu.joint (fun _ h => h.tail) ?_)
      refine Lu.nil ?_
      refine Kt.onSub (e' := [(1, va), (2, .pointer (some ⟨p2, 0, none⟩)), (4, .pointer (some ⟨p4, 0, none⟩)), (5, .pointer (some ⟨p5, 0, none⟩)), (6, .int .i64 ((k : Int))), (7, .int .i64 ((j : Int)))]) (Sub.cons rfl (Sub.cons rfl (Sub.cons rfl (Sub.cons rfl (Sub.cons rfl (Sub.cons rfl Sub.nil)))))) ?_
      refine Wk.regionQ ?_
      refine Lq.op rfl rfl rfl (OpQ.move rfl rfl) ?_
      refine Lq.op (v := .int .i64 (((j : Int)) + (1 : Int))) rfl rfl rfl (OpQ.add rfl rfl rfl (by omega) (by omega)) ?_
      refine Lq.op rfl rfl rfl (OpQ.assign rfl rfl) ?_
      refine Lq.nil ?_
      refine Kt.again ((j + 1, R1 ++ ((if a.inRel (xs.getD (((k : Int)).toNat) 0) (xs.getD (((j : Int)).toNat) 0) then [49] else [48])))) ⟨by omega, by (try dsimp only); rw [List.length_append, bit_len]; omega⟩ (by omega) (Sub.cons rfl (Sub.cons rfl (Sub.cons rfl (Sub.cons rfl (Sub.cons rfl (Sub.cons rfl Sub.nil)))))) (fun _ h => h)
     ·
      refine Ll.op (v := .bool (a.inRel (xs.getD (((k : Int)).toNat) 0) (xs.getD (((j : Int)).toNat) 0))) rfl rfl rfl (OpQ.call rfl Tryd.call118 rfl Own.stable (fun w1 hw1 => l1Rel_ok a (xs.getD (((k : Int)).toNat) 0) (xs.getD (((j : Int)).toNat) 0) w1 ha (by first | assumption | exact St.Els.at (by assumption) (by omega) (by omega)) (by first | assumption | exact St.Els.at (by assumption) (by omega) (by omega)))) ?_
      refine Ll.nil (Lu.joint (fun _ h => h.tail) ?_)
      refine Lu.two rfl rfl ?_ ?_
      ·
       refine Ll.op (v := str R1) rfl rfl rfl (OpQ.loadOwn 0 rfl Tryd.isAgg9 rfl rfl rfl) ?_
       refine Ll.nil (Lu.joint (fun _ h => h.tail) ?_)
       refine Lu.loud rfl ?_
       refine Ll.op (v := str ((if a.inRel (xs.getD (((k : Int)).toNat) 0) (xs.getD (((j : Int)).toNat) 0) then [49] else [48]))) rfl rfl rfl (OpQ.call rfl Tryd.call97 rfl Own.stable (fun w1 hw1 => bitD_ok (a.inRel (xs.getD (((k : Int)).toNat) 0) (xs.getD (((j : Int)).toNat) 0)) w1 )) ?_
       refine Ll.nil (Lu.joint (fun _ h => h.tail) ?_)
       refine Lu.take (v := str (R1 ++ ((if a.inRel (xs.getD (((k : Int)).toNat) 0) (xs.getD (((j : Int)).toNat) 0) then [49] else [48])))) rfl rfl rfl rfl rfl (OpQ.sadd rfl rfl rfl (by first | (rw [bit_len]; omega) | omega)) (fun _ h => h.tail) ?_
       refine Lu.take (v := .pointer (some ⟨p5, 2, none⟩)) rfl rfl rfl rfl rfl (OpQ.fieldAddr rfl Tryd.runUnderlying26 rfl Tryd.sizeOf9 rfl rfl) (fun _ h => h.tail) ?_
       refine Lu.loud rfl ?_
       refine Ll.store1 (v := str (R1 ++ ((if a.inRel (xs.getD (((k : Int)).toNat) 0) (xs.getD (((j : Int)).toNat) 0) then [49] else [48])))) (hs' := [(p5, .cells #[.int .i64 ((xs.length : Int)), str (S ++ ((if a.inSet (xs.getD (((k : Int)).toNat) 0) then [49] else [48]))), str (R1 ++ ((if a.inRel (xs.getD (((k : Int)).toNat) 0) (xs.getD (((j : Int)).toNat) 0) then [49] else [48])))] 26 (0, 0)), (p4, .cells #[.int .i64 0, str ([]), str ([])] 26 (0, 0)), (p2, .cells #[.int .i64 a.n, str a.set, str a.rel] 26 (0, 0))]) 0 rfl rfl rfl rfl rfl rfl Tryd.sizeOf9 rfl (by simp) rfl ?_
       refine Ll.nil (Lu.joint (fun _ h => h.tail) ?_)
       refine Lu.nil ?_
       refine Kt.onSub (e' := [(1, va), (2, .pointer (some ⟨p2, 0, none⟩)), (4, .pointer (some ⟨p4, 0, none⟩)), (5, .pointer (some ⟨p5, 0, none⟩)), (6, .int .i64 ((k : Int))), (7, .int .i64 ((j : Int)))]) (Sub.cons rfl (Sub.cons rfl (Sub.cons rfl (Sub.cons rfl (Sub.cons rfl (Sub.cons rfl Sub.nil)))))) ?_
       refine Wk.regionQ ?_
       refine Lq.op rfl rfl rfl (OpQ.move rfl rfl) ?_
       refine Lq.op (v := .int .i64 (((j : Int)) + (1 : Int))) rfl rfl rfl (OpQ.add rfl rfl rfl (by omega) (by omega)) ?_
       refine Lq.op rfl rfl rfl (OpQ.assign rfl rfl) ?_
       refine Lq.nil ?_
       refine Kt.again ((j + 1, R1 ++ ((if a.inRel (xs.getD (((k : Int)).toNat) 0) (xs.getD (((j : Int)).toNat) 0) then [49] else [48])))) ⟨by omega, by (try dsimp only); rw [List.length_append, bit_len]; omega⟩ (by omega) (Sub.cons rfl (Sub.cons rfl (Sub.cons rfl (Sub.cons rfl (Sub.cons rfl (Sub.cons rfl Sub.nil)))))) (fun _ h => h)
      ·
       refine Ll.op (v := str ((if a.inRel (xs.getD (((k : Int)).toNat) 0) (xs.getD (((j : Int)).toNat) 0) then [49] else [48]))) rfl rfl rfl (OpQ.call rfl Tryd.call97 rfl Own.stable (fun w1 hw1 => bitD_ok (a.inRel (xs.getD (((k : Int)).toNat) 0) (xs.getD (((j : Int)).toNat) 0)) w1 )) ?_
       refine Ll.nil (Lu.joint (fun _ h => h.tail) ?_)
       refine Lu.loud rfl ?_
       refine Ll.op (v := str R1) rfl rfl rfl (OpQ.loadOwn 0 rfl Tryd.isAgg9 rfl rfl rfl) ?_
       refine Ll.nil (Lu.joint (fun _ h => h.tail) ?_)
       refine Lu.take (v := str (R1 ++ ((if a.inRel (xs.getD (((k : Int)).toNat) 0) (xs.getD (((j : Int)).toNat) 0) then [49] else [48])))) rfl rfl rfl rfl rfl (OpQ.sadd rfl rfl rfl (by first | (rw [bit_len]; omega) | omega)) (fun _ h => h.tail) ?_
       refine Lu.take (v := .pointer (some ⟨p5, 2, none⟩)) rfl rfl rfl rfl rfl (OpQ.fieldAddr rfl Tryd.runUnderlying26 rfl Tryd.sizeOf9 rfl rfl) (fun _ h => h.tail) ?_
       refine Lu.loud rfl ?_
       refine Ll.store1 (v := str (R1 ++ ((if a.inRel (xs.getD (((k : Int)).toNat) 0) (xs.getD (((j : Int)).toNat) 0) then [49] else [48])))) (hs' := [(p5, .cells #[.int .i64 ((xs.length : Int)), str (S ++ ((if a.inSet (xs.getD (((k : Int)).toNat) 0) then [49] else [48]))), str (R1 ++ ((if a.inRel (xs.getD (((k : Int)).toNat) 0) (xs.getD (((j : Int)).toNat) 0) then [49] else [48])))] 26 (0, 0)), (p4, .cells #[.int .i64 0, str ([]), str ([])] 26 (0, 0)), (p2, .cells #[.int .i64 a.n, str a.set, str a.rel] 26 (0, 0))]) 0 rfl rfl rfl rfl rfl rfl Tryd.sizeOf9 rfl (by simp) rfl ?_
       refine Ll.nil (Lu.joint (fun _ h => h.tail) ?_)
       refine Lu.nil ?_
       refine Kt.onSub (e' := [(1, va), (2, .pointer (some ⟨p2, 0, none⟩)), (4, .pointer (some ⟨p4, 0, none⟩)), (5, .pointer (some ⟨p5, 0, none⟩)), (6, .int .i64 ((k : Int))), (7, .int .i64 ((j : Int)))]) (Sub.cons rfl (Sub.cons rfl (Sub.cons rfl (Sub.cons rfl (Sub.cons rfl (Sub.cons rfl Sub.nil)))))) ?_
       refine Wk.regionQ ?_
       refine Lq.op rfl rfl rfl (OpQ.move rfl rfl) ?_
       refine Lq.op (v := .int .i64 (((j : Int)) + (1 : Int))) rfl rfl rfl (OpQ.add rfl rfl rfl (by omega) (by omega)) ?_
       refine Lq.op rfl rfl rfl (OpQ.assign rfl rfl) ?_
       refine Lq.nil ?_
       refine Kt.again ((j + 1, R1 ++ ((if a.inRel (xs.getD (((k : Int)).toNat) 0) (xs.getD (((j : Int)).toNat) 0) then [49] else [48])))) ⟨by omega, by (try dsimp only); rw [List.length_append, bit_len]; omega⟩ (by omega) (Sub.cons rfl (Sub.cons rfl (Sub.cons rfl (Sub.cons rfl (Sub.cons rfl (Sub.cons rfl Sub.nil)))))) (fun _ h => h)
    ·
     replace h31_1 := of_decide_eq_false h31_1
     refine Wk.exit rfl ?_
     refine Kt.onSub (e' := [(1, va), (2, .pointer (some ⟨p2, 0, none⟩)), (4, .pointer (some ⟨p4, 0, none⟩)), (5, .pointer (some ⟨p5, 0, none⟩)), (6, .int .i64 ((k : Int)))]) (Sub.cons rfl (Sub.cons rfl (Sub.cons rfl (Sub.cons rfl (Sub.cons rfl Sub.nil))))) ?_
     refine Wk.regionQ ?_
     refine Lq.op rfl rfl rfl (OpQ.move rfl rfl) ?_
     refine Lq.op (v := .int .i64 (((k : Int)) + (1 : Int))) rfl rfl rfl (OpQ.add rfl rfl rfl (by omega) (by omega)) ?_
     refine Lq.op rfl rfl rfl (OpQ.assign rfl rfl) ?_
     refine Lq.nil ?_
     refine Kt.again ((k + 1, S ++ ((if a.inSet (xs.getD (((k : Int)).toNat) 0) then [49] else [48])), R1)) ⟨by omega, by (try dsimp only); rw [List.length_append, bit_len]; omega, by (try dsimp only); rw [Nat.add_mul, Nat.one_mul]; omega⟩ (by omega) (Sub.cons rfl (Sub.cons rfl (Sub.cons rfl (Sub.cons rfl (Sub.cons rfl Sub.nil))))) (fun _ h => h)
   ·
    refine Ll.op (v := str ((if a.inSet (xs.getD (((k : Int)).toNat) 0) then [49] else [48]))) rfl rfl rfl (OpQ.call rfl Tryd.call97 rfl Own.stable (fun w1 hw1 => bitD_ok (a.inSet (xs.getD (((k : Int)).toNat) 0)) w1 )) ?_
    refine Ll.nil (Lu.joint (fun _ h => h.tail) ?_)
    refine Lu.loud rfl ?_
    refine Ll.op (v := str S) rfl rfl rfl (OpQ.loadOwn 0 rfl Tryd.isAgg9 rfl rfl rfl) ?_
    refine Ll.nil (Lu.joint (fun _ h => h.tail) ?_)
    refine Lu.take (v := str (S ++ ((if a.inSet (xs.getD (((k : Int)).toNat) 0) then [49] else [48])))) rfl rfl rfl rfl rfl (OpQ.sadd rfl rfl rfl (by first | (rw [bit_len]; omega) | omega)) (fun _ h => h.tail) ?_
    refine Lu.take (v := .pointer (some ⟨p5, 1, none⟩)) rfl rfl rfl rfl rfl (OpQ.fieldAddr rfl Tryd.runUnderlying26 rfl Tryd.sizeOf9 rfl rfl) (fun _ h => h.tail) ?_
    refine Lu.loud rfl ?_
    refine Ll.store1 (v := str (S ++ ((if a.inSet (xs.getD (((k : Int)).toNat) 0) then [49] else [48])))) (hs' := [(p5, .cells #[.int .i64 ((xs.length : Int)), str (S ++ ((if a.inSet (xs.getD (((k : Int)).toNat) 0) then [49] else [48]))), str R] 26 (0, 0)), (p4, .cells #[.int .i64 0, str ([]), str ([])] 26 (0, 0)), (p2, .cells #[.int .i64 a.n, str a.set, str a.rel] 26 (0, 0))]) 0 rfl rfl rfl rfl rfl rfl Tryd.sizeOf9 rfl (by simp) rfl ?_
    refine Ll.nil (Lu.joint (fun _ h => h.tail) ?_)
    refine Lu.nil ?_
    refine Kt.onSub (e' := [(1, va), (2, .pointer (some ⟨p2, 0, none⟩)), (4, .pointer (some ⟨p4, 0, none⟩)), (5, .pointer (some ⟨p5, 0, none⟩)), (6, .int .i64 ((k : Int)))]) (Sub.cons rfl (Sub.cons rfl (Sub.cons rfl (Sub.cons rfl (Sub.cons rfl Sub.nil))))) ?_
    refine Wk.seq ?_
    refine Wk.regionQ ?_
    refine Lq.op rfl rfl rfl (OpQ.assign rfl rfl) ?_
    refine Lq.nil ?_
    refine Kt.onSub (e' := [(1, va), (2, .pointer (some ⟨p2, 0, none⟩)), (4, .pointer (some ⟨p4, 0, none⟩)), (5, .pointer (some ⟨p5, 0, none⟩)), (6, .int .i64 ((k : Int))), (7, .int .i64 0)]) (Sub.cons rfl (Sub.cons rfl (Sub.cons rfl (Sub.cons rfl (Sub.cons rfl (Sub.cons rfl Sub.nil)))))) ?_
    refine Wk.block ?_
    refine Wk.loop (σ := Nat × List UInt8) (fun ⟨j, R1⟩ => j ≤ xs.length ∧ R1.length = k * xs.length + j) (fun ⟨j, R1⟩ => [(1, va), (2, .pointer (some ⟨p2, 0, none⟩)), (4, .pointer (some ⟨p4, 0, none⟩)), (5, .pointer (some ⟨p5, 0, none⟩)), (6, .int .i64 ((k : Int))), (7, .int .i64 ((j : Int)))]) (fun ⟨j, R1⟩ => Own w.heap.size w [(p5, .cells #[.int .i64 ((xs.length : Int)), str (S ++ ((if a.inSet (xs.getD (((k : Int)).toNat) 0) then [49] else [48]))), str R1] 26 (0, 0)), (p4, .cells #[.int .i64 0, str ([]), str ([])] 26 (0, 0)), (p2, .cells #[.int .i64 a.n, str a.set, str a.rel] 26 (0, 0))]) (fun ⟨j, R1⟩ => xs.length - j) ((0, R)) ⟨by omega, by omega⟩ (Sub.cons rfl (Sub.cons rfl (Sub.cons rfl (Sub.cons rfl (Sub.cons rfl (Sub.cons rfl Sub.nil)))))) (fun _ h => h) ?_
    rintro ⟨j, R1⟩ ⟨hj, hR1⟩
    dsimp only
    refine Wk.seq ?_
    refine Wk.seq ?_
    refine Wk.regionQ ?_
    refine Lq.op rfl rfl rfl (OpQ.move rfl rfl) ?_
    refine Lq.op rfl rfl rfl (OpQ.move rfl rfl) ?_
    refine Lq.op (v := .int .i64 ((xs.length : Int))) rfl rfl rfl (OpQ.lenRow rfl Tryd.runUnderlying31 rfl (ints_length _) (fun w1 hw1 => Row.own hva hw1)) ?_
    refine Lq.op (v := .bool (decide (((j : Int)) < ((xs.length : Int))))) rfl rfl rfl (OpQ.lss rfl rfl rfl) ?_
    refine Lq.nil ?_
    refine Kt.onSub (e' := [(1, va), (2, .pointer (some ⟨p2, 0, none⟩)), (4, .pointer (some ⟨p4, 0, none⟩)), (5, .pointer (some ⟨p5, 0, none⟩)), (6, .int .i64 ((k : Int))), (7, .int .i64 ((j : Int))), (31, .bool (decide (((j : Int)) < ((xs.length : Int)))))]) (Sub.cons rfl (Sub.cons rfl (Sub.cons rfl (Sub.cons rfl (Sub.cons rfl (Sub.cons rfl (Sub.cons rfl Sub.nil))))))) ?_
    refine Wk.cond (b := decide (((j : Int)) < ((xs.length : Int)))) rfl (fun h31_2 => ?_) (fun h31_2 => ?_)
    ·
     replace h31_2 := of_decide_eq_true h31_2
     refine Wk.skip ?_
     refine Kt.onSub (e' := [(1, va), (2, .pointer (some ⟨p2, 0, none⟩)), (4, .pointer (some ⟨p4, 0, none⟩)), (5, .pointer (some ⟨p5, 0, none⟩)), (6, .int .i64 ((k : Int))), (7, .int .i64 ((j : Int)))]) (Sub.cons rfl (Sub.cons rfl (Sub.cons rfl (Sub.cons rfl (Sub.cons rfl (Sub.cons rfl Sub.nil)))))) ?_
     refine Wk.seq ?_
     refine Wk.block ?_
     refine Wk.regionU (S := Own w.heap.size w [(p4, .cells #[.int .i64 0, str ([]), str ([])] 26 (0, 0)), (p2, .cells #[.int .i64 a.n, str a.set, str a.rel] 26 (0, 0))]) (.take 0 (.take 2 (.take 3 (.take 4 (.take 5 (.take 6 (.take 7 (.take 8 (.take 9 (.take 10 (.two 1 (.one 11 (.one 12 (.take 13 (.take 14 (.one 15 .done))))) 11 (.two 1 (.one 12 (.take 13 (.take 14 (.one 15 .done)))) 12 (.one 1 (.take 13 (.take 14 (.one 15 .done)))))))))))))))) Base.mixed (fun _ h => h.drawn) (by kernel_rfl) ?_
     refine Lu.take (v := .pointer (some ⟨p5, 2, none⟩)) rfl rfl rfl rfl rfl (OpQ.fieldAddr rfl Tryd.runUnderlying26 rfl Tryd.sizeOf9 rfl rfl) (fun _ h => h.tail) ?_
     refine Lu.take (v := vS a) rfl rfl rfl rfl rfl (OpQ.loadBox (cs := #[.int .i64 a.n, str a.set, str a.rel]) 1 rfl Tryd.isAgg26 rfl rfl Tryd.sizeOf26) (fun _ h => h.tail) ?_
     refine Lu.take rfl rfl rfl rfl rfl (OpQ.move rfl rfl) (fun _ h => h.tail) ?_
     refine Lu.take rfl rfl rfl rfl rfl (OpQ.move rfl rfl) (fun _ h => h.tail) ?_
     refine Lu.take (v := .pointer (some (sAt va ((k : Int))))) rfl rfl rfl rfl rfl (OpQ.atRow rfl Tryd.runUnderlying31 Tryd.sizeOf3 rfl rfl (by omega) (by rw [ints_length]; omega) (fun w1 hw1 => Row.own hva hw1)) (fun _ h => h.tail) ?_
     refine Lu.take (v := .int .i64 (xs.getD (((k : Int)).toNat) 0)) rfl rfl rfl rfl rfl (OpQ.load1 rfl Tryd.isAgg3 rfl (fun w1 hw1 => Ints.cell (Row.own hva hw1) (by omega) (by omega))) (fun _ h => h.tail) ?_
     refine Lu.take rfl rfl rfl rfl rfl (OpQ.move rfl rfl) (fun _ h => h.tail) ?_
     refine Lu.take rfl rfl rfl rfl rfl (OpQ.move rfl rfl) (fun _ h => h.tail) ?_
     refine Lu.take (v := .pointer (some (sAt va ((j : Int))))) rfl rfl rfl rfl rfl (OpQ.atRow rfl Tryd.runUnderlying31 Tryd.sizeOf3 rfl rfl (by omega) (by rw [ints_length]; omega) (fun w1 hw1 => Row.own hva hw1)) (fun _ h => h.tail) ?_
     refine Lu.take (v := .int .i64 (xs.getD (((j : Int)).toNat) 0)) rfl rfl rfl rfl rfl (OpQ.load1 rfl Tryd.isAgg3 rfl (fun w1 hw1 => Ints.cell (Row.own hva hw1) (by omega) (by omega))) (fun _ h => h.tail) ?_
     refine Lu.two rfl rfl ?_ ?_
     ·
      refine Ll.op (v := str R1) rfl rfl rfl (OpQ.loadOwn 0 rfl Tryd.isAgg9 rfl rfl rfl) ?_
      refine Ll.nil (Lu.joint (fun _ h => h.tail) ?_)
      refine Lu.loud rfl ?_
      refine Ll.op (v := .bool (a.inRel (xs.getD (((k : Int)).toNat) 0) (xs.getD (((j : Int)).toNat) 0))) rfl rfl rfl (OpQ.call rfl Tryd.call118 rfl Own.stable (fun w1 hw1 => l1Rel_ok a (xs.getD (((k : Int)).toNat) 0) (xs.getD (((j : Int)).toNat) 0) w1 ha (by first | assumption | exact St.Els.at (by assumption) (by omega) (by omega)) (by first | assumption | exact St.Els.at (by assumption) (by omega) (by omega)))) ?_
      refine Ll.nil (Lu.joint (fun _ h => h.tail) ?_)
      refine Lu.loud rfl ?_
      refine Ll.op (v := str ((if a.inRel (xs.getD (((k : Int)).toNat) 0) (xs.getD (((j : Int)).toNat) 0) then [49] else [48]))) rfl rfl rfl (OpQ.call rfl Tryd.call97 rfl Own.stable (fun w1 hw1 => bitD_ok (a.inRel (xs.getD (((k : Int)).toNat) 0) (xs.getD (((j : Int)).toNat) 0)) w1 )) ?_
      refine Ll.nil (Lu.joint (fun _ h => h.tail) ?_)
      refine Lu.take (v := str (R1 ++ ((if a.inRel (xs.getD (((k : Int)).toNat) 0) (xs.getD (((j : Int)).toNat) 0) then [49] else [48])))) rfl rfl rfl rfl rfl (OpQ.sadd rfl rfl rfl (by first | (rw [bit_len]; omega) | omega)) (fun _ h => h.tail) ?_
      refine Lu.take (v := .pointer (some ⟨p5, 2, none⟩)) rfl rfl rfl rfl rfl (OpQ.fieldAddr rfl Tryd.runUnderlying26 rfl Tryd.sizeOf9 rfl rfl) (fun _ h => h.tail) ?_
      refine Lu.loud rfl ?_
      refine Ll.store1 (v := str (R1 ++ ((if a.inRel (xs.getD (((k : Int)).toNat) 0) (xs.getD (((j : Int)).toNat) 0) then [49] else [48])))) (hs' := [(p5, .cells #[.int .i64 ((xs.length : Int)), str (S ++ ((if a.inSet (xs.getD (((k : Int)).toNat) 0) then [49] else [48]))), str (R1 ++ ((if a.inRel (xs.getD (((k : Int)).toNat) 0) (xs.getD (((j : Int)).toNat) 0) then [49] else [48])))] 26 (0, 0)), (p4, .cells #[.int .i64 0, str ([]), str ([])] 26 (0, 0)), (p2, .cells #[.int .i64 a.n, str a.set, str a.rel] 26 (0, 0))]) 0 rfl rfl rfl rfl rfl rfl Tryd.sizeOf9 rfl (by simp) rfl ?_
      refine Ll.nil (Lu.joint (fun _ h => h.tail) ?_)
      refine Lu.nil ?_
      refine Kt.onSub (e' := [(1, va), (2, .pointer (some ⟨p2, 0, none⟩)), (4, .pointer (some ⟨p4, 0, none⟩)), (5, .pointer (some ⟨p5, 0, none⟩)), (6, .int .i64 ((k : Int))), (7, .int .i64 ((j : Int)))]) (Sub.cons rfl (Sub.cons rfl (Sub.cons rfl (Sub.cons rfl (Sub.cons rfl (Sub.cons rfl Sub.nil)))))) ?_
      refine Wk.regionQ ?_
      refine Lq.op rfl rfl rfl (OpQ.move rfl rfl) ?_
      refine Lq.op (v := .int .i64 (((j : Int)) + (1 : Int))) rfl rfl rfl (OpQ.add rfl rfl rfl (by omega) (by omega)) ?_
      refine Lq.op rfl rfl rfl (OpQ.assign rfl rfl) ?_
      refine Lq.nil ?_
      refine Kt.again ((j + 1, R1 ++ ((if a.inRel (xs.getD (((k : Int)).toNat) 0) (xs.getD (((j : Int)).toNat) 0) then [49] else [48])))) ⟨by omega, by (try dsimp only); rw [List.length_append, bit_len]; omega⟩ (by omega) (Sub.cons rfl (Sub.cons rfl (Sub.cons rfl (Sub.cons rfl (Sub.cons rfl (Sub.cons rfl Sub.nil)))))) (fun _ h => h)
     ·
      refine Ll.op (v := .bool (a.inRel (xs.getD (((k : Int)).toNat) 0) (xs.getD (((j : Int)).toNat) 0))) rfl rfl rfl (OpQ.call rfl Tryd.call118 rfl Own.stable (fun w1 hw1 => l1Rel_ok a (xs.getD (((k : Int)).toNat) 0) (xs.getD (((j : Int)).toNat) 0) w1 ha (by first | assumption | exact St.Els.at (by assumption) (by omega) (by omega)) (by first | assumption | exact St.Els.at (by assumption) (by omega) (by omega)))) ?_
      refine Ll.nil (Lu.joint (fun _ h => h.tail) ?_)
      refine Lu.two rfl rfl ?_ ?_
      ·
       refine Ll.op (v := str R1) rfl rfl rfl (OpQ.loadOwn 0 rfl Tryd.isAgg9 rfl rfl rfl) ?_
       refine Ll.nil (Lu.joint (fun _ h => h.tail) ?_)
       refine Lu.loud rfl ?_
       refine Ll.op (v := str ((if a.inRel (xs.getD (((k : Int)).toNat) 0) (xs.getD (((j : Int)).toNat) 0) then [49] else [48]))) rfl rfl rfl (OpQ.call rfl Tryd.call97 rfl Own.stable (fun w1 hw1 => bitD_ok (a.inRel (xs.getD (((k : Int)).toNat) 0) (xs.getD (((j : Int)).toNat) 0)) w1 )) ?_
       refine Ll.nil (Lu.joint (fun _ h => h.tail) ?_)
       refine Lu.take (v := str (R1 ++ ((if a.inRel (xs.getD (((k : Int)).toNat) 0) (xs.getD (((j : Int)).toNat) 0) then [49] else [48])))) rfl rfl rfl rfl rfl (OpQ.sadd rfl rfl rfl (by first | (rw [bit_len]; omega) | omega)) (fun _ h => h.tail) ?_
       refine Lu.take (v := .pointer (some ⟨p5, 2, none⟩)) rfl rfl rfl rfl rfl (OpQ.fieldAddr rfl Tryd.runUnderlying26 rfl Tryd.sizeOf9 rfl rfl) (fun _ h => h.tail) ?_
       refine Lu.loud rfl ?_
       refine Ll.store1 (v := str (R1 ++ ((if a.inRel (xs.getD (((k : Int)).toNat) 0) (xs.getD (((j : Int)).toNat) 0) then [49] else [48])))) (hs' := [(p5, .cells #[.int .i64 ((xs.length : Int)), str (S ++ ((if a.inSet (xs.getD (((k : Int)).toNat) 0) then [49] else [48]))), str (R1 ++ ((if a.inRel (xs.getD (((k : Int)).toNat) 0) (xs.getD (((j : Int)).toNat) 0) then [49] else [48])))] 26 (0, 0)), (p4, .cells #[.int .i64 0, str ([]), str ([])] 26 (0, 0)), (p2, .cells #[.int .i64 a.n, str a.set, str a.rel] 26 (0, 0))]) 0 rfl rfl rfl rfl rfl rfl Tryd.sizeOf9 rfl (by simp) rfl ?_
       refine Ll.nil (Lu.joint (fun _ h => h.tail) ?_)
       refine Lu.nil ?_
       refine Kt.onSub (e' := [(1, va), (2, .pointer (some ⟨p2, 0, none⟩)), (4, .pointer (some ⟨p4, 0, none⟩)), (5, .pointer (some ⟨p5, 0, none⟩)), (6, .int .i64 ((k : Int))), (7, .int .i64 ((j : Int)))]) (Sub.cons rfl (Sub.cons rfl (Sub.cons rfl (Sub.cons rfl (Sub.cons rfl (Sub.cons rfl Sub.nil)))))) ?_
       refine Wk.regionQ ?_
       refine Lq.op rfl rfl rfl (OpQ.move rfl rfl) ?_
       refine Lq.op (v := .int .i64 (((j : Int)) + (1 : Int))) rfl rfl rfl (OpQ.add rfl rfl rfl (by omega) (by omega)) ?_
       refine Lq.op rfl rfl rfl (OpQ.assign rfl rfl) ?_
       refine Lq.nil ?_
       refine Kt.again ((j + 1, R1 ++ ((if a.inRel (xs.getD (((k : Int)).toNat) 0) (xs.getD (((j : Int)).toNat) 0) then [49] else [48])))) ⟨by omega, by (try dsimp only); rw [List.length_append, bit_len]; omega⟩ (by omega) (Sub.cons rfl (Sub.cons rfl (Sub.cons rfl (Sub.cons rfl (Sub.cons rfl (Sub.cons rfl Sub.nil)))))) (fun _ h => h)
      ·
       refine Ll.op (v := str ((if a.inRel (xs.getD (((k : Int)).toNat) 0) (xs.getD (((j : Int)).toNat) 0) then [49] else [48]))) rfl rfl rfl (OpQ.call rfl Tryd.call97 rfl Own.stable (fun w1 hw1 => bitD_ok (a.inRel (xs.getD (((k : Int)).toNat) 0) (xs.getD (((j : Int)).toNat) 0)) w1 )) ?_
       refine Ll.nil (Lu.joint (fun _ h => h.tail) ?_)
       refine Lu.loud rfl ?_
       refine Ll.op (v := str R1) rfl rfl rfl (OpQ.loadOwn 0 rfl Tryd.isAgg9 rfl rfl rfl) ?_
       refine Ll.nil (Lu.joint (fun _ h => h.tail) ?_)
       refine Lu.take (v := str (R1 ++ ((if a.inRel (xs.getD (((k : Int)).toNat) 0) (xs.getD (((j : Int)).toNat) 0) then [49] else [48])))) rfl rfl rfl rfl rfl (OpQ.sadd rfl rfl rfl (by first | (rw [bit_len]; omega) | omega)) (fun _ h => h.tail) ?_
       refine Lu.take (v := .pointer (some ⟨p5, 2, none⟩)) rfl rfl rfl rfl rfl (OpQ.fieldAddr rfl Tryd.runUnderlying26 rfl Tryd.sizeOf9 rfl rfl) (fun _ h => h.tail) ?_
       refine Lu.loud rfl ?_
       refine Ll.store1 (v := str (R1 ++ ((if a.inRel (xs.getD (((k : Int)).toNat) 0) (xs.getD (((j : Int)).toNat) 0) then [49] else [48])))) (hs' := [(p5, .cells #[.int .i64 ((xs.length : Int)), str (S ++ ((if a.inSet (xs.getD (((k : Int)).toNat) 0) then [49] else [48]))), str (R1 ++ ((if a.inRel (xs.getD (((k : Int)).toNat) 0) (xs.getD (((j : Int)).toNat) 0) then [49] else [48])))] 26 (0, 0)), (p4, .cells #[.int .i64 0, str ([]), str ([])] 26 (0, 0)), (p2, .cells #[.int .i64 a.n, str a.set, str a.rel] 26 (0, 0))]) 0 rfl rfl rfl rfl rfl rfl Tryd.sizeOf9 rfl (by simp) rfl ?_
       refine Ll.nil (Lu.joint (fun _ h => h.tail) ?_)
       refine Lu.nil ?_
       refine Kt.onSub (e' := [(1, va), (2, .pointer (some ⟨p2, 0, none⟩)), (4, .pointer (some ⟨p4, 0, none⟩)), (5, .pointer (some ⟨p5, 0, none⟩)), (6, .int .i64 ((k : Int))), (7, .int .i64 ((j : Int)))]) (Sub.cons rfl (Sub.cons rfl (Sub.cons rfl (Sub.cons rfl (Sub.cons rfl (Sub.cons rfl Sub.nil)))))) ?_
       refine Wk.regionQ ?_
       refine Lq.op rfl rfl rfl (OpQ.move rfl rfl) ?_
       refine Lq.op (v := .int .i64 (((j : Int)) + (1 : Int))) rfl rfl rfl (OpQ.add rfl rfl rfl (by omega) (by omega)) ?_
       refine Lq.op rfl rfl rfl (OpQ.assign rfl rfl) ?_
       refine Lq.nil ?_
       refine Kt.again ((j + 1, R1 ++ ((if a.inRel (xs.getD (((k : Int)).toNat) 0) (xs.getD (((j : Int)).toNat) 0) then [49] else [48])))) ⟨by omega, by (try dsimp only); rw [List.length_append, bit_len]; omega⟩ (by omega) (Sub.cons rfl (Sub.cons rfl (Sub.cons rfl (Sub.cons rfl (Sub.cons rfl (Sub.cons rfl Sub.nil)))))) (fun _ h => h)
    ·
     replace h31_2 := of_decide_eq_false h31_2
     refine Wk.exit rfl ?_
     refine Kt.onSub (e' := [(1, va), (2, .pointer (some ⟨p2, 0, none⟩)), (4, .pointer (some ⟨p4, 0, none⟩)), (5, .pointer (some ⟨p5, 0, none⟩)), (6, .int .i64 ((k : Int)))]) (Sub.cons rfl (Sub.cons rfl (Sub.cons rfl (Sub.cons rfl (Sub.cons rfl Sub.nil))))) ?_
     refine Wk.regionQ ?_
     refine Lq.op rfl rfl rfl (OpQ.move rfl rfl) ?_
     refine Lq.op (v := .int .i64 (((k : Int)) + (1 : Int))) rfl rfl rfl (OpQ.add rfl rfl rfl (by omega) (by omega)) ?_
     refine Lq.op rfl rfl rfl (OpQ.assign rfl rfl) ?_
     refine Lq.nil ?_
     refine Kt.again ((k + 1, S ++ ((if a.inSet (xs.getD (((k : Int)).toNat) 0) then [49] else [48])), R1)) ⟨by omega, by (try dsimp only); rw [List.length_append, bit_len]; omega, by (try dsimp only); rw [Nat.add_mul, Nat.one_mul]; omega⟩ (by omega) (Sub.cons rfl (Sub.cons rfl (Sub.cons rfl (Sub.cons rfl (Sub.cons rfl Sub.nil))))) (fun _ h => h)
 ·
  replace h14 := of_decide_eq_false h14
  refine Wk.exit rfl ?_
  refine Kt.onSub (e' := [(4, .pointer (some ⟨p4, 0, none⟩)), (5, .pointer (some ⟨p5, 0, none⟩))]) (Sub.cons rfl (Sub.cons rfl Sub.nil)) ?_
  refine Wk.seq ?_
  refine Wk.region ?_
  refine Ll.op (v := .agg #[.int .i64 ((xs.length : Int)), str S, str R]) rfl rfl rfl (OpQ.loadBox (cs := #[.int .i64 ((xs.length : Int)), str S, str R]) 0 rfl Tryd.isAgg26 rfl rfl Tryd.sizeOf26) ?_
  refine Ll.storeBox (cs' := #[.int .i64 ((xs.length : Int)), str S, str R]) (hs' := [(p5, .cells #[.int .i64 ((xs.length : Int)), str S, str R] 26 (0, 0)), (p4, .cells #[.int .i64 ((xs.length : Int)), str S, str R] 26 (0, 0)), (p2, .cells #[.int .i64 a.n, str a.set, str a.rel] 26 (0, 0))]) 1 rfl rfl rfl rfl rfl (by kernel_rfl : _ = some Tryd.t26) rfl rfl rfl rfl rfl ?_
  refine Ll.nil ?_
  refine Kt.onSub (e' := [(4, .pointer (some ⟨p4, 0, none⟩))]) (Sub.cons rfl Sub.nil) ?_
  refine Wk.ret (Kt.endBox (cs := #[.int .i64 ((xs.length : Int)), str S, str R]) 1 rfl rfl rfl Tryd.isAgg26 Tryd.sizeOf26 fun w' hw => ?_)
  -- ret 0: .pointer (some ⟨p4, 0, none⟩)
  exact ⟨⟨(xs.length : Int), S, R⟩, rfl, ⟨rfl, by dsimp only; omega, by dsimp only; rw [hR, show k = xs.length from by omega]⟩, hw.below⟩

set_option maxHeartbeats 400000 in
/-- spec.l1Bad -/
theorem l1Bad_ok (B : Nat) (w0 : World) (hs : List (Nat × Obj)) (rp p : Nat) (bv : Value) (L : List Int) (a : St) (w : World) (hb : ∀ w, Own B w0 hs w → Row w bv (u8s L)) (hL8 : Bytes8 L) (hL : L.length ≤ 2000) (ha : a.Fine) (hp : p ≤ 800000) (hw : Own B w0 ((rp, .cells #[bv, .int .i64 (p : Int)] 106 (0, 0)) :: hs) w) :
    Calls Tryd.prog 114 [.pointer (some ⟨rp, 0, none⟩), vS a].toArray w fun en w' => ∃ b : St, ∃ p' : Nat, en = .returned (vS b) ∧ (((-9223372036854775808 ≤ b.n ∧ b.n ≤ 9223372036854775807) ∧ b.set.length ≤ 50000 ∧ b.rel.length ≤ 50000) ∧ p' ≤ p + 10) ∧ Own B w0 (((rp, .cells #[bv, .int .i64 (p' : Int)] 106 (0, 0)) :: hs)) w' := by
 refine fnStartC (Own B w0 ((rp, .cells #[bv, .int .i64 (p : Int)] 106 (0, 0)) :: hs)) (n := 42) (e := [(0, .pointer (some ⟨rp, 0, none⟩)), (1, vS a)]) Tryd.func114 rfl rfl rfl rfl Ends.both hw ?_
 have hm8 := ha.hi
 have hm1 := ha.lo
 have hsl := ha.set
 have hrl := ha.rel
 have hq := sq_le hm1 hm8
 have hq1 : 1 ≤ a.n * a.n := sq_one hm1
 refine Wk.seq ?_
 refine Wk.region ?_
 refine Ll.box (v := vS a) rfl rfl rfl rfl rfl fun p3 hp3 => ?_
 show Ll _ _ (Own _ _ ((p3, .cells #[.int .i64 a.n, str a.set, str a.rel] 26 (0, 0)) :: (rp, .cells #[bv, .int .i64 ((p : Int))] 106 (0, 0)) :: hs)) _ _ ((3, .pointer (some ⟨p3, 0, none⟩)) :: _) _ _ _
 refine Ll.alloc rfl rfl rfl rfl Tryd.zeroValue26 fun p4 hp4 => ?_
 show Ll _ _ (Own _ _ ((p4, .cells #[.int .i64 0, str ([]), str ([])] 26 (0, 0)) :: (p3, .cells #[.int .i64 a.n, str a.set, str a.rel] 26 (0, 0)) :: (rp, .cells #[bv, .int .i64 ((p : Int))] 106 (0, 0)) :: hs)) _ _ ((4, .pointer (some ⟨p4, 0, none⟩)) :: _) _ _ _
 refine Ll.nil ?_
 refine Kt.onSub (e' := [(0, .pointer (some ⟨rp, 0, none⟩)), (3, .pointer (some ⟨p3, 0, none⟩)), (4, .pointer (some ⟨p4, 0, none⟩))]) (Sub.cons rfl (Sub.cons rfl (Sub.cons rfl Sub.nil))) ?_
 refine Wk.seq ?_
 refine Wk.seq ?_
 refine Wk.region ?_
 refine Ll.op rfl rfl rfl (OpQ.move rfl rfl) ?_
 refine Ll.callRd (rp := rp) (RT := 106) (p := p) (bv := bv) (hs := hs) (ok := fun (k : Int) p' => 0 ≤ k ∧ (1 ≤ (40 : Int) → k < 40) ∧ p' = p + 1) (v := fun (k : Int) => .int .i64 k) (new := fun (k : Int) => []) (xs := [.tmp 5, .const (.int .i64 40)]) (vs := [.pointer (some ⟨rp, 0, none⟩), .int .i64 40]) ([(p4, .cells #[.int .i64 0, str ([]), str ([])] 26 (0, 0)), (p3, .cells #[.int .i64 a.n, str a.set, str a.rel] 26 (0, 0))] : List (Nat × Obj)) rfl rfl rfl rfl Tryd.call113 rfl (fun w1 hw1 => (pick_ok B w0 (([(p4, .cells #[.int .i64 0, str ([]), str ([])] 26 (0, 0)), (p3, .cells #[.int .i64 a.n, str a.set, str a.rel] 26 (0, 0))] : List (Nat × Obj)) ++ hs) rp p bv L 40 w1 (fun w2 hw2 => hb w2 (Own.drop (f := ([(p4, .cells #[.int .i64 0, str ([]), str ([])] 26 (0, 0)), (p3, .cells #[.int .i64 a.n, str a.set, str a.rel] 26 (0, 0))] : List (Nat × Obj))) hw2)) hL8 hL (by omega) hw1).mono fun en w' ⟨k', p', h1, h2, h3⟩ => ⟨k', p', h1, h2, h3⟩) fun k6 p_6 hKp_6 => ?_
 show Ll _ _ (Own _ _ ((p4, .cells #[.int .i64 0, str ([]), str ([])] 26 (0, 0)) :: (p3, .cells #[.int .i64 a.n, str a.set, str a.rel] 26 (0, 0)) :: (rp, .cells #[bv, .int .i64 ((p_6 : Int))] 106 (0, 0)) :: hs)) _ _ ((6, .int .i64 k6) :: _) _ _ _
 obtain ⟨h0k6, h1k6, hep_6⟩ := hKp_6
 try have hltk6 := h1k6 (by first | omega | (split <;> omega) | decide)
 refine Ll.nil ?_
 refine Kt.onSub (e' := [(0, .pointer (some ⟨rp, 0, none⟩)), (3, .pointer (some ⟨p3, 0, none⟩)), (4, .pointer (some ⟨p4, 0, none⟩)), (6, .int .i64 k6)]) (Sub.cons rfl (Sub.cons rfl (Sub.cons rfl (Sub.cons rfl Sub.nil)))) ?_
 refine Wk.block ?_
 refine Wk.seq ?_
 refine Wk.regionQ ?_
 refine Lq.op (v := .bool (decide (k6 = (0 : Int)))) rfl rfl rfl (OpQ.eql rfl rfl rfl) ?_
 refine Lq.op (v := .bool (decide (k6 = (0 : Int)))) rfl rfl rfl (OpQ.assign rfl rfl) ?_
 refine Lq.nil ?_
 refine Kt.onSub (e' := [(0, .pointer (some ⟨rp, 0, none⟩)), (3, .pointer (some ⟨p3, 0, none⟩)), (4, .pointer (some ⟨p4, 0, none⟩)), (6, .int .i64 k6), (7, .bool (decide (k6 = (0 : Int))))]) (Sub.cons rfl (Sub.cons rfl (Sub.cons rfl (Sub.cons rfl (Sub.cons rfl Sub.nil))))) ?_
 refine Wk.cond (b := decide (k6 = (0 : Int))) rfl (fun h7 => ?_) (fun h7 => ?_)
 ·
  replace h7 := of_decide_eq_true h7
  refine Wk.region ?_
  refine Ll.op rfl rfl rfl (OpQ.move rfl rfl) ?_
  refine Ll.op (v := .pointer (some ⟨p3, 0, none⟩)) rfl rfl rfl (OpQ.fieldAddr rfl Tryd.runUnderlying26 rfl Tryd.sizeOf3 rfl rfl) ?_
  refine Ll.op (v := .int .i64 a.n) rfl rfl rfl (OpQ.loadOwn 1 rfl Tryd.isAgg3 rfl rfl rfl) ?_
  refine Ll.op (v := .int .i64 (a.n + (1 : Int))) rfl rfl rfl (OpQ.add rfl rfl rfl (by omega) (by omega)) ?_
  refine Ll.slice (xs := [.const (.int .i64 0), .const (.int .i64 (-1)), .tmp 12, .const (.int .i64 9), .const (.int .i64 9223372036854775807)]) (vs := [.int .i64 0, .int .i64 (-1), .int .i64 (a.n + (1 : Int)), .int .i64 9, .int .i64 9223372036854775807]) Base.elem31 rfl rfl rfl rfl rfl rfl (by decide) rfl fun p13 hp13 => ?_
  refine Ll.callRd (rp := rp) (RT := 106) (p := p_6) (bv := bv) (hs := hs) (ok := fun (v : Int) p' => v ∈ ([0, -1, a.n + (1 : Int), 9, 9223372036854775807]) ∧ p' = p_6 + 1) (v := fun (v : Int) => .int .i64 v) (new := fun (v : Int) => []) (xs := [.tmp 9, .tmp 13]) (vs := [.pointer (some ⟨rp, 0, none⟩), .slice (some ⟨p13, 0, none⟩) 5 5]) ([(p13, .cells #[.int .i64 0, .int .i64 (-1), .int .i64 (a.n + (1 : Int)), .int .i64 9, .int .i64 9223372036854775807] 3 (0, 0)), (p4, .cells #[.int .i64 0, str ([]), str ([])] 26 (0, 0)), (p3, .cells #[.int .i64 a.n, str a.set, str a.rel] 26 (0, 0))] : List (Nat × Obj)) rfl rfl rfl rfl Tryd.call110 rfl (fun w1 hw1 => (num_ok B w0 (([(p13, .cells #[.int .i64 0, .int .i64 (-1), .int .i64 (a.n + (1 : Int)), .int .i64 9, .int .i64 9223372036854775807] 3 (0, 0)), (p4, .cells #[.int .i64 0, str ([]), str ([])] 26 (0, 0)), (p3, .cells #[.int .i64 a.n, str a.set, str a.rel] 26 (0, 0))] : List (Nat × Obj)) ++ hs) rp p_6 bv L (.slice (some ⟨p13, 0, none⟩) 5 5) ([0, -1, a.n + (1 : Int), 9, 9223372036854775807]) w1 (fun w2 hw2 => hb w2 (Own.drop (f := ([(p13, .cells #[.int .i64 0, .int .i64 (-1), .int .i64 (a.n + (1 : Int)), .int .i64 9, .int .i64 9223372036854775807] 3 (0, 0)), (p4, .cells #[.int .i64 0, str ([]), str ([])] 26 (0, 0)), (p3, .cells #[.int .i64 a.n, str a.set, str a.rel] 26 (0, 0))] : List (Nat × Obj))) hw2)) hL8 hL (fun w2 h2 => (Own.row h2 (i := 0) rfl (n := 5) (cap := 5) (vs := ints [0, -1, a.n + (1 : Int), 9, 9223372036854775807]) rfl rfl (by decide))) (by simp) (by omega) hw1).mono fun en w' ⟨v', p', h1, h2, h3⟩ => ⟨v', p', h1, h2, h3⟩) fun v14 p_14 hKp_14 => ?_
  show Ll _ _ (Own _ _ ((p13, .cells #[.int .i64 0, .int .i64 (-1), .int .i64 (a.n + (1 : Int)), .int .i64 9, .int .i64 9223372036854775807] 3 (0, 0)) :: (p4, .cells #[.int .i64 0, str ([]), str ([])] 26 (0, 0)) :: (p3, .cells #[.int .i64 a.n, str a.set, str a.rel] 26 (0, 0)) :: (rp, .cells #[bv, .int .i64 ((p_14 : Int))] 106 (0, 0)) :: hs)) _ _ ((14, .int .i64 v14) :: _) _ _ _
  obtain ⟨hmv14, hep_14⟩ := hKp_14
  skip
  have hv14 : -9223372036854775808 ≤ v14 ∧ v14 ≤ 9223372036854775807 := by simp at hmv14; omega
  refine Ll.op (v := .pointer (some ⟨p3, 0, none⟩)) rfl rfl rfl (OpQ.fieldAddr rfl Tryd.runUnderlying26 rfl Tryd.sizeOf3 rfl rfl) ?_
  refine Ll.store1 (v := .int .i64 v14) (hs' := ((p13, .cells #[.int .i64 0, .int .i64 (-1), .int .i64 (a.n + (1 : Int)), .int .i64 9, .int .i64 9223372036854775807] 3 (0, 0)) :: (p4, .cells #[.int .i64 0, str ([]), str ([])] 26 (0, 0)) :: (p3, .cells #[.int .i64 v14, str a.set, str a.rel] 26 (0, 0)) :: (rp, .cells #[bv, .int .i64 ((p_14 : Int))] 106 (0, 0)) :: hs)) 2 rfl rfl rfl rfl rfl rfl Tryd.sizeOf3 rfl (by simp) rfl ?_
  refine Ll.nil ?_
  refine Kt.onSub (e' := [(3, .pointer (some ⟨p3, 0, none⟩)), (4, .pointer (some ⟨p4, 0, none⟩))]) (Sub.cons rfl (Sub.cons rfl Sub.nil)) ?_
  refine Wk.seq ?_
  refine Wk.region ?_
  refine Ll.op (v := .agg #[.int .i64 v14, str a.set, str a.rel]) rfl rfl rfl (OpQ.loadBox (cs := #[.int .i64 v14, str a.set, str a.rel]) 2 rfl Tryd.isAgg26 rfl rfl Tryd.sizeOf26) ?_
  refine Ll.storeBox (cs' := #[.int .i64 v14, str a.set, str a.rel]) (hs' := ((p13, .cells #[.int .i64 0, .int .i64 (-1), .int .i64 (a.n + (1 : Int)), .int .i64 9, .int .i64 9223372036854775807] 3 (0, 0)) :: (p4, .cells #[.int .i64 v14, str a.set, str a.rel] 26 (0, 0)) :: (p3, .cells #[.int .i64 v14, str a.set, str a.rel] 26 (0, 0)) :: (rp, .cells #[bv, .int .i64 ((p_14 : Int))] 106 (0, 0)) :: hs)) 1 rfl rfl rfl rfl rfl (by kernel_rfl : _ = some Tryd.t26) rfl rfl rfl rfl rfl ?_
  refine Ll.nil ?_
  refine Kt.onSub (e' := [(4, .pointer (some ⟨p4, 0, none⟩))]) (Sub.cons rfl Sub.nil) ?_
  refine Wk.ret (Kt.endBox (cs := #[.int .i64 v14, str a.set, str a.rel]) 1 rfl rfl rfl Tryd.isAgg26 Tryd.sizeOf26 fun w' hw => ?_)
  -- ret 0: .pointer (some ⟨p4, 0, none⟩)
  exact ⟨⟨v14, a.set, a.rel⟩, p_14, rfl, ⟨⟨⟨by dsimp only; omega, by dsimp only; omega⟩, by dsimp only; omega, by dsimp only; omega⟩, by omega⟩, hw.sub (List.Sublist.cons _ (List.Sublist.cons _ (List.Sublist.cons _ (List.Sublist.cons_cons _ (List.Sublist.refl _)))))⟩
 ·
  replace h7 := of_decide_eq_false h7
  refine Wk.seq ?_
  refine Wk.regionQ ?_
  refine Lq.op (v := .bool (decide (k6 = (1 : Int)))) rfl rfl rfl (OpQ.eql rfl rfl rfl) ?_
  refine Lq.op (v := .bool (decide (k6 = (1 : Int)))) rfl rfl rfl (OpQ.assign rfl rfl) ?_
  refine Lq.nil ?_
  refine Kt.onSub (e' := [(0, .pointer (some ⟨rp, 0, none⟩)), (3, .pointer (some ⟨p3, 0, none⟩)), (4, .pointer (some ⟨p4, 0, none⟩)), (6, .int .i64 k6), (16, .bool (decide (k6 = (1 : Int))))]) (Sub.cons rfl (Sub.cons rfl (Sub.cons rfl (Sub.cons rfl (Sub.cons rfl Sub.nil))))) ?_
  refine Wk.cond (b := decide (k6 = (1 : Int))) rfl (fun h16 => ?_) (fun h16 => ?_)
  ·
   replace h16 := of_decide_eq_true h16
   refine Wk.region ?_
   refine Ll.op (v := .pointer (some ⟨p3, 1, none⟩)) rfl rfl rfl (OpQ.fieldAddr rfl Tryd.runUnderlying26 rfl Tryd.sizeOf9 rfl rfl) ?_
   refine Ll.op (v := str a.set) rfl rfl rfl (OpQ.loadOwn 1 rfl Tryd.isAgg9 rfl rfl rfl) ?_
   refine Ll.op (v := str (a.set ++ ([48]))) rfl rfl rfl (OpQ.sadd rfl rfl rfl (by simp; omega)) ?_
   refine Ll.op (v := .pointer (some ⟨p3, 1, none⟩)) rfl rfl rfl (OpQ.fieldAddr rfl Tryd.runUnderlying26 rfl Tryd.sizeOf9 rfl rfl) ?_
   refine Ll.store1 (v := str (a.set ++ ([48]))) (hs' := ((p4, .cells #[.int .i64 0, str ([]), str ([])] 26 (0, 0)) :: (p3, .cells #[.int .i64 a.n, str (a.set ++ ([48])), str a.rel] 26 (0, 0)) :: (rp, .cells #[bv, .int .i64 ((p_6 : Int))] 106 (0, 0)) :: hs)) 1 rfl rfl rfl rfl rfl rfl Tryd.sizeOf9 rfl (by simp) rfl ?_
   refine Ll.nil ?_
   refine Kt.onSub (e' := [(3, .pointer (some ⟨p3, 0, none⟩)), (4, .pointer (some ⟨p4, 0, none⟩))]) (Sub.cons rfl (Sub.cons rfl Sub.nil)) ?_
   refine Wk.seq ?_
   refine Wk.region ?_
   refine Ll.op (v := .agg #[.int .i64 a.n, str (a.set ++ ([48])), str a.rel]) rfl rfl rfl (OpQ.loadBox (cs := #[.int .i64 a.n, str (a.set ++ ([48])), str a.rel]) 1 rfl Tryd.isAgg26 rfl rfl Tryd.sizeOf26) ?_
   refine Ll.storeBox (cs' := #[.int .i64 a.n, str (a.set ++ ([48])), str a.rel]) (hs' := ((p4, .cells #[.int .i64 a.n, str (a.set ++ ([48])), str a.rel] 26 (0, 0)) :: (p3, .cells #[.int .i64 a.n, str (a.set ++ ([48])), str a.rel] 26 (0, 0)) :: (rp, .cells #[bv, .int .i64 ((p_6 : Int))] 106 (0, 0)) :: hs)) 0 rfl rfl rfl rfl rfl (by kernel_rfl : _ = some Tryd.t26) rfl rfl rfl rfl rfl ?_
   refine Ll.nil ?_
   refine Kt.onSub (e' := [(4, .pointer (some ⟨p4, 0, none⟩))]) (Sub.cons rfl Sub.nil) ?_
   refine Wk.ret (Kt.endBox (cs := #[.int .i64 a.n, str (a.set ++ ([48])), str a.rel]) 0 rfl rfl rfl Tryd.isAgg26 Tryd.sizeOf26 fun w' hw => ?_)
   -- ret 1: .pointer (some ⟨p4, 0, none⟩)
   exact ⟨⟨a.n, a.set ++ ([48]), a.rel⟩, p_6, rfl, ⟨⟨⟨by dsimp only; omega, by dsimp only; omega⟩, by dsimp only; simp only [List.length_append, List.length_cons, List.length_nil]; omega, by dsimp only; omega⟩, by omega⟩, hw.sub (List.Sublist.cons _ (List.Sublist.cons _ (List.Sublist.cons_cons _ (List.Sublist.refl _))))⟩
  ·
   replace h16 := of_decide_eq_false h16
   refine Wk.seq ?_
   refine Wk.regionQ ?_
   refine Lq.op (v := .bool (decide (k6 = (2 : Int)))) rfl rfl rfl (OpQ.eql rfl rfl rfl) ?_
   refine Lq.op (v := .bool (decide (k6 = (2 : Int)))) rfl rfl rfl (OpQ.assign rfl rfl) ?_
   refine Lq.nil ?_
   refine Kt.onSub (e' := [(0, .pointer (some ⟨rp, 0, none⟩)), (3, .pointer (some ⟨p3, 0, none⟩)), (4, .pointer (some ⟨p4, 0, none⟩)), (6, .int .i64 k6), (22, .bool (decide (k6 = (2 : Int))))]) (Sub.cons rfl (Sub.cons rfl (Sub.cons rfl (Sub.cons rfl (Sub.cons rfl Sub.nil))))) ?_
   refine Wk.cond (b := decide (k6 = (2 : Int))) rfl (fun h22 => ?_) (fun h22 => ?_)
   ·
    replace h22 := of_decide_eq_true h22
    refine Wk.regionU (S := Own B w0 [(p4, .cells #[.int .i64 0, str ([]), str ([])] 26 (0, 0))]) (.take 0 (.take 2 (.take 7 (.three 1 (.two 3 (.take 4 (.take 5 (.take 6 (.one 8 (.one 9 (.take 10 (.take 11 (.one 12 .done)))))))) 8 (.two 3 (.take 4 (.take 5 (.take 6 (.one 9 (.take 10 (.take 11 (.one 12 .done))))))) 9 (.one 3 (.take 4 (.take 5 (.take 6 (.take 10 (.take 11 (.one 12 .done))))))))) 3 (.take 4 (.take 5 (.two 1 (.take 6 (.one 8 (.one 9 (.take 10 (.take 11 (.one 12 .done)))))) 8 (.two 1 (.take 6 (.one 9 (.take 10 (.take 11 (.one 12 .done))))) 9 (.one 1 (.take 6 (.take 10 (.take 11 (.one 12 .done))))))))) 8 (.three 1 (.two 3 (.take 4 (.take 5 (.take 6 (.one 9 (.take 10 (.take 11 (.one 12 .done))))))) 9 (.one 3 (.take 4 (.take 5 (.take 6 (.take 10 (.take 11 (.one 12 .done)))))))) 3 (.take 4 (.take 5 (.two 1 (.take 6 (.one 9 (.take 10 (.take 11 (.one 12 .done))))) 9 (.one 1 (.take 6 (.take 10 (.take 11 (.one 12 .done)))))))) 9 (.two 1 (.one 3 (.take 4 (.take 5 (.take 6 (.take 10 (.take 11 (.one 12 .done))))))) 3 (.take 4 (.take 5 (.one 1 (.take 6 (.take 10 (.take 11 (.one 12 .done))))))))))))) Base.mixed (fun _ h => h.drawn) (by kernel_rfl) ?_
    refine Lu.take (v := .pointer (some ⟨p3, 2, none⟩)) rfl rfl rfl rfl rfl (OpQ.fieldAddr rfl Tryd.runUnderlying26 rfl Tryd.sizeOf9 rfl rfl) (fun _ h => h.pick [0] rfl (by decide)) ?_
    refine Lu.take (v := .pointer (some ⟨p3, 2, none⟩)) rfl rfl rfl rfl rfl (OpQ.fieldAddr rfl Tryd.runUnderlying26 rfl Tryd.sizeOf9 rfl rfl) (fun _ h => h.pick [0] rfl (by decide)) ?_
    refine Lu.take rfl rfl rfl rfl rfl (OpQ.move rfl rfl) (fun _ h => h.pick [0] rfl (by decide)) ?_
    refine Lu.three rfl rfl rfl ?_ ?_ ?_
    ·
     refine Ll.op (v := str a.rel) rfl rfl rfl (OpQ.loadOwn 1 rfl Tryd.isAgg9 rfl rfl rfl) ?_
     refine Ll.nil (Lu.joint (fun _ h => h.pick [0] rfl (by decide)) ?_)
     refine Lu.two rfl rfl ?_ ?_
     ·
      refine Ll.op (v := str a.rel) rfl rfl rfl (OpQ.loadOwn 1 rfl Tryd.isAgg9 rfl rfl rfl) ?_
      refine Ll.nil (Lu.joint (fun _ h => h.pick [0] rfl (by decide)) ?_)
      refine Lu.take (v := .int .i64 ((a.rel.length : Int))) rfl rfl rfl rfl rfl (OpQ.lenStr rfl Tryd.runUnderlying9 rfl) (fun _ h => h.pick [0] rfl (by decide)) ?_
      refine Lu.take (v := .int .i64 (((a.rel.length : Int)) - (1 : Int))) rfl rfl rfl rfl rfl (OpQ.sub rfl rfl rfl (by omega) (by omega)) (fun _ h => h.pick [0] rfl (by decide)) ?_
      refine Lu.take (v := str (a.rel.take ((((a.rel.length : Int)) - (1 : Int)).toNat))) rfl rfl rfl rfl rfl (OpQ.sliceStrTo rfl Tryd.underlying9 rfl rfl (by omega) (by omega)) (fun _ h => h.pick [0] rfl (by decide)) ?_
      refine Lu.loud rfl ?_
      refine Ll.slice (xs := [.const (str ([])), .const (str ([50])), .const (str ([48, 49]))]) (vs := [str ([]), str ([50]), str ([48, 49])]) Base.elem57 rfl rfl rfl rfl rfl rfl (by decide) rfl fun p32 hp32 => ?_
      refine Ll.nil (Lu.joint (fun _ h => h.pick [1] rfl (by decide)) ?_)
      refine Lu.loud rfl ?_
      refine Ll.callRd (rp := rp) (RT := 106) (p := p_6) (bv := bv) (hs := hs) (ok := fun (v : List UInt8) p' => v ∈ (([[], [50], [48, 49]] : List (List UInt8))) ∧ p' = p_6 + 1) (v := fun (v : List UInt8) => str v) (new := fun (v : List UInt8) => []) (xs := [.tmp 31, .tmp 32]) (vs := [.pointer (some ⟨rp, 0, none⟩), .slice (some ⟨p32, 0, none⟩) 3 3]) ([(p32, .cells #[str ([]), str ([50]), str ([48, 49])] 9 (0, 0)), (p4, .cells #[.int .i64 0, str ([]), str ([])] 26 (0, 0)), (p3, .cells #[.int .i64 a.n, str a.set, str a.rel] 26 (0, 0))] : List (Nat × Obj)) rfl rfl rfl rfl Tryd.call132 rfl (fun w1 hw1 => (of_ok B w0 (([(p32, .cells #[str ([]), str ([50]), str ([48, 49])] 9 (0, 0)), (p4, .cells #[.int .i64 0, str ([]), str ([])] 26 (0, 0)), (p3, .cells #[.int .i64 a.n, str a.set, str a.rel] 26 (0, 0))] : List (Nat × Obj)) ++ hs) rp p_6 bv L (.slice (some ⟨p32, 0, none⟩) 3 3) (([[], [50], [48, 49]] : List (List UInt8))) w1 (fun w2 hw2 => hb w2 (Own.drop (f := ([(p32, .cells #[str ([]), str ([50]), str ([48, 49])] 9 (0, 0)), (p4, .cells #[.int .i64 0, str ([]), str ([])] 26 (0, 0)), (p3, .cells #[.int .i64 a.n, str a.set, str a.rel] 26 (0, 0))] : List (Nat × Obj))) hw2)) hL8 hL (fun w2 h2 => (Own.row h2 (i := 0) rfl (n := 3) (cap := 3) (vs := strs ([[], [50], [48, 49]] : List (List UInt8))) rfl rfl (by decide))) (by simp) (by omega) hw1).mono fun en w' ⟨v', p', h1, h2, h3⟩ => ⟨v', p', h1, h2, h3⟩) fun v33 p_33 hKp_33 => ?_
      show Ll _ _ (Own _ _ ((p32, .cells #[str ([]), str ([50]), str ([48, 49])] 9 (0, 0)) :: (p4, .cells #[.int .i64 0, str ([]), str ([])] 26 (0, 0)) :: (p3, .cells #[.int .i64 a.n, str a.set, str a.rel] 26 (0, 0)) :: (rp, .cells #[bv, .int .i64 ((p_33 : Int))] 106 (0, 0)) :: hs)) _ _ ((33, str v33) :: _) _ _ _
      obtain ⟨hmv33, hep_33⟩ := hKp_33
      refine Ll.nil (Lu.joint (fun _ h => h.pick [1] rfl (by decide)) ?_)
      have hv33 : v33.length ≤ 2 := by simp at hmv33; rcases hmv33 with h | h | h <;> subst h <;> decide
      refine Lu.take (v := str ((a.rel.take ((((a.rel.length : Int)) - (1 : Int)).toNat)) ++ v33)) rfl rfl rfl rfl rfl (OpQ.sadd rfl rfl rfl (by simp only [List.length_take]; omega)) (fun _ h => h.pick [1] rfl (by decide)) ?_
      refine Lu.take (v := .pointer (some ⟨p3, 2, none⟩)) rfl rfl rfl rfl rfl (OpQ.fieldAddr rfl Tryd.runUnderlying26 rfl Tryd.sizeOf9 rfl rfl) (fun _ h => h.pick [1] rfl (by decide)) ?_
      refine Lu.loud rfl ?_
      refine Ll.store1 (v := str ((a.rel.take ((((a.rel.length : Int)) - (1 : Int)).toNat)) ++ v33)) (hs' := ((p32, .cells #[str ([]), str ([50]), str ([48, 49])] 9 (0, 0)) :: (p4, .cells #[.int .i64 0, str ([]), str ([])] 26 (0, 0)) :: (p3, .cells #[.int .i64 a.n, str a.set, str ((a.rel.take ((((a.rel.length : Int)) - (1 : Int)).toNat)) ++ v33)] 26 (0, 0)) :: (rp, .cells #[bv, .int .i64 ((p_33 : Int))] 106 (0, 0)) :: hs)) 2 rfl rfl rfl rfl rfl rfl Tryd.sizeOf9 rfl (by simp) rfl ?_
      refine Ll.nil (Lu.joint (fun _ h => h.pick [1] rfl (by decide)) ?_)
      refine Lu.nil ?_
      refine Kt.onSub (e' := [(3, .pointer (some ⟨p3, 0, none⟩)), (4, .pointer (some ⟨p4, 0, none⟩))]) (Sub.cons rfl (Sub.cons rfl Sub.nil)) ?_
      refine Wk.seq ?_
      refine Wk.region ?_
      refine Ll.op (v := .agg #[.int .i64 a.n, str a.set, str ((a.rel.take ((((a.rel.length : Int)) - (1 : Int)).toNat)) ++ v33)]) rfl rfl rfl (OpQ.loadBox (cs := #[.int .i64 a.n, str a.set, str ((a.rel.take ((((a.rel.length : Int)) - (1 : Int)).toNat)) ++ v33)]) 2 rfl Tryd.isAgg26 rfl rfl Tryd.sizeOf26) ?_
      refine Ll.storeBox (cs' := #[.int .i64 a.n, str a.set, str ((a.rel.take ((((a.rel.length : Int)) - (1 : Int)).toNat)) ++ v33)]) (hs' := ((p32, .cells #[str ([]), str ([50]), str ([48, 49])] 9 (0, 0)) :: (p4, .cells #[.int .i64 a.n, str a.set, str ((a.rel.take ((((a.rel.length : Int)) - (1 : Int)).toNat)) ++ v33)] 26 (0, 0)) :: (p3, .cells #[.int .i64 a.n, str a.set, str ((a.rel.take ((((a.rel.length : Int)) - (1 : Int)).toNat)) ++ v33)] 26 (0, 0)) :: (rp, .cells #[bv, .int .i64 ((p_33 : Int))] 106 (0, 0)) :: hs)) 1 rfl rfl rfl rfl rfl (by kernel_rfl : _ = some Tryd.t26) rfl rfl rfl rfl rfl ?_
      refine Ll.nil ?_
      refine Kt.onSub (e' := [(4, .pointer (some ⟨p4, 0, none⟩))]) (Sub.cons rfl Sub.nil) ?_
      refine Wk.ret (Kt.endBox (cs := #[.int .i64 a.n, str a.set, str ((a.rel.take ((((a.rel.length : Int)) - (1 : Int)).toNat)) ++ v33)]) 1 rfl rfl rfl Tryd.isAgg26 Tryd.sizeOf26 fun w' hw => ?_)
      -- ret 2: .pointer (some ⟨p4, 0, none⟩)
      exact ⟨⟨a.n, a.set, (a.rel.take ((((a.rel.length : Int)) - (1 : Int)).toNat)) ++ v33⟩, p_33, rfl, ⟨⟨⟨by dsimp only; omega, by dsimp only; omega⟩, by dsimp only; omega, by dsimp only; simp only [List.length_append, List.length_take]; omega⟩, by omega⟩, hw.sub (List.Sublist.cons _ (List.Sublist.cons _ (List.Sublist.cons _ (List.Sublist.cons_cons _ (List.Sublist.refl _)))))⟩
     ·
      refine Ll.slice (xs := [.const (str ([])), .const (str ([50])), .const (str ([48, 49]))]) (vs := [str ([]), str ([50]), str ([48, 49])]) Base.elem57 rfl rfl rfl rfl rfl rfl (by decide) rfl fun p32_1 hp32_1 => ?_
      refine Ll.nil (Lu.joint (fun _ h => h.pick [1] rfl (by decide)) ?_)
      refine Lu.two rfl rfl ?_ ?_
      ·
       refine Ll.op (v := str a.rel) rfl rfl rfl (OpQ.loadOwn 2 rfl Tryd.isAgg9 rfl rfl rfl) ?_
       refine Ll.nil (Lu.joint (fun _ h => h.pick [1] rfl (by decide)) ?_)
       refine Lu.take (v := .int .i64 ((a.rel.length : Int))) rfl rfl rfl rfl rfl (OpQ.lenStr rfl Tryd.runUnderlying9 rfl) (fun _ h => h.pick [1] rfl (by decide)) ?_
       refine Lu.take (v := .int .i64 (((a.rel.length : Int)) - (1 : Int))) rfl rfl rfl rfl rfl (OpQ.sub rfl rfl rfl (by omega) (by omega)) (fun _ h => h.pick [1] rfl (by decide)) ?_
       refine Lu.take (v := str (a.rel.take ((((a.rel.length : Int)) - (1 : Int)).toNat))) rfl rfl rfl rfl rfl (OpQ.sliceStrTo rfl Tryd.underlying9 rfl rfl (by omega) (by omega)) (fun _ h => h.pick [1] rfl (by decide)) ?_
       refine Lu.loud rfl ?_
       refine Ll.callRd (rp := rp) (RT := 106) (p := p_6) (bv := bv) (hs := hs) (ok := fun (v : List UInt8) p' => v ∈ (([[], [50], [48, 49]] : List (List UInt8))) ∧ p' = p_6 + 1) (v := fun (v : List UInt8) => str v) (new := fun (v : List UInt8) => []) (xs := [.tmp 31, .tmp 32]) (vs := [.pointer (some ⟨rp, 0, none⟩), .slice (some ⟨p32_1, 0, none⟩) 3 3]) ([(p32_1, .cells #[str ([]), str ([50]), str ([48, 49])] 9 (0, 0)), (p4, .cells #[.int .i64 0, str ([]), str ([])] 26 (0, 0)), (p3, .cells #[.int .i64 a.n, str a.set, str a.rel] 26 (0, 0))] : List (Nat × Obj)) rfl rfl rfl rfl Tryd.call132 rfl (fun w1 hw1 => (of_ok B w0 (([(p32_1, .cells #[str ([]), str ([50]), str ([48, 49])] 9 (0, 0)), (p4, .cells #[.int .i64 0, str ([]), str ([])] 26 (0, 0)), (p3, .cells #[.int .i64 a.n, str a.set, str a.rel] 26 (0, 0))] : List (Nat × Obj)) ++ hs) rp p_6 bv L (.slice (some ⟨p32_1, 0, none⟩) 3 3) (([[], [50], [48, 49]] : List (List UInt8))) w1 (fun w2 hw2 => hb w2 (Own.drop (f := ([(p32_1, .cells #[str ([]), str ([50]), str ([48, 49])] 9 (0, 0)), (p4, .cells #[.int .i64 0, str ([]), str ([])] 26 (0, 0)), (p3, .cells #[.int .i64 a.n, str a.set, str a.rel] 26 (0, 0))] : List (Nat × Obj))) hw2)) hL8 hL (fun w2 h2 => (Own.row h2 (i := 0) rfl (n := 3) (cap := 3) (vs := strs ([[], [50], [48, 49]] : List (List UInt8))) rfl rfl (by decide))) (by simp) (by omega) hw1).mono fun en w' ⟨v', p', h1, h2, h3⟩ => ⟨v', p', h1, h2, h3⟩) fun v33_1 p_33_1 hKp_33_1 => ?_
       show Ll _ _ (Own _ _ ((p32_1, .cells #[str ([]), str ([50]), str ([48, 49])] 9 (0, 0)) :: (p4, .cells #[.int .i64 0, str ([]), str ([])] 26 (0, 0)) :: (p3, .cells #[.int .i64 a.n, str a.set, str a.rel] 26 (0, 0)) :: (rp, .cells #[bv, .int .i64 ((p_33_1 : Int))] 106 (0, 0)) :: hs)) _ _ ((33, str v33_1) :: _) _ _ _
       obtain ⟨hmv33_1, hep_33_1⟩ := hKp_33_1
       refine Ll.nil (Lu.joint (fun _ h => h.pick [1] rfl (by decide)) ?_)
       have hv33 : v33_1.length ≤ 2 := by simp at hmv33_1; rcases hmv33_1 with h | h | h <;> subst h <;> decide
       refine Lu.take (v := str ((a.rel.take ((((a.rel.length : Int)) - (1 : Int)).toNat)) ++ v33_1)) rfl rfl rfl rfl rfl (OpQ.sadd rfl rfl rfl (by simp only [List.length_take]; omega)) (fun _ h => h.pick [1] rfl (by decide)) ?_
       refine Lu.take (v := .pointer (some ⟨p3, 2, none⟩)) rfl rfl rfl rfl rfl (OpQ.fieldAddr rfl Tryd.runUnderlying26 rfl Tryd.sizeOf9 rfl rfl) (fun _ h => h.pick [1] rfl (by decide)) ?_
       refine Lu.loud rfl ?_
       refine Ll.store1 (v := str ((a.rel.take ((((a.rel.length : Int)) - (1 : Int)).toNat)) ++ v33_1)) (hs' := ((p32_1, .cells #[str ([]), str ([50]), str ([48, 49])] 9 (0, 0)) :: (p4, .cells #[.int .i64 0, str ([]), str ([])] 26 (0, 0)) :: (p3, .cells #[.int .i64 a.n, str a.set, str ((a.rel.take ((((a.rel.length : Int)) - (1 : Int)).toNat)) ++ v33_1)] 26 (0, 0)) :: (rp, .cells #[bv, .int .i64 ((p_33_1 : Int))] 106 (0, 0)) :: hs)) 2 rfl rfl rfl rfl rfl rfl Tryd.sizeOf9 rfl (by simp) rfl ?_
       refine Ll.nil (Lu.joint (fun _ h => h.pick [1] rfl (by decide)) ?_)
       refine Lu.nil ?_
       refine Kt.onSub (e' := [(3, .pointer (some ⟨p3, 0, none⟩)), (4, .pointer (some ⟨p4, 0, none⟩))]) (Sub.cons rfl (Sub.cons rfl Sub.nil)) ?_
       refine Wk.seq ?_
       refine Wk.region ?_
       refine Ll.op (v := .agg #[.int .i64 a.n, str a.set, str ((a.rel.take ((((a.rel.length : Int)) - (1 : Int)).toNat)) ++ v33_1)]) rfl rfl rfl (OpQ.loadBox (cs := #[.int .i64 a.n, str a.set, str ((a.rel.take ((((a.rel.length : Int)) - (1 : Int)).toNat)) ++ v33_1)]) 2 rfl Tryd.isAgg26 rfl rfl Tryd.sizeOf26) ?_
       refine Ll.storeBox (cs' := #[.int .i64 a.n, str a.set, str ((a.rel.take ((((a.rel.length : Int)) - (1 : Int)).toNat)) ++ v33_1)]) (hs' := ((p32_1, .cells #[str ([]), str ([50]), str ([48, 49])] 9 (0, 0)) :: (p4, .cells #[.int .i64 a.n, str a.set, str ((a.rel.take ((((a.rel.length : Int)) - (1 : Int)).toNat)) ++ v33_1)] 26 (0, 0)) :: (p3, .cells #[.int .i64 a.n, str a.set, str ((a.rel.take ((((a.rel.length : Int)) - (1 : Int)).toNat)) ++ v33_1)] 26 (0, 0)) :: (rp, .cells #[bv, .int .i64 ((p_33_1 : Int))] 106 (0, 0)) :: hs)) 1 rfl rfl rfl rfl rfl (by kernel_rfl : _ = some Tryd.t26) rfl rfl rfl rfl rfl ?_
       refine Ll.nil ?_
       refine Kt.onSub (e' := [(4, .pointer (some ⟨p4, 0, none⟩))]) (Sub.cons rfl Sub.nil) ?_
       refine Wk.ret (Kt.endBox (cs := #[.int .i64 a.n, str a.set, str ((a.rel.take ((((a.rel.length : Int)) - (1 : Int)).toNat)) ++ v33_1)]) 1 rfl rfl rfl Tryd.isAgg26 Tryd.sizeOf26 fun w' hw => ?_)
       -- ret 3: .pointer (some ⟨p4, 0, none⟩)
       exact ⟨⟨a.n, a.set, (a.rel.take ((((a.rel.length : Int)) - (1 : Int)).toNat)) ++ v33_1⟩, p_33_1, rfl, ⟨⟨⟨by dsimp only; omega, by dsimp only; omega⟩, by dsimp only; omega, by dsimp only; simp only [List.length_append, List.length_take]; omega⟩, by omega⟩, hw.sub (List.Sublist.cons _ (List.Sublist.cons _ (List.Sublist.cons _ (List.Sublist.cons_cons _ (List.Sublist.refl _)))))⟩
      ·
       refine Ll.callRd (rp := rp) (RT := 106) (p := p_6) (bv := bv) (hs := hs) (ok := fun (v : List UInt8) p' => v ∈ (([[], [50], [48, 49]] : List (List UInt8))) ∧ p' = p_6 + 1) (v := fun (v : List UInt8) => str v) (new := fun (v : List UInt8) => []) (xs := [.tmp 31, .tmp 32]) (vs := [.pointer (some ⟨rp, 0, none⟩), .slice (some ⟨p32_1, 0, none⟩) 3 3]) ([(p32_1, .cells #[str ([]), str ([50]), str ([48, 49])] 9 (0, 0)), (p4, .cells #[.int .i64 0, str ([]), str ([])] 26 (0, 0)), (p3, .cells #[.int .i64 a.n, str a.set, str a.rel] 26 (0, 0))] : List (Nat × Obj)) rfl rfl rfl rfl Tryd.call132 rfl (fun w1 hw1 => (of_ok B w0 (([(p32_1, .cells #[str ([]), str ([50]), str ([48, 49])] 9 (0, 0)), (p4, .cells #[.int .i64 0, str ([]), str ([])] 26 (0, 0)), (p3, .cells #[.int .i64 a.n, str a.set, str a.rel] 26 (0, 0))] : List (Nat × Obj)) ++ hs) rp p_6 bv L (.slice (some ⟨p32_1, 0, none⟩) 3 3) (([[], [50], [48, 49]] : List (List UInt8))) w1 (fun w2 hw2 => hb w2 (Own.drop (f := ([(p32_1, .cells #[str ([]), str ([50]), str ([48, 49])] 9 (0, 0)), (p4, .cells #[.int .i64 0, str ([]), str ([])] 26 (0, 0)), (p3, .cells #[.int .i64 a.n, str a.set, str a.rel] 26 (0, 0))] : List (Nat × Obj))) hw2)) hL8 hL (fun w2 h2 => (Own.row h2 (i := 0) rfl (n := 3) (cap := 3) (vs := strs ([[], [50], [48, 49]] : List (List UInt8))) rfl rfl (by decide))) (by simp) (by omega) hw1).mono fun en w' ⟨v', p', h1, h2, h3⟩ => ⟨v', p', h1, h2, h3⟩) fun v33_2 p_33_2 hKp_33_2 => ?_
       show Ll _ _ (Own _ _ ((p32_1, .cells #[str ([]), str ([50]), str ([48, 49])] 9 (0, 0)) :: (p4, .cells #[.int .i64 0, str ([]), str ([])] 26 (0, 0)) :: (p3, .cells #[.int .i64 a.n, str a.set, str a.rel] 26 (0, 0)) :: (rp, .cells #[bv, .int .i64 ((p_33_2 : Int))] 106 (0, 0)) :: hs)) _ _ ((33, str v33_2) :: _) _ _ _
       obtain ⟨hmv33_2, hep_33_2⟩ := hKp_33_2
       refine Ll.nil (Lu.joint (fun _ h => h.pick [1] rfl (by decide)) ?_)
       refine Lu.loud rfl ?_
       refine Ll.op (v := str a.rel) rfl rfl rfl (OpQ.loadOwn 2 rfl Tryd.isAgg9 rfl rfl rfl) ?_
       refine Ll.nil (Lu.joint (fun _ h => h.pick [1] rfl (by decide)) ?_)
       refine Lu.take (v := .int .i64 ((a.rel.length : Int))) rfl rfl rfl rfl rfl (OpQ.lenStr rfl Tryd.runUnderlying9 rfl) (fun _ h => h.pick [1] rfl (by decide)) ?_
       refine Lu.take (v := .int .i64 (((a.rel.length : Int)) - (1 : Int))) rfl rfl rfl rfl rfl (OpQ.sub rfl rfl rfl (by omega) (by omega)) (fun _ h => h.pick [1] rfl (by decide)) ?_
       refine Lu.take (v := str (a.rel.take ((((a.rel.length : Int)) - (1 : Int)).toNat))) rfl rfl rfl rfl rfl (OpQ.sliceStrTo rfl Tryd.underlying9 rfl rfl (by omega) (by omega)) (fun _ h => h.pick [1] rfl (by decide)) ?_
       have hv33 : v33_2.length ≤ 2 := by simp at hmv33_2; rcases hmv33_2 with h | h | h <;> subst h <;> decide
       refine Lu.take (v := str ((a.rel.take ((((a.rel.length : Int)) - (1 : Int)).toNat)) ++ v33_2)) rfl rfl rfl rfl rfl (OpQ.sadd rfl rfl rfl (by simp only [List.length_take]; omega)) (fun _ h => h.pick [1] rfl (by decide)) ?_
       refine Lu.take (v := .pointer (some ⟨p3, 2, none⟩)) rfl rfl rfl rfl rfl (OpQ.fieldAddr rfl Tryd.runUnderlying26 rfl Tryd.sizeOf9 rfl rfl) (fun _ h => h.pick [1] rfl (by decide)) ?_
       refine Lu.loud rfl ?_
       refine Ll.store1 (v := str ((a.rel.take ((((a.rel.length : Int)) - (1 : Int)).toNat)) ++ v33_2)) (hs' := ((p32_1, .cells #[str ([]), str ([50]), str ([48, 49])] 9 (0, 0)) :: (p4, .cells #[.int .i64 0, str ([]), str ([])] 26 (0, 0)) :: (p3, .cells #[.int .i64 a.n, str a.set, str ((a.rel.take ((((a.rel.length : Int)) - (1 : Int)).toNat)) ++ v33_2)] 26 (0, 0)) :: (rp, .cells #[bv, .int .i64 ((p_33_2 : Int))] 106 (0, 0)) :: hs)) 2 rfl rfl rfl rfl rfl rfl Tryd.sizeOf9 rfl (by simp) rfl ?_
       refine Ll.nil (Lu.joint (fun _ h => h.pick [1] rfl (by decide)) ?_)
       refine Lu.nil ?_
       refine Kt.onSub (e' := [(3, .pointer (some ⟨p3, 0, none⟩)), (4, .pointer (some ⟨p4, 0, none⟩))]) (Sub.cons rfl (Sub.cons rfl Sub.nil)) ?_
       refine Wk.seq ?_
       refine Wk.region ?_
       refine Ll.op (v := .agg #[.int .i64 a.n, str a.set, str ((a.rel.take ((((a.rel.length : Int)) - (1 : Int)).toNat)) ++ v33_2)]) rfl rfl rfl (OpQ.loadBox (cs := #[.int .i64 a.n, str a.set, str ((a.rel.take ((((a.rel.length : Int)) - (1 : Int)).toNat)) ++ v33_2)]) 2 rfl Tryd.isAgg26 rfl rfl Tryd.sizeOf26) ?_
       refine Ll.storeBox (cs' := #[.int .i64 a.n, str a.set, str ((a.rel.take ((((a.rel.length : Int)) - (1 : Int)).toNat)) ++ v33_2)]) (hs' := ((p32_1, .cells #[str ([]), str ([50]), str ([48, 49])] 9 (0, 0)) :: (p4, .cells #[.int .i64 a.n, str a.set, str ((a.rel.take ((((a.rel.length : Int)) - (1 : Int)).toNat)) ++ v33_2)] 26 (0, 0)) :: (p3, .cells #[.int .i64 a.n, str a.set, str ((a.rel.take ((((a.rel.length : Int)) - (1 : Int)).toNat)) ++ v33_2)] 26 (0, 0)) :: (rp, .cells #[bv, .int .i64 ((p_33_2 : Int))] 106 (0, 0)) :: hs)) 1 rfl rfl rfl rfl rfl (by kernel_rfl : _ = some Tryd.t26) rfl rfl rfl rfl rfl ?_
       refine Ll.nil ?_
       refine Kt.onSub (e' := [(4, .pointer (some ⟨p4, 0, none⟩))]) (Sub.cons rfl Sub.nil) ?_
       refine Wk.ret (Kt.endBox (cs := #[.int .i64 a.n, str a.set, str ((a.rel.take ((((a.rel.length : Int)) - (1 : Int)).toNat)) ++ v33_2)]) 1 rfl rfl rfl Tryd.isAgg26 Tryd.sizeOf26 fun w' hw => ?_)
       -- ret 4: .pointer (some ⟨p4, 0, none⟩)
       exact ⟨⟨a.n, a.set, (a.rel.take ((((a.rel.length : Int)) - (1 : Int)).toNat)) ++ v33_2⟩, p_33_2, rfl, ⟨⟨⟨by dsimp only; omega, by dsimp only; omega⟩, by dsimp only; omega, by dsimp only; simp only [List.length_append, List.length_take]; omega⟩, by omega⟩, hw.sub (List.Sublist.cons _ (List.Sublist.cons _ (List.Sublist.cons _ (List.Sublist.cons_cons _ (List.Sublist.refl _)))))⟩
    ·
     refine Ll.op (v := str a.rel) rfl rfl rfl (OpQ.loadOwn 1 rfl Tryd.isAgg9 rfl rfl rfl) ?_
     refine Ll.nil (Lu.joint (fun _ h => h.pick [0] rfl (by decide)) ?_)
     refine Lu.take (v := .int .i64 ((a.rel.length : Int))) rfl rfl rfl rfl rfl (OpQ.lenStr rfl Tryd.runUnderlying9 rfl) (fun _ h => h.pick [0] rfl (by decide)) ?_
     refine Lu.take (v := .int .i64 (((a.rel.length : Int)) - (1 : Int))) rfl rfl rfl rfl rfl (OpQ.sub rfl rfl rfl (by omega) (by omega)) (fun _ h => h.pick [0] rfl (by decide)) ?_
     refine Lu.two rfl rfl ?_ ?_
     ·
      refine Ll.op (v := str a.rel) rfl rfl rfl (OpQ.loadOwn 1 rfl Tryd.isAgg9 rfl rfl rfl) ?_
      refine Ll.nil (Lu.joint (fun _ h => h.pick [0] rfl (by decide)) ?_)
      refine Lu.take (v := str (a.rel.take ((((a.rel.length : Int)) - (1 : Int)).toNat))) rfl rfl rfl rfl rfl (OpQ.sliceStrTo rfl Tryd.underlying9 rfl rfl (by omega) (by omega)) (fun _ h => h.pick [0] rfl (by decide)) ?_
      refine Lu.loud rfl ?_
      refine Ll.slice (xs := [.const (str ([])), .const (str ([50])), .const (str ([48, 49]))]) (vs := [str ([]), str ([50]), str ([48, 49])]) Base.elem57 rfl rfl rfl rfl rfl rfl (by decide) rfl fun p32_2 hp32_2 => ?_
      refine Ll.nil (Lu.joint (fun _ h => h.pick [1] rfl (by decide)) ?_)
      refine Lu.loud rfl ?_
      refine Ll.callRd (rp := rp) (RT := 106) (p := p_6) (bv := bv) (hs := hs) (ok := fun (v : List UInt8) p' => v ∈ (([[], [50], [48, 49]] : List (List UInt8))) ∧ p' = p_6 + 1) (v := fun (v : List UInt8) => str v) (new := fun (v : List UInt8) => []) (xs := [.tmp 31, .tmp 32]) (vs := [.pointer (some ⟨rp, 0, none⟩), .slice (some ⟨p32_2, 0, none⟩) 3 3]) ([(p32_2, .cells #[str ([]), str ([50]), str ([48, 49])] 9 (0, 0)), (p4, .cells #[.int .i64 0, str ([]), str ([])] 26 (0, 0)), (p3, .cells #[.int .i64 a.n, str a.set, str a.rel] 26 (0, 0))] : List (Nat × Obj)) rfl rfl rfl rfl Tryd.call132 rfl (fun w1 hw1 => (of_ok B w0 (([(p32_2, .cells #[str ([]), str ([50]), str ([48, 49])] 9 (0, 0)), (p4, .cells #[.int .i64 0, str ([]), str ([])] 26 (0, 0)), (p3, .cells #[.int .i64 a.n, str a.set, str a.rel] 26 (0, 0))] : List (Nat × Obj)) ++ hs) rp p_6 bv L (.slice (some ⟨p32_2, 0, none⟩) 3 3) (([[], [50], [48, 49]] : List (List UInt8))) w1 (fun w2 hw2 => hb w2 (Own.drop (f := ([(p32_2, .cells #[str ([]), str ([50]), str ([48, 49])] 9 (0, 0)), (p4, .cells #[.int .i64 0, str ([]), str ([])] 26 (0, 0)), (p3, .cells #[.int .i64 a.n, str a.set, str a.rel] 26 (0, 0))] : List (Nat × Obj))) hw2)) hL8 hL (fun w2 h2 => (Own.row h2 (i := 0) rfl (n := 3) (cap := 3) (vs := strs ([[], [50], [48, 49]] : List (List UInt8))) rfl rfl (by decide))) (by simp) (by omega) hw1).mono fun en w' ⟨v', p', h1, h2, h3⟩ => ⟨v', p', h1, h2, h3⟩) fun v33_3 p_33_3 hKp_33_3 => ?_
      show Ll _ _ (Own _ _ ((p32_2, .cells #[str ([]), str ([50]), str ([48, 49])] 9 (0, 0)) :: (p4, .cells #[.int .i64 0, str ([]), str ([])] 26 (0, 0)) :: (p3, .cells #[.int .i64 a.n, str a.set, str a.rel] 26 (0, 0)) :: (rp, .cells #[bv, .int .i64 ((p_33_3 : Int))] 106 (0, 0)) :: hs)) _ _ ((33, str v33_3) :: _) _ _ _
      obtain ⟨hmv33_3, hep_33_3⟩ := hKp_33_3
      refine Ll.nil (Lu.joint (fun _ h => h.pick [1] rfl (by decide)) ?_)
      have hv33 : v33_3.length ≤ 2 := by simp at hmv33_3; rcases hmv33_3 with h | h | h <;> subst h <;> decide
      refine Lu.take (v := str ((a.rel.take ((((a.rel.length : Int)) - (1 : Int)).toNat)) ++ v33_3)) rfl rfl rfl rfl rfl (OpQ.sadd rfl rfl rfl (by simp only [List.length_take]; omega)) (fun _ h => h.pick [1] rfl (by decide)) ?_
      refine Lu.take (v := .pointer (some ⟨p3, 2, none⟩)) rfl rfl rfl rfl rfl (OpQ.fieldAddr rfl Tryd.runUnderlying26 rfl Tryd.sizeOf9 rfl rfl) (fun _ h => h.pick [1] rfl (by decide)) ?_
      refine Lu.loud rfl ?_
      refine Ll.store1 (v := str ((a.rel.take ((((a.rel.length : Int)) - (1 : Int)).toNat)) ++ v33_3)) (hs' := ((p32_2, .cells #[str ([]), str ([50]), str ([48, 49])] 9 (0, 0)) :: (p4, .cells #[.int .i64 0, str ([]), str ([])] 26 (0, 0)) :: (p3, .cells #[.int .i64 a.n, str a.set, str ((a.rel.take ((((a.rel.length : Int)) - (1 : Int)).toNat)) ++ v33_3)] 26 (0, 0)) :: (rp, .cells #[bv, .int .i64 ((p_33_3 : Int))] 106 (0, 0)) :: hs)) 2 rfl rfl rfl rfl rfl rfl Tryd.sizeOf9 rfl (by simp) rfl ?_
      refine Ll.nil (Lu.joint (fun _ h => h.pick [1] rfl (by decide)) ?_)
      refine Lu.nil ?_
      refine Kt.onSub (e' := [(3, .pointer (some ⟨p3, 0, none⟩)), (4, .pointer (some ⟨p4, 0, none⟩))]) (Sub.cons rfl (Sub.cons rfl Sub.nil)) ?_
      refine Wk.seq ?_
      refine Wk.region ?_
      refine Ll.op (v := .agg #[.int .i64 a.n, str a.set, str ((a.rel.take ((((a.rel.length : Int)) - (1 : Int)).toNat)) ++ v33_3)]) rfl rfl rfl (OpQ.loadBox (cs := #[.int .i64 a.n, str a.set, str ((a.rel.take ((((a.rel.length : Int)) - (1 : Int)).toNat)) ++ v33_3)]) 2 rfl Tryd.isAgg26 rfl rfl Tryd.sizeOf26) ?_
      refine Ll.storeBox (cs' := #[.int .i64 a.n, str a.set, str ((a.rel.take ((((a.rel.length : Int)) - (1 : Int)).toNat)) ++ v33_3)]) (hs' := ((p32_2, .cells #[str ([]), str ([50]), str ([48, 49])] 9 (0, 0)) :: (p4, .cells #[.int .i64 a.n, str a.set, str ((a.rel.take ((((a.rel.length : Int)) - (1 : Int)).toNat)) ++ v33_3)] 26 (0, 0)) :: (p3, .cells #[.int .i64 a.n, str a.set, str ((a.rel.take ((((a.rel.length : Int)) - (1 : Int)).toNat)) ++ v33_3)] 26 (0, 0)) :: (rp, .cells #[bv, .int .i64 ((p_33_3 : Int))] 106 (0, 0)) :: hs)) 1 rfl rfl rfl rfl rfl (by kernel_rfl : _ = some Tryd.t26) rfl rfl rfl rfl rfl ?_
      refine Ll.nil ?_
      refine Kt.onSub (e' := [(4, .pointer (some ⟨p4, 0, none⟩))]) (Sub.cons rfl Sub.nil) ?_
      refine Wk.ret (Kt.endBox (cs := #[.int .i64 a.n, str a.set, str ((a.rel.take ((((a.rel.length : Int)) - (1 : Int)).toNat)) ++ v33_3)]) 1 rfl rfl rfl Tryd.isAgg26 Tryd.sizeOf26 fun w' hw => ?_)
      -- ret 5: .pointer (some ⟨p4, 0, none⟩)
      exact ⟨⟨a.n, a.set, (a.rel.take ((((a.rel.length : Int)) - (1 : Int)).toNat)) ++ v33_3⟩, p_33_3, rfl, ⟨⟨⟨by dsimp only; omega, by dsimp only; omega⟩, by dsimp only; omega, by dsimp only; simp only [List.length_append, List.length_take]; omega⟩, by omega⟩, hw.sub (List.Sublist.cons _ (List.Sublist.cons _ (List.Sublist.cons _ (List.Sublist.cons_cons _ (List.Sublist.refl _)))))⟩
     ·
      refine Ll.slice (xs := [.const (str ([])), .const (str ([50])), .const (str ([48, 49]))]) (vs := [str ([]), str ([50]), str ([48, 49])]) Base.elem57 rfl rfl rfl rfl rfl rfl (by decide) rfl fun p32_3 hp32_3 => ?_
      refine Ll.nil (Lu.joint (fun _ h => h.pick [1] rfl (by decide)) ?_)
      refine Lu.two rfl rfl ?_ ?_
      ·
       refine Ll.op (v := str a.rel) rfl rfl rfl (OpQ.loadOwn 2 rfl Tryd.isAgg9 rfl rfl rfl) ?_
       refine Ll.nil (Lu.joint (fun _ h => h.pick [1] rfl (by decide)) ?_)
       refine Lu.take (v := str (a.rel.take ((((a.rel.length : Int)) - (1 : Int)).toNat))) rfl rfl rfl rfl rfl (OpQ.sliceStrTo rfl Tryd.underlying9 rfl rfl (by omega) (by omega)) (fun _ h => h.pick [1] rfl (by decide)) ?_
       refine Lu.loud rfl ?_
       refine Ll.callRd (rp := rp) (RT := 106) (p := p_6) (bv := bv) (hs := hs) (ok := fun (v : List UInt8) p' => v ∈ (([[], [50], [48, 49]] : List (List UInt8))) ∧ p' = p_6 + 1) (v := fun (v : List UInt8) => str v) (new := fun (v : List UInt8) => []) (xs := [.tmp 31, .tmp 32]) (vs := [.pointer (some ⟨rp, 0, none⟩), .slice (some ⟨p32_3, 0, none⟩) 3 3]) ([(p32_3, .cells #[str ([]), str ([50]), str ([48, 49])] 9 (0, 0)), (p4, .cells #[.int .i64 0, str ([]), str ([])] 26 (0, 0)), (p3, .cells #[.int .i64 a.n, str a.set, str a.rel] 26 (0, 0))] : List (Nat × Obj)) rfl rfl rfl rfl Tryd.call132 rfl (fun w1 hw1 => (of_ok B w0 (([(p32_3, .cells #[str ([]), str ([50]), str ([48, 49])] 9 (0, 0)), (p4, .cells #[.int .i64 0, str ([]), str ([])] 26 (0, 0)), (p3, .cells #[.int .i64 a.n, str a.set, str a.rel] 26 (0, 0))] : List (Nat × Obj)) ++ hs) rp p_6 bv L (.slice (some ⟨p32_3, 0, none⟩) 3 3) (([[], [50], [48, 49]] : List (List UInt8))) w1 (fun w2 hw2 => hb w2 (Own.drop (f := ([(p32_3, .cells #[str ([]), str ([50]), str ([48, 49])] 9 (0, 0)), (p4, .cells #[.int .i64 0, str ([]), str ([])] 26 (0, 0)), (p3, .cells #[.int .i64 a.n, str a.set, str a.rel] 26 (0, 0))] : List (Nat × Obj))) hw2)) hL8 hL (fun w2 h2 => (Own.row h2 (i := 0) rfl (n := 3) (cap := 3) (vs := strs ([[], [50], [48, 49]] : List (List UInt8))) rfl rfl (by decide))) (by simp) (by omega) hw1).mono fun en w' ⟨v', p', h1, h2, h3⟩ => ⟨v', p', h1, h2, h3⟩) fun v33_4 p_33_4 hKp_33_4 => ?_
       show Ll _ _ (Own _ _ ((p32_3, .cells #[str ([]), str ([50]), str ([48, 49])] 9 (0, 0)) :: (p4, .cells #[.int .i64 0, str ([]), str ([])] 26 (0, 0)) :: (p3, .cells #[.int .i64 a.n, str a.set, str a.rel] 26 (0, 0)) :: (rp, .cells #[bv, .int .i64 ((p_33_4 : Int))] 106 (0, 0)) :: hs)) _ _ ((33, str v33_4) :: _) _ _ _
       obtain ⟨hmv33_4, hep_33_4⟩ := hKp_33_4
       refine Ll.nil (Lu.joint (fun _ h => h.pick [1] rfl (by decide)) ?_)
       have hv33 : v33_4.length ≤ 2 := by simp at hmv33_4; rcases hmv33_4 with h | h | h <;> subst h <;> decide
       refine Lu.take (v := str ((a.rel.take ((((a.rel.length : Int)) - (1 : Int)).toNat)) ++ v33_4)) rfl rfl rfl rfl rfl (OpQ.sadd rfl rfl rfl (by simp only [List.length_take]; omega)) (fun _ h => h.pick [1] rfl (by decide)) ?_
       refine Lu.take (v := .pointer (some ⟨p3, 2, none⟩)) rfl rfl rfl rfl rfl (OpQ.fieldAddr rfl Tryd.runUnderlying26 rfl Tryd.sizeOf9 rfl rfl) (fun _ h => h.pick [1] rfl (by decide)) ?_
       refine Lu.loud rfl ?_
       refine Ll.store1 (v := str ((a.rel.take ((((a.rel.length : Int)) - (1 : Int)).toNat)) ++ v33_4)) (hs' := ((p32_3, .cells #[str ([]), str ([50]), str ([48, 49])] 9 (0, 0)) :: (p4, .cells #[.int .i64 0, str ([]), str ([])] 26 (0, 0)) :: (p3, .cells #[.int .i64 a.n, str a.set, str ((a.rel.take ((((a.rel.length : Int)) - (1 : Int)).toNat)) ++ v33_4)] 26 (0, 0)) :: (rp, .cells #[bv, .int .i64 ((p_33_4 : Int))] 106 (0, 0)) :: hs)) 2 rfl rfl rfl rfl rfl rfl Tryd.sizeOf9 rfl (by simp) rfl ?_
       refine Ll.nil (Lu.joint (fun _ h => h.pick [1] rfl (by decide)) ?_)
       refine Lu.nil ?_
       refine Kt.onSub (e' := [(3, .pointer (some ⟨p3, 0, none⟩)), (4, .pointer (some ⟨p4, 0, none⟩))]) (Sub.cons rfl (Sub.cons rfl Sub.nil)) ?_
       refine Wk.seq ?_
       refine Wk.region ?_
       refine Ll.op (v := .agg #[.int .i64 a.n, str a.set, str ((a.rel.take ((((a.rel.length : Int)) - (1 : Int)).toNat)) ++ v33_4)]) rfl rfl rfl (OpQ.loadBox (cs := #[.int .i64 a.n, str a.set, str ((a.rel.take ((((a.rel.length : Int)) - (1 : Int)).toNat)) ++ v33_4)]) 2 rfl Tryd.isAgg26 rfl rfl Tryd.sizeOf26) ?_
       refine Ll.storeBox (cs' := #[.int .i64 a.n, str a.set, str ((a.rel.take ((((a.rel.length : Int)) - (1 : Int)).toNat)) ++ v33_4)]) (hs' := ((p32_3, .cells #[str ([]), str ([50]), str ([48, 49])] 9 (0, 0)) :: (p4, .cells #[.int .i64 a.n, str a.set, str ((a.rel.take ((((a.rel.length : Int)) - (1 : Int)).toNat)) ++ v33_4)] 26 (0, 0)) :: (p3, .cells #[.int .i64 a.n, str a.set, str ((a.rel.take ((((a.rel.length : Int)) - (1 : Int)).toNat)) ++ v33_4)] 26 (0, 0)) :: (rp, .cells #[bv, .int .i64 ((p_33_4 : Int))] 106 (0, 0)) :: hs)) 1 rfl rfl rfl rfl rfl (by kernel_rfl : _ = some Tryd.t26) rfl rfl rfl rfl rfl ?_
       refine Ll.nil ?_
       refine Kt.onSub (e' := [(4, .pointer (some ⟨p4, 0, none⟩))]) (Sub.cons rfl Sub.nil) ?_
       refine Wk.ret (Kt.endBox (cs := #[.int .i64 a.n, str a.set, str ((a.rel.take ((((a.rel.length : Int)) - (1 : Int)).toNat)) ++ v33_4)]) 1 rfl rfl rfl Tryd.isAgg26 Tryd.sizeOf26 fun w' hw => ?_)
       -- ret 6: .pointer (some ⟨p4, 0, none⟩)
       exact ⟨⟨a.n, a.set, (a.rel.take ((((a.rel.length : Int)) - (1 : Int)).toNat)) ++ v33_4⟩, p_33_4, rfl, ⟨⟨⟨by dsimp only; omega, by dsimp only; omega⟩, by dsimp only; omega, by dsimp only; simp only [List.length_append, List.length_take]; omega⟩, by omega⟩, hw.sub (List.Sublist.cons _ (List.Sublist.cons _ (List.Sublist.cons _ (List.Sublist.cons_cons _ (List.Sublist.refl _)))))⟩
      ·
       refine Ll.callRd (rp := rp) (RT := 106) (p := p_6) (bv := bv) (hs := hs) (ok := fun (v : List UInt8) p' => v ∈ (([[], [50], [48, 49]] : List (List UInt8))) ∧ p' = p_6 + 1) (v := fun (v : List UInt8) => str v) (new := fun (v : List UInt8) => []) (xs := [.tmp 31, .tmp 32]) (vs := [.pointer (some ⟨rp, 0, none⟩), .slice (some ⟨p32_3, 0, none⟩) 3 3]) ([(p32_3, .cells #[str ([]), str ([50]), str ([48, 49])] 9 (0, 0)), (p4, .cells #[.int .i64 0, str ([]), str ([])] 26 (0, 0)), (p3, .cells #[.int .i64 a.n, str a.set, str a.rel] 26 (0, 0))] : List (Nat × Obj)) rfl rfl rfl rfl Tryd.call132 rfl (fun w1 hw1 => (of_ok B w0 (([(p32_3, .cells #[str ([]), str ([50]), str ([48, 49])] 9 (0, 0)), (p4, .cells #[.int .i64 0, str ([]), str ([])] 26 (0, 0)), (p3, .cells #[.int .i64 a.n, str a.set, str a.rel] 26 (0, 0))] : List (Nat × Obj)) ++ hs) rp p_6 bv L (.slice (some ⟨p32_3, 0, none⟩) 3 3) (([[], [50], [48, 49]] : List (List UInt8))) w1 (fun w2 hw2 => hb w2 (Own.drop (f := ([(p32_3, .cells #[str ([]), str ([50]), str ([48, 49])] 9 (0, 0)), (p4, .cells #[.int .i64 0, str ([]), str ([])] 26 (0, 0)), (p3, .cells #[.int .i64 a.n, str a.set, str a.rel] 26 (0, 0))] : List (Nat × Obj))) hw2)) hL8 hL (fun w2 h2 => (Own.row h2 (i := 0) rfl (n := 3) (cap := 3) (vs := strs ([[], [50], [48, 49]] : List (List UInt8))) rfl rfl (by decide))) (by simp) (by omega) hw1).mono fun en w' ⟨v', p', h1, h2, h3⟩ => ⟨v', p', h1, h2, h3⟩) fun v33_5 p_33_5 hKp_33_5 => ?_
       show Ll _ _ (Own _ _ ((p32_3, .cells #[str ([]), str ([50]), str ([48, 49])] 9 (0, 0)) :: (p4, .cells #[.int .i64 0, str ([]), str ([])] 26 (0, 0)) :: (p3, .cells #[.int .i64 a.n, str a.set, str a.rel] 26 (0, 0)) :: (rp, .cells #[bv, .int .i64 ((p_33_5 : Int))] 106 (0, 0)) :: hs)) _ _ ((33, str v33_5) :: _) _ _ _
       obtain ⟨hmv33_5, hep_33_5⟩ := hKp_33_5
       refine Ll.nil (Lu.joint (fun _ h => h.pick [1] rfl (by decide)) ?_)
       refine Lu.loud rfl ?_
       refine Ll.op (v := str a.rel) rfl rfl rfl (OpQ.loadOwn 2 rfl Tryd.isAgg9 rfl rfl rfl) ?_
       refine Ll.nil (Lu.joint (fun _ h => h.pick [1] rfl (by decide)) ?_)
       refine Lu.take (v := str (a.rel.take ((((a.rel.length : Int)) - (1 : Int)).toNat))) rfl rfl rfl rfl rfl (OpQ.sliceStrTo rfl Tryd.underlying9 rfl rfl (by omega) (by omega)) (fun _ h => h.pick [1] rfl (by decide)) ?_
       have hv33 : v33_5.length ≤ 2 := by simp at hmv33_5; rcases hmv33_5 with h | h | h <;> subst h <;> decide
       refine Lu.take (v := str ((a.rel.take ((((a.rel.length : Int)) - (1 : Int)).toNat)) ++ v33_5)) rfl rfl rfl rfl rfl (OpQ.sadd rfl rfl rfl (by simp only [List.length_take]; omega)) (fun _ h => h.pick [1] rfl (by decide)) ?_
       refine Lu.take (v := .pointer (some ⟨p3, 2, none⟩)) rfl rfl rfl rfl rfl (OpQ.fieldAddr rfl Tryd.runUnderlying26 rfl Tryd.sizeOf9 rfl rfl) (fun _ h => h.pick [1] rfl (by decide)) ?_
       refine Lu.loud rfl ?_
       refine Ll.store1 (v := str ((a.rel.take ((((a.rel.length : Int)) - (1 : Int)).toNat)) ++ v33_5)) (hs' := ((p32_3, .cells #[str ([]), str ([50]), str ([48, 49])] 9 (0, 0)) :: (p4, .cells #[.int .i64 0, str ([]), str ([])] 26 (0, 0)) :: (p3, .cells #[.int .i64 a.n, str a.set, str ((a.rel.take ((((a.rel.length : Int)) - (1 : Int)).toNat)) ++ v33_5)] 26 (0, 0)) :: (rp, .cells #[bv, .int .i64 ((p_33_5 : Int))] 106 (0, 0)) :: hs)) 2 rfl rfl rfl rfl rfl rfl Tryd.sizeOf9 rfl (by simp) rfl ?_
       refine Ll.nil (Lu.joint (fun _ h => h.pick [1] rfl (by decide)) ?_)
       refine Lu.nil ?_
       refine Kt.onSub (e' := [(3, .pointer (some ⟨p3, 0, none⟩)), (4, .pointer (some ⟨p4, 0, none⟩))]) (Sub.cons rfl (Sub.cons rfl Sub.nil)) ?_
       refine Wk.seq ?_
       refine Wk.region ?_
       refine Ll.op (v := .agg #[.int .i64 a.n, str a.set, str ((a.rel.take ((((a.rel.length : Int)) - (1 : Int)).toNat)) ++ v33_5)]) rfl rfl rfl (OpQ.loadBox (cs := #[.int .i64 a.n, str a.set, str ((a.rel.take ((((a.rel.length : Int)) - (1 : Int)).toNat)) ++ v33_5)]) 2 rfl Tryd.isAgg26 rfl rfl Tryd.sizeOf26) ?_
       refine Ll.storeBox (cs' := #[.int .i64 a.n, str a.set, str ((a.rel.take ((((a.rel.length : Int)) - (1 : Int)).toNat)) ++ v33_5)]) (hs' := ((p32_3, .cells #[str ([]), str ([50]), str ([48, 49])] 9 (0, 0)) :: (p4, .cells #[.int .i64 a.n, str a.set, str ((a.rel.take ((((a.rel.length : Int)) - (1 : Int)).toNat)) ++ v33_5)] 26 (0, 0)) :: (p3, .cells #[.int .i64 a.n, str a.set, str ((a.rel.take ((((a.rel.length : Int)) - (1 : Int)).toNat)) ++ v33_5)] 26 (0, 0)) :: (rp, .cells #[bv, .int .i64 ((p_33_5 : Int))] 106 (0, 0)) :: hs)) 1 rfl rfl rfl rfl rfl (by kernel_rfl : _ = some Tryd.t26) rfl rfl rfl rfl rfl ?_
       refine Ll.nil ?_
       refine Kt.onSub (e' := [(4, .pointer (some ⟨p4, 0, none⟩))]) (Sub.cons rfl Sub.nil) ?_
       refine Wk.ret (Kt.endBox (cs := #[.int .i64 a.n, str a.set, str ((a.rel.take ((((a.rel.length : Int)) - (1 : Int)).toNat)) ++ v33_5)]) 1 rfl rfl rfl Tryd.isAgg26 Tryd.sizeOf26 fun w' hw => ?_)
       -- ret 7: .pointer (some ⟨p4, 0, none⟩)
       exact ⟨⟨a.n, a.set, (a.rel.take ((((a.rel.length : Int)) - (1 : Int)).toNat)) ++ v33_5⟩, p_33_5, rfl, ⟨⟨⟨by dsimp only; omega, by dsimp only; omega⟩, by dsimp only; omega, by dsimp only; simp only [List.length_append, List.length_take]; omega⟩, by omega⟩, hw.sub (List.Sublist.cons _ (List.Sublist.cons _ (List.Sublist.cons _ (List.Sublist.cons_cons _ (List.Sublist.refl _)))))⟩
    ·
     refine Ll.slice (xs := [.const (str ([])), .const (str ([50])), .const (str ([48, 49]))]) (vs := [str ([]), str ([50]), str ([48, 49])]) Base.elem57 rfl rfl rfl rfl rfl rfl (by decide) rfl fun p32_4 hp32_4 => ?_
     refine Ll.nil (Lu.joint (fun _ h => h.pick [1] rfl (by decide)) ?_)
     refine Lu.three rfl rfl rfl ?_ ?_ ?_
     ·
      refine Ll.op (v := str a.rel) rfl rfl rfl (OpQ.loadOwn 2 rfl Tryd.isAgg9 rfl rfl rfl) ?_
      refine Ll.nil (Lu.joint (fun _ h => h.pick [1] rfl (by decide)) ?_)
      refine Lu.two rfl rfl ?_ ?_
      ·
       refine Ll.op (v := str a.rel) rfl rfl rfl (OpQ.loadOwn 2 rfl Tryd.isAgg9 rfl rfl rfl) ?_
       refine Ll.nil (Lu.joint (fun _ h => h.pick [1] rfl (by decide)) ?_)
       refine Lu.take (v := .int .i64 ((a.rel.length : Int))) rfl rfl rfl rfl rfl (OpQ.lenStr rfl Tryd.runUnderlying9 rfl) (fun _ h => h.pick [1] rfl (by decide)) ?_
       refine Lu.take (v := .int .i64 (((a.rel.length : Int)) - (1 : Int))) rfl rfl rfl rfl rfl (OpQ.sub rfl rfl rfl (by omega) (by omega)) (fun _ h => h.pick [1] rfl (by decide)) ?_
       refine Lu.take (v := str (a.rel.take ((((a.rel.length : Int)) - (1 : Int)).toNat))) rfl rfl rfl rfl rfl (OpQ.sliceStrTo rfl Tryd.underlying9 rfl rfl (by omega) (by omega)) (fun _ h => h.pick [1] rfl (by decide)) ?_
       refine Lu.loud rfl ?_
       refine Ll.callRd (rp := rp) (RT := 106) (p := p_6) (bv := bv) (hs := hs) (ok := fun (v : List UInt8) p' => v ∈ (([[], [50], [48, 49]] : List (List UInt8))) ∧ p' = p_6 + 1) (v := fun (v : List UInt8) => str v) (new := fun (v : List UInt8) => []) (xs := [.tmp 31, .tmp 32]) (vs := [.pointer (some ⟨rp, 0, none⟩), .slice (some ⟨p32_4, 0, none⟩) 3 3]) ([(p32_4, .cells #[str ([]), str ([50]), str ([48, 49])] 9 (0, 0)), (p4, .cells #[.int .i64 0, str ([]), str ([])] 26 (0, 0)), (p3, .cells #[.int .i64 a.n, str a.set, str a.rel] 26 (0, 0))] : List (Nat × Obj)) rfl rfl rfl rfl Tryd.call132 rfl (fun w1 hw1 => (of_ok B w0 (([(p32_4, .cells #[str ([]), str ([50]), str ([48, 49])] 9 (0, 0)), (p4, .cells #[.int .i64 0, str ([]), str ([])] 26 (0, 0)), (p3, .cells #[.int .i64 a.n, str a.set, str a.rel] 26 (0, 0))] : List (Nat × Obj)) ++ hs) rp p_6 bv L (.slice (some ⟨p32_4, 0, none⟩) 3 3) (([[], [50], [48, 49]] : List (List UInt8))) w1 (fun w2 hw2 => hb w2 (Own.drop (f := ([(p32_4, .cells #[str ([]), str ([50]), str ([48, 49])] 9 (0, 0)), (p4, .cells #[.int .i64 0, str ([]), str ([])] 26 (0, 0)), (p3, .cells #[.int .i64 a.n, str a.set, str a.rel] 26 (0, 0))] : List (Nat × Obj))) hw2)) hL8 hL (fun w2 h2 => (Own.row h2 (i := 0) rfl (n := 3) (cap := 3) (vs := strs ([[], [50], [48, 49]] : List (List UInt8))) rfl rfl (by decide))) (by simp) (by omega) hw1).mono fun en w' ⟨v', p', h1, h2, h3⟩ => ⟨v', p', h1, h2, h3⟩) fun v33_6 p_33_6 hKp_33_6 => ?_
       show Ll _ _ (Own _ _ ((p32_4, .cells #[str ([]), str ([50]), str ([48, 49])] 9 (0, 0)) :: (p4, .cells #[.int .i64 0, str ([]), str ([])] 26 (0, 0)) :: (p3, .cells #[.int .i64 a.n, str a.set, str a.rel] 26 (0, 0)) :: (rp, .cells #[bv, .int .i64 ((p_33_6 : Int))] 106 (0, 0)) :: hs)) _ _ ((33, str v33_6) :: _) _ _ _
       obtain ⟨hmv33_6, hep_33_6⟩ := hKp_33_6
       refine Ll.nil (Lu.joint (fun _ h => h.pick [1] rfl (by decide)) ?_)
       have hv33 : v33_6.length ≤ 2 := by simp at hmv33_6; rcases hmv33_6 with h | h | h <;> subst h <;> decide
       refine Lu.take (v := str ((a.rel.take ((((a.rel.length : Int)) - (1 : Int)).toNat)) ++ v33_6)) rfl rfl rfl rfl rfl (OpQ.sadd rfl rfl rfl (by simp only [List.length_take]; omega)) (fun _ h => h.pick [1] rfl (by decide)) ?_
       refine Lu.take (v := .pointer (some ⟨p3, 2, none⟩)) rfl rfl rfl rfl rfl (OpQ.fieldAddr rfl Tryd.runUnderlying26 rfl Tryd.sizeOf9 rfl rfl) (fun _ h => h.pick [1] rfl (by decide)) ?_
       refine Lu.loud rfl ?_
       refine Ll.store1 (v := str ((a.rel.take ((((a.rel.length : Int)) - (1 : Int)).toNat)) ++ v33_6)) (hs' := ((p32_4, .cells #[str ([]), str ([50]), str ([48, 49])] 9 (0, 0)) :: (p4, .cells #[.int .i64 0, str ([]), str ([])] 26 (0, 0)) :: (p3, .cells #[.int .i64 a.n, str a.set, str ((a.rel.take ((((a.rel.length : Int)) - (1 : Int)).toNat)) ++ v33_6)] 26 (0, 0)) :: (rp, .cells #[bv, .int .i64 ((p_33_6 : Int))] 106 (0, 0)) :: hs)) 2 rfl rfl rfl rfl rfl rfl Tryd.sizeOf9 rfl (by simp) rfl ?_
       refine Ll.nil (Lu.joint (fun _ h => h.pick [1] rfl (by decide)) ?_)
       refine Lu.nil ?_
       refine Kt.onSub (e' := [(3, .pointer (some ⟨p3, 0, none⟩)), (4, .pointer (some ⟨p4, 0, none⟩))]) (Sub.cons rfl (Sub.cons rfl Sub.nil)) ?_
       refine Wk.seq ?_
       refine Wk.region ?_
       refine Ll.op (v := .agg #[.int .i64 a.n, str a.set, str ((a.rel.take ((((a.rel.length : Int)) - (1 : Int)).toNat)) ++ v33_6)]) rfl rfl rfl (OpQ.loadBox (cs := #[.int .i64 a.n, str a.set, str ((a.rel.take ((((a.rel.length : Int)) - (1 : Int)).toNat)) ++ v33_6)]) 2 rfl Tryd.isAgg26 rfl rfl Tryd.sizeOf26) ?_
       refine Ll.storeBox (cs' := #[.int .i64 a.n, str a.set, str ((a.rel.take ((((a.rel.length : Int)) - (1 : Int)).toNat)) ++ v33_6)]) (hs' := ((p32_4, .cells #[str ([]), str ([50]), str ([48, 49])] 9 (0, 0)) :: (p4, .cells #[.int .i64 a.n, str a.set, str ((a.rel.take ((((a.rel.length : Int)) - (1 : Int)).toNat)) ++ v33_6)] 26 (0, 0)) :: (p3, .cells #[.int .i64 a.n, str a.set, str ((a.rel.take ((((a.rel.length : Int)) - (1 : Int)).toNat)) ++ v33_6)] 26 (0, 0)) :: (rp, .cells #[bv, .int .i64 ((p_33_6 : Int))] 106 (0, 0)) :: hs)) 1 rfl rfl rfl rfl rfl (by kernel_rfl : _ = some Tryd.t26) rfl rfl rfl rfl rfl ?_
       refine Ll.nil ?_
       refine Kt.onSub (e' := [(4, .pointer (some ⟨p4, 0, none⟩))]) (Sub.cons rfl Sub.nil) ?_
       refine Wk.ret (Kt.endBox (cs := #[.int .i64 a.n, str a.set, str ((a.rel.take ((((a.rel.length : Int)) - (1 : Int)).toNat)) ++ v33_6)]) 1 rfl rfl rfl Tryd.isAgg26 Tryd.sizeOf26 fun w' hw => ?_)
       -- ret 8: .pointer (some ⟨p4, 0, none⟩)
       exact ⟨⟨a.n, a.set, (a.rel.take ((((a.rel.length : Int)) - (1 : Int)).toNat)) ++ v33_6⟩, p_33_6, rfl, ⟨⟨⟨by dsimp only; omega, by dsimp only; omega⟩, by dsimp only; omega, by dsimp only; simp only [List.length_append, List.length_take]; omega⟩, by omega⟩, hw.sub (List.Sublist.cons _ (List.Sublist.cons _ (List.Sublist.cons _ (List.Sublist.cons_cons _ (List.Sublist.refl _)))))⟩
      ·
       refine Ll.callRd (rp := rp) (RT := 106) (p := p_6) (bv := bv) (hs := hs) (ok := fun (v : List UInt8) p' => v ∈ (([[], [50], [48, 49]] : List (List UInt8))) ∧ p' = p_6 + 1) (v := fun (v : List UInt8) => str v) (new := fun (v : List UInt8) => []) (xs := [.tmp 31, .tmp 32]) (vs := [.pointer (some ⟨rp, 0, none⟩), .slice (some ⟨p32_4, 0, none⟩) 3 3]) ([(p32_4, .cells #[str ([]), str ([50]), str ([48, 49])] 9 (0, 0)), (p4, .cells #[.int .i64 0, str ([]), str ([])] 26 (0, 0)), (p3, .cells #[.int .i64 a.n, str a.set, str a.rel] 26 (0, 0))] : List (Nat × Obj)) rfl rfl rfl rfl Tryd.call132 rfl (fun w1 hw1 => (of_ok B w0 (([(p32_4, .cells #[str ([]), str ([50]), str ([48, 49])] 9 (0, 0)), (p4, .cells #[.int .i64 0, str ([]), str ([])] 26 (0, 0)), (p3, .cells #[.int .i64 a.n, str a.set, str a.rel] 26 (0, 0))] : List (Nat × Obj)) ++ hs) rp p_6 bv L (.slice (some ⟨p32_4, 0, none⟩) 3 3) (([[], [50], [48, 49]] : List (List UInt8))) w1 (fun w2 hw2 => hb w2 (Own.drop (f := ([(p32_4, .cells #[str ([]), str ([50]), str ([48, 49])] 9 (0, 0)), (p4, .cells #[.int .i64 0, str ([]), str ([])] 26 (0, 0)), (p3, .cells #[.int .i64 a.n, str a.set, str a.rel] 26 (0, 0))] : List (Nat × Obj))) hw2)) hL8 hL (fun w2 h2 => (Own.row h2 (i := 0) rfl (n := 3) (cap := 3) (vs := strs ([[], [50], [48, 49]] : List (List UInt8))) rfl rfl (by decide))) (by simp) (by omega) hw1).mono fun en w' ⟨v', p', h1, h2, h3⟩ => ⟨v', p', h1, h2, h3⟩) fun v33_7 p_33_7 hKp_33_7 => ?_
       show Ll _ _ (Own _ _ ((p32_4, .cells #[str ([]), str ([50]), str ([48, 49])] 9 (0, 0)) :: (p4, .cells #[.int .i64 0, str ([]), str ([])] 26 (0, 0)) :: (p3, .cells #[.int .i64 a.n, str a.set, str a.rel] 26 (0, 0)) :: (rp, .cells #[bv, .int .i64 ((p_33_7 : Int))] 106 (0, 0)) :: hs)) _ _ ((33, str v33_7) :: _) _ _ _
       obtain ⟨hmv33_7, hep_33_7⟩ := hKp_33_7
       refine Ll.nil (Lu.joint (fun _ h => h.pick [1] rfl (by decide)) ?_)
       refine Lu.loud rfl ?_
       refine Ll.op (v := str a.rel) rfl rfl rfl (OpQ.loadOwn 2 rfl Tryd.isAgg9 rfl rfl rfl) ?_
       refine Ll.nil (Lu.joint (fun _ h => h.pick [1] rfl (by decide)) ?_)
       refine Lu.take (v := .int .i64 ((a.rel.length : Int))) rfl rfl rfl rfl rfl (OpQ.lenStr rfl Tryd.runUnderlying9 rfl) (fun _ h => h.pick [1] rfl (by decide)) ?_
       refine Lu.take (v := .int .i64 (((a.rel.length : Int)) - (1 : Int))) rfl rfl rfl rfl rfl (OpQ.sub rfl rfl rfl (by omega) (by omega)) (fun _ h => h.pick [1] rfl (by decide)) ?_
       refine Lu.take (v := str (a.rel.take ((((a.rel.length : Int)) - (1 : Int)).toNat))) rfl rfl rfl rfl rfl (OpQ.sliceStrTo rfl Tryd.underlying9 rfl rfl (by omega) (by omega)) (fun _ h => h.pick [1] rfl (by decide)) ?_
       have hv33 : v33_7.length ≤ 2 := by simp at hmv33_7; rcases hmv33_7 with h | h | h <;> subst h <;> decide
       refine Lu.take (v := str ((a.rel.take ((((a.rel.length : Int)) - (1 : Int)).toNat)) ++ v33_7)) rfl rfl rfl rfl rfl (OpQ.sadd rfl rfl rfl (by simp only [List.length_take]; omega)) (fun _ h => h.pick [1] rfl (by decide)) ?_
       refine Lu.take (v := .pointer (some ⟨p3, 2, none⟩)) rfl rfl rfl rfl rfl (OpQ.fieldAddr rfl Tryd.runUnderlying26 rfl Tryd.sizeOf9 rfl rfl) (fun _ h => h.pick [1] rfl (by decide)) ?_
       refine Lu.loud rfl ?_
       refine Ll.store1 (v := str ((a.rel.take ((((a.rel.length : Int)) - (1 : Int)).toNat)) ++ v33_7)) (hs' := ((p32_4, .cells #[str ([]), str ([50]), str ([48, 49])] 9 (0, 0)) :: (p4, .cells #[.int .i64 0, str ([]), str ([])] 26 (0, 0)) :: (p3, .cells #[.int .i64 a.n, str a.set, str ((a.rel.take ((((a.rel.length : Int)) - (1 : Int)).toNat)) ++ v33_7)] 26 (0, 0)) :: (rp, .cells #[bv, .int .i64 ((p_33_7 : Int))] 106 (0, 0)) :: hs)) 2 rfl rfl rfl rfl rfl rfl Tryd.sizeOf9 rfl (by simp) rfl ?_
       refine Ll.nil (Lu.joint (fun _ h => h.pick [1] rfl (by decide)) ?_)
       refine Lu.nil ?_
       refine Kt.onSub (e' := [(3, .pointer (some ⟨p3, 0, none⟩)), (4, .pointer (some ⟨p4, 0, none⟩))]) (Sub.cons rfl (Sub.cons rfl Sub.nil)) ?_
       refine Wk.seq ?_
       refine Wk.region ?_
       refine Ll.op (v := .agg #[.int .i64 a.n, str a.set, str ((a.rel.take ((((a.rel.length : Int)) - (1 : Int)).toNat)) ++ v33_7)]) rfl rfl rfl (OpQ.loadBox (cs := #[.int .i64 a.n, str a.set, str ((a.rel.take ((((a.rel.length : Int)) - (1 : Int)).toNat)) ++ v33_7)]) 2 rfl Tryd.isAgg26 rfl rfl Tryd.sizeOf26) ?_
       refine Ll.storeBox (cs' := #[.int .i64 a.n, str a.set, str ((a.rel.take ((((a.rel.length : Int)) - (1 : Int)).toNat)) ++ v33_7)]) (hs' := ((p32_4, .cells #[str ([]), str ([50]), str ([48, 49])] 9 (0, 0)) :: (p4, .cells #[.int .i64 a.n, str a.set, str ((a.rel.take ((((a.rel.length : Int)) - (1 : Int)).toNat)) ++ v33_7)] 26 (0, 0)) :: (p3, .cells #[.int .i64 a.n, str a.set, str ((a.rel.take ((((a.rel.length : Int)) - (1 : Int)).toNat)) ++ v33_7)] 26 (0, 0)) :: (rp, .cells #[bv, .int .i64 ((p_33_7 : Int))] 106 (0, 0)) :: hs)) 1 rfl rfl rfl rfl rfl (by kernel_rfl : _ = some Tryd.t26) rfl rfl rfl rfl rfl ?_
       refine Ll.nil ?_
       refine Kt.onSub (e' := [(4, .pointer (some ⟨p4, 0, none⟩))]) (Sub.cons rfl Sub.nil) ?_
       refine Wk.ret (Kt.endBox (cs := #[.int .i64 a.n, str a.set, str ((a.rel.take ((((a.rel.length : Int)) - (1 : Int)).toNat)) ++ v33_7)]) 1 rfl rfl rfl Tryd.isAgg26 Tryd.sizeOf26 fun w' hw => ?_)
       -- ret 9: .pointer (some ⟨p4, 0, none⟩)
       exact ⟨⟨a.n, a.set, (a.rel.take ((((a.rel.length : Int)) - (1 : Int)).toNat)) ++ v33_7⟩, p_33_7, rfl, ⟨⟨⟨by dsimp only; omega, by dsimp only; omega⟩, by dsimp only; omega, by dsimp only; simp only [List.length_append, List.length_take]; omega⟩, by omega⟩, hw.sub (List.Sublist.cons _ (List.Sublist.cons _ (List.Sublist.cons _ (List.Sublist.cons_cons _ (List.Sublist.refl _)))))⟩
     ·
      refine Ll.op (v := str a.rel) rfl rfl rfl (OpQ.loadOwn 2 rfl Tryd.isAgg9 rfl rfl rfl) ?_
      refine Ll.nil (Lu.joint (fun _ h => h.pick [1] rfl (by decide)) ?_)
      refine Lu.take (v := .int .i64 ((a.rel.length : Int))) rfl rfl rfl rfl rfl (OpQ.lenStr rfl Tryd.runUnderlying9 rfl) (fun _ h => h.pick [1] rfl (by decide)) ?_
      refine Lu.take (v := .int .i64 (((a.rel.length : Int)) - (1 : Int))) rfl rfl rfl rfl rfl (OpQ.sub rfl rfl rfl (by omega) (by omega)) (fun _ h => h.pick [1] rfl (by decide)) ?_
      refine Lu.two rfl rfl ?_ ?_
      ·
       refine Ll.op (v := str a.rel) rfl rfl rfl (OpQ.loadOwn 2 rfl Tryd.isAgg9 rfl rfl rfl) ?_
       refine Ll.nil (Lu.joint (fun _ h => h.pick [1] rfl (by decide)) ?_)
       refine Lu.take (v := str (a.rel.take ((((a.rel.length : Int)) - (1 : Int)).toNat))) rfl rfl rfl rfl rfl (OpQ.sliceStrTo rfl Tryd.underlying9 rfl rfl (by omega) (by omega)) (fun _ h => h.pick [1] rfl (by decide)) ?_
       refine Lu.loud rfl ?_
       refine Ll.callRd (rp := rp) (RT := 106) (p := p_6) (bv := bv) (hs := hs) (ok := fun (v : List UInt8) p' => v ∈ (([[], [50], [48, 49]] : List (List UInt8))) ∧ p' = p_6 + 1) (v := fun (v : List UInt8) => str v) (new := fun (v : List UInt8) => []) (xs := [.tmp 31, .tmp 32]) (vs := [.pointer (some ⟨rp, 0, none⟩), .slice (some ⟨p32_4, 0, none⟩) 3 3]) ([(p32_4, .cells #[str ([]), str ([50]), str ([48, 49])] 9 (0, 0)), (p4, .cells #[.int .i64 0, str ([]), str ([])] 26 (0, 0)), (p3, .cells #[.int .i64 a.n, str a.set, str a.rel] 26 (0, 0))] : List (Nat × Obj)) rfl rfl rfl rfl Tryd.call132 rfl (fun w1 hw1 => (of_ok B w0 (([(p32_4, .cells #[str ([]), str ([50]), str ([48, 49])] 9 (0, 0)), (p4, .cells #[.int .i64 0, str ([]), str ([])] 26 (0, 0)), (p3, .cells #[.int .i64 a.n, str a.set, str a.rel] 26 (0, 0))] : List (Nat × Obj)) ++ hs) rp p_6 bv L (.slice (some ⟨p32_4, 0, none⟩) 3 3) (([[], [50], [48, 49]] : List (List UInt8))) w1 (fun w2 hw2 => hb w2 (Own.drop (f := ([(p32_4, .cells #[str ([]), str ([50]), str ([48, 49])] 9 (0, 0)), (p4, .cells #[.int .i64 0, str ([]), str ([])] 26 (0, 0)), (p3, .cells #[.int .i64 a.n, str a.set, str a.rel] 26 (0, 0))] : List (Nat × Obj))) hw2)) hL8 hL (fun w2 h2 => (Own.row h2 (i := 0) rfl (n := 3) (cap := 3) (vs := strs ([[], [50], [48, 49]] : List (List UInt8))) rfl rfl (by decide))) (by simp) (by omega) hw1).mono fun en w' ⟨v', p', h1, h2, h3⟩ => ⟨v', p', h1, h2, h3⟩) fun v33_8 p_33_8 hKp_33_8 => ?_
       show Ll _ _ (Own _ _ ((p32_4, .cells #[str ([]), str ([50]), str ([48, 49])] 9 (0, 0)) :: (p4, .cells #[.int .i64 0, str ([]), str ([])] 26 (0, 0)) :: (p3, .cells #[.int .i64 a.n, str a.set, str a.rel] 26 (0, 0)) :: (rp, .cells #[bv, .int .i64 ((p_33_8 : Int))] 106 (0, 0)) :: hs)) _ _ ((33, str v33_8) :: _) _ _ _
       obtain ⟨hmv33_8, hep_33_8⟩ := hKp_33_8
       refine Ll.nil (Lu.joint (fun _ h => h.pick [1] rfl (by decide)) ?_)
       have hv33 : v33_8.length ≤ 2 := by simp at hmv33_8; rcases hmv33_8 with h | h | h <;> subst h <;> decide
       refine Lu.take (v := str ((a.rel.take ((((a.rel.length : Int)) - (1 : Int)).toNat)) ++ v33_8)) rfl rfl rfl rfl rfl (OpQ.sadd rfl rfl rfl (by simp only [List.length_take]; omega)) (fun _ h => h.pick [1] rfl (by decide)) ?_
       refine Lu.take (v := .pointer (some ⟨p3, 2, none⟩)) rfl rfl rfl rfl rfl (OpQ.fieldAddr rfl Tryd.runUnderlying26 rfl Tryd.sizeOf9 rfl rfl) (fun _ h => h.pick [1] rfl (by decide)) ?_
       refine Lu.loud rfl ?_
       refine Ll.store1 (v := str ((a.rel.take ((((a.rel.length : Int)) - (1 : Int)).toNat)) ++ v33_8)) (hs' := ((p32_4, .cells #[str ([]), str ([50]), str ([48, 49])] 9 (0, 0)) :: (p4, .cells #[.int .i64 0, str ([]), str ([])] 26 (0, 0)) :: (p3, .cells #[.int .i64 a.n, str a.set, str ((a.rel.take ((((a.rel.length : Int)) - (1 : Int)).toNat)) ++ v33_8)] 26 (0, 0)) :: (rp, .cells #[bv, .int .i64 ((p_33_8 : Int))] 106 (0, 0)) :: hs)) 2 rfl rfl rfl rfl rfl rfl Tryd.sizeOf9 rfl (by simp) rfl ?_
       refine Ll.nil (Lu.joint (fun _ h => h.pick [1] rfl (by decide)) ?_)
       refine Lu.nil ?_
       refine Kt.onSub (e' := [(3, .pointer (some ⟨p3, 0, none⟩)), (4, .pointer (some ⟨p4, 0, none⟩))]) (Sub.cons rfl (Sub.cons rfl Sub.nil)) ?_
       refine Wk.seq ?_
       refine Wk.region ?_
       refine Ll.op (v := .agg #[.int .i64 a.n, str a.set, str ((a.rel.take ((((a.rel.length : Int)) - (1 : Int)).toNat)) ++ v33_8)]) rfl rfl rfl (OpQ.loadBox (cs := #[.int .i64 a.n, str a.set, str ((a.rel.take ((((a.rel.length : Int)) - (1 : Int)).toNat)) ++ v33_8)]) 2 rfl Tryd.isAgg26 rfl rfl Tryd.sizeOf26) ?_
       refine Ll.storeBox (cs' := #[.int .i64 a.n, str a.set, str ((a.rel.take ((((a.rel.length : Int)) - (1 : Int)).toNat)) ++ v33_8)]) (hs' := ((p32_4, .cells #[str ([]), str ([50]), str ([48, 49])] 9 (0, 0)) :: (p4, .cells #[.int .i64 a.n, str a.set, str ((a.rel.take ((((a.rel.length : Int)) - (1 : Int)).toNat)) ++ v33_8)] 26 (0, 0)) :: (p3, .cells #[.int .i64 a.n, str a.set, str ((a.rel.take ((((a.rel.length : Int)) - (1 : Int)).toNat)) ++ v33_8)] 26 (0, 0)) :: (rp, .cells #[bv, .int .i64 ((p_33_8 : Int))] 106 (0, 0)) :: hs)) 1 rfl rfl rfl rfl rfl (by kernel_rfl : _ = some Tryd.t26) rfl rfl rfl rfl rfl ?_
       refine Ll.nil ?_
       refine Kt.onSub (e' := [(4, .pointer (some ⟨p4, 0, none⟩))]) (Sub.cons rfl Sub.nil) ?_
       refine Wk.ret (Kt.endBox (cs := #[.int .i64 a.n, str a.set, str ((a.rel.take ((((a.rel.length : Int)) - (1 : Int)).toNat)) ++ v33_8)]) 1 rfl rfl rfl Tryd.isAgg26 Tryd.sizeOf26 fun w' hw => ?_)
       -- ret 10: .pointer (some ⟨p4, 0, none⟩)
       exact ⟨⟨a.n, a.set, (a.rel.take ((((a.rel.length : Int)) - (1 : Int)).toNat)) ++ v33_8⟩, p_33_8, rfl, ⟨⟨⟨by dsimp only; omega, by dsimp only; omega⟩, by dsimp only; omega, by dsimp only; simp only [List.length_append, List.length_take]; omega⟩, by omega⟩, hw.sub (List.Sublist.cons _ (List.Sublist.cons _ (List.Sublist.cons _ (List.Sublist.cons_cons _ (List.Sublist.refl _)))))⟩
      ·
       refine Ll.callRd (rp := rp) (RT := 106) (p := p_6) (bv := bv) (hs := hs) (ok := fun (v : List UInt8) p' => v ∈ (([[], [50], [48, 49]] : List (List UInt8))) ∧ p' = p_6 + 1) (v := fun (v : List UInt8) => str v) (new := fun (v : List UInt8) => []) (xs := [.tmp 31, .tmp 32]) (vs := [.pointer (some ⟨rp, 0, none⟩), .slice (some ⟨p32_4, 0, none⟩) 3 3]) ([(p32_4, .cells #[str ([]), str ([50]), str ([48, 49])] 9 (0, 0)), (p4, .cells #[.int .i64 0, str ([]), str ([])] 26 (0, 0)), (p3, .cells #[.int .i64 a.n, str a.set, str a.rel] 26 (0, 0))] : List (Nat × Obj)) rfl rfl rfl rfl Tryd.call132 rfl (fun w1 hw1 => (of_ok B w0 (([(p32_4, .cells #[str ([]), str ([50]), str ([48, 49])] 9 (0, 0)), (p4, .cells #[.int .i64 0, str ([]), str ([])] 26 (0, 0)), (p3, .cells #[.int .i64 a.n, str a.set, str a.rel] 26 (0, 0))] : List (Nat × Obj)) ++ hs) rp p_6 bv L (.slice (some ⟨p32_4, 0, none⟩) 3 3) (([[], [50], [48, 49]] : List (List UInt8))) w1 (fun w2 hw2 => hb w2 (Own.drop (f := ([(p32_4, .cells #[str ([]), str ([50]), str ([48, 49])] 9 (0, 0)), (p4, .cells #[.int .i64 0, str ([]), str ([])] 26 (0, 0)), (p3, .cells #[.int .i64 a.n, str a.set, str a.rel] 26 (0, 0))] : List (Nat × Obj))) hw2)) hL8 hL (fun w2 h2 => (Own.row h2 (i := 0) rfl (n := 3) (cap := 3) (vs := strs ([[], [50], [48, 49]] : List (List UInt8))) rfl rfl (by decide))) (by simp) (by omega) hw1).mono fun en w' ⟨v', p', h1, h2, h3⟩ => ⟨v', p', h1, h2, h3⟩) fun v33_9 p_33_9 hKp_33_9 => ?_
       show Ll _ _ (Own _ _ ((p32_4, .cells #[str ([]), str ([50]), str ([48, 49])] 9 (0, 0)) :: (p4, .cells #[.int .i64 0, str ([]), str ([])] 26 (0, 0)) :: (p3, .cells #[.int .i64 a.n, str a.set, str a.rel] 26 (0, 0)) :: (rp, .cells #[bv, .int .i64 ((p_33_9 : Int))] 106 (0, 0)) :: hs)) _ _ ((33, str v33_9) :: _) _ _ _
       obtain ⟨hmv33_9, hep_33_9⟩ := hKp_33_9
       refine Ll.nil (Lu.joint (fun _ h => h.pick [1] rfl (by decide)) ?_)
       refine Lu.loud rfl ?_
       refine Ll.op (v := str a.rel) rfl rfl rfl (OpQ.loadOwn 2 rfl Tryd.isAgg9 rfl rfl rfl) ?_
       refine Ll.nil (Lu.joint (fun _ h => h.pick [1] rfl (by decide)) ?_)
       refine Lu.take (v := str (a.rel.take ((((a.rel.length : Int)) - (1 : Int)).toNat))) rfl rfl rfl rfl rfl (OpQ.sliceStrTo rfl Tryd.underlying9 rfl rfl (by omega) (by omega)) (fun _ h => h.pick [1] rfl (by decide)) ?_
       have hv33 : v33_9.length ≤ 2 := by simp at hmv33_9; rcases hmv33_9 with h | h | h <;> subst h <;> decide
       refine Lu.take (v := str ((a.rel.take ((((a.rel.length : Int)) - (1 : Int)).toNat)) ++ v33_9)) rfl rfl rfl rfl rfl (OpQ.sadd rfl rfl rfl (by simp only [List.length_take]; omega)) (fun _ h => h.pick [1] rfl (by decide)) ?_
       refine Lu.take (v := .pointer (some ⟨p3, 2, none⟩)) rfl rfl rfl rfl rfl (OpQ.fieldAddr rfl Tryd.runUnderlying26 rfl Tryd.sizeOf9 rfl rfl) (fun _ h => h.pick [1] rfl (by decide)) ?_
       refine Lu.loud rfl ?_
       refine Ll.store1 (v := str ((a.rel.take ((((a.rel.length : Int)) - (1 : Int)).toNat)) ++ v33_9)) (hs' := ((p32_4, .cells #[str ([]), str ([50]), str ([48, 49])] 9 (0, 0)) :: (p4, .cells #[.int .i64 0, str ([]), str ([])] 26 (0, 0)) :: (p3, .cells #[.int .i64 a.n, str a.set, str ((a.rel.take ((((a.rel.length : Int)) - (1 : Int)).toNat)) ++ v33_9)] 26 (0, 0)) :: (rp, .cells #[bv, .int .i64 ((p_33_9 : Int))] 106 (0, 0)) :: hs)) 2 rfl rfl rfl rfl rfl rfl Tryd.sizeOf9 rfl (by simp) rfl ?_
       refine Ll.nil (Lu.joint (fun _ h => h.pick [1] rfl (by decide)) ?_)
       refine Lu.nil ?_
       refine Kt.onSub (e' := [(3, .pointer (some ⟨p3, 0, none⟩)), (4, .pointer (some ⟨p4, 0, none⟩))]) (Sub.cons rfl (Sub.cons rfl Sub.nil)) ?_
       refine Wk.seq ?_
       refine Wk.region ?_
       refine Ll.op (v := .agg #[.int .i64 a.n, str a.set, str ((a.rel.take ((((a.rel.length : Int)) - (1 : Int)).toNat)) ++ v33_9)]) rfl rfl rfl (OpQ.loadBox (cs := #[.int .i64 a.n, str a.set, str ((a.rel.take ((((a.rel.length : Int)) - (1 : Int)).toNat)) ++ v33_9)]) 2 rfl Tryd.isAgg26 rfl rfl Tryd.sizeOf26) ?_
       refine Ll.storeBox (cs' := #[.int .i64 a.n, str a.set, str ((a.rel.take ((((a.rel.length : Int)) - (1 : Int)).toNat)) ++ v33_9)]) (hs' := ((p32_4, .cells #[str ([]), str ([50]), str ([48, 49])] 9 (0, 0)) :: (p4, .cells #[.int .i64 a.n, str a.set, str ((a.rel.take ((((a.rel.length : Int)) - (1 : Int)).toNat)) ++ v33_9)] 26 (0, 0)) :: (p3, .cells #[.int .i64 a.n, str a.set, str ((a.rel.take ((((a.rel.length : Int)) - (1 : Int)).toNat)) ++ v33_9)] 26 (0, 0)) :: (rp, .cells #[bv, .int .i64 ((p_33_9 : Int))] 106 (0, 0)) :: hs)) 1 rfl rfl rfl rfl rfl (by kernel_rfl : _ = some Tryd.t26) rfl rfl rfl rfl rfl ?_
       refine Ll.nil ?_
       refine Kt.onSub (e' := [(4, .pointer (some ⟨p4, 0, none⟩))]) (Sub.cons rfl Sub.nil) ?_
       refine Wk.ret (Kt.endBox (cs := #[.int .i64 a.n, str a.set, str ((a.rel.take ((((a.rel.length : Int)) - (1 : Int)).toNat)) ++ v33_9)]) 1 rfl rfl rfl Tryd.isAgg26 Tryd.sizeOf26 fun w' hw => ?_)
       -- ret 11: .pointer (some ⟨p4, 0, none⟩)
       exact ⟨⟨a.n, a.set, (a.rel.take ((((a.rel.length : Int)) - (1 : Int)).toNat)) ++ v33_9⟩, p_33_9, rfl, ⟨⟨⟨by dsimp only; omega, by dsimp only; omega⟩, by dsimp only; omega, by dsimp only; simp only [List.length_append, List.length_take]; omega⟩, by omega⟩, hw.sub (List.Sublist.cons _ (List.Sublist.cons _ (List.Sublist.cons _ (List.Sublist.cons_cons _ (List.Sublist.refl _)))))⟩
     ·
      refine Ll.callRd (rp := rp) (RT := 106) (p := p_6) (bv := bv) (hs := hs) (ok := fun (v : List UInt8) p' => v ∈ (([[], [50], [48, 49]] : List (List UInt8))) ∧ p' = p_6 + 1) (v := fun (v : List UInt8) => str v) (new := fun (v : List UInt8) => []) (xs := [.tmp 31, .tmp 32]) (vs := [.pointer (some ⟨rp, 0, none⟩), .slice (some ⟨p32_4, 0, none⟩) 3 3]) ([(p32_4, .cells #[str ([]), str ([50]), str ([48, 49])] 9 (0, 0)), (p4, .cells #[.int .i64 0, str ([]), str ([])] 26 (0, 0)), (p3, .cells #[.int .i64 a.n, str a.set, str a.rel] 26 (0, 0))] : List (Nat × Obj)) rfl rfl rfl rfl Tryd.call132 rfl (fun w1 hw1 => (of_ok B w0 (([(p32_4, .cells #[str ([]), str ([50]), str ([48, 49])] 9 (0, 0)), (p4, .cells #[.int .i64 0, str ([]), str ([])] 26 (0, 0)), (p3, .cells #[.int .i64 a.n, str a.set, str a.rel] 26 (0, 0))] : List (Nat × Obj)) ++ hs) rp p_6 bv L (.slice (some ⟨p32_4, 0, none⟩) 3 3) (([[], [50], [48, 49]] : List (List UInt8))) w1 (fun w2 hw2 => hb w2 (Own.drop (f := ([(p32_4, .cells #[str ([]), str ([50]), str ([48, 49])] 9 (0, 0)), (p4, .cells #[.int .i64 0, str ([]), str ([])] 26 (0, 0)), (p3, .cells #[.int .i64 a.n, str a.set, str a.rel] 26 (0, 0))] : List (Nat × Obj))) hw2)) hL8 hL (fun w2 h2 => (Own.row h2 (i := 0) rfl (n := 3) (cap := 3) (vs := strs ([[], [50], [48, 49]] : List (List UInt8))) rfl rfl (by decide))) (by simp) (by omega) hw1).mono fun en w' ⟨v', p', h1, h2, h3⟩ => ⟨v', p', h1, h2, h3⟩) fun v33_10 p_33_10 hKp_33_10 => ?_
      show Ll _ _ (Own _ _ ((p32_4, .cells #[str ([]), str ([50]), str ([48, 49])] 9 (0, 0)) :: (p4, .cells #[.int .i64 0, str ([]), str ([])] 26 (0, 0)) :: (p3, .cells #[.int .i64 a.n, str a.set, str a.rel] 26 (0, 0)) :: (rp, .cells #[bv, .int .i64 ((p_33_10 : Int))] 106 (0, 0)) :: hs)) _ _ ((33, str v33_10) :: _) _ _ _
      obtain ⟨hmv33_10, hep_33_10⟩ := hKp_33_10
      refine Ll.nil (Lu.joint (fun _ h => h.pick [1] rfl (by decide)) ?_)
      refine Lu.two rfl rfl ?_ ?_
      ·
       refine Ll.op (v := str a.rel) rfl rfl rfl (OpQ.loadOwn 2 rfl Tryd.isAgg9 rfl rfl rfl) ?_
       refine Ll.nil (Lu.joint (fun _ h => h.pick [1] rfl (by decide)) ?_)
       refine Lu.loud rfl ?_
       refine Ll.op (v := str a.rel) rfl rfl rfl (OpQ.loadOwn 2 rfl Tryd.isAgg9 rfl rfl rfl) ?_
       refine Ll.nil (Lu.joint (fun _ h => h.pick [1] rfl (by decide)) ?_)
       refine Lu.take (v := .int .i64 ((a.rel.length : Int))) rfl rfl rfl rfl rfl (OpQ.lenStr rfl Tryd.runUnderlying9 rfl) (fun _ h => h.pick [1] rfl (by decide)) ?_
       refine Lu.take (v := .int .i64 (((a.rel.length : Int)) - (1 : Int))) rfl rfl rfl rfl rfl (OpQ.sub rfl rfl rfl (by omega) (by omega)) (fun _ h => h.pick [1] rfl (by decide)) ?_
       refine Lu.take (v := str (a.rel.take ((((a.rel.length : Int)) - (1 : Int)).toNat))) rfl rfl rfl rfl rfl (OpQ.sliceStrTo rfl Tryd.underlying9 rfl rfl (by omega) (by omega)) (fun _ h => h.pick [1] rfl (by decide)) ?_
       have hv33 : v33_10.length ≤ 2 := by simp at hmv33_10; rcases hmv33_10 with h | h | h <;> subst h <;> decide
       refine Lu.take (v := str ((a.rel.take ((((a.rel.length : Int)) - (1 : Int)).toNat)) ++ v33_10)) rfl rfl rfl rfl rfl (OpQ.sadd rfl rfl rfl (by simp only [List.length_take]; omega)) (fun _ h => h.pick [1] rfl (by decide)) ?_
       refine Lu.take (v := .pointer (some ⟨p3, 2, none⟩)) rfl rfl rfl rfl rfl (OpQ.fieldAddr rfl Tryd.runUnderlying26 rfl Tryd.sizeOf9 rfl rfl) (fun _ h => h.pick [1] rfl (by decide)) ?_
       refine Lu.loud rfl ?_
       refine Ll.store1 (v := str ((a.rel.take ((((a.rel.length : Int)) - (1 : Int)).toNat)) ++ v33_10)) (hs' := ((p32_4, .cells #[str ([]), str ([50]), str ([48, 49])] 9 (0, 0)) :: (p4, .cells #[.int .i64 0, str ([]), str ([])] 26 (0, 0)) :: (p3, .cells #[.int .i64 a.n, str a.set, str ((a.rel.take ((((a.rel.length : Int)) - (1 : Int)).toNat)) ++ v33_10)] 26 (0, 0)) :: (rp, .cells #[bv, .int .i64 ((p_33_10 : Int))] 106 (0, 0)) :: hs)) 2 rfl rfl rfl rfl rfl rfl Tryd.sizeOf9 rfl (by simp) rfl ?_
       refine Ll.nil (Lu.joint (fun _ h => h.pick [1] rfl (by decide)) ?_)
       refine Lu.nil ?_
       refine Kt.onSub (e' := [(3, .pointer (some ⟨p3, 0, none⟩)), (4, .pointer (some ⟨p4, 0, none⟩))]) (Sub.cons rfl (Sub.cons rfl Sub.nil)) ?_
       refine Wk.seq ?_
       refine Wk.region ?_
       refine Ll.op (v := .agg #[.int .i64 a.n, str a.set, str ((a.rel.take ((((a.rel.length : Int)) - (1 : Int)).toNat)) ++ v33_10)]) rfl rfl rfl (OpQ.loadBox (cs := #[.int .i64 a.n, str a.set, str ((a.rel.take ((((a.rel.length : Int)) - (1 : Int)).toNat)) ++ v33_10)]) 2 rfl Tryd.isAgg26 rfl rfl Tryd.sizeOf26) ?_
       refine Ll.storeBox (cs' := #[.int .i64 a.n, str a.set, str ((a.rel.take ((((a.rel.length : Int)) - (1 : Int)).toNat)) ++ v33_10)]) (hs' := ((p32_4, .cells #[str ([]), str ([50]), str ([48, 49])] 9 (0, 0)) :: (p4, .cells #[.int .i64 a.n, str a.set, str ((a.rel.take ((((a.rel.length : Int)) - (1 : Int)).toNat)) ++ v33_10)] 26 (0, 0)) :: (p3, .cells #[.int .i64 a.n, str a.set, str ((a.rel.take ((((a.rel.length : Int)) - (1 : Int)).toNat)) ++ v33_10)] 26 (0, 0)) :: (rp, .cells #[bv, .int .i64 ((p_33_10 : Int))] 106 (0, 0)) :: hs)) 1 rfl rfl rfl rfl rfl (by kernel_rfl : _ = some Tryd.t26) rfl rfl rfl rfl rfl ?_
       refine Ll.nil ?_
       refine Kt.onSub (e' := [(4, .pointer (some ⟨p4, 0, none⟩))]) (Sub.cons rfl Sub.nil) ?_
       refine Wk.ret (Kt.endBox (cs := #[.int .i64 a.n, str a.set, str ((a.rel.take ((((a.rel.length : Int)) - (1 : Int)).toNat)) ++ v33_10)]) 1 rfl rfl rfl Tryd.isAgg26 Tryd.sizeOf26 fun w' hw => ?_)
       -- ret 12: .pointer (some ⟨p4, 0, none⟩)
       exact ⟨⟨a.n, a.set, (a.rel.take ((((a.rel.length : Int)) - (1 : Int)).toNat)) ++ v33_10⟩, p_33_10, rfl, ⟨⟨⟨by dsimp only; omega, by dsimp only; omega⟩, by dsimp only; omega, by dsimp only; simp only [List.length_append, List.length_take]; omega⟩, by omega⟩, hw.sub (List.Sublist.cons _ (List.Sublist.cons _ (List.Sublist.cons _ (List.Sublist.cons_cons _ (List.Sublist.refl _)))))⟩
      ·
       refine Ll.op (v := str a.rel) rfl rfl rfl (OpQ.loadOwn 2 rfl Tryd.isAgg9 rfl rfl rfl) ?_
       refine Ll.nil (Lu.joint (fun _ h => h.pick [1] rfl (by decide)) ?_)
       refine Lu.take (v := .int .i64 ((a.rel.length : Int))) rfl rfl rfl rfl rfl (OpQ.lenStr rfl Tryd.runUnderlying9 rfl) (fun _ h => h.pick [1] rfl (by decide)) ?_
       refine Lu.take (v := .int .i64 (((a.rel.length : Int)) - (1 : Int))) rfl rfl rfl rfl rfl (OpQ.sub rfl rfl rfl (by omega) (by omega)) (fun _ h => h.pick [1] rfl (by decide)) ?_
       refine Lu.loud rfl ?_
       refine Ll.op (v := str a.rel) rfl rfl rfl (OpQ.loadOwn 2 rfl Tryd.isAgg9 rfl rfl rfl) ?_
       refine Ll.nil (Lu.joint (fun _ h => h.pick [1] rfl (by decide)) ?_)
       refine Lu.take (v := str (a.rel.take ((((a.rel.length : Int)) - (1 : Int)).toNat))) rfl rfl rfl rfl rfl (OpQ.sliceStrTo rfl Tryd.underlying9 rfl rfl (by omega) (by omega)) (fun _ h => h.pick [1] rfl (by decide)) ?_
       have hv33 : v33_10.length ≤ 2 := by simp at hmv33_10; rcases hmv33_10 with h | h | h <;> subst h <;> decide
       refine Lu.take (v := str ((a.rel.take ((((a.rel.length : Int)) - (1 : Int)).toNat)) ++ v33_10)) rfl rfl rfl rfl rfl (OpQ.sadd rfl rfl rfl (by simp only [List.length_take]; omega)) (fun _ h => h.pick [1] rfl (by decide)) ?_
       refine Lu.take (v := .pointer (some ⟨p3, 2, none⟩)) rfl rfl rfl rfl rfl (OpQ.fieldAddr rfl Tryd.runUnderlying26 rfl Tryd.sizeOf9 rfl rfl) (fun _ h => h.pick [1] rfl (by decide)) ?_
       refine Lu.loud rfl ?_
       refine Ll.store1 (v := str ((a.rel.take ((((a.rel.length : Int)) - (1 : Int)).toNat)) ++ v33_10)) (hs' := ((p32_4, .cells #[str ([]), str ([50]), str ([48, 49])] 9 (0, 0)) :: (p4, .cells #[.int .i64 0, str ([]), str ([])] 26 (0, 0)) :: (p3, .cells #[.int .i64 a.n, str a.set, str ((a.rel.take ((((a.rel.length : Int)) - (1 : Int)).toNat)) ++ v33_10)] 26 (0, 0)) :: (rp, .cells #[bv, .int .i64 ((p_33_10 : Int))] 106 (0, 0)) :: hs)) 2 rfl rfl rfl rfl rfl rfl Tryd.sizeOf9 rfl (by simp) rfl ?_
       refine Ll.nil (Lu.joint (fun _ h => h.pick [1] rfl (by decide)) ?_)
       refine Lu.nil ?_
       refine Kt.onSub (e' := [(3, .pointer (some ⟨p3, 0, none⟩)), (4, .pointer (some ⟨p4, 0, none⟩))]) (Sub.cons rfl (Sub.cons rfl Sub.nil)) ?_
       refine Wk.seq ?_
       refine Wk.region ?_
       refine Ll.op (v := .agg #[.int .i64 a.n, str a.set, str ((a.rel.take ((((a.rel.length : Int)) - (1 : Int)).toNat)) ++ v33_10)]) rfl rfl rfl (OpQ.loadBox (cs := #[.int .i64 a.n, str a.set, str ((a.rel.take ((((a.rel.length : Int)) - (1 : Int)).toNat)) ++ v33_10)]) 2 rfl Tryd.isAgg26 rfl rfl Tryd.sizeOf26) ?_
       refine Ll.storeBox (cs' := #[.int .i64 a.n, str a.set, str ((a.rel.take ((((a.rel.length : Int)) - (1 : Int)).toNat)) ++ v33_10)]) (hs' := ((p32_4, .cells #[str ([]), str ([50]), str ([48, 49])] 9 (0, 0)) :: (p4, .cells #[.int .i64 a.n, str a.set, str ((a.rel.take ((((a.rel.length : Int)) - (1 : Int)).toNat)) ++ v33_10)] 26 (0, 0)) :: (p3, .cells #[.int .i64 a.n, str a.set, str ((a.rel.take ((((a.rel.length : Int)) - (1 : Int)).toNat)) ++ v33_10)] 26 (0, 0)) :: (rp, .cells #[bv, .int .i64 ((p_33_10 : Int))] 106 (0, 0)) :: hs)) 1 rfl rfl rfl rfl rfl (by kernel_rfl : _ = some Tryd.t26) rfl rfl rfl rfl rfl ?_
       refine Ll.nil ?_
       refine Kt.onSub (e' := [(4, .pointer (some ⟨p4, 0, none⟩))]) (Sub.cons rfl Sub.nil) ?_
       refine Wk.ret (Kt.endBox (cs := #[.int .i64 a.n, str a.set, str ((a.rel.take ((((a.rel.length : Int)) - (1 : Int)).toNat)) ++ v33_10)]) 1 rfl rfl rfl Tryd.isAgg26 Tryd.sizeOf26 fun w' hw => ?_)
       -- ret 13: .pointer (some ⟨p4, 0, none⟩)
       exact ⟨⟨a.n, a.set, (a.rel.take ((((a.rel.length : Int)) - (1 : Int)).toNat)) ++ v33_10⟩, p_33_10, rfl, ⟨⟨⟨by dsimp only; omega, by dsimp only; omega⟩, by dsimp only; omega, by dsimp only; simp only [List.length_append, List.length_take]; omega⟩, by omega⟩, hw.sub (List.Sublist.cons _ (List.Sublist.cons _ (List.Sublist.cons _ (List.Sublist.cons_cons _ (List.Sublist.refl _)))))⟩
   ·
    replace h22 := of_decide_eq_false h22
    refine Wk.seq ?_
    refine Wk.regionQ ?_
    refine Lq.op (v := .bool (decide (k6 = (3 : Int)))) rfl rfl rfl (OpQ.eql rfl rfl rfl) ?_
    refine Lq.op (v := .bool (decide (k6 = (3 : Int)))) rfl rfl rfl (OpQ.assign rfl rfl) ?_
    refine Lq.nil ?_
    refine Kt.onSub (e' := [(3, .pointer (some ⟨p3, 0, none⟩)), (4, .pointer (some ⟨p4, 0, none⟩)), (36, .bool (decide (k6 = (3 : Int))))]) (Sub.cons rfl (Sub.cons rfl (Sub.cons rfl Sub.nil))) ?_
    refine Wk.cond (b := decide (k6 = (3 : Int))) rfl (fun h36 => ?_) (fun h36 => ?_)
    ·
     replace h36 := of_decide_eq_true h36
     refine Wk.seq ?_
     refine Wk.region ?_
     refine Ll.callSome (ok := fun (t : List UInt8) => t.length ≤ 40000) (v := fun (t : List UInt8) => str t) (xs := [.const (str ([48])), .const (.int .i64 9)]) (vs := [str ([48]), .int .i64 9]) rfl rfl rfl rfl Tryd.call133 rfl (fun w1 hw1 => (many_ok ([48]) w1 9 (by decide) (by decide) rfl).mono fun en w' ⟨t, h1, h2, h3⟩ => ⟨t, h1, h2, h3⟩) fun t38 hS38 => ?_
     show Ll _ _ (Own _ _ ((p4, .cells #[.int .i64 0, str ([]), str ([])] 26 (0, 0)) :: (p3, .cells #[.int .i64 a.n, str a.set, str a.rel] 26 (0, 0)) :: (rp, .cells #[bv, .int .i64 ((p_6 : Int))] 106 (0, 0)) :: hs)) _ _ ((38, str t38) :: _) _ _ _
     have hlt38 := hS38
     refine Ll.callSome (ok := fun (t : List UInt8) => t.length ≤ 40000) (v := fun (t : List UInt8) => str t) (xs := [.const (str ([49])), .const (.int .i64 81)]) (vs := [str ([49]), .int .i64 81]) rfl rfl rfl rfl Tryd.call133 rfl (fun w1 hw1 => (many_ok ([49]) w1 81 (by decide) (by decide) rfl).mono fun en w' ⟨t, h1, h2, h3⟩ => ⟨t, h1, h2, h3⟩) fun t39 hS39 => ?_
     show Ll _ _ (Own _ _ ((p4, .cells #[.int .i64 0, str ([]), str ([])] 26 (0, 0)) :: (p3, .cells #[.int .i64 a.n, str a.set, str a.rel] 26 (0, 0)) :: (rp, .cells #[bv, .int .i64 ((p_6 : Int))] 106 (0, 0)) :: hs)) _ _ ((39, str t39) :: _) _ _ _
     have hlt39 := hS39
     refine Ll.op (v := .agg #[.int .i64 9, str t38, str t39]) rfl rfl rfl (OpQ.build (xs := [.const (.int .i64 9), .tmp 38, .tmp 39]) (vs := [.int .i64 9, str t38, str t39]) rfl rfl (by kernel_rfl)) ?_
     refine Ll.storeBox (cs' := #[.int .i64 9, str t38, str t39]) (hs' := ((p4, .cells #[.int .i64 9, str t38, str t39] 26 (0, 0)) :: (p3, .cells #[.int .i64 a.n, str a.set, str a.rel] 26 (0, 0)) :: (rp, .cells #[bv, .int .i64 ((p_6 : Int))] 106 (0, 0)) :: hs)) 0 rfl rfl rfl rfl rfl (by kernel_rfl : _ = some Tryd.t26) rfl rfl rfl rfl rfl ?_
     refine Ll.nil ?_
     refine Kt.onSub (e' := [(4, .pointer (some ⟨p4, 0, none⟩))]) (Sub.cons rfl Sub.nil) ?_
     refine Wk.ret (Kt.endBox (cs := #[.int .i64 9, str t38, str t39]) 0 rfl rfl rfl Tryd.isAgg26 Tryd.sizeOf26 fun w' hw => ?_)
     -- ret 14: .pointer (some ⟨p4, 0, none⟩)
     exact ⟨⟨9, t38, t39⟩, p_6, rfl, ⟨⟨⟨by dsimp only; omega, by dsimp only; omega⟩, by dsimp only; omega, by dsimp only; omega⟩, by omega⟩, hw.sub (List.Sublist.cons _ (List.Sublist.cons _ (List.Sublist.cons_cons _ (List.Sublist.refl _))))⟩
    ·
     replace h36 := of_decide_eq_false h36
     refine Wk.skip ?_
     refine Kt.onSub (e' := [(3, .pointer (some ⟨p3, 0, none⟩)), (4, .pointer (some ⟨p4, 0, none⟩))]) (Sub.cons rfl (Sub.cons rfl Sub.nil)) ?_
     refine Wk.seq ?_
     refine Wk.region ?_
     refine Ll.op (v := vS a) rfl rfl rfl (OpQ.loadBox (cs := #[.int .i64 a.n, str a.set, str a.rel]) 1 rfl Tryd.isAgg26 rfl rfl Tryd.sizeOf26) ?_
     refine Ll.storeBox (cs' := #[.int .i64 a.n, str a.set, str a.rel]) (hs' := ((p4, .cells #[.int .i64 a.n, str a.set, str a.rel] 26 (0, 0)) :: (p3, .cells #[.int .i64 a.n, str a.set, str a.rel] 26 (0, 0)) :: (rp, .cells #[bv, .int .i64 ((p_6 : Int))] 106 (0, 0)) :: hs)) 0 rfl rfl rfl rfl rfl (by kernel_rfl : _ = some Tryd.t26) rfl rfl rfl rfl rfl ?_
     refine Ll.nil ?_
     refine Kt.onSub (e' := [(4, .pointer (some ⟨p4, 0, none⟩))]) (Sub.cons rfl Sub.nil) ?_
     refine Wk.ret (Kt.endBox (cs := #[.int .i64 a.n, str a.set, str a.rel]) 0 rfl rfl rfl Tryd.isAgg26 Tryd.sizeOf26 fun w' hw => ?_)
     -- ret 15: .pointer (some ⟨p4, 0, none⟩)
     exact ⟨⟨a.n, a.set, a.rel⟩, p_6, rfl, ⟨⟨⟨by dsimp only; omega, by dsimp only; omega⟩, by dsimp only; omega, by dsimp only; omega⟩, by omega⟩, hw.sub (List.Sublist.cons _ (List.Sublist.cons _ (List.Sublist.cons_cons _ (List.Sublist.refl _))))⟩

end Go.Proofs.YtcanofailfbllaaDoor
