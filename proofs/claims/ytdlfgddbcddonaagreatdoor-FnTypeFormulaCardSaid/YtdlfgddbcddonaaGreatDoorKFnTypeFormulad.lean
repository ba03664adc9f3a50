/-
  FnTypeFormula: all that its proof names (part 4)
-/
import Derived.Test.YtdlfgddbcddonaaGreatDoorKFnTypeFormulac
import Derived.Test.YtdlfgddbcddonaaGreatDoorKFnTypeFormulab
import Derived.Shelf.Small.Strs
import Derived.Shelf.Strings.Search3
import Derived.Test.YtdlfgddbcddonaaGreatDoorProg
namespace Go.Proofs.YtdlfgddbcddonaaGreatDoor
open Go.RowKit Go.Wk
set_option linter.unusedSimpArgs false
set_option maxHeartbeats 400000 in
/-- impl.typeFormula|zero -/
theorem tyf_zero (a : St) (va : Value) (xs : List Int) (w : World) (ha : a.Fine) (hva : Ints w va xs) (hA : a.Els xs) (hl4 : xs.length ≤ 4) :
    Calls Tryz.prog 77 [vS a, va, i6_ 0].toArray w fun en w' => en = .returned (.tuple #[str (optS (tyF a 0 xs)), .bool (tyF a 0 xs).isSome]) ∧ Below w.heap.size w w' := by
 refine fnStart (n := 83) (e := [(0, vS a), (1, va), (2, i6_ 0)]) Tryz.func77 rfl rfl rfl rfl Ends.both ?_
 have hfl := formB_len (a := a) hl4; refine zE (zV (yN (v := vS a) rfl rfl rfl rfl rfl fun p3 hp3 => ?_))
 show Ll _ _ (Own _ _ [_]) _ _ ((3, pt_ p3) :: _) _ _ _; refine zQ (v := str ([])) rfl rfl rfl (yB rfl rfl) ?_; refine zX 1 rfl (zH (zD [1, 2, 3] [_, _, _] rfl ?_)); refine zE (zB (zL rfl rfl rfl (zW (cs := #[i6_ a.n, str a.set, str a.rel]) 0 rfl Tryz.isAgg24 rfl rfl Tryz.sizeOf24) ?_)); refine zC 1 rfl (zL (v := str (formB a xs)) rfl rfl rfl (qD rfl Tryz.call133 rfl zU (fun w1 hw1 => factsFormula_ok a va xs w1 ha (Row.own hva hw1) hA hl4)) ?_); refine zC 1 rfl (zI (zD [1, 2, 3, 8] [_, _, _, _] rfl ?_)); refine zE (zE (zB (zC 2 rfl (zI (zD [1, 2, 3, 8, 21] [_, _, _, _, _] rfl ?_))))); refine qE (b := decide ((0 : Int) = (0 : Int))) rfl (fun h21 => ?_) (fun h21 => ?_)
 ·
  replace h21 := zK h21; refine zE (zB (zC 1 rfl (zL (v := .tuple #[str (shortS (formB a xs)), bo_ (shortB (formB a xs))]) rfl rfl rfl (qD rfl Tryz.call65 rfl zU (fun w1 hw1 => shortG_ok (formB a xs) w1 (by omega))) ?_))); refine zL (v := str (shortS (formB a xs))) rfl rfl rfl (qI rfl rfl rfl) ?_; refine zL (v := bo_ (shortB (formB a xs))) rfl rfl rfl (qI rfl rfl rfl) ?_; refine zC 2 rfl (zI (zD [6, 7] [_, _] rfl ?_)); refine qF (yJ rfl rfl rfl fun w' hw => ?_)
  exact ⟨by rw [shortS_of hfl]; unfold shortB; rw [decide_eq_true hfl]; rfl, hw.below⟩
 replace h21 := zJ h21
 exact absurd rfl h21
set_option maxHeartbeats 400000 in
/-- impl.typeFormula -/
theorem tyf_of (n : Nat) (a : St) (ih : ∀ (xs : List Int) (va : Value) (w : World), Ints w va xs → a.Els xs → xs.length + n ≤ 4 → Calls Tryz.prog 77 #[vS a, va, .int .i64 (n : Int)] w fun en w' => en = .returned (.tuple #[str (optS (tyF a n xs)), .bool (tyF a n xs).isSome]) ∧ Below w.heap.size w w') (va : Value) (xs : List Int) (w : World) (ha : a.Fine) (hva : Ints w va xs) (hA : a.Els xs) (hl5 : xs.length + (n + 1) ≤ 4) :
    Calls Tryz.prog 77 [vS a, va, i6_ ((n : Int) + 1)].toArray w fun en w' => en = .returned (.tuple #[str (optS (tyF a (n + 1) xs)), .bool (tyF a (n + 1) xs).isSome]) ∧ Below w.heap.size w w' := by
 refine fnStart (n := 83) (e := [(0, vS a), (1, va), (2, i6_ ((n : Int) + 1))]) Tryz.func77 rfl rfl rfl rfl Ends.both ?_
 have hl4 : xs.length ≤ 4 := by omega
 have hfl := formB_len (a := a) hl4
 have hm8 := ha.hi
 have hm1 := ha.lo
 have hv1 : (nameS xs.length).length = 1 := nameS_length (by omega); refine zE (zV (yN (v := vS a) rfl rfl rfl rfl rfl fun p3 hp3 => ?_))
 show Ll _ _ (Own _ _ [_]) _ _ ((3, pt_ p3) :: _) _ _ _; refine zQ (v := str ([])) rfl rfl rfl (yB rfl rfl) ?_; refine zX 1 rfl (zH (zD [1, 2, 3] [_, _, _] rfl ?_)); refine zE (zB (zL rfl rfl rfl (zW (cs := #[i6_ a.n, str a.set, str a.rel]) 0 rfl Tryz.isAgg24 rfl rfl Tryz.sizeOf24) ?_)); refine zC 1 rfl (zL (v := str (formB a xs)) rfl rfl rfl (qD rfl Tryz.call133 rfl zU (fun w1 hw1 => factsFormula_ok a va xs w1 ha (Row.own hva hw1) hA hl4)) ?_); refine zC 1 rfl (zI (zD [1, 2, 3, 8] [_, _, _, _] rfl ?_)); refine zE (zE (zB (zC 2 rfl (zI (zD [1, 2, 3, 8, 21] [_, _, _, _, _] rfl ?_))))); refine qE (b := decide (((n : Int) + 1) = (0 : Int))) rfl (fun h21 => ?_) (fun h21 => ?_)
 ·
  replace h21 := zK h21
  omega
 replace h21 := zJ h21; refine qH (zD [1, 2, 3, 8] [_, _, _, _] rfl ?_); refine zE (zV (qY (xs := []) (vs := []) yF rfl rfl rfl rfl rfl rfl (by decide) rfl fun p26 hp26 => ?_)); refine zX 1 rfl (zH (zD [1, 2, 3, 8, 9] [_, _, _, _, _] rfl ?_)); refine zE (zE (zB (zL rfl rfl rfl (zF rfl Tryz.runUnderlying24 rfl Tryz.sizeOf3 rfl rfl) ?_))); refine zL rfl rfl rfl (zM 1 rfl Tryz.isAgg3 rfl rfl rfl) ?_; refine zC 1 rfl (zI (zD [1, 2, 3, 8, 9, 28, 29] [_, _, _, _, _, _, _] rfl ?_)); refine qG (yM (σ := Nat × Nat × Nat × Array Value × List (List UInt8)) (fun ⟨k, g, c, cur, fs⟩ => (k : Int) ≤ a.n ∧ allS (fun x : Nat => tyF a n (xs ++ [(x : Int)])) k = some fs ∧ cur.size = c * 1 ∧ fs.length ≤ c ∧ cur.toList.take fs.length = strs fs) (fun ⟨k, g, c, cur, fs⟩ => [(1, va), (2, i6_ ((n : Int) + 1)), (3, pt_ p3), (8, str (formB a xs)), (9, sl_ g fs.length c), (28, i6_ a.n), (29, i6_ ((k : Int)))]) (fun ⟨k, g, c, cur, fs⟩ => Own w.heap.size w [bk_ g cur 9, bk_ p3 #[i6_ a.n, str a.set, str a.rel] 24]) (fun ⟨k, g, c, cur, fs⟩ => (a.n - k).toNat) ((0, p26, 0, #[], [])) ⟨by omega, rfl, rfl, Nat.le_refl 0, rfl⟩ (Sub.sel [1, 2, 3, 8, 9, 28, 29] rfl) (fun _ h => h) ?_)
 rintro ⟨k, g, c, cur, fs⟩ ⟨hk, hall, hc, hl, ht⟩
 dsimp only
 have hfn := allS_len hall; refine zE (zB (zC 1 rfl (zI (zD [1, 2, 3, 8, 9, 28, 29, 30] [_, _, _, _, _, _, _, _] rfl ?_)))); refine zE (qE (b := decide (((k : Int)) < a.n)) rfl (fun h30 => ?_) (fun h30 => ?_))
 ·
  replace h30 := zK h30
  have hx : a.El k := ⟨by omega, by omega⟩; refine qH (zD [1, 2, 3, 8, 9, 28, 29] [_, _, _, _, _, _, _] rfl ?_); refine zE (qG (zE (zB (zC 2 rfl (zI (zD [1, 2, 3, 8, 9, 10, 28, 29] [_, _, _, _, _, _, _, _] rfl ?_)))))); refine zE (Wk.regionO [(0, true), (1, true), (2, true), (4, true), (5, true), (3, false), (6, false), (7, true), (8, true), (9, true), (10, true), (11, true)] qQ (fun _ h => h.drawn) (by kernel_rfl) ?_); refine qM rfl rfl rfl rfl rfl (zW (cs := #[i6_ a.n, str a.set, str a.rel]) 1 rfl Tryz.isAgg24 rfl rfl Tryz.sizeOf24) (fun _ h => h) ?_; refine yE 3 rfl (fun _ h => h) ?_; refine qM (v := i6_ ((n : Int))) rfl rfl rfl rfl rfl (qZ (by congr 1; omega) (xO rfl rfl rfl (by omega) (by omega))) (fun _ h => h) ?_; refine qO rfl ?_; refine Ll.callRow (xs := [.tmp 34, .tmp 35]) (m := (xs ++ [(k : Int)]).length) (vs := ints (xs ++ [(k : Int)])) (el := 3) (size := 1) rfl rfl rfl rfl Tryz.call94 rfl (fun w1 hw1 => with_ok va xs ((k : Int)) w1 (Row.own hva hw1) (by omega)) fun p36 cap36 cur36 hp36 hcp36 hlp36 htp36 => ?_; refine zH (qK (fun _ h => h.tail) ?_); refine qO rfl ?_; refine zQ (v := .tuple #[str (optS (tyF a n (xs ++ [(k : Int)]))), bo_ ((tyF a n (xs ++ [(k : Int)])).isSome)]) rfl rfl rfl (qD rfl Tryz.call77 rfl zU (fun w1 hw1 => ih (xs ++ [(k : Int)]) (sl_ p36 ((xs ++ [(k : Int)]).length) cap36) w1 (yD hw1 (i := 0) rfl (by simpa using htp36) (by simp) hlp36) (els_more hA hx) (by rw [List.length_append, List.length_singleton]; omega))) ?_; refine zH (qK (fun _ h => h.tail) ?_); refine yE 1 rfl (fun _ h => h.tail) ?_; refine qM (v := str (optS (tyF a n (xs ++ [(k : Int)])))) rfl rfl rfl rfl rfl (qI rfl rfl rfl) (fun _ h => h.tail) ?_; refine qM (v := bo_ ((tyF a n (xs ++ [(k : Int)])).isSome)) rfl rfl rfl rfl rfl (qI rfl rfl rfl) (fun _ h => h.tail) ?_; refine yE 2 rfl (fun _ h => h.tail) ?_; refine xG ?_; refine zD [1, 2, 3, 8, 9, 11, 12, 28, 29] [_, _, _, _, _, _, _, _, _] rfl ?_; refine zE (zE (zB (zC 2 rfl (zI (zD [1, 2, 3, 8, 9, 11, 28, 29, 43] [_, _, _, _, _, _, _, _, _] rfl ?_))))); refine qE (b := !((tyF a n (xs ++ [(k : Int)])).isSome)) rfl (fun h43 => ?_) (fun h43 => ?_)
  ·
   replace h43 := not_true h43
   have hno : tyF a n (xs ++ [(k : Int)]) = none := none_of (by simpa using h43); refine zE (zB (zL (v := str ([])) rfl rfl rfl (yB rfl rfl) ?_)); refine zC 1 rfl (zI (zD [6, 7] [_, _] rfl ?_)); refine qF (yJ rfl rfl rfl fun w' hw => ?_)
   exact ⟨by rw [tyF_none (by omega) hno]; rfl, hw.below⟩
  replace h43 := not_false h43
  have hyes : (fun x : Nat => tyF a n (xs ++ [(x : Int)])) k = some (optS (tyF a n (xs ++ [(k : Int)]))) := optS_some (by simpa using h43); refine qH (zD [1, 2, 3, 8, 9, 11, 28, 29] [_, _, _, _, _, _, _, _] rfl ?_); refine zV (zX 2 rfl (qY (xs := [.tmp 45]) (vs := [str (optS (tyF a n (xs ++ [(k : Int)])))]) yF rfl rfl rfl rfl rfl rfl (by decide) rfl fun p46 hp46 => ?_)); refine xE (xs := fs) (ys := ([optS (tyF a n (xs ++ [(k : Int)]))] : List (List UInt8))) yF 2 rfl rfl rfl rfl rfl rfl rfl hc hl ht (fun w1 hw1 => (yD hw1 (i := 0) rfl (n := 1) (cap := 1) (vs := strs ([optS (tyF a n (xs ++ [(k : Int)]))] : List (List UInt8))) rfl rfl (by decide))) ((fs ++ (([optS (tyF a n (xs ++ [(k : Int)]))] : List (List UInt8)))).length) (by first | (simp; done) | (simp; omega)) (by first | (simp; done) | (simp; omega) | omega) fun p47 cap47 cur47 hp47 hcp47 hlp47 htp47 => ?_
  show Ll _ _ (Own _ _ [_, _, _, _]) _ _ ((47, sl_ p47 (((fs ++ (([optS (tyF a n (xs ++ [(k : Int)]))] : List (List UInt8)))).length)) cap47) :: _) _ _ _; refine zX 1 rfl (zH (zD [1, 2, 3, 8, 9, 28, 29] [_, _, _, _, _, _, _] rfl ?_)); refine zB (zL rfl rfl rfl (qN rfl rfl rfl (by omega) (by omega)) ?_); refine zC 1 rfl (zI (qX ((k + 1, p47, cap47, cur47, fs ++ (([optS (tyF a n (xs ++ [(k : Int)]))] : List (List UInt8))))) ⟨by omega, allS_yes hall hyes, by simpa using hcp47, hlp47, by simpa only [Nat.mul_one] using htp47⟩ (by omega) (Sub.sel [1, 2, 3, 8, 9, 28, 29] rfl) (fun _ h => h.sub (qC _ (qC _ (zA _ (zA _ (zS _))))))))
 replace h30 := zJ h30
 obtain rfl : k = a.n.toNat := by omega
 obtain ⟨hp4, hpn, hpf⟩ := parts_len (by omega) hall
 have hp0 : (dedup fs).length ≠ 0 := dedup_pos (by omega)
 have hta := typeAll_len (f := formB a xs) (v := nameS xs.length) hfl (by omega) hp4 (by omega) hp0
 have htn := typeAll_count (formB a xs) (nameS xs.length) (dedup fs)
 have hj1 := joinN_len (op := [124]) (by decide) hp4 hp0
 have hj2_ := joinN_len (op := [38]) (by decide) hta (by omega); refine yG rfl ?_; refine zD [1, 8, 9] [_, _, _] rfl ?_; refine zE (zV (zX 1 rfl (Ll.callRow (xs := [.tmp 49]) (m := (dedup fs).length) (vs := strs (dedup fs)) (el := 9) (size := 1) rfl rfl rfl rfl Tryz.call97 rfl (fun w1 hw1 => withoutEqual_ok (sl_ g fs.length c) fs w1 (yD hw1 (i := 0) rfl ht (by simp) hl) (by omega)) fun p50 cap50 cur50 hp50 hcp50 hlp50 htp50 => ?_))); refine zX 1 rfl (zH (zD [1, 8, 9] [_, _, _] rfl ?_)); refine zE (zB (zC 1 rfl (zL (v := i6_ ((xs.length : Int))) rfl rfl rfl (qS rfl Tryz.runUnderlying25 rfl (ints_length _) (fun w1 hw1 => Row.own hva hw1)) ?_))); refine zL (v := str (nameS xs.length)) rfl rfl rfl (qD rfl Tryz.call95 rfl zU (fun w1 hw1 => nameOf_ok xs.length w1 (by omega))) ?_; refine zC 1 rfl (zI (zD [8, 9, 13] [_, _, _] rfl ?_)); refine zE (zV (zX 1 rfl (qY (xs := [.tmp 54]) (vs := [str (formB a xs)]) yF rfl rfl rfl rfl rfl rfl (by decide) rfl fun p55 hp55 => ?_))); refine zX 1 rfl (zH (zD [9, 13, 14] [_, _, _] rfl ?_)); refine zE (zE (zB (zC 1 rfl (zL rfl rfl rfl (OpQ.lenS rfl Tryz.runUnderlying48 rfl) ?_)))); refine zC 1 rfl (zI (zD [9, 13, 14, 56, 57, 58] [_, _, _, _, _, _] rfl ?_)); refine qG (yM (σ := Nat × Nat × Nat × Array Value) (fun ⟨j, g2, c2, cur2⟩ => j ≤ (dedup fs).length ∧ cur2.size = c2 * 1 ∧ ([formB a xs] ++ ((dedup fs).take j).map (somePart (nameS xs.length))).length ≤ c2 ∧ cur2.toList.take ([formB a xs] ++ ((dedup fs).take j).map (somePart (nameS xs.length))).length = strs ([formB a xs] ++ ((dedup fs).take j).map (somePart (nameS xs.length)))) (fun ⟨j, g2, c2, cur2⟩ => [(9, sl_ p50 ((dedup fs).length) cap50), (13, str (nameS xs.length)), (14, sl_ g2 (([formB a xs] ++ ((dedup fs).take j).map (somePart (nameS xs.length))).length) c2), (56, sl_ p50 ((dedup fs).length) cap50), (57, i6_ (((dedup fs).length : Int))), (58, i6_ ((j : Int)))]) (fun ⟨j, g2, c2, cur2⟩ => Own w.heap.size w [bk_ g2 cur2 9, bk_ p50 cur50 9, bk_ g cur 9, bk_ p3 #[i6_ a.n, str a.set, str a.rel] 24]) (fun ⟨j, g2, c2, cur2⟩ => (dedup fs).length - j) ((0, p55, 1, #[str (formB a xs)])) ⟨by omega, rfl, Nat.le_refl 1, rfl⟩ (Sub.sel [9, 13, 14, 56, 57, 58] rfl) (fun _ h => h) ?_)
 rintro ⟨j, g2, c2, cur2⟩ ⟨hj, hc2, hl2, ht2⟩
 dsimp only; refine zE (zB (zC 1 rfl (zI (zD [9, 13, 14, 56, 57, 58, 59] [_, _, _, _, _, _, _] rfl ?_)))); refine zE (qE (b := decide (((j : Int)) < (((dedup fs).length : Int)))) rfl (fun h59 => ?_) (fun h59 => ?_))
 ·
  replace h59 := zK h59
  have hj2 : j < (dedup fs).length := by omega
  have hj4 := getM_len hp4 j; refine qH (zD [9, 13, 14, 56, 57, 58] [_, _, _, _, _, _] rfl ?_); refine zE (qG (zE (zB (zL (v := pf_ p50 (((j : Int)).toNat)) rfl rfl rfl (qZ (by rw [Nat.zero_add]) (yT (i := (j : Int)) rfl Tryz.runUnderlying48 Tryz.sizeOf9 rfl rfl (by omega) (by omega))) ?_)))); refine zL (v := str ((dedup fs).getD (((j : Int)).toNat) [])) rfl rfl rfl (xD 1 rfl Tryz.isAgg9 rfl rfl (cur_at (by simpa using htp50) (strs_at (c := dedup fs) (off := ((j : Int)).toNat) (by first | (simp; done) | (simp; omega) | omega)))) ?_; refine zC 1 rfl (zI (zD [9, 13, 14, 16, 56, 57, 58] [_, _, _, _, _, _, _] rfl ?_)); refine zV (zX 2 rfl (zQ rfl rfl rfl (qL rfl rfl rfl (by first | omega | (simp only [List.length_append, List.length_cons, List.length_nil]; omega))) ?_)); refine zX 1 rfl (zQ rfl rfl rfl (qL rfl rfl rfl (by simp only [List.length_append, List.length_cons, List.length_nil, Int.toNat_natCast]; omega)) ?_); refine qY (xs := [.tmp 66]) (vs := [str ((([83]) ++ (nameS xs.length)) ++ ((dedup fs).getD (((j : Int)).toNat) []))]) yF rfl rfl rfl rfl rfl rfl (by decide) rfl fun p67 hp67 => ?_; refine xE (xs := ([formB a xs] ++ ((dedup fs).take j).map (somePart (nameS xs.length)))) (ys := ([(([83]) ++ (nameS xs.length)) ++ ((dedup fs).getD (((j : Int)).toNat) [])] : List (List UInt8))) yF 1 rfl rfl rfl rfl rfl rfl rfl hc2 hl2 ht2 (fun w1 hw1 => (yD hw1 (i := 0) rfl (n := 1) (cap := 1) (vs := strs ([(([83]) ++ (nameS xs.length)) ++ ((dedup fs).getD (((j : Int)).toNat) [])] : List (List UInt8))) rfl rfl (by decide))) (((([formB a xs] ++ ((dedup fs).take j).map (somePart (nameS xs.length)))) ++ (([(([83]) ++ (nameS xs.length)) ++ ((dedup fs).getD (((j : Int)).toNat) [])] : List (List UInt8)))).length) (by first | (simp; done) | (simp; omega)) (by first | (simp; done) | (simp; omega) | omega) fun p68 cap68 cur68 hp68 hcp68 hlp68 htp68 => ?_
  show Ll _ _ (Own _ _ [_, _, _, _, _]) _ _ ((68, sl_ p68 ((((([formB a xs] ++ ((dedup fs).take j).map (somePart (nameS xs.length)))) ++ (([(([83]) ++ (nameS xs.length)) ++ ((dedup fs).getD (((j : Int)).toNat) [])] : List (List UInt8)))).length)) cap68) :: _) _ _ _; refine zX 1 rfl (zH (zD [9, 13, 14, 56, 57, 58] [_, _, _, _, _, _] rfl ?_)); refine zB (zL rfl rfl rfl (qN rfl rfl rfl (by omega) (by omega)) ?_); refine zC 1 rfl (zI (qX ((j + 1, p68, cap68, cur68)) ⟨by omega, by simpa using hcp68, by rw [some_step hj2]; exact hlp68, by rw [some_step hj2]; simpa only [Nat.mul_one, Int.toNat_natCast] using htp68⟩ (by omega) (Sub.cons rfl (Sub.cons rfl (Sub.cons (by rw [some_step hj2]; rfl) (Sub.sel [56, 57, 58] rfl)))) (fun _ h => h.tail)))
 replace h59 := zJ h59
 have hje : j = (dedup fs).length := by omega
 have hTA : ([formB a xs] ++ ((dedup fs).take j).map (somePart (nameS xs.length))) ++ [([65] ++ nameS xs.length) ++ joinN [124] (dedup fs)] = typeAll (formB a xs) (nameS xs.length) (dedup fs) := by
  rw [hje, List.take_length]; rfl
 have hj2b : (joinN [38] (typeAll (formB a xs) (nameS xs.length) (dedup fs))).length ≤ 40001 * 10 := Nat.le_trans hj2_ (Nat.mul_le_mul_left _ (by omega)); refine yG rfl ?_; refine zD [9, 13, 14] [_, _, _] rfl ?_; refine zE (zV (zX 2 rfl (zQ rfl rfl rfl (qL rfl rfl rfl (by first | omega | (simp only [List.length_append, List.length_cons, List.length_nil]; omega))) ?_))); refine zX 1 rfl (zQ (v := str (joinN ([124]) (dedup fs))) rfl rfl rfl (qD rfl Tryz.call96 rfl zU (fun w1 hw1 => joinedM_ok ([124]) (dedup fs) (sl_ p50 ((dedup fs).length) cap50) 4000 w1 (yD hw1 (i := 1) rfl (by simpa using htp50) (by simp) hlp50) hp4 (by decide) (by decide) (by omega) hp0)) ?_); refine zQ rfl rfl rfl (qL rfl rfl rfl (by first | omega | (simp only [List.length_append, List.length_cons, List.length_nil]; omega))) ?_; refine qY (xs := [.tmp 75]) (vs := [str ((([65]) ++ (nameS xs.length)) ++ (joinN ([124]) (dedup fs)))]) yF rfl rfl rfl rfl rfl rfl (by decide) rfl fun p76 hp76 => ?_; refine xE (xs := ([formB a xs] ++ ((dedup fs).take j).map (somePart (nameS xs.length)))) (ys := ([(([65]) ++ (nameS xs.length)) ++ (joinN ([124]) (dedup fs))] : List (List UInt8))) yF 1 rfl rfl rfl rfl rfl rfl rfl hc2 hl2 ht2 (fun w1 hw1 => (yD hw1 (i := 0) rfl (n := 1) (cap := 1) (vs := strs ([(([65]) ++ (nameS xs.length)) ++ (joinN ([124]) (dedup fs))] : List (List UInt8))) rfl rfl (by decide))) (((([formB a xs] ++ ((dedup fs).take j).map (somePart (nameS xs.length)))) ++ (([(([65]) ++ (nameS xs.length)) ++ (joinN ([124]) (dedup fs))] : List (List UInt8)))).length) (by first | (simp; done) | (simp; omega)) (by first | (simp; done) | (simp; omega) | omega) fun p77 cap77 cur77 hp77 hcp77 hlp77 htp77 => ?_
 show Ll _ _ (Own _ _ [_, _, _, _, _]) _ _ ((77, sl_ p77 ((((([formB a xs] ++ ((dedup fs).take j).map (somePart (nameS xs.length)))) ++ (([(([65]) ++ (nameS xs.length)) ++ (joinN ([124]) (dedup fs))] : List (List UInt8)))).length)) cap77) :: _) _ _ _; refine zX 1 rfl (zH (zD [14] [_] rfl ?_)); refine zE (zB (zC 1 rfl (zL (v := str (joinN ([38]) ((([formB a xs] ++ ((dedup fs).take j).map (somePart (nameS xs.length)))) ++ (([(([65]) ++ (nameS xs.length)) ++ (joinN ([124]) (dedup fs))] : List (List UInt8)))))) rfl rfl rfl (qD rfl Tryz.call96 rfl zU (fun w1 hw1 => joinedM_ok ([38]) ((([formB a xs] ++ ((dedup fs).take j).map (somePart (nameS xs.length)))) ++ (([(([65]) ++ (nameS xs.length)) ++ (joinN ([124]) (dedup fs))] : List (List UInt8)))) (sl_ p77 ((((([formB a xs] ++ ((dedup fs).take j).map (somePart (nameS xs.length)))) ++ (([(([65]) ++ (nameS xs.length)) ++ (joinN ([124]) (dedup fs))] : List (List UInt8)))).length)) cap77) 40000 w1 (yD hw1 (i := 1) rfl (by simpa using htp77) (by simp) hlp77) (by rw [hTA]; exact hta) (by decide) (by decide) (by rw [hTA, htn]; omega) (by rw [hTA, htn]; omega))) ?_))); refine zL (v := .tuple #[str (shortS (joinN ([38]) ((([formB a xs] ++ ((dedup fs).take j).map (somePart (nameS xs.length)))) ++ (([(([65]) ++ (nameS xs.length)) ++ (joinN ([124]) (dedup fs))] : List (List UInt8)))))), bo_ (shortB (joinN ([38]) ((([formB a xs] ++ ((dedup fs).take j).map (somePart (nameS xs.length)))) ++ (([(([65]) ++ (nameS xs.length)) ++ (joinN ([124]) (dedup fs))] : List (List UInt8))))))]) rfl rfl rfl (qD rfl Tryz.call65 rfl zU (fun w1 hw1 => shortG_ok (joinN ([38]) ((([formB a xs] ++ ((dedup fs).take j).map (somePart (nameS xs.length)))) ++ (([(([65]) ++ (nameS xs.length)) ++ (joinN ([124]) (dedup fs))] : List (List UInt8))))) w1 (by rw [hTA]; omega))) ?_; refine zL (v := str (shortS (joinN ([38]) ((([formB a xs] ++ ((dedup fs).take j).map (somePart (nameS xs.length)))) ++ (([(([65]) ++ (nameS xs.length)) ++ (joinN ([124]) (dedup fs))] : List (List UInt8))))))) rfl rfl rfl (qI rfl rfl rfl) ?_; refine zL (v := bo_ (shortB (joinN ([38]) ((([formB a xs] ++ ((dedup fs).take j).map (somePart (nameS xs.length)))) ++ (([(([65]) ++ (nameS xs.length)) ++ (joinN ([124]) (dedup fs))] : List (List UInt8))))))) rfl rfl rfl (qI rfl rfl rfl) ?_; refine zC 2 rfl (zI (zD [6, 7] [_, _] rfl ?_)); refine qF (yJ rfl rfl rfl fun w' hw => ?_)
 have hS := short_ty (tyF_some hall)
 exact ⟨by rw [hTA, ← hS.1, ← hS.2]; rfl, hw.below⟩
set_option maxHeartbeats 400000 in
/-- spec.l6Type|zero -/
theorem tys_zero (a : St) (va : Value) (xs : List Int) (w : World) (ha : a.Fine) (hva : Ints w va xs) (hA : a.Els xs) (hl4 : xs.length ≤ 4) :
    Calls Tryz.prog 80 [vS a, va, i6_ 0].toArray w fun en w' => en = .returned (.tuple #[str (tySp a 0 xs).1, .bool (tySp a 0 xs).2]) ∧ Below w.heap.size w w' := by
 refine fnStart (n := 85) (e := [(0, vS a), (1, va), (2, i6_ 0)]) Tryz.func80 rfl rfl rfl rfl Ends.both ?_; refine zE (zV (yN (v := vS a) rfl rfl rfl rfl rfl fun p3 hp3 => ?_))
 show Ll _ _ (Own _ _ [_]) _ _ ((3, pt_ p3) :: _) _ _ _; refine zQ (v := str ([])) rfl rfl rfl (yB rfl rfl) ?_; refine zX 1 rfl (zH (zD [1, 2, 3] [_, _, _] rfl ?_)); refine zE (zV (zQ rfl rfl rfl (zW (cs := #[i6_ a.n, str a.set, str a.rel]) 0 rfl Tryz.isAgg24 rfl rfl Tryz.sizeOf24) ?_)); refine zX 1 rfl (zQ (v := str (formB a xs)) rfl rfl rfl (qD rfl Tryz.call134 rfl zU (fun w1 hw1 => l3Describe_ok a va xs w1 ha (Row.own hva hw1) hA hl4)) ?_); refine qY (xs := [.tmp 18]) (vs := [str (formB a xs)]) yF rfl rfl rfl rfl rfl rfl (by decide) rfl fun p19 hp19 => ?_; refine zX 1 rfl (zH (zD [1, 2, 3, 8] [_, _, _, _] rfl ?_)); refine zE (zE (zB (zC 2 rfl (zI (zD [1, 2, 3, 8, 21] [_, _, _, _, _] rfl ?_))))); refine qE (b := decide ((0 : Int) = (0 : Int))) rfl (fun h21 => ?_) (fun h21 => ?_)
 ·
  replace h21 := zK h21; refine zE (zB (zC 1 rfl (zL (v := pt_ p19) rfl rfl rfl (qZ rfl (yT (i := 0) rfl Tryz.runUnderlying48 Tryz.sizeOf9 rfl rfl (by decide) (by decide))) ?_))); refine zL rfl rfl rfl (zM 0 rfl Tryz.isAgg9 rfl rfl rfl) ?_; refine zC 2 rfl (zI (zD [6, 7] [_, _] rfl ?_)); refine qF (yJ rfl rfl rfl fun w' hw => ?_)
  exact ⟨rfl, hw.below⟩
 replace h21 := zJ h21
 exact absurd rfl h21
set_option maxHeartbeats 400000 in
/-- spec.l6Type -/
theorem tys_of (n : Nat) (a : St) (ih : ∀ (xs : List Int) (va : Value) (w : World), Ints w va xs → a.Els xs → xs.length + n ≤ 4 → Calls Tryz.prog 80 #[vS a, va, .int .i64 (n : Int)] w fun en w' => en = .returned (.tuple #[str (tySp a n xs).1, .bool (tySp a n xs).2]) ∧ Below w.heap.size w w') (va : Value) (xs : List Int) (w : World) (ha : a.Fine) (hva : Ints w va xs) (hA : a.Els xs) (hl5 : xs.length + (n + 1) ≤ 4) :
    Calls Tryz.prog 80 [vS a, va, i6_ ((n : Int) + 1)].toArray w fun en w' => en = .returned (.tuple #[str (tySp a (n + 1) xs).1, .bool (tySp a (n + 1) xs).2]) ∧ Below w.heap.size w w' := by
 refine fnStart (n := 85) (e := [(0, vS a), (1, va), (2, i6_ ((n : Int) + 1))]) Tryz.func80 rfl rfl rfl rfl Ends.both ?_
 have hl4 : xs.length ≤ 4 := by omega
 have hfl := formB_len (a := a) hl4
 have hm8 := ha.hi
 have hm1 := ha.lo
 have hv1 : (nameS xs.length).length = 1 := nameS_length (by omega); refine zE (zV (yN (v := vS a) rfl rfl rfl rfl rfl fun p3 hp3 => ?_))
 show Ll _ _ (Own _ _ [_]) _ _ ((3, pt_ p3) :: _) _ _ _; refine zQ (v := str ([])) rfl rfl rfl (yB rfl rfl) ?_; refine zX 1 rfl (zH (zD [1, 2, 3] [_, _, _] rfl ?_)); refine zE (zV (zQ rfl rfl rfl (zW (cs := #[i6_ a.n, str a.set, str a.rel]) 0 rfl Tryz.isAgg24 rfl rfl Tryz.sizeOf24) ?_)); refine zX 1 rfl (zQ (v := str (formB a xs)) rfl rfl rfl (qD rfl Tryz.call134 rfl zU (fun w1 hw1 => l3Describe_ok a va xs w1 ha (Row.own hva hw1) hA hl4)) ?_); refine qY (xs := [.tmp 18]) (vs := [str (formB a xs)]) yF rfl rfl rfl rfl rfl rfl (by decide) rfl fun p19 hp19 => ?_; refine zX 1 rfl (zH (zD [1, 2, 3, 8] [_, _, _, _] rfl ?_)); refine zE (zE (zB (zC 2 rfl (zI (zD [1, 2, 3, 8, 21] [_, _, _, _, _] rfl ?_))))); refine qE (b := decide (((n : Int) + 1) = (0 : Int))) rfl (fun h21 => ?_) (fun h21 => ?_)
 ·
  replace h21 := zK h21
  omega
 replace h21 := zJ h21; refine qH (zD [1, 2, 3, 8] [_, _, _, _] rfl ?_); refine zE (zB (zC 1 rfl (zL (v := i6_ ((xs.length : Int))) rfl rfl rfl (qS rfl Tryz.runUnderlying25 rfl (ints_length _) (fun w1 hw1 => Row.own hva hw1)) ?_))); refine zC 1 rfl (zL (v := i6_ ((xs.length : Int))) rfl rfl rfl (qS rfl Tryz.runUnderlying25 rfl (ints_length _) (fun w1 hw1 => Row.own hva hw1)) ?_); refine zL rfl rfl rfl (qN rfl rfl rfl (by omega) (by omega)) ?_; refine zL (v := str (nameS xs.length)) rfl rfl rfl (qZ (congrArg str (slice_name xs.length)) (xL rfl Tryz.underlying9 rfl rfl rfl (by omega) (by omega) (by first | omega | (simp; omega)))) ?_; refine zC 1 rfl (zI (zD [1, 2, 3, 8, 9] [_, _, _, _, _] rfl ?_)); refine zE (zV (qY (xs := []) (vs := []) yF rfl rfl rfl rfl rfl rfl (by decide) rfl fun p31 hp31 => ?_)); refine zX 1 rfl (zH (zD [1, 2, 3, 8, 9, 10] [_, _, _, _, _, _] rfl ?_)); refine zE (zE (zB (zC 1 rfl (zI (zD [1, 2, 3, 8, 9, 10, 11] [_, _, _, _, _, _, _] rfl ?_))))); refine qG (yM (σ := Nat × Nat × Nat × Array Value × List (List UInt8)) (fun ⟨k, g, c, cur, fs⟩ => (k : Int) ≤ a.n ∧ allS (fun x : Nat => tyF a n (xs ++ [(x : Int)])) k = some fs ∧ cur.size = c * 1 ∧ fs.length ≤ c ∧ cur.toList.take fs.length = strs fs) (fun ⟨k, g, c, cur, fs⟩ => [(1, va), (2, i6_ ((n : Int) + 1)), (3, pt_ p3), (8, sl_ p19 1 1), (9, str (nameS xs.length)), (10, sl_ g fs.length c), (11, i6_ ((k : Int)))]) (fun ⟨k, g, c, cur, fs⟩ => Own w.heap.size w [bk_ g cur 9, bk_ p19 #[str (formB a xs)] 9, bk_ p3 #[i6_ a.n, str a.set, str a.rel] 24]) (fun ⟨k, g, c, cur, fs⟩ => (a.n - k).toNat) ((0, p31, 0, #[], [])) ⟨by omega, rfl, rfl, Nat.le_refl 0, rfl⟩ (Sub.sel [1, 2, 3, 8, 9, 10, 11] rfl) (fun _ h => h) ?_)
 rintro ⟨k, g, c, cur, fs⟩ ⟨hk, hall, hc, hl, ht⟩
 dsimp only
 have hfn := allS_len hall; refine zE (zE (zB (zC 1 rfl (zL rfl rfl rfl (zF rfl Tryz.runUnderlying24 rfl Tryz.sizeOf3 rfl rfl) ?_)))); refine zL rfl rfl rfl (zM 2 rfl Tryz.isAgg3 rfl rfl rfl) ?_; refine zC 1 rfl (zI (zD [1, 2, 3, 8, 9, 10, 11, 35] [_, _, _, _, _, _, _, _] rfl ?_)); refine qE (b := decide (((k : Int)) < a.n)) rfl (fun h35 => ?_) (fun h35 => ?_)
 ·
  replace h35 := zK h35
  have hx : a.El k := ⟨by omega, by omega⟩; refine qH (zD [1, 2, 3, 8, 9, 10, 11] [_, _, _, _, _, _, _] rfl ?_); refine zE (qG (zE (Wk.regionO [(0, true), (1, true), (2, true), (4, true), (5, true), (3, false), (6, false), (7, true), (8, true), (9, true), (10, true), (11, true)] qQ (fun _ h => h.drawn) (by kernel_rfl) ?_))); refine qM rfl rfl rfl rfl rfl (zW (cs := #[i6_ a.n, str a.set, str a.rel]) 2 rfl Tryz.isAgg24 rfl rfl Tryz.sizeOf24) (fun _ h => h) ?_; refine yE 3 rfl (fun _ h => h) ?_; refine qM (v := i6_ ((n : Int))) rfl rfl rfl rfl rfl (qZ (by congr 1; omega) (xO rfl rfl rfl (by omega) (by omega))) (fun _ h => h) ?_; refine qO rfl ?_; refine Ll.callRow (xs := [.tmp 40, .tmp 41]) (m := (xs ++ [(k : Int)]).length) (vs := ints (xs ++ [(k : Int)])) (el := 3) (size := 1) rfl rfl rfl rfl Tryz.call104 rfl (fun w1 hw1 => l4With_ok va xs ((k : Int)) w1 (Row.own hva hw1) (by omega)) fun p42 cap42 cur42 hp42 hcp42 hlp42 htp42 => ?_; refine zH (qK (fun _ h => h.tail) ?_); refine qO rfl ?_; refine zQ (v := .tuple #[str ((tySp a n (xs ++ [(k : Int)])).1), bo_ ((tySp a n (xs ++ [(k : Int)])).2)]) rfl rfl rfl (qD rfl Tryz.call80 rfl zU (fun w1 hw1 => ih (xs ++ [(k : Int)]) (sl_ p42 ((xs ++ [(k : Int)]).length) cap42) w1 (yD hw1 (i := 0) rfl (by simpa using htp42) (by simp) hlp42) (els_more hA hx) (by rw [List.length_append, List.length_singleton]; omega))) ?_; refine zH (qK (fun _ h => h.tail) ?_); refine yE 1 rfl (fun _ h => h.tail) ?_; refine qM (v := str ((tySp a n (xs ++ [(k : Int)])).1)) rfl rfl rfl rfl rfl (qI rfl rfl rfl) (fun _ h => h.tail) ?_; refine qM (v := bo_ ((tySp a n (xs ++ [(k : Int)])).2)) rfl rfl rfl rfl rfl (qI rfl rfl rfl) (fun _ h => h.tail) ?_; refine yE 2 rfl (fun _ h => h.tail) ?_; refine xG ?_; refine zD [1, 2, 3, 8, 9, 10, 11, 12, 13] [_, _, _, _, _, _, _, _, _] rfl ?_; refine zE (zE (zB (zC 2 rfl (zI (zD [1, 2, 3, 8, 9, 10, 11, 12, 49] [_, _, _, _, _, _, _, _, _] rfl ?_))))); refine qE (b := !((tySp a n (xs ++ [(k : Int)])).2)) rfl (fun h49 => ?_) (fun h49 => ?_)
  ·
   replace h49 := not_true h49
   have hno : tyF a n (xs ++ [(k : Int)]) = none := tySp_no (by simpa using h49); refine zE (zB (zL (v := str ([])) rfl rfl rfl (yB rfl rfl) ?_)); refine zC 1 rfl (zI (zD [6, 7] [_, _] rfl ?_)); refine qF (yJ rfl rfl rfl fun w' hw => ?_)
   exact ⟨by rw [tySp_none (by omega) hno], hw.below⟩
  replace h49 := not_false h49
  have hyes : (fun x : Nat => tyF a n (xs ++ [(x : Int)])) k = some (tySp a n (xs ++ [(k : Int)])).1 := tySp_at (by simpa using h49); refine qH (zD [1, 2, 3, 8, 9, 10, 11, 12] [_, _, _, _, _, _, _, _] rfl ?_); refine zV (zX 2 rfl (qY (xs := [.tmp 51]) (vs := [str ((tySp a n (xs ++ [(k : Int)])).1)]) yF rfl rfl rfl rfl rfl rfl (by decide) rfl fun p52 hp52 => ?_)); refine xE (xs := fs) (ys := ([(tySp a n (xs ++ [(k : Int)])).1] : List (List UInt8))) yF 2 rfl rfl rfl rfl rfl rfl rfl hc hl ht (fun w1 hw1 => (yD hw1 (i := 0) rfl (n := 1) (cap := 1) (vs := strs ([(tySp a n (xs ++ [(k : Int)])).1] : List (List UInt8))) rfl rfl (by decide))) ((fs ++ (([(tySp a n (xs ++ [(k : Int)])).1] : List (List UInt8)))).length) (by first | (simp; done) | (simp; omega)) (by first | (simp; done) | (simp; omega) | omega) fun p53 cap53 cur53 hp53 hcp53 hlp53 htp53 => ?_
  show Ll _ _ (Own _ _ [_, _, _, _, _]) _ _ ((53, sl_ p53 (((fs ++ (([(tySp a n (xs ++ [(k : Int)])).1] : List (List UInt8)))).length)) cap53) :: _) _ _ _; refine zX 1 rfl (zH (zD [1, 2, 3, 8, 9, 10, 11] [_, _, _, _, _, _, _] rfl ?_)); refine zB (zC 1 rfl (zL rfl rfl rfl (qN rfl rfl rfl (by omega) (by omega)) ?_)); refine zC 1 rfl (zI (qX ((k + 1, p53, cap53, cur53, fs ++ (([(tySp a n (xs ++ [(k : Int)])).1] : List (List UInt8))))) ⟨by omega, allS_yes hall hyes, by simpa using hcp53, hlp53, by simpa only [Nat.mul_one] using htp53⟩ (by omega) (Sub.sel [1, 2, 3, 8, 9, 10, 11] rfl) (fun _ h => h.sub (qC _ (qC _ (zA _ (zA _ (zA _ (zS _)))))))))
 replace h35 := zJ h35
 obtain rfl : k = a.n.toNat := by omega
 obtain ⟨hp4, hpn, hpf⟩ := parts_len (by omega) hall
 have hp0 : (dedup fs).length ≠ 0 := dedup_pos (by omega)
 have hta := typeAll_len (f := formB a xs) (v := nameS xs.length) hfl (by omega) hp4 (by omega) hp0
 have htn := typeAll_count (formB a xs) (nameS xs.length) (dedup fs)
 have hj1 := joinN_len (op := [124]) (by decide) hp4 hp0
 have hj2_ := joinN_len (op := [38]) (by decide) hta (by omega); refine yG rfl ?_; refine zD [8, 9, 10] [_, _, _] rfl ?_; refine zE (zV (zX 1 rfl (Ll.callRow (xs := [.tmp 54]) (m := (dedup fs).length) (vs := strs (dedup fs)) (el := 9) (size := 1) rfl rfl rfl rfl Tryz.call106 rfl (fun w1 hw1 => l6Each_ok (sl_ g fs.length c) fs w1 (yD hw1 (i := 0) rfl ht (by simp) hl) (by omega)) fun p55 cap55 cur55 hp55 hcp55 hlp55 htp55 => ?_))); refine zX 1 rfl (zH (zD [8, 9, 10] [_, _, _] rfl ?_)); refine zE (zE (zB (zC 1 rfl (zI (zD [8, 9, 10, 14] [_, _, _, _] rfl ?_))))); refine qG (yM (σ := Nat × Nat × Nat × Array Value) (fun ⟨j, g2, c2, cur2⟩ => j ≤ (dedup fs).length ∧ cur2.size = c2 * 1 ∧ ([formB a xs] ++ ((dedup fs).take j).map (somePart (nameS xs.length))).length ≤ c2 ∧ cur2.toList.take ([formB a xs] ++ ((dedup fs).take j).map (somePart (nameS xs.length))).length = strs ([formB a xs] ++ ((dedup fs).take j).map (somePart (nameS xs.length)))) (fun ⟨j, g2, c2, cur2⟩ => [(8, sl_ g2 (([formB a xs] ++ ((dedup fs).take j).map (somePart (nameS xs.length))).length) c2), (9, str (nameS xs.length)), (10, sl_ p55 ((dedup fs).length) cap55), (14, i6_ ((j : Int)))]) (fun ⟨j, g2, c2, cur2⟩ => Own w.heap.size w [bk_ p55 cur55 9, bk_ g cur 9, bk_ g2 cur2 9, bk_ p3 #[i6_ a.n, str a.set, str a.rel] 24]) (fun ⟨j, g2, c2, cur2⟩ => (dedup fs).length - j) ((0, p19, 1, #[str (formB a xs)])) ⟨by omega, rfl, Nat.le_refl 1, rfl⟩ (Sub.sel [8, 9, 10, 14] rfl) (fun _ h => h) ?_)
 rintro ⟨j, g2, c2, cur2⟩ ⟨hj, hc2, hl2, ht2⟩
 dsimp only; refine zE (zE (zB (zC 2 rfl (zL rfl rfl rfl (OpQ.lenS rfl Tryz.runUnderlying48 rfl) ?_)))); refine zC 1 rfl (zI (zD [8, 9, 10, 14, 59] [_, _, _, _, _] rfl ?_)); refine qE (b := decide (((j : Int)) < (((dedup fs).length : Int)))) rfl (fun h59 => ?_) (fun h59 => ?_)
 ·
  replace h59 := zK h59
  have hj2 : j < (dedup fs).length := by omega
  have hj4 := getM_len hp4 j; refine qH (zD [8, 9, 10, 14] [_, _, _, _] rfl ?_); refine zE (qG (zV (zX 2 rfl (zQ rfl rfl rfl (qL rfl rfl rfl (by first | omega | (simp only [List.length_append, List.length_cons, List.length_nil]; omega))) ?_)))); refine zX 2 rfl (zQ (v := pf_ p55 (((j : Int)).toNat)) rfl rfl rfl (qZ (by rw [Nat.zero_add]) (yT (i := (j : Int)) rfl Tryz.runUnderlying48 Tryz.sizeOf9 rfl rfl (by omega) (by omega))) ?_); refine zQ (v := str ((dedup fs).getD (((j : Int)).toNat) [])) rfl rfl rfl (xD 0 rfl Tryz.isAgg9 rfl rfl (cur_at (by simpa using htp55) (strs_at (c := dedup fs) (off := ((j : Int)).toNat) (by first | (simp; done) | (simp; omega) | omega)))) ?_; refine zQ rfl rfl rfl (qL rfl rfl rfl (by simp only [List.length_append, List.length_cons, List.length_nil, Int.toNat_natCast]; omega)) ?_; refine qY (xs := [.tmp 69]) (vs := [str ((([83]) ++ (nameS xs.length)) ++ ((dedup fs).getD (((j : Int)).toNat) []))]) yF rfl rfl rfl rfl rfl rfl (by decide) rfl fun p70 hp70 => ?_; refine xE (xs := ([formB a xs] ++ ((dedup fs).take j).map (somePart (nameS xs.length)))) (ys := ([(([83]) ++ (nameS xs.length)) ++ ((dedup fs).getD (((j : Int)).toNat) [])] : List (List UInt8))) yF 3 rfl rfl rfl rfl rfl rfl rfl hc2 hl2 ht2 (fun w1 hw1 => (yD hw1 (i := 0) rfl (n := 1) (cap := 1) (vs := strs ([(([83]) ++ (nameS xs.length)) ++ ((dedup fs).getD (((j : Int)).toNat) [])] : List (List UInt8))) rfl rfl (by decide))) (((([formB a xs] ++ ((dedup fs).take j).map (somePart (nameS xs.length)))) ++ (([(([83]) ++ (nameS xs.length)) ++ ((dedup fs).getD (((j : Int)).toNat) [])] : List (List UInt8)))).length) (by first | (simp; done) | (simp; omega)) (by first | (simp; done) | (simp; omega) | omega) fun p71 cap71 cur71 hp71 hcp71 hlp71 htp71 => ?_
  show Ll _ _ (Own _ _ [_, _, _, _, _]) _ _ ((71, sl_ p71 ((((([formB a xs] ++ ((dedup fs).take j).map (somePart (nameS xs.length)))) ++ (([(([83]) ++ (nameS xs.length)) ++ ((dedup fs).getD (((j : Int)).toNat) [])] : List (List UInt8)))).length)) cap71) :: _) _ _ _; refine zX 1 rfl (zH (zD [8, 9, 10, 14] [_, _, _, _] rfl ?_)); refine zB (zC 1 rfl (zL rfl rfl rfl (qN rfl rfl rfl (by omega) (by omega)) ?_)); refine zC 1 rfl (zI (qX ((j + 1, p71, cap71, cur71)) ⟨by omega, by simpa using hcp71, by rw [some_step hj2]; exact hlp71, by rw [some_step hj2]; simpa only [Nat.mul_one, Int.toNat_natCast] using htp71⟩ (by omega) (Sub.cons (by rw [some_step hj2]; rfl) (Sub.sel [9, 10, 14] rfl)) (fun _ h => h.tail)))
 replace h59 := zJ h59
 have hje : j = (dedup fs).length := by omega
 have hTA : ([formB a xs] ++ ((dedup fs).take j).map (somePart (nameS xs.length))) ++ [([65] ++ nameS xs.length) ++ joinN [124] (dedup fs)] = typeAll (formB a xs) (nameS xs.length) (dedup fs) := by
  rw [hje, List.take_length]; rfl
 have hj2b : (joinN [38] (typeAll (formB a xs) (nameS xs.length) (dedup fs))).length ≤ 40001 * 10 := Nat.le_trans hj2_ (Nat.mul_le_mul_left _ (by omega))
 have hTS := tySp_some hall; refine yG rfl ?_; refine zD [8, 9, 10] [_, _, _] rfl ?_; refine zE (zV (zX 2 rfl (zQ rfl rfl rfl (qL rfl rfl rfl (by first | omega | (simp only [List.length_append, List.length_cons, List.length_nil]; omega))) ?_))); refine zX 1 rfl (zQ (v := str (joinN ([124]) (dedup fs))) rfl rfl rfl (qD rfl Tryz.call105 rfl zU (fun w1 hw1 => l2JoinM_ok ([124]) (dedup fs) (sl_ p55 ((dedup fs).length) cap55) 4000 w1 (yD hw1 (i := 0) rfl (by simpa using htp55) (by simp) hlp55) hp4 (by decide) (by decide) (by omega) hp0)) ?_); refine zQ rfl rfl rfl (qL rfl rfl rfl (by first | omega | (simp only [List.length_append, List.length_cons, List.length_nil]; omega))) ?_; refine qY (xs := [.tmp 77]) (vs := [str ((([65]) ++ (nameS xs.length)) ++ (joinN ([124]) (dedup fs)))]) yF rfl rfl rfl rfl rfl rfl (by decide) rfl fun p78 hp78 => ?_; refine xE (xs := ([formB a xs] ++ ((dedup fs).take j).map (somePart (nameS xs.length)))) (ys := ([(([65]) ++ (nameS xs.length)) ++ (joinN ([124]) (dedup fs))] : List (List UInt8))) yF 3 rfl rfl rfl rfl rfl rfl rfl hc2 hl2 ht2 (fun w1 hw1 => (yD hw1 (i := 0) rfl (n := 1) (cap := 1) (vs := strs ([(([65]) ++ (nameS xs.length)) ++ (joinN ([124]) (dedup fs))] : List (List UInt8))) rfl rfl (by decide))) (((([formB a xs] ++ ((dedup fs).take j).map (somePart (nameS xs.length)))) ++ (([(([65]) ++ (nameS xs.length)) ++ (joinN ([124]) (dedup fs))] : List (List UInt8)))).length) (by first | (simp; done) | (simp; omega)) (by first | (simp; done) | (simp; omega) | omega) fun p79 cap79 cur79 hp79 hcp79 hlp79 htp79 => ?_
 show Ll _ _ (Own _ _ [_, _, _, _, _]) _ _ ((79, sl_ p79 ((((([formB a xs] ++ ((dedup fs).take j).map (somePart (nameS xs.length)))) ++ (([(([65]) ++ (nameS xs.length)) ++ (joinN ([124]) (dedup fs))] : List (List UInt8)))).length)) cap79) :: _) _ _ _; refine zQ (v := str (joinN ([38]) ((([formB a xs] ++ ((dedup fs).take j).map (somePart (nameS xs.length)))) ++ (([(([65]) ++ (nameS xs.length)) ++ (joinN ([124]) (dedup fs))] : List (List UInt8)))))) rfl rfl rfl (qD rfl Tryz.call105 rfl zU (fun w1 hw1 => l2JoinM_ok ([38]) ((([formB a xs] ++ ((dedup fs).take j).map (somePart (nameS xs.length)))) ++ (([(([65]) ++ (nameS xs.length)) ++ (joinN ([124]) (dedup fs))] : List (List UInt8)))) (sl_ p79 ((((([formB a xs] ++ ((dedup fs).take j).map (somePart (nameS xs.length)))) ++ (([(([65]) ++ (nameS xs.length)) ++ (joinN ([124]) (dedup fs))] : List (List UInt8)))).length)) cap79) 40000 w1 (yD hw1 (i := 3) rfl (by simpa using htp79) (by simp) hlp79) (by rw [hTA]; exact hta) (by decide) (by decide) (by rw [hTA, htn]; omega) (by rw [hTA, htn]; omega))) ?_; refine zX 1 rfl (zH (zD [15] [_] rfl ?_)); refine zE (zB (zC 2 rfl (zL (v := i6_ (((joinN ([38]) ((([formB a xs] ++ ((dedup fs).take j).map (somePart (nameS xs.length)))) ++ (([(([65]) ++ (nameS xs.length)) ++ (joinN ([124]) (dedup fs))] : List (List UInt8))))).length : Int))) rfl rfl rfl (xA rfl Tryz.runUnderlying9 rfl) ?_))); refine zC 3 rfl (zI (zD [6, 7] [_, _] rfl ?_)); refine qF (yJ rfl rfl rfl fun w' hw => ?_)
 have hd : decide (((joinN [38] (typeAll (formB a xs) (nameS xs.length) (dedup fs))).length : Int) ≤ 4000) = decide ((typeJ (formB a xs) (nameS xs.length) (dedup fs)).length ≤ 4000) := decide_eq_decide.2 (by unfold typeJ; omega)
 exact ⟨by rw [hTA, hTS, hd]; rfl, hw.below⟩
theorem tyf_ok (a : St) (ha : a.Fine) : ∀ n : Nat, ∀ (xs : List Int) (va : Value) (w : World), Ints w va xs → a.Els xs → xs.length + n ≤ 4 → Calls Tryz.prog 77 #[vS a, va, .int .i64 (n : Int)] w fun en w' => en = .returned (.tuple #[str (optS (tyF a n xs)), .bool (tyF a n xs).isSome]) ∧ Below w.heap.size w w'
  | 0 => fun xs va w hva hA hl => tyf_zero a va xs w ha hva hA hl
  | n + 1 => fun xs va w hva hA hl => tyf_of n a (tyf_ok a ha n) va xs w ha hva hA hl
theorem tyf_at (a : St) (ha : a.Fine) (r : Int) (h0 : 0 ≤ r) : ∀ (xs : List Int) (va : Value) (w : World), Ints w va xs → a.Els xs → xs.length + r.toNat ≤ 4 → Calls Tryz.prog 77 #[vS a, va, .int .i64 r] w fun en w' => en = .returned (.tuple #[str (optS (tyF a r.toNat xs)), .bool (tyF a r.toNat xs).isSome]) ∧ Below w.heap.size w w' := by
  have h := tyf_ok a ha r.toNat
  rw [Int.toNat_of_nonneg h0] at h
  exact h
theorem tys_ok (a : St) (ha : a.Fine) : ∀ n : Nat, ∀ (xs : List Int) (va : Value) (w : World), Ints w va xs → a.Els xs → xs.length + n ≤ 4 → Calls Tryz.prog 80 #[vS a, va, .int .i64 (n : Int)] w fun en w' => en = .returned (.tuple #[str (tySp a n xs).1, .bool (tySp a n xs).2]) ∧ Below w.heap.size w w'
  | 0 => fun xs va w hva hA hl => tys_zero a va xs w ha hva hA hl
  | n + 1 => fun xs va w hva hA hl => tys_of n a (tys_ok a ha n) va xs w ha hva hA hl
theorem tys_at (a : St) (ha : a.Fine) (r : Int) (h0 : 0 ≤ r) : ∀ (xs : List Int) (va : Value) (w : World), Ints w va xs → a.Els xs → xs.length + r.toNat ≤ 4 → Calls Tryz.prog 80 #[vS a, va, .int .i64 r] w fun en w' => en = .returned (.tuple #[str (tySp a r.toNat xs).1, .bool (tySp a r.toNat xs).2]) ∧ Below w.heap.size w w' := by
  have h := tys_ok a ha r.toNat
  rw [Int.toNat_of_nonneg h0] at h
  exact h
set_option maxHeartbeats 400000 in
/-- impl.TypeFormula -/
theorem iType_ok (a : St) (va : Value) (xs : List Int) (w : World) (hsa : a.Small) (hva : Ints w va xs) (hs : xs.length ≤ 140737488355328) (r : Int) :
    Calls Tryz.prog 35 [vS a, va, i6_ r].toArray w fun en w' => en = .returned (.tuple #[str (optS (tyOut a xs r)), .bool (tyOut a xs r).isSome]) ∧ Below w.heap.size w w' := by
 refine fnStart (n := 33) (e := [(0, vS a), (1, va), (2, i6_ r)]) Tryz.func35 rfl rfl rfl rfl Ends.both ?_; refine zE (zV (yN (v := vS a) rfl rfl rfl rfl rfl fun p3 hp3 => ?_))
 show Ll _ _ (Own _ _ [_]) _ _ ((3, pt_ p3) :: _) _ _ _; refine zQ (v := str ([])) rfl rfl rfl (yB rfl rfl) ?_; refine zX 1 rfl (zH (zD [1, 2, 3] [_, _, _] rfl ?_)); refine zE (zE (zB (zL rfl rfl rfl (zW (cs := #[i6_ a.n, str a.set, str a.rel]) 0 rfl Tryz.isAgg24 rfl rfl Tryz.sizeOf24) ?_))); refine zC 1 rfl (zL (v := bo_ (listB a xs)) rfl rfl rfl (qD rfl Tryz.call76 rfl zU (fun w1 hw1 => isList_ok a va xs w1 hsa (Row.own hva hw1) (by first | (simp; done) | (simp; omega) | omega))) ?_); refine zC 2 rfl (yI fun b12 hg12 => ?_)
 cases b12
 ·
  replace hg12 := not_false hg12; refine zC 4 rfl (yI fun b16 hg16 => ?_)
  cases b16
  ·
   replace hg16 := zJ hg16; refine zC 4 rfl (yI fun b20 hg20 => ?_)
   cases b20
   ·
    replace hg20 := zJ hg20; refine zC 1 rfl (zL (v := i6_ ((xs.length : Int))) rfl rfl rfl (qS rfl Tryz.runUnderlying25 rfl (ints_length _) (fun w1 hw1 => Row.own hva hw1)) ?_); refine zC 1 rfl (zL rfl rfl rfl (qN rfl rfl rfl (by omega) (by omega)) ?_); refine zC 2 rfl (zI (zD [1, 2, 3, 26] [_, _, _, _] rfl ?_)); refine qE (b := decide ((4 : Int) < (((xs.length : Int)) + r))) rfl (fun h26 => ?_) (fun h26 => ?_)
    ·
     replace h26 := zK h26; refine zE (zB (zL (v := str ([])) rfl rfl rfl (yB rfl rfl) ?_)); refine zC 1 rfl (zI (zD [6, 7] [_, _] rfl ?_)); refine qF (yJ rfl rfl rfl fun w' hw => ?_)
     exact ⟨by unfold tyOut; rw [if_neg (by unfold inB at *; simp_all; try omega)]; rfl, hw.below⟩
    replace h26 := zJ h26
    have hLb : listB a xs = true := by simp_all
    obtain ⟨_, ha, hA, hl4⟩ := listB_true hLb
    have h0r : 0 ≤ r := (by omega)
    have h3r : r ≤ 3 := (by omega)
    have hrt : ((r.toNat : Nat) : Int) = r := Int.toNat_of_nonneg h0r
    have hO : tyOut a xs r = tyF a r.toNat xs := by unfold tyOut inB; rw [if_pos (by simp [hLb, h0r, h3r]; omega)]
    refine qH (zD [1, 2, 3] [_, _, _] rfl ?_); refine zE (zB (zL rfl rfl rfl (zW (cs := #[i6_ a.n, str a.set, str a.rel]) 0 rfl Tryz.isAgg24 rfl rfl Tryz.sizeOf24) ?_)); refine zC 2 rfl (zL (v := .tuple #[str (optS (tyF a r.toNat xs)), bo_ ((tyF a r.toNat xs).isSome)]) rfl rfl rfl (qD rfl Tryz.call77 rfl zU (fun w1 hw1 => tyf_at a ha r h0r xs va w1 (Row.own hva hw1) hA (by omega))) ?_); refine zL (v := str (optS (tyF a r.toNat xs))) rfl rfl rfl (qI rfl rfl rfl) ?_; refine zL (v := bo_ ((tyF a r.toNat xs).isSome)) rfl rfl rfl (qI rfl rfl rfl) ?_; refine zC 2 rfl (zI (zD [6, 7] [_, _] rfl ?_)); refine qF (yJ rfl rfl rfl fun w' hw => ?_)
    exact ⟨by rw [hO], hw.below⟩
   replace hg20 := zK hg20; refine zO rfl rfl rfl (zO rfl rfl rfl (zO rfl rfl rfl (zO rfl rfl rfl (zO rfl rfl rfl (zC 1 rfl (zI (zD [1, 2, 3, 26] [_, _, _, _] rfl ?_))))))); refine yK rfl ?_; refine zE (zB (zL (v := str ([])) rfl rfl rfl (yB rfl rfl) ?_)); refine zC 1 rfl (zI (zD [6, 7] [_, _] rfl ?_)); refine qF (yJ rfl rfl rfl fun w' hw => ?_)
   exact ⟨by unfold tyOut; rw [if_neg (by unfold inB at *; simp_all; try omega)]; rfl, hw.below⟩
  replace hg16 := zK hg16; refine zO rfl rfl rfl (zO rfl rfl rfl (zC 2 rfl ?_)); refine zO rfl rfl rfl (zO rfl rfl rfl (zO rfl rfl rfl (zO rfl rfl rfl (zO rfl rfl rfl (zC 1 rfl (zI (zD [1, 2, 3, 26] [_, _, _, _] rfl ?_))))))); refine yK rfl ?_; refine zE (zB (zL (v := str ([])) rfl rfl rfl (yB rfl rfl) ?_)); refine zC 1 rfl (zI (zD [6, 7] [_, _] rfl ?_)); refine qF (yJ rfl rfl rfl fun w' hw => ?_)
  exact ⟨by unfold tyOut; rw [if_neg (by unfold inB at *; simp_all; try omega)]; rfl, hw.below⟩
 replace hg12 := not_true hg12; refine zO rfl rfl rfl (zO rfl rfl rfl (zC 2 rfl (zO rfl rfl rfl (zO rfl rfl rfl (zC 2 rfl ?_))))); refine zO rfl rfl rfl (zO rfl rfl rfl (zO rfl rfl rfl (zO rfl rfl rfl (zO rfl rfl rfl (zC 1 rfl (zI (zD [1, 2, 3, 26] [_, _, _, _] rfl ?_))))))); refine yK rfl ?_; refine zE (zB (zL (v := str ([])) rfl rfl rfl (yB rfl rfl) ?_)); refine zC 1 rfl (zI (zD [6, 7] [_, _] rfl ?_)); refine qF (yJ rfl rfl rfl fun w' hw => ?_)
 exact ⟨by unfold tyOut; rw [if_neg (by unfold inB at *; simp_all; try omega)]; rfl, hw.below⟩
set_option maxHeartbeats 400000 in
/-- spec.TypeFormula -/
theorem sType_ok (a : St) (va : Value) (xs : List Int) (w : World) (hsa : a.Small) (hva : Ints w va xs) (hs : xs.length ≤ 140737488355328) (loa : -9223372036854775808 ≤ a.n) (hia : a.n ≤ 9223372036854775807) (r : Int) :
    Calls Tryz.prog 36 [vS a, va, i6_ r].toArray w fun en w' => en = .returned (.tuple #[str (optS (tyOut a xs r)), .bool (tyOut a xs r).isSome]) ∧ Below w.heap.size w w' := by
 refine fnStart (n := 36) (e := [(0, vS a), (1, va), (2, i6_ r)]) Tryz.func36 rfl rfl rfl rfl Ends.both ?_; refine zE (zV (yN (v := vS a) rfl rfl rfl rfl rfl fun p3 hp3 => ?_))
 show Ll _ _ (Own _ _ [_]) _ _ ((3, pt_ p3) :: _) _ _ _; refine zQ (v := str ([])) rfl rfl rfl (yB rfl rfl) ?_; refine zX 1 rfl (zH (zD [1, 2, 3] [_, _, _] rfl ?_)); refine zE (zE (zB (zL rfl rfl rfl (zW (cs := #[i6_ a.n, str a.set, str a.rel]) 0 rfl Tryz.isAgg24 rfl rfl Tryz.sizeOf24) ?_))); refine zC 1 rfl (zL (v := bo_ (listB a xs)) rfl rfl rfl (qD rfl Tryz.call78 rfl zU (fun w1 hw1 => l4List_ok a va xs w1 hsa (Row.own hva hw1) (by first | (simp; done) | (simp; omega) | omega) loa hia)) ?_); refine zC 2 rfl (yI fun b14 hg14 => ?_)
 cases b14
 ·
  replace hg14 := not_false hg14; refine zC 1 rfl (zL (v := bo_ (inB r 0 3)) rfl rfl rfl (qD rfl Tryz.call79 rfl zU (fun w1 hw1 => l1In_ok r 0 3 w1 )) ?_); refine zC 3 rfl (yI fun b19 hg19 => ?_)
  cases b19
  ·
   replace hg19 := not_false hg19
   have hir : 0 ≤ r ∧ r ≤ 3 := by have h9 := hg19; unfold inB at h9; simpa using h9
   refine zC 1 rfl (zL (v := i6_ ((xs.length : Int))) rfl rfl rfl (qS rfl Tryz.runUnderlying25 rfl (ints_length _) (fun w1 hw1 => Row.own hva hw1)) ?_); refine zC 1 rfl (zL rfl rfl rfl (qN rfl rfl rfl (by omega) (by omega)) ?_); refine zC 2 rfl (zI (zD [1, 2, 3, 25] [_, _, _, _] rfl ?_)); refine qE (b := decide ((4 : Int) < (((xs.length : Int)) + r))) rfl (fun h25 => ?_) (fun h25 => ?_)
   ·
    replace h25 := zK h25; refine zE (zB (zL (v := str ([])) rfl rfl rfl (yB rfl rfl) ?_)); refine zC 1 rfl (zI (zD [6, 7] [_, _] rfl ?_)); refine qF (yJ rfl rfl rfl fun w' hw => ?_)
    first | exact ⟨by rw [hO, tySp_no (by simpa using h34)]; rfl, hw.below⟩ | exact ⟨by unfold tyOut; rw [if_neg (by unfold inB at *; simp_all; try omega)]; rfl, hw.below⟩
   replace h25 := zJ h25
   have hLb : listB a xs = true := by simp_all
   obtain ⟨_, ha, hA, hl4⟩ := listB_true hLb
   have h0r : 0 ≤ r := (by unfold inB at *; simp_all)
   have h3r : r ≤ 3 := (by unfold inB at *; simp_all)
   have hrt : ((r.toNat : Nat) : Int) = r := Int.toNat_of_nonneg h0r
   have hO : tyOut a xs r = tyF a r.toNat xs := by unfold tyOut inB; rw [if_pos (by simp [hLb, h0r, h3r]; omega)]
   refine qH (zD [1, 2, 3] [_, _, _] rfl ?_); refine zE (zB (zL rfl rfl rfl (zW (cs := #[i6_ a.n, str a.set, str a.rel]) 0 rfl Tryz.isAgg24 rfl rfl Tryz.sizeOf24) ?_)); refine zC 2 rfl (zL (v := .tuple #[str ((tySp a r.toNat xs).1), bo_ ((tySp a r.toNat xs).2)]) rfl rfl rfl (qD rfl Tryz.call80 rfl zU (fun w1 hw1 => tys_at a ha r h0r xs va w1 (Row.own hva hw1) hA (by omega))) ?_); refine zC 1 rfl (zL (v := str ((tySp a r.toNat xs).1)) rfl rfl rfl (qI rfl rfl rfl) ?_); refine zL (v := bo_ ((tySp a r.toNat xs).2)) rfl rfl rfl (qI rfl rfl rfl) ?_; refine zC 2 rfl (zI (zD [8, 9] [_, _] rfl ?_)); refine zE (zE (zB (zC 2 rfl (zI (zD [8, 34] [_, _] rfl ?_))))); refine qE (b := !((tySp a r.toNat xs).2)) rfl (fun h34 => ?_) (fun h34 => ?_)
   ·
    replace h34 := not_true h34; refine zE (zB (zL (v := str ([])) rfl rfl rfl (yB rfl rfl) ?_)); refine zC 1 rfl (zI (zD [6, 7] [_, _] rfl ?_)); refine qF (yJ rfl rfl rfl fun w' hw => ?_)
    first | exact ⟨by rw [hO, tySp_no (by simpa using h34)]; rfl, hw.below⟩ | exact ⟨by unfold tyOut; rw [if_neg (by unfold inB at *; simp_all; try omega)]; rfl, hw.below⟩
   replace h34 := not_false h34; refine qH (zD [8] [_] rfl ?_); refine zE (zB (zC 3 rfl (zI (zD [6, 7] [_, _] rfl ?_)))); refine qF (yJ rfl rfl rfl fun w' hw => ?_)
   exact ⟨by rw [hO, tySp_at (by simpa using h34)]; rfl, hw.below⟩
  replace hg19 := not_true hg19; refine zO rfl rfl rfl (zO rfl rfl rfl (zO rfl rfl rfl (zO rfl rfl rfl (zO rfl rfl rfl (zC 1 rfl (zI (zD [1, 2, 3, 25] [_, _, _, _] rfl ?_))))))); refine yK rfl ?_; refine zE (zB (zL (v := str ([])) rfl rfl rfl (yB rfl rfl) ?_)); refine zC 1 rfl (zI (zD [6, 7] [_, _] rfl ?_)); refine qF (yJ rfl rfl rfl fun w' hw => ?_)
  first | exact ⟨by rw [hO, tySp_no (by simpa using h34)]; rfl, hw.below⟩ | exact ⟨by unfold tyOut; rw [if_neg (by unfold inB at *; simp_all; try omega)]; rfl, hw.below⟩
 replace hg14 := not_true hg14; refine zO rfl rfl rfl (zO rfl rfl rfl (zO rfl rfl rfl (zC 2 rfl ?_))); refine zO rfl rfl rfl (zO rfl rfl rfl (zO rfl rfl rfl (zO rfl rfl rfl (zO rfl rfl rfl (zC 1 rfl (zI (zD [1, 2, 3, 25] [_, _, _, _] rfl ?_))))))); refine yK rfl ?_; refine zE (zB (zL (v := str ([])) rfl rfl rfl (yB rfl rfl) ?_)); refine zC 1 rfl (zI (zD [6, 7] [_, _] rfl ?_)); refine qF (yJ rfl rfl rfl fun w' hw => ?_)
 first | exact ⟨by rw [hO, tySp_no (by simpa using h34)]; rfl, hw.below⟩ | exact ⟨by unfold tyOut; rw [if_neg (by unfold inB at *; simp_all; try omega)]; rfl, hw.below⟩
end Go.Proofs.YtdlfgddbcddonaaGreatDoor
namespace Go.Proofs
open Go.Shelf
def Tryz.lays137_ren : Go.Shelf.Ren := ⟨fun | 137 => 155 | 217 => 177 | 266 => 191 | n => n, fun | 9 => 9 | 5 => 5 | 3 => 3 | n => n, fun | n => n⟩
theorem Tryz.lays137 : Go.Proofs.Lays.n137 Tryz.prog Tryz.lays137_ren := {
  mixed := by kernel_rfl
  f137 := Tryz.func155.trans (congrArg some (by kernel_rfl))
  f217 := Tryz.func177.trans (congrArg some (by kernel_rfl))
  f266 := Tryz.func191.trans (congrArg some (by kernel_rfl))
  t3 := Tryz.underlying3
  a3 := Tryz.isAgg3
  z3 := Tryz.sizeOf3
  v3 := Tryz.zeroValue3
  t5 := Tryz.underlying5
  a5 := Tryz.isAgg5
  z5 := Tryz.sizeOf5
  v5 := Tryz.zeroValue5
  t9 := Tryz.underlying9
  a9 := Tryz.isAgg9
  z9 := Tryz.sizeOf9
  v9 := Tryz.zeroValue9 }
open Go.RowKit in
theorem Tryz.strings_IndexByte (s : ByteArray) (c : Int) (w : World) :
    Calls Tryz.prog 155 #[.string s, .int .u8 c] w fun e w' => e = .returned (.int .i64 (Lib.indexByte s.data.toList c.toNat.toUInt8)) ∧ w' = w := Any.strings_IndexByte Tryz.lays137 s c w
def Tryz.lays144_ren : Go.Shelf.Ren := ⟨fun | 144 => 154 | 143 => 176 | 219 => 190 | 217 => 177 | 225 => 196 | 224 => 197 | 267 => 198 | 266 => 191 | 314 => 202 | n => n, fun | 9 => 9 | 4 => 4 | 3 => 3 | 5 => 5 | 46 => 128 | 146 => 193 | 51 => 192 | n => n, fun | 1 => 0 | n => n⟩
theorem Tryz.lays144 : Go.Proofs.Lays.n144 Tryz.prog Tryz.lays144_ren := {
  mixed := by kernel_rfl
  f143 := Tryz.func176.trans (congrArg some (by kernel_rfl))
  f144 := Tryz.func154.trans (congrArg some (by kernel_rfl))
  f217 := Tryz.func177.trans (congrArg some (by kernel_rfl))
  f219 := Tryz.func190.trans (congrArg some (by kernel_rfl))
  f224 := Tryz.func197.trans (congrArg some (by kernel_rfl))
  f225 := Tryz.func196.trans (congrArg some (by kernel_rfl))
  f266 := Tryz.func191.trans (congrArg some (by kernel_rfl))
  f267 := Tryz.func198.trans (congrArg some (by kernel_rfl))
  f314 := Tryz.func202.trans (congrArg some (by kernel_rfl))
  t3 := Tryz.underlying3
  a3 := Tryz.isAgg3
  z3 := Tryz.sizeOf3
  v3 := Tryz.zeroValue3
  t4 := Tryz.underlying4
  a4 := Tryz.isAgg4
  z4 := Tryz.sizeOf4
  v4 := Tryz.zeroValue4
  t5 := Tryz.underlying5
  a5 := Tryz.isAgg5
  z5 := Tryz.sizeOf5
  v5 := Tryz.zeroValue5
  t9 := Tryz.underlying9
  a9 := Tryz.isAgg9
  z9 := Tryz.sizeOf9
  v9 := Tryz.zeroValue9
  t46 := Tryz.underlying128
  a46 := Tryz.isAgg128
  z46 := Tryz.sizeOf128
  v46 := Tryz.zeroValue128
  t51 := Tryz.underlying192
  a51 := Tryz.isAgg192
  z51 := Tryz.sizeOf192
  v51 := Tryz.zeroValue192
  t146 := Tryz.underlying193
  a146 := Tryz.isAgg193
  z146 := Tryz.sizeOf193
  v146 := Tryz.zeroValue193
  g1 := by kernel_rfl }
open Go.RowKit Go.Lib in
theorem Tryz.strings_Contains_one (s : ByteArray) (c : UInt8) (w : World) :
    Calls Tryz.prog 154 #[.string s, .string ⟨#[c]⟩] w fun e w' => e = .returned (.bool (decide (0 ≤ Lib.indexByte s.data.toList c))) ∧ w' = w := Any.strings_Contains_one Tryz.lays144 s c w
end Go.Proofs
