/-
  PEBBLE GAMES: classes of elements. No program in sight.
-/
import Derived.Test.YtjcoijejhachhaaDoorCore4
import Derived.Test.YtjcoijejhachhaaDoorPlain49
namespace Go.Wk
open Go.RowKit
/-- a pebble on an element, the others beside -/
def bes1 (k x : Nat) : List Int := (bes k).set 0 (x : Int)
@[simp] theorem bes1_len (k x : Nat) : (bes1 k x).length = k := by unfold bes1; rw [List.length_set, bes_len]
noncomputable def qE (a : St) (k y x : Nat) : Bool := pebEverB a (bes1 k y) a (bes1 k x)
noncomputable def pebCls (a : St) (k : Nat) : Nat := (clsN (qE a k) a.n.toNat).2
noncomputable def pebClsB (a : St) (p : Int) : Int := if validB a && inB p 1 3 then (pebCls a p.toNat : Int) else -1
theorem bes1_ready {a b : St} {k x y : Nat} (hVa : validB a = true) (hVb : validB b = true) (h1 : 1 ≤ k) (h3 : k ≤ 3) (hx : x < a.n.toNat) (hy : y < b.n.toNat) : readyB a (bes1 k x) b (bes1 k y) = true :=
  ready_set (bes_ready hVa hVb h1 h3) hx hy
theorem bes1_peb {size k x : Nat} (hx : x < size) : Peb size k (bes1 k x) := peb_set (bes_peb size k) hx
theorem qE_true {a : St} {k y x : Nat} (hVa : validB a = true) (h1 : 1 ≤ k) (h3 : k ≤ 3) (hy : y < a.n.toNat) (hx : x < a.n.toNat) : qE a k y x = true ↔ pF a (bes1 k y) a (bes1 k x) := pebEver_at (bes1_ready hVa hVa h1 h3 hy hx)
open Classical in
theorem lev_ever {k m : Nat} {a : St} {A B : List (List Int)} (h : Levs k 2000 a a A B m (m - 1)) (he : LevEnds k 2000 a a m) {xs ys : List Int} (hx : Peb a.n.toNat k xs) (hy : Peb a.n.toNat k ys) : numP a.n.toNat (A.getD m []) xs = numP a.n.toNat (A.getD m []) ys ↔ pF a xs a ys := by
  obtain ⟨K, _, hl⟩ := h.at (Nat.le_refl m)
  have h1 := levs_end h he (.inr rfl) hx hy
  unfold pWinB at h1
  rw [if_neg (by omega), decide_eq_decide] at h1
  rw [hl.good.aa xs ys hx hy, ← hl.good.ab xs ys hx hy, h1]
/-- numbers seen, and how many classes -/
structure CntE (q : Nat → Nat → Bool) (num : Nat → Int) (n : Nat) (S : List Int) : Prop where
  srt : S.Pairwise (· < ·)
  has : ∀ y : Nat, y < n → num y ∈ S
  src : ∀ m ∈ S, ∃ y : Nat, y < n ∧ m = num y
  cls : (clsN q n).2 = S.length
theorem CntE.zero {q : Nat → Nat → Bool} {num : Nat → Int} : CntE q num 0 [] := ⟨List.Pairwise.nil, fun y hy => absurd hy (by omega), fun m hm => (by cases hm), rfl⟩
theorem CntE.step {q : Nat → Nat → Bool} {num : Nat → Int} {n : Nat} {S : List Int} (h : CntE q num n S) (hq : ∀ y : Nat, y < n → (q y n = true ↔ num y = num n)) : CntE q num (n + 1) (insS S (num n)) := by
  refine ⟨sorted_insS h.srt, fun y hy => ?_, fun m hm => ?_, ?_⟩
  · rw [mem_insS]
    rcases Nat.lt_or_ge y n with h1 | h1
    · exact .inr (h.has y h1)
    · obtain rfl : y = n := by omega
      exact .inl rfl
  · rcases mem_insS.1 hm with h1 | h1
    · exact ⟨n, by omega, h1⟩
    · obtain ⟨y, hy, e⟩ := h.src m h1
      exact ⟨y, by omega, e⟩
  · by_cases hm : num n ∈ S
    · obtain ⟨y, hy, e⟩ := h.src _ hm
      rw [insS_mem h.srt hm, cls_same hy ((hq y hy).2 e.symm), h.cls]
    · rw [insS_new hm, cls_more (fun y hy => ?_), h.cls]
      cases e : q y n with
      | false => rfl
      | true => exact absurd (by rw [← (hq y hy).1 e]; exact h.has y hy) hm
theorem CntE.len {q : Nat → Nat → Bool} {num : Nat → Int} {n : Nat} {S : List Int} (h : CntE q num n S) : S.length ≤ n := by rw [← h.cls]; exact (cls_small _ n).1
theorem ever_at {n : Nat} {a : St} {k y x : Nat} (hVa : validB a = true) (h1 : 1 ≤ k) (h3 : k ≤ 3) (hy : y < a.n.toNat) (hx : x < a.n.toNat) (hE : WL (n + 1) a a k = WL n a a k) : (WL (n + 1) a a k).getD (stU a.n.toNat (prN a a) (bes1 k y) (bes1 k x) k k) false = qE a k y x := by
  have hr := bes1_ready hVa hVa h1 h3 hy hx
  have := ever_code (n := n) hr (by rw [bes1_len]; exact hE)
  unfold stN at this
  rw [bes1_len] at this
  exact this
theorem max_ever {n : Nat} {a : St} {k : Nat} (hVa : validB a = true) (h1 : 1 ≤ k) (h3 : k ≤ 3) (hE : WL (n + 1) a a k = WL n a a k) : maxTo (clsN (fun y x => (WL (n + 1) a a k).getD (stU a.n.toNat (prN a a) (bes1 k y) (bes1 k x) k k) false) a.n.toNat).1 ((clsN (fun y x => (WL (n + 1) a a k).getD (stU a.n.toNat (prN a a) (bes1 k y) (bes1 k x) k k) false) a.n.toNat).1.length - 1) + 1 = pebClsB a (k : Int) := by
  have ha := validB_fine hVa
  have hlo := ha.lo
  rw [cls_length, max_cls _ (by omega), cls_congr (q' := qE a k) (fun y x hy hx => ever_at hVa h1 h3 (by omega) hx hE)]
  unfold pebClsB pebCls inB
  rw [if_pos (by simp [hVa]; omega), Int.toNat_natCast]
  omega
theorem box_heap {w w1 : World} {g : Nat} {o : Obj} {hs : List (Nat × Obj)} (hg : w.heap[g]? = some o) (hw : Own w.heap.size w hs w1) : w1.heap[g]? = some o := by
  have hlt : g < w.heap.size := by
    rcases Nat.lt_or_ge g w.heap.size with h | h
    · exact h
    · rw [Array.getElem?_eq_none h] at hg; cases hg
  rw [hw.below.block g hlt, hg]
theorem bes1_sign {k x y : Nat} : ∀ i : Nat, i < k → ((bes1 k x).getD i 0 < 0 ↔ (bes1 k y).getD i 0 < 0) := fun i hi =>
  set_sign (xs := bes k) (ys := bes k) rfl (fun _ _ => Iff.rfl) i (by rw [List.length_set, bes_len]; exact hi)
end Go.Wk
