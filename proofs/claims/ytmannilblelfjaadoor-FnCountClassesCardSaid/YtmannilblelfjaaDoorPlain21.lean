/-
  HOW MANY CLASSES. No program in sight.
-/
import Derived.Test.YtmannilblelfjaaDoorPlain20
namespace Go.Wk
open Go.RowKit

theorem insS_mem {l : List Int} {n : Int} (h : l.Pairwise (· < ·)) (hn : n ∈ l) : insS l n = l :=
  sorted_ext (sorted_insS h) h fun x => by rw [mem_insS]; constructor; rintro (rfl | h1); exact hn; exact h1; exact .inr
theorem insS_new {n : Int} : ∀ {l : List Int}, n ∉ l → (insS l n).length = l.length + 1
  | [], _ => rfl
  | x :: l, h => by
    have h1 : x ≠ n := fun e => h (by simp [e])
    have h2 : n ∉ l := fun e => h (by simp [e])
    unfold insS
    rw [if_neg h1]
    split
    · rfl
    · rw [List.length_cons, insS_new h2, List.length_cons]
theorem cls_same {q : Nat → Nat → Bool} {k y : Nat} (hy : y < k) (h : q y k = true) : (clsN q (k + 1)).2 = (clsN q k).2 := by
  rcases cls_cases q k with ⟨z, h1, h2, h3⟩ | hno
  · rw [cls_old h1 h2 h3]
  · rw [hno y hy] at h; cases h
theorem cls_more {q : Nat → Nat → Bool} {k : Nat} (h : ∀ y, y < k → q y k = false) : (clsN q (k + 1)).2 = (clsN q k).2 + 1 := by rw [cls_new h]
def qP (a : St) (r w : Nat) (y x : Nat) : Bool := winB r a (pointL a.n.toNat w y) a (pointL a.n.toNat w x)
structure CountL (T : List (List UInt8)) (r : Nat) (a : St) (w k : Nat) (S : List Int) : Prop where
  cls : (clsN (qP a r w) k).2 = S.length
  sorted : S.Pairwise (· < ·)
  all : ∀ y : Nat, y < k → ∃ i : Nat, (i : Int) ∈ S ∧ Means T r a (pointL a.n.toNat w y) i
  only : ∀ m ∈ S, ∃ i y : Nat, m = i ∧ y < k ∧ Means T r a (pointL a.n.toNat w y) i
theorem CountL.zero {T : List (List UInt8)} {r : Nat} {a : St} {w : Nat} : CountL T r a w 0 [] := ⟨rfl, List.Pairwise.nil, fun y hy => absurd hy (by omega), fun m hm => by cases hm⟩
theorem CountL.len {T : List (List UInt8)} {r : Nat} {a : St} {w k : Nat} {S : List Int} (h : CountL T r a w k S) : S.length ≤ k := by rw [← h.cls]; exact (cls_small _ k).1
theorem CountL.step {T T' : List (List UInt8)} {r : Nat} {a : St} {w k i : Nat} {S : List Int} (h : CountL T r a w k S) (hp : T <+: T') (hT : T'.Nodup) (hm : Means T' r a (pointL a.n.toNat w k) i) : CountL T' r a w (k + 1) (insS S (i : Int)) := by
  have heq : ∀ (y j : Nat), Means T' r a (pointL a.n.toNat w y) j → (j = i ↔ qP a r w y k = true) := fun y j hj => by
    unfold qP
    rw [means_win hT r a (pointL a.n.toNat w y) a (pointL a.n.toNat w k) j i (by simp) hj hm, win_iff r a (pointL a.n.toNat w y) a (pointL a.n.toNat w k) (by simp)]
  refine ⟨?_, sorted_insS h.sorted, fun y hy => ?_, fun m hmem => ?_⟩
  · by_cases hi : (i : Int) ∈ S
    · rw [insS_mem h.sorted hi, ← h.cls]
      obtain ⟨j, y, e, hy, hM⟩ := h.only _ hi
      obtain rfl : i = j := by omega
      exact cls_same hy ((heq y i (hM.mono hp _ _ _ _)).1 rfl)
    · rw [insS_new hi, ← h.cls]
      refine cls_more fun y hy => ?_
      cases hq : qP a r w y k with
      | false => rfl
      | true =>
        obtain ⟨j, hj, hM⟩ := h.all y hy
        have := (heq y j (hM.mono hp _ _ _ _)).2 hq
        subst this
        exact absurd hj hi
  · rcases Nat.lt_or_ge y k with h1 | h1
    · obtain ⟨j, hj, hM⟩ := h.all y h1
      exact ⟨j, mem_insS.2 (.inr hj), hM.mono hp _ _ _ _⟩
    · obtain rfl : y = k := by omega
      exact ⟨i, mem_insS.2 (.inl rfl), hm⟩
  · rcases mem_insS.1 hmem with h1 | h1
    · exact ⟨i, k, h1, by omega, hm⟩
    · obtain ⟨j, y, e, hy, hM⟩ := h.only m h1
      exact ⟨j, y, e, by omega, hM.mono hp _ _ _ _⟩
def countC (a : St) (W R : Int) : Int := if validB a && inB W 0 2 && inB R 0 2 then ((clsN (qP a R.toNat W.toNat) (a.n.toNat ^ W.toNat)).2 : Int) else -1
theorem cls_congr {q q' : Nat → Nat → Bool} : ∀ {N : Nat}, (∀ y x, y < x → x < N → q y x = q' y x) → clsN q N = clsN q' N
  | 0, _ => rfl
  | N + 1, h => by
    have ih := cls_congr (N := N) (fun y x h1 h2 => h y x h1 (by omega))
    have : (List.range N).find? (fun y => q y N) = (List.range N).find? (fun y => q' y N) := find_congr fun y hy => h y N (List.mem_range.1 hy) (by omega)
    rw [clsN, clsN, this, ih]
/-! ### the greatest number -/
def maxTo (xs : List Int) : Nat → Int
  | 0 => xs.getD 0 0
  | k + 1 => if xs.getD (k + 1) 0 > maxTo xs k then xs.getD (k + 1) 0 else maxTo xs k
theorem maxTo_spec (xs : List Int) : ∀ k, (∀ i, i ≤ k → xs.getD i 0 ≤ maxTo xs k) ∧ ∃ i, i ≤ k ∧ maxTo xs k = xs.getD i 0
  | 0 => ⟨fun i hi => by obtain rfl : i = 0 := by omega
                         exact Int.le_refl _, 0, Nat.le_refl _, rfl⟩
  | k + 1 => by
    obtain ⟨h1, j, hj, h2⟩ := maxTo_spec xs k
    unfold maxTo
    split
    · refine ⟨fun i hi => ?_, k + 1, Nat.le_refl _, rfl⟩
      rcases Nat.lt_or_ge i (k + 1) with h3 | h3
      · have := h1 i (by omega); omega
      · obtain rfl : i = k + 1 := by omega
        exact Int.le_refl _
    · refine ⟨fun i hi => ?_, j, by omega, h2⟩
      rcases Nat.lt_or_ge i (k + 1) with h3 | h3
      · exact h1 i (by omega)
      · obtain rfl : i = k + 1 := by omega
        omega
theorem cls_has (q : Nat → Nat → Bool) : ∀ N, 0 < N → ∃ i, i < N ∧ (clsN q N).1.getD i 0 = ((clsN q N).2 : Int) - 1
  | 0, h => absurd h (by omega)
  | N + 1, _ => by
    have hl := cls_length q N
    rcases cls_cases q N with ⟨y, h1, h2, h3⟩ | hno
    · obtain ⟨i, hi, e⟩ := cls_has q N (by omega)
      refine ⟨i, by omega, ?_⟩
      rw [cls_old h1 h2 h3]
      dsimp only
      rw [getD_app1 (by omega)]; exact e
    · refine ⟨N, by omega, ?_⟩
      rw [cls_new hno]
      dsimp only
      have e := getD_app2 (l := (clsN q N).1) (z := ((clsN q N).2 : Int))
      rw [hl] at e
      rw [e]; omega
theorem max_cls (q : Nat → Nat → Bool) {N : Nat} (h : 0 < N) : maxTo (clsN q N).1 (N - 1) = ((clsN q N).2 : Int) - 1 := by
  obtain ⟨h1, j, hj, h2⟩ := maxTo_spec (clsN q N).1 (N - 1)
  obtain ⟨i, hi, e⟩ := cls_has q N h
  have h3 := h1 i (by omega)
  have hs := (cls_small q N).2 _ (show (clsN q N).1.getD j 0 ∈ (clsN q N).1 by rw [getD_at (by rw [cls_length]; omega)]; exact List.getElem_mem _)
  omega
theorem row_in {w : World} {I : TypeId} {rr : List RR} (hok : ∀ r ∈ rr, r.Ok) (hrow : ∀ r ∈ rr, w.heap[r.g]? = some (.cells r.cur I (0, 0))) {i : Nat} (hi : i < rr.length) : Ints w (rv (rr.getD i rd)) (rr.getD i rd).xs := by
  have hm : rr.getD i rd ∈ rr := by rw [getD_at hi]; exact List.getElem_mem _
  have hk := hok _ hm
  have hb := hrow _ hm
  refine ⟨_, (rr.getD i rd).cap, by rw [ints_length]; rfl, by rw [ints_length]; exact hk.len, fun h => (by cases h), fun ad had => ?_⟩
  injection had with had
  subst had
  refine ⟨rfl, fun j u hj => ?_⟩
  show w.cell? ⟨(rr.getD i rd).g, 0 + j, none⟩ = some u
  rw [Nat.zero_add]
  unfold World.cell?
  rw [hb]
  rw [← hk.vals, List.getElem?_take] at hj
  split at hj
  · simpa using hj
  · cases hj
theorem Own.rowsHas {B : Nat} {w0 w : World} {I : TypeId} {rr : List RR} {f hs : List (Nat × Obj)} (h : Own B w0 (f ++ (rowsB I rr ++ hs)) w) : ∀ r ∈ rr, w.heap[r.g]? = some (.cells r.cur I (0, 0)) := fun r hr =>
  (h.mem (x := (r.g, .cells r.cur I (0, 0))) (List.mem_append_right _ (List.mem_append_left _ (List.mem_map.2 ⟨r, hr, rfl⟩)))).2
end Go.Wk
