/-
  ROWS AS LISTS. No program in sight.
-/
import Derived.Test.YtmannilblelfjaaDoorPlain19
namespace Go.Wk
open Go.RowKit

theorem map_xs {rr : List RR} {i : Nat} (h : i < rr.length) : (rr.map RR.xs).getD i [] = (rr.getD i rd).xs := by
  rw [getD_at (by simpa using h), getD_at h, List.getElem_map]
theorem listsL_len {size : Nat} : ∀ {w : Nat} {l : List Int}, l ∈ listsL size w → l.length = w
  | 0, l, h => by rw [List.mem_singleton.1 h]; rfl
  | w + 1, l, h => by
    obtain ⟨m, hm, h2⟩ := List.mem_flatMap.1 h
    obtain ⟨x, _, rfl⟩ := List.mem_map.1 h2
    rw [List.length_append, listsL_len hm]; rfl
theorem xs_len {rr : List RR} {size r : Nat} (h : rr.map RR.xs = listsL size r) {i : Nat} : (rr.getD i rd).xs.length ≤ r := by
  rcases Nat.lt_or_ge i rr.length with h1 | h1
  · rw [← map_xs h1, h, getD_at (by rw [← h]; simpa using h1)]
    exact Nat.le_of_eq (listsL_len (List.getElem_mem _))
  · rw [List.getD_eq_getElem?_getD, List.getElem?_eq_none h1]; exact Nat.zero_le _
theorem next_len {nm : List RR} {size i k : Nat} {Ls : List (List Int)} (h : nm.map RR.xs = nextTo size Ls i k) (hL : Ls.length ≤ 512) (hk : k ≤ 8) (h8 : size ≤ 8) : nm.length ≤ 4104 := by
  have h1 := congrArg List.length h
  unfold nextTo at h1
  rw [List.length_map, List.length_append, nextL_length, List.length_map, List.length_range, List.length_take] at h1
  have h2 : min i Ls.length * size ≤ 512 * 8 := Nat.mul_le_mul (by omega) h8
  omega
theorem rows_behind (f : List (Nat × Obj)) (x : Nat × Obj) (r : List (Nat × Obj)) : (x :: (r ++ f)).Perm (f ++ (x :: (r ++ []))) := by
  have := List.perm_append_comm (l₁ := x :: r) (l₂ := f)
  rw [List.append_nil]
  exact this
theorem pow_mul_small {n k : Nat} {x : Int} (h0 : 0 ≤ x) (h8 : x ≤ 8) (h : n ^ k ≤ 512) : 0 ≤ ((n ^ k : Nat) : Int) * x ∧ ((n ^ k : Nat) : Int) * x ≤ 4096 :=
  ⟨Int.mul_nonneg (by omega) h0, Int.le_trans (Int.mul_le_mul_of_nonneg_right (show ((n ^ k : Nat) : Int) ≤ 512 by omega) h0) (by omega)⟩
theorem rep_set2 {j : Nat} {T : List Int} {v : Int} (h : 0 < j) : (List.replicate j 0 ++ T).set (j - 1) v = List.replicate (j - 1) 0 ++ (v :: T) := by
  obtain ⟨i, rfl⟩ : ∃ i, j = i + 1 := ⟨j - 1, by omega⟩
  rw [Nat.add_sub_cancel, List.replicate_succ', List.append_assoc, List.set_append_right _ _ (by simp)]
  simp
theorem point_step {size j K : Nat} (h : 0 < j) : pointL size j K = pointL size (j - 1) (K / size) ++ [((K % size : Nat) : Int)] := by
  obtain ⟨i, rfl⟩ : ∃ i, j = i + 1 := ⟨j - 1, by omega⟩
  rfl
def seenI (l : List (List UInt8)) (s : List UInt8) : Int := if s ∈ l then ((l.findIdx fun t => t == s : Nat) : Int) else -1
theorem seenI_at {l : List (List UInt8)} {s : List UInt8} {k : Nat} (hk : k < l.length) (hall : ∀ i : Nat, i < k → (l.getD i [] == s) = false) (h : (l.getD k [] == s) = true) : seenI l s = k := by
  have hm : s ∈ l := by
    have : l.getD k [] = s := by simpa using h
    rw [← this, getD_at hk]; exact List.getElem_mem _
  unfold seenI
  rw [if_pos hm]
  congr 1
  refine List.findIdx_eq hk |>.2 ⟨by rw [getD_at hk] at h; exact h, fun j hj => ?_⟩
  have := hall j hj
  rw [getD_at (by omega)] at this; exact this
theorem seenI_no {l : List (List UInt8)} {s : List UInt8} (hall : ∀ i : Nat, i < l.length → (l.getD i [] == s) = false) : seenI l s = -1 := by
  unfold seenI
  rw [if_neg fun hm => ?_]
  obtain ⟨i, hi, e⟩ := List.mem_iff_getElem.1 hm
  have := hall i hi
  rw [getD_at hi, e] at this
  simp at this
theorem seenI_neg {l : List (List UInt8)} {s : List UInt8} : seenI l s < 0 ↔ s ∉ l := by
  unfold seenI
  split
  · rename_i h; simp [h]
  · rename_i h; simp [h]
def kindsL (a : St) (w : Nat) : List (List UInt8) := (listsL a.n.toNat w).map fun l => atomsT (factsL a l l.length)
theorem kindsL_length (a : St) (w : Nat) : (kindsL a w).length = a.n.toNat ^ w := by rw [kindsL, List.length_map, listsL_length]
theorem kinds_at {a : St} (ha : a.Fine) {w k : Nat} (h : k < a.n.toNat ^ w) : (kindsL a w).getD k [] = atomsT (factsL a (pointL a.n.toNat w k) (pointL a.n.toNat w k).length) := by
  have hl : k < (listsL a.n.toNat w).length := by rw [listsL_length]; exact h
  rw [getD_at (by rw [kindsL_length]; exact h)]
  unfold kindsL
  rw [List.getElem_map, ← getD_at (d := []) hl, lists_point (by have := ha.lo; omega) h]
theorem atoms_point {a : St} (hv : validB a = true) {w k : Nat} (hw : w ≤ 4) : atomsOut a (pointL a.n.toNat w k) = atomsT (factsL a (pointL a.n.toNat w k) (pointL a.n.toNat w k).length) := by
  refine atomsOut_yes ?_
  unfold listB
  rw [hv]
  have := point_els (validB_fine hv) w k
  simp only [Bool.true_and, Bool.and_eq_true, decide_eq_true_eq, List.all_eq_true, pointL_length]
  exact ⟨by omega, fun x hx => elB_true.2 (this x hx)⟩
theorem listB_point {a : St} (hv : validB a = true) {w k : Nat} (hw : w ≤ 4) : listB a (pointL a.n.toNat w k) = true := by
  unfold listB
  rw [hv]
  have := point_els (validB_fine hv) w k
  simp only [Bool.true_and, Bool.and_eq_true, decide_eq_true_eq, List.all_eq_true, pointL_length]
  exact ⟨by omega, fun x hx => elB_true.2 (this x hx)⟩
theorem Own.rowPt {B : Nat} {w0 w : World} {hs : List (Nat × Obj)} (h : Own B w0 hs w) {i p size wd k : Nat} {T : TypeId} {fr : Nat × Nat} (hi : hs[i]? = some (p, .cells (ints (pArr size wd k)).toArray T fr)) (hw : wd ≤ 4) : Ints w (.slice (some ⟨p, 0, none⟩) wd 4) (pointL size wd k) := by
  have hl := pArr_length (size := size) (k := k) hw
  have := Own.rowTake h hi (xs := pArr size wd k) (L := 4) (k := wd) (cap := 4) (by
    show List.take 4 (ints (pArr size wd k)) = _
    rw [List.take_of_length_le (by rw [ints_length]; omega)]) (by omega) (by omega)
  rwa [pArr_take] at this
theorem addK_new {ks : List (List UInt8)} {s : List UInt8} (h : s ∉ ks) : addK ks s = ks ++ [s] := by unfold addK; rw [if_neg h]
theorem addK_old {ks : List (List UInt8)} {s : List UInt8} (h : ¬ s ∉ ks) : addK ks s = ks := by unfold addK; rw [if_pos (by simpa using h)]
def kindsI (a : St) (W : Int) : Int := if validB a && inB W 0 3 then ((dedup (kindsL a W.toNat)).length : Int) else -1
theorem dedup_take (l : List (List UInt8)) (k : Nat) : (dedup (l.take k)).length ≤ k := by
  have := dedup_len (l.take k) []
  rw [List.length_take, List.length_nil] at this
  unfold dedup; omega
theorem rows_point {rr : List RR} {size w k : Nat} (h0 : 0 < size) (h : rr.map RR.xs = listsL size w) (hk : k < rr.length) : (rr.getD k rd).xs = pointL size w k := by
  rw [← map_xs hk, h, lists_point h0 (by rw [← listsL_length size w, ← h]; simpa using hk)]
end Go.Wk
