/-
  PEBBLE GAMES: the turns that the first player needs, by levels. No program in sight.
-/
import Derived.Test.YtjcoijejhachhaaDoorPlain48
namespace Go.Wk
open Go.RowKit
theorem nT_len : ∀ X : List Bool, nT X ≤ X.length
  | [] => Nat.le_refl _
  | x :: X => by
    have := nT_len X
    unfold nT
    rw [List.length_cons]
    split <;> omega
theorem lev_first {n k K : Nat} {a b : St} {Ra Rb : List Int} (hl : LevP n k a b Ra Rb K) : Ra.getD 0 0 = Rb.getD 0 0 ↔ pW n a (bes k) b (bes k) := by
  have := hl.good.ab _ _ (bes_peb _ _) (bes_peb _ _)
  unfold numP at this
  rwa [idxP_bes, idxP_bes] at this
open Classical in
theorem levs_never {k m : Nat} {a b : St} {A B : List (List Int)} (h : Levs k 2000 a b A B m (m - 1)) (he : LevEnds k 2000 a b m) (hall : pW m a (bes k) b (bes k)) : Turns a b k (-1) := by
  obtain ⟨K, _, hl⟩ := h.at (Nat.le_refl m)
  have h1 := levs_end h he (.inr rfl) (bes_peb _ k) (bes_peb _ k)
  rw [decide_eq_true ((hl.good.ab _ _ (bes_peb _ _) (bes_peb _ _)).2 hall)] at h1
  unfold pWinB at h1
  rw [if_neg (by omega)] at h1
  exact .inr ⟨rfl, of_decide_eq_true h1.symm⟩
theorem turns_at {n : Nat} {a b : St} {k : Nat} (h : ¬ pW n a (bes k) b (bes k)) (hall : ∀ i : Nat, i < n → pW i a (bes k) b (bes k)) : Turns a b k (n : Int) := .inl ⟨n, rfl, h, hall⟩
theorem turnsB_yes {a b : St} {k : Nat} {t : Int} (hVa : validB a = true) (hVb : validB b = true) (h1 : 1 ≤ k) (h3 : k ≤ 3) (h : Turns a b k t) : turnsB a b (k : Int) = t := by
  unfold turnsB inB
  rw [if_pos (by simp [hVa, hVb]; omega)]
  exact turns_of h
end Go.Wk
