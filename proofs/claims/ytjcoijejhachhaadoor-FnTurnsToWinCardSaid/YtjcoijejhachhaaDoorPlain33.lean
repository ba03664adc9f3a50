/-
  STRUCTURES OF ONE SHAPE: the second player wins. No program in sight.
-/
import Derived.Test.YtjcoijejhachhaaDoorPlain30
import Derived.Test.YtjcoijejhachhaaDoorPlain32
namespace Go.Wk
open Go.RowKit
/-- places' elements -/
def atO (os : List Int) (ys : List Int) : List Int := ys.map fun y => os.getD y.toNat 0
theorem atO_len (os ys : List Int) : (atO os ys).length = ys.length := by simp [atO]
theorem atO_at (os : List Int) {ys : List Int} {i : Nat} (h : i < ys.length) : (atO os ys).getD i 0 = os.getD (ys.getD i 0).toNat 0 := by
  unfold atO
  rw [getD_at (by simpa using h), getD_at h]; simp
theorem shape_same {a b : St} {os : List Int} (hs : sameB a os b (upto os.length) = true) {ys : List Int} (hB : ∀ y ∈ ys, 0 ≤ y ∧ y < (os.length : Int)) : sameB a (atO os ys) b ys = true := by
  have key : ∀ i : Nat, i < ys.length → (ys.getD i 0).toNat < os.length ∧ (((ys.getD i 0).toNat : Nat) : Int) = ys.getD i 0 := fun i hi => by
    have := hB (ys.getD i 0) (by rw [getD_at hi]; exact List.getElem_mem _)
    omega
  unfold sameB
  rw [List.all_eq_true]
  intro i hi
  rw [List.mem_range, atO_len] at hi
  unfold stillAt
  have ki := key i hi
  refine (stillB_true (by rw [List.length_take, List.length_take, atO_len])).2 ?_
  rw [atO_at os hi]
  have h1 := shaped_at hs ki.1 ki.1
  rw [ki.2] at h1
  refine ⟨h1.1, h1.2.2, fun k hk => pairOk_true.2 ?_⟩
  rw [List.length_take, atO_len] at hk
  have kk := key k (by omega)
  rw [take_getD (by omega), take_getD (by omega), atO_at os (by omega)]
  have h2 := shaped_at hs kk.1 ki.1
  have h3 := shaped_at hs ki.1 kk.1
  rw [kk.2, ki.2] at h2
  rw [kk.2, ki.2] at h3
  refine ⟨decide_eq_decide.2 ?_, h2.2.2, h3.2.2⟩
  rw [h2.2.1]; omega
theorem shape_wins {a b : St} {os : List Int} (hn : a.n = b.n) (hl : (os.length : Int) = a.n) (hA : a.Els os) (hs : sameB a os b (upto os.length) = true) : ∀ (n : Nat) (ys : List Int), (∀ y ∈ ys, 0 ≤ y ∧ y < (os.length : Int)) → winP n a (atO os ys) b ys
  | 0, ys, hB => shape_same hs hB
  | n + 1, ys, hB => by
    have more : ∀ y : Nat, y < os.length → winP n a (atO os ys ++ [os.getD y 0]) b (ys ++ [(y : Int)]) := fun y hy => by
      have := shape_wins hn hl hA hs n (ys ++ [(y : Int)]) fun z hz => by
        rcases List.mem_append.1 hz with h | h
        · exact hB z h
        · rw [List.mem_singleton.1 h]; omega
      rwa [show atO os (ys ++ [(y : Int)]) = atO os ys ++ [os.getD y 0] from by simp [atO]] at this
    refine ⟨shape_same hs hB, fun x hx => ?_, fun y hy => ?_⟩
    · obtain ⟨y, hy, e⟩ := shaped_onto hl hA hs (x := (x : Int)) ⟨by omega, by omega⟩
      exact ⟨y, by omega, by rw [← e]; exact more y hy⟩
    · have hy' : y < os.length := by omega
      have hel := hA (os.getD y 0) (by rw [getD_at hy']; exact List.getElem_mem _)
      refine ⟨(os.getD y 0).toNat, by have := hel.1; have := hel.2; omega, ?_⟩
      rw [show (((os.getD y 0).toNat : Nat) : Int) = os.getD y 0 from by have := hel.1; omega]
      exact more y hy'
theorem Shaped.wins {a b : St} (h : Shaped a b) (n : Nat) : winP n a [] b [] := by
  obtain ⟨hn, _, _, os, hl, hA, hs⟩ := h
  exact shape_wins hn hl hA hs n [] fun y hy => by cases hy
theorem won_shape {a b : St} {xs ys : List Int} (h : Shaped a b) (hL : listsB a xs b ys = true) (h0 : ¬ 0 < (xs.length : Int)) : wonI a xs b ys = 3 := by
  have hl := (listsB_true hL).2.2
  obtain rfl : xs = [] := by cases xs with | nil => rfl | cons x l => simp at h0
  obtain rfl : ys = [] := by cases ys with | nil => rfl | cons y l => simp at hl
  have h3 := won_le (k := 3) hL (by decide)
  have hw : secB a [] b [] ((3 : Nat) : Int) = true := (sec_of hL (by decide) (by decide)).2 (h.wins _)
  rw [hw, eq_comm, decide_eq_true_iff] at h3
  have h4 : wonI a [] b [] ≤ 3 := by
    obtain ⟨m, h1, h2, h3⟩ := mono_cut (f := fun n => winB n a [] b []) (fun n h => win_less rfl h)
    unfold wonI
    rw [hL, if_pos rfl, lastW_of (f := fun n => winB n a [] b []) (fun n h => win_less rfl h) h1 h2 h3]; omega
  omega
end Go.Wk
