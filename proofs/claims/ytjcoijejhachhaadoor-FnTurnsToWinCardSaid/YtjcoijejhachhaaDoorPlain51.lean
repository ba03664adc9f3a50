/-
  PEBBLE GAMES: the turns that the first player needs, of drawn structures. No program in sight.
-/
import Derived.Test.YtjcoijejhachhaaDoorPlain33
import Derived.Test.YtjcoijejhachhaaDoorPlain49
namespace Go.Wk
open Go.RowKit
theorem turnsB_ok {a b : St} {q : Int} (h : ¬ turnsB a b q = -2) : validB a = true ∧ validB b = true ∧ 1 ≤ q ∧ q ≤ 3 := by
  unfold turnsB at h
  by_cases hc : (validB a && validB b && inB q 1 3) = true
  · unfold inB at hc
    simp only [Bool.and_eq_true, decide_eq_true_eq] at hc
    exact ⟨hc.1.1, hc.1.2, hc.2.1, hc.2.2⟩
  · rw [if_neg hc] at h; exact absurd rfl h
theorem least_of {P : Nat → Prop} : ∀ n : Nat, P n → ∃ m : Nat, P m ∧ ∀ i : Nat, i < m → ¬ P i
  | 0, h => ⟨0, h, fun i hi => absurd hi (by omega)⟩
  | n + 1, h => by
    by_cases hp : ∃ i : Nat, i ≤ n ∧ P i
    · have key : ∀ k : Nat, k ≤ n → P k → ∃ m : Nat, P m ∧ ∀ i : Nat, i < m → ¬ P i := fun k => by
        induction k using Nat.strongRecOn with
        | ind k ih =>
          intro hk hpk
          by_cases h2 : ∃ i : Nat, i < k ∧ P i
          · obtain ⟨i, hi, hpi⟩ := h2
            exact ih i hi (by omega) hpi
          · exact ⟨k, hpk, fun i hi hpi => h2 ⟨i, hi, hpi⟩⟩
      obtain ⟨i, hi, hpi⟩ := hp
      exact key i hi hpi
    · exact ⟨n + 1, h, fun i hi hpi => hp ⟨i, by omega, hpi⟩⟩
theorem turns_ex (a b : St) (k : Nat) : ∃ t, Turns a b k t := by
  by_cases h : ∃ n : Nat, ¬ pW n a (bes k) b (bes k)
  · obtain ⟨n, hn⟩ := h
    obtain ⟨m, h1, h2⟩ := least_of (P := fun n => ¬ pW n a (bes k) b (bes k)) n hn
    exact ⟨(m : Int), .inl ⟨m, rfl, h1, fun i hi => Classical.byContradiction fun e => h2 i hi e⟩⟩
  · exact ⟨-1, .inr ⟨rfl, fun n => Classical.byContradiction fun e => h ⟨n, e⟩⟩⟩
theorem turnsB_has {a b : St} {k : Nat} (hVa : validB a = true) (hVb : validB b = true) (h1 : 1 ≤ k) (h3 : k ≤ 3) : Turns a b k (turnsB a b (k : Int)) := by
  obtain ⟨t, h⟩ := turns_ex a b k
  rw [turnsB_yes hVa hVb h1 h3 h]; exact h
theorem turns_never_win {a b : St} {k : Nat} {n t : Int} (hVa : validB a = true) (hVb : validB b = true) (h1 : 1 ≤ k) (h3 : k ≤ 3) (h : Turns a b k n) (hn : n = -1) (h0 : 0 ≤ t) (h4 : t ≤ 4) : pebWinB a (bes k) b (bes k) t = true := by
  rw [pebWin_at (bes_ready hVa hVb h1 h3) h0 h4]
  rcases h with ⟨m, e, _, _⟩ | ⟨_, e⟩
  · omega
  · exact e _
theorem turns_some_win {a b : St} {k : Nat} {n t : Int} (hVa : validB a = true) (hVb : validB b = true) (h1 : 1 ≤ k) (h3 : k ≤ 3) (h : Turns a b k n) (hn : ¬ n = -1) (h0 : 0 ≤ t) (h4 : t ≤ 4) : pebWinB a (bes k) b (bes k) t = decide (t < n) := by
  rw [Bool.eq_iff_iff, pebWin_at (bes_ready hVa hVb h1 h3) h0 h4, decide_eq_true_eq]
  rcases h with ⟨m, rfl, h5, h6⟩ | ⟨e, _⟩
  · constructor
    · intro e
      rcases Nat.lt_or_ge t.toNat m with h7 | h7
      · omega
      · exact absurd (pW_less (t.toNat - m) (show pW (m + (t.toNat - m)) _ _ _ _ by rw [show m + (t.toNat - m) = t.toNat from by omega]; exact e)) h5
    · intro e; exact h6 _ (by omega)
  · exact absurd e hn
theorem turns_ever {a b : St} {k : Nat} {n : Int} (hVa : validB a = true) (hVb : validB b = true) (h1 : 1 ≤ k) (h3 : k ≤ 3) (h : Turns a b k n) : pebEverB a (bes k) b (bes k) = decide (n = -1) := by
  rw [Bool.eq_iff_iff, pebEver_at (bes_ready hVa hVb h1 h3), decide_eq_true_eq]
  rcases h with ⟨m, rfl, h5, _⟩ | ⟨rfl, e⟩
  · exact ⟨fun e => absurd (e m) h5, fun e => absurd e (by omega)⟩
  · exact ⟨fun _ => rfl, fun _ => e⟩
theorem Turns.swap {a b : St} {k : Nat} {n : Int} (h : Turns a b k n) : Turns b a k n := by
  rcases h with ⟨m, e, h5, h6⟩ | ⟨e, h5⟩
  · exact .inl ⟨m, e, fun h => h5 (pW_comm _ _ _ _ _ rfl h), fun i hi => pW_comm _ _ _ _ _ rfl (h6 i hi)⟩
  · exact .inr ⟨e, fun i => pW_comm _ _ _ _ _ rfl (h5 i)⟩
/-- with more pebbles the first player needs no more turns -/
theorem turns_fewer {a b : St} {k : Nat} {n m : Int} (h : Turns a b (k + 1) n) (h' : Turns a b k m) (h0 : 0 ≤ m) : 1 ≤ n ∧ n ≤ m := by
  rcases h' with ⟨j, rfl, h1, h2⟩ | ⟨e, _⟩
  · have h3 : ¬ pW j a (bes (k + 1)) b (bes (k + 1)) := fun e => h1 (bes_fewer e)
    rcases h with ⟨i, rfl, h5, h6⟩ | ⟨_, h5⟩
    · have hi : 0 < i := by
        rcases Nat.eq_zero_or_pos i with e | e
        · subst e; exact absurd pW_first h5
        · exact e
      refine ⟨by omega, ?_⟩
      rcases Nat.lt_or_ge j i with h7 | h7
      · exact absurd (h6 j h7) h3
      · omega
    · exact absurd (h5 j) h3
  · omega
/-! ### structures of one shape -/
def atQ (os ys : List Int) : List Int := ys.map fun y => if y < 0 then -1 else os.getD y.toNat 0
@[simp] theorem atQ_len (os ys : List Int) : (atQ os ys).length = ys.length := by simp [atQ]
theorem atQ_at (os : List Int) {ys : List Int} {i : Nat} (h : i < ys.length) : (atQ os ys).getD i 0 = if ys.getD i 0 < 0 then -1 else os.getD (ys.getD i 0).toNat 0 := by
  unfold atQ
  rw [getD_at (by simpa using h), getD_at h]; simp
theorem atQ_set (os ys : List Int) (i : Nat) (y : Nat) : atQ os (ys.set i (y : Int)) = (atQ os ys).set i (os.getD y 0) := by
  unfold atQ
  rw [List.map_set, if_neg (by omega), Int.toNat_natCast]
theorem atQ_sign {a : St} {os ys : List Int} (hA : a.Els os) (hB : ∀ y ∈ ys, -1 ≤ y ∧ y < (os.length : Int)) {i : Nat} (hi : i < ys.length) : (atQ os ys).getD i 0 < 0 ↔ ys.getD i 0 < 0 := by
  rw [atQ_at os hi]
  have := hB (ys.getD i 0) (by rw [getD_at hi]; exact List.getElem_mem _)
  by_cases e : ys.getD i 0 < 0
  · rw [if_pos e]; exact ⟨fun _ => e, fun _ => by decide⟩
  · rw [if_neg e]
    have h1 : (ys.getD i 0).toNat < os.length := by omega
    have := (hA (os.getD (ys.getD i 0).toNat 0) (by rw [getD_at h1]; exact List.getElem_mem _)).1
    omega
theorem atQ_placed {a : St} {os ys : List Int} (hA : a.Els os) (hB : ∀ y ∈ ys, -1 ≤ y ∧ y < (os.length : Int)) : ∀ i : Nat, i ≤ ys.length → placed (atQ os ys) i = atO os (placed ys i)
  | 0, _ => rfl
  | i + 1, h => by
    have hs := atQ_sign hA hB (show i < ys.length by omega)
    unfold placed
    rw [atQ_placed hA hB i (by omega)]
    by_cases e : ys.getD i 0 < 0
    · rw [if_pos (hs.2 e), if_pos e]
    · rw [if_neg (fun h => e (hs.1 h)), if_neg e, atQ_at os (by omega), if_neg e]; simp [atO]
theorem shape_pebs {a b : St} {os : List Int} (hn : a.n = b.n) (hl : (os.length : Int) = a.n) (hA : a.Els os) (hs : sameB a os b (upto os.length) = true) : ∀ (n : Nat) (ys : List Int), (∀ y ∈ ys, -1 ≤ y ∧ y < (os.length : Int)) → pW n a (atQ os ys) b ys
  | 0, ys, hB => by
    refine ⟨fun i hi => atQ_sign hA hB (by simpa using hi), ?_⟩
    rw [atQ_len, atQ_placed hA hB _ (Nat.le_refl _)]
    exact shape_same hs fun y hy => by
      obtain ⟨h1, h2⟩ := placed_mem _ (Nat.le_refl _) y hy
      exact ⟨h2, (hB y h1).2⟩
  | n + 1, ys, hB => by
    have more : ∀ (i y : Nat), y < os.length → pW n a ((atQ os ys).set i (os.getD y 0)) b (ys.set i (y : Int)) := fun i y hy => by
      rw [← atQ_set]
      exact shape_pebs hn hl hA hs n _ fun z hz => by
        rcases List.mem_or_eq_of_mem_set hz with h | h
        · exact hB z h
        · rw [h]; omega
    refine ⟨shape_pebs hn hl hA hs n ys hB, fun i _ => ⟨fun x hx => ?_, fun y hy => ?_⟩⟩
    · obtain ⟨y, hy, e⟩ := shaped_onto hl hA hs (x := (x : Int)) ⟨by omega, by omega⟩
      exact ⟨y, by omega, by rw [← e]; exact more i y hy⟩
    · have hy' : y < os.length := by omega
      have hel := hA (os.getD y 0) (by rw [getD_at hy']; exact List.getElem_mem _)
      refine ⟨(os.getD y 0).toNat, by have := hel.1; have := hel.2; omega, ?_⟩
      rw [show (((os.getD y 0).toNat : Nat) : Int) = os.getD y 0 from by have := hel.1; omega]
      exact more i y hy'
theorem atQ_bes (os : List Int) (k : Nat) : atQ os (bes k) = bes k := by unfold atQ bes; simp
theorem shaped_turns {a b : St} {k : Nat} {n : Int} (h : Shaped a b) (ht : Turns a b k n) : n = -1 := by
  obtain ⟨hn, _, _, os, hl, hA, hs⟩ := h
  have key : ∀ m : Nat, pW m a (bes k) b (bes k) := fun m => by
    have := shape_pebs hn hl hA hs m (bes k) fun y hy => by rw [List.eq_of_mem_replicate hy]; omega
    rwa [atQ_bes] at this
  rcases ht with ⟨m, _, h5, _⟩ | ⟨e, _⟩
  · exact absurd (key m) h5
  · exact e
theorem turnsB_swap {a b : St} {k : Nat} (hVa : validB a = true) (hVb : validB b = true) (h1 : 1 ≤ k) (h3 : k ≤ 3) : turnsB b a (k : Int) = turnsB a b (k : Int) :=
  turnsB_yes hVb hVa h1 h3 (turnsB_has hVa hVb h1 h3).swap
theorem turnsB_fewer {a b : St} {k : Nat} (hVa : validB a = true) (hVb : validB b = true) (h1 : 1 ≤ k) (h3 : k ≤ 3) (h : ¬ turnsB a b ((k : Int) - 1) < 0) : 1 ≤ turnsB a b (k : Int) ∧ turnsB a b (k : Int) ≤ turnsB a b ((k : Int) - 1) := by
  have hok := turnsB_ok (a := a) (b := b) (q := (k : Int) - 1) (by omega)
  obtain ⟨j, rfl⟩ : ∃ j : Nat, k = j + 1 := ⟨k - 1, by omega⟩
  have e : ((j + 1 : Nat) : Int) - 1 = (j : Int) := by omega
  rw [e] at h hok ⊢
  have h2 := turnsB_has hVa hVb (show 1 ≤ j by omega) (show j ≤ 3 by omega)
  exact turns_fewer (turnsB_has hVa hVb h1 h3) h2 (by omega)
end Go.Wk
