/-
  PEBBLE GAMES AND GAMES WITH LISTS: who wins rounds wins turns; with enough pebbles both are won alike. No program in sight.
-/
import Derived.Test.YtjcoijejhachhaaDoorPlain29
import Derived.Test.YtjcoijejhachhaaDoorPlain49
namespace Go.Wk
open Go.RowKit
/-- a pair that stands in two lists -/
def InBoth (as_ bs : List Int) (x y : Int) : Prop := ∃ j : Nat, j < as_.length ∧ x = as_.getD j 0 ∧ y = bs.getD j 0
theorem same_sub {a b : St} {as_ bs us vs : List Int} (hl : as_.length = bs.length) (hs : sameB a as_ b bs = true) (hlu : us.length = vs.length) (h : ∀ i : Nat, i < us.length → InBoth as_ bs (us.getD i 0) (vs.getD i 0)) : sameB a us b vs = true := by
  unfold sameB
  rw [List.all_eq_true]
  intro i hi
  rw [List.mem_range] at hi
  unfold stillAt
  obtain ⟨j, hj, e1, e2⟩ := h i hi
  refine (stillB_true (by rw [List.length_take, List.length_take, hlu])).2 ?_
  have h1 := same_at hl hs hj
  rw [← e1, ← e2] at h1
  refine ⟨h1.1, h1.2.1, fun k hk => ?_⟩
  rw [List.length_take] at hk
  obtain ⟨m, hm, f1, f2⟩ := h k (by omega)
  have h2 := same_pairs hl hs hj hm
  rw [← e1, ← e2, ← f1, ← f2] at h2
  rwa [take_getD (by omega), take_getD (by omega)]
theorem getD_snoc {l : List Int} {x : Int} {i : Nat} : (l ++ [x]).getD i 0 = if i < l.length then l.getD i 0 else if i = l.length then x else 0 := by
  rw [List.getD_eq_getElem?_getD]
  by_cases h : i < l.length
  · rw [if_pos h, List.getElem?_append_left h, ← List.getD_eq_getElem?_getD]
  · rw [if_neg h, List.getElem?_append_right (by omega)]
    by_cases e : i = l.length
    · rw [if_pos e, e, Nat.sub_self]; rfl
    · rw [if_neg e, List.getElem?_eq_none (by simp; omega)]; rfl
theorem InBoth.more {as_ bs : List Int} {x y u v : Int} (hl : as_.length = bs.length) (h : InBoth as_ bs x y) : InBoth (as_ ++ [u]) (bs ++ [v]) x y := by
  obtain ⟨j, hj, e1, e2⟩ := h
  exact ⟨j, by rw [List.length_append]; omega, by rw [getD_snoc, if_pos hj]; exact e1, by rw [getD_snoc, if_pos (by omega)]; exact e2⟩
theorem InBoth.last {as_ bs : List Int} {u v : Int} (hl : as_.length = bs.length) : InBoth (as_ ++ [u]) (bs ++ [v]) u v :=
  ⟨as_.length, by rw [List.length_append]; simp, by rw [getD_snoc, if_neg (by omega), if_pos rfl], by rw [getD_snoc, if_neg (by omega), if_pos hl]⟩
/-- pebbles beside, or on a pair of two lists -/
def OnBoth (as_ bs xs ys : List Int) : Prop := xs.length = ys.length ∧ ∀ i : Nat, i < xs.length → (xs.getD i 0 < 0 ∧ ys.getD i 0 < 0) ∨ (0 ≤ xs.getD i 0 ∧ 0 ≤ ys.getD i 0 ∧ InBoth as_ bs (xs.getD i 0) (ys.getD i 0))
theorem on_placed {as_ bs xs ys : List Int} (h : OnBoth as_ bs xs ys) : ∀ n : Nat, n ≤ xs.length → (placed xs n).length = (placed ys n).length ∧ ∀ i : Nat, i < (placed xs n).length → InBoth as_ bs ((placed xs n).getD i 0) ((placed ys n).getD i 0)
  | 0, _ => ⟨rfl, fun i hi => absurd hi (by simp)⟩
  | n + 1, hn => by
    obtain ⟨h1, h2⟩ := on_placed h n (by omega)
    rcases h.2 n (by omega) with ⟨h3, h4⟩ | ⟨h3, h4, h5⟩
    · rw [placed_neg h3, placed_neg h4]; exact ⟨h1, h2⟩
    · rw [placed_pos (by omega), placed_pos (by omega)]
      refine ⟨by rw [List.length_append, List.length_append, h1]; rfl, fun i hi => ?_⟩
      rw [List.length_append, List.length_singleton] at hi
      rw [getD_snoc, getD_snoc, ← h1]
      by_cases e : i < (placed xs n).length
      · rw [if_pos e, if_pos e]; exact h2 i e
      · rw [if_neg e, if_neg e, if_pos (by omega), if_pos (by omega)]; exact h5
theorem on_set {as_ bs xs ys : List Int} (hl : as_.length = bs.length) (h : OnBoth as_ bs xs ys) (i x y : Nat) : OnBoth (as_ ++ [(x : Int)]) (bs ++ [(y : Int)]) (xs.set i (x : Int)) (ys.set i (y : Int)) := by
  refine ⟨by simp [h.1], fun j hj => ?_⟩
  rw [List.length_set] at hj
  have hlen := h.1
  by_cases e : i = j
  · subst e
    rw [set_get0 hj, set_get0 (by omega)]
    exact .inr ⟨by omega, by omega, InBoth.last hl⟩
  · rw [set_get1 e, set_get1 e]
    rcases h.2 j hj with h1 | ⟨h1, h2, h3⟩
    · exact .inl h1
    · exact .inr ⟨h1, h2, h3.more hl⟩
where
  set_get0 {l : List Int} {j : Nat} {z : Int} (h : j < l.length) : (l.set j z).getD j 0 = z := by
    rw [List.getD_eq_getElem?_getD, List.getElem?_set_self h]; rfl
  set_get1 {l : List Int} {i j : Nat} {z : Int} (e : ¬ i = j) : (l.set i z).getD j 0 = l.getD j 0 := by
    rw [List.getD_eq_getElem?_getD, List.getElem?_set_ne e, ← List.getD_eq_getElem?_getD]
/-- who wins rounds with lists wins as many turns with pebbles on them -/
theorem rounds_turns {a b : St} : ∀ (n : Nat) {as_ bs xs ys : List Int}, as_.length = bs.length → winP n a as_ b bs → OnBoth as_ bs xs ys → pW n a xs b ys
  | 0, as_, bs, xs, ys, hl, h, ho => by
    obtain ⟨h1, h2⟩ := on_placed ho xs.length (Nat.le_refl _)
    refine ⟨fun i hi => ?_, ?_⟩
    · rcases ho.2 i hi with h3 | ⟨h3, h4, _⟩ <;> omega
    · rw [← ho.1]; exact same_sub hl h h1 h2
  | n + 1, as_, bs, xs, ys, hl, h, ho => by
    refine ⟨rounds_turns n hl (winP_less n _ _ _ _ h) ho, fun i _ => ⟨fun x hx => ?_, fun y hy => ?_⟩⟩
    · obtain ⟨y, hy, hw⟩ := h.2.1 x hx
      exact ⟨y, hy, rounds_turns n (by simp [hl]) hw (on_set hl ho i x y)⟩
    · obtain ⟨x, hx, hw⟩ := h.2.2 y hy
      exact ⟨x, hx, rounds_turns n (by simp [hl]) hw (on_set hl ho i x y)⟩
theorem placed_all {xs : List Int} (h : ∀ x ∈ xs, 0 ≤ x) : ∀ i : Nat, i ≤ xs.length → placed xs i = xs.take i
  | 0, _ => rfl
  | i + 1, hi => by
    have hx := h (xs.getD i 0) (by rw [getD_at (by omega)]; exact List.getElem_mem _)
    rw [placed_pos (by omega), placed_all h i (by omega), List.take_succ_eq_append_getElem (by omega), getD_at (by omega)]
theorem placed_rest {xs : List Int} (h : ∀ x ∈ xs, 0 ≤ x) (r : Nat) : ∀ i : Nat, i ≤ r → placed (xs ++ bes r) (xs.length + i) = xs
  | 0, _ => by
    rw [Nat.add_zero, placed_same (Nat.le_refl _), placed_all h _ (Nat.le_refl _), List.take_of_length_le (Nat.le_refl _)]
  | i + 1, hi => by
    rw [← Nat.add_assoc, placed_neg, placed_rest h r i (by omega)]
    rw [List.getD_eq_getElem?_getD, List.getElem?_append_right (by omega), ← List.getD_eq_getElem?_getD, show xs.length + i - xs.length = i from by omega, bes_at (by omega)]
    decide
theorem bes_set (xs : List Int) (r x : Nat) : (xs ++ bes (r + 1)).set xs.length (x : Int) = (xs ++ [(x : Int)]) ++ bes r := by
  rw [List.set_append_right _ _ (Nat.le_refl _), Nat.sub_self, List.append_assoc]
  unfold bes
  rw [List.replicate_succ]; rfl
/-- with as many pebbles beside as rounds are left -/
theorem turns_rounds {a b : St} : ∀ (n r : Nat) {as_ bs : List Int}, as_.length = bs.length → (∀ x ∈ as_, 0 ≤ x) → (∀ y ∈ bs, 0 ≤ y) → n ≤ r → pW n a (as_ ++ bes r) b (bs ++ bes r) → winP n a as_ b bs
  | 0, r, as_, bs, _, ha, hb, _, h => by
    have h2 := h.2
    rw [List.length_append, List.length_append, bes_len, placed_rest ha r r (Nat.le_refl _), placed_rest hb r r (Nat.le_refl _)] at h2
    exact h2
  | n + 1, r, as_, bs, hl, ha, hb, hr, h => by
    obtain ⟨q, rfl⟩ : ∃ q : Nat, r = q + 1 := ⟨r - 1, by omega⟩
    have h0 := turns_rounds 0 (q + 1) hl ha hb (by omega) (pW_less (n := 0) (n + 1) (by rw [Nat.zero_add]; exact h))
    obtain ⟨h1, h2⟩ := h.2 as_.length (by rw [List.length_append, bes_len]; omega)
    have snoc : ∀ {l : List Int} {x : Nat}, (∀ z ∈ l, 0 ≤ z) → ∀ z ∈ l ++ [(x : Int)], 0 ≤ z := fun hp z hz => by
      rcases List.mem_append.1 hz with e | e
      · exact hp z e
      · rw [List.mem_singleton.1 e]; omega
    have go : ∀ x y : Nat, pW n a ((as_ ++ bes (q + 1)).set as_.length (x : Int)) b ((bs ++ bes (q + 1)).set as_.length (y : Int)) → winP n a (as_ ++ [(x : Int)]) b (bs ++ [(y : Int)]) := fun x y hw => by
      rw [bes_set] at hw
      rw [hl, bes_set] at hw
      exact turns_rounds n q (by simp [hl]) (snoc ha) (snoc hb) (by omega) hw
    exact ⟨h0, fun x hx => (h1 x hx).elim fun y hy => ⟨y, hy.1, go x y hy.2⟩, fun y hy => (h2 y hy).elim fun x hx => ⟨x, hx.1, go x y hx.2⟩⟩
theorem sec_nil {a b : St} {r : Int} (h1 : 1 ≤ r) (h3 : r ≤ 3) : secB a [] b [] r = (validB a && validB b && winB r.toNat a [] b []) := by
  unfold secB gameB listsB listB inB
  rw [decide_eq_true (show (0 : Int) ≤ r by omega), decide_eq_true h3]
  simp
theorem pebWin_bes {a b : St} {k r : Int} (hk : 1 ≤ k) (hk3 : k ≤ 3) (h1 : 1 ≤ r) (h3 : r ≤ 3) : pebWinB a (bes k.toNat) b (bes k.toNat) r = true ↔ validB a = true ∧ validB b = true ∧ pW r.toNat a (bes k.toNat) b (bes k.toNat) := by
  constructor
  · intro h
    have hr : readyB a (bes k.toNat) b (bes k.toNat) = true := by unfold pebWinB at h; simp only [Bool.and_eq_true] at h; exact h.1.1
    obtain ⟨hVa, hVb, _⟩ := ready_peb hr
    exact ⟨hVa, hVb, (pebWin_at hr (by omega) (by omega)).1 h⟩
  · rintro ⟨hVa, hVb, h⟩
    exact (pebWin_at (bes_ready hVa hVb (by omega) (by omega)) (by omega) (by omega)).2 h
theorem on_bes (k : Nat) : OnBoth [] [] (bes k) (bes k) := ⟨rfl, fun i hi => by
  rw [bes_len] at hi
  rw [bes_at hi]
  exact .inl ⟨by decide, by decide⟩⟩
theorem rounds_win {a b : St} {k r : Int} (hk : 1 ≤ k) (hk3 : k ≤ 3) (h1 : 1 ≤ r) (h3 : r ≤ 3) (h : secB a [] b [] r = true) : pebWinB a (bes k.toNat) b (bes k.toNat) r = true := by
  rw [sec_nil h1 h3, Bool.and_eq_true, Bool.and_eq_true, win_iff _ _ _ _ _ rfl] at h
  exact (pebWin_bes hk hk3 h1 h3).2 ⟨h.1.1, h.1.2, rounds_turns _ rfl h.2 (on_bes _)⟩
theorem rounds_same {a b : St} {k r : Int} (hk : 1 ≤ k) (hk3 : k ≤ 3) (h1 : 1 ≤ r) (h3 : r ≤ 3) (hrk : r ≤ k) : pebWinB a (bes k.toNat) b (bes k.toNat) r = secB a [] b [] r := by
  rw [Bool.eq_iff_iff]
  refine ⟨fun h => ?_, rounds_win hk hk3 h1 h3⟩
  obtain ⟨hVa, hVb, hw⟩ := (pebWin_bes hk hk3 h1 h3).1 h
  rw [sec_nil h1 h3, Bool.and_eq_true, Bool.and_eq_true, win_iff _ _ _ _ _ rfl]
  exact ⟨⟨hVa, hVb⟩, turns_rounds _ k.toNat (as_ := []) (bs := []) rfl (fun x hx => by cases hx) (fun y hy => by cases hy) (by omega) hw⟩
end Go.Wk
