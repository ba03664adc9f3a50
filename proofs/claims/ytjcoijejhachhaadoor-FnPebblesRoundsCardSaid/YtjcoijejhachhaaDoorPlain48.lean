/-
  PEBBLE GAMES: what the laws of drawn pebbles ask for. No program in sight.
-/
import Derived.Test.YtjcoijejhachhaaDoorPlain30
import Derived.Test.YtjcoijejhachhaaDoorPlain47
namespace Go.Wk
open Go.RowKit
theorem signsB_of {xs ys : List Int} (h : ∀ i : Nat, i < xs.length → (xs.getD i 0 < 0 ↔ ys.getD i 0 < 0)) : signsB xs ys = true := by
  unfold signsB
  rw [List.all_eq_true]
  intro i hi
  have := h i (List.mem_range.1 hi)
  simp only [this, beq_self_eq_true]
theorem pebB_of {a : St} {xs : List Int} (hv : validB a = true) (h1 : 1 ≤ xs.length) (h3 : xs.length ≤ 3) (h : Peb a.n.toNat xs.length xs) : pebB a xs = true := by
  have ha := validB_fine hv
  have := ha.lo
  unfold pebB inB
  simp only [Bool.and_eq_true, decide_eq_true_eq]
  refine ⟨⟨hv, by omega, by omega⟩, List.all_eq_true.2 fun x hx => ?_⟩
  have := h.2 x hx
  simp only [Bool.and_eq_true, decide_eq_true_eq]
  omega
theorem readyB_of {a b : St} {xs ys : List Int} (hVa : validB a = true) (hVb : validB b = true) (h1 : 1 ≤ xs.length) (h3 : xs.length ≤ 3) (hx : Peb a.n.toNat xs.length xs) (hy : Peb b.n.toNat xs.length ys) (hs : ∀ i : Nat, i < xs.length → (xs.getD i 0 < 0 ↔ ys.getD i 0 < 0)) : readyB a xs b ys = true := by
  have hl : ys.length = xs.length := hy.1
  unfold readyB
  simp only [Bool.and_eq_true, decide_eq_true_eq]
  exact ⟨⟨⟨pebB_of hVa h1 h3 hx, pebB_of hVb (by omega) (by omega) (by rw [hl]; exact hy)⟩, by omega⟩, signsB_of hs⟩
theorem ready_signs {a b : St} {xs ys : List Int} (h : readyB a xs b ys = true) : ∀ i : Nat, i < xs.length → (xs.getD i 0 < 0 ↔ ys.getD i 0 < 0) := signsB_true (readyB_true h).2.2.2
theorem ready_swap {a b : St} {xs ys : List Int} (h : readyB a xs b ys = true) : readyB b ys a xs = true := by
  obtain ⟨hVa, hVb, h1, h3, hl, hx, hy⟩ := ready_peb h
  have hs := ready_signs h
  exact readyB_of hVb hVa (by omega) (by omega) (by rw [← hl]; exact hy) (by rw [← hl]; exact hx) fun i hi => (hs i (by omega)).symm
theorem ready_comm (a b : St) (xs ys : List Int) : readyB a xs b ys = readyB b ys a xs := by
  rw [Bool.eq_iff_iff]; exact ⟨ready_swap, ready_swap⟩
theorem set_sign {xs ys : List Int} {i : Nat} {x y : Nat} (hl : xs.length = ys.length) (hs : ∀ j : Nat, j < xs.length → (xs.getD j 0 < 0 ↔ ys.getD j 0 < 0)) : ∀ j : Nat, j < (xs.set i (x : Int)).length → ((xs.set i (x : Int)).getD j 0 < 0 ↔ (ys.set i (y : Int)).getD j 0 < 0) := fun j hj => by
  rw [List.length_set] at hj
  rw [List.getD_eq_getElem?_getD, List.getD_eq_getElem?_getD, List.getElem?_set, List.getElem?_set]
  by_cases e : i = j
  · subst e
    rw [if_pos rfl, if_pos rfl, if_pos hj, if_pos (by omega)]
    show ((x : Int) < 0 ↔ (y : Int) < 0)
    omega
  · rw [if_neg e, if_neg e, ← List.getD_eq_getElem?_getD, ← List.getD_eq_getElem?_getD]; exact hs j hj
theorem ready_set {a b : St} {xs ys : List Int} (h : readyB a xs b ys = true) {i x y : Nat} (hx : x < a.n.toNat) (hy : y < b.n.toNat) : readyB a (xs.set i (x : Int)) b (ys.set i (y : Int)) = true := by
  obtain ⟨hVa, hVb, h1, h3, hl, hX, hY⟩ := ready_peb h
  exact readyB_of hVa hVb (by rw [List.length_set]; exact h1) (by rw [List.length_set]; exact h3) (by rw [List.length_set]; exact peb_set hX hx) (by rw [List.length_set]; exact peb_set hY hy) (set_sign hl (ready_signs h))
theorem pebWin_at {a b : St} {xs ys : List Int} {t : Int} (h : readyB a xs b ys = true) (h0 : 0 ≤ t) (h4 : t ≤ 4) : pebWinB a xs b ys t = true ↔ pW t.toNat a xs b ys := by
  unfold pebWinB pWinB
  rw [h, show inB t 0 4 = true from by unfold inB; simp; omega, if_pos (by omega)]
  simp
theorem pebEver_at {a b : St} {xs ys : List Int} (h : readyB a xs b ys = true) : pebEverB a xs b ys = true ↔ pF a xs b ys := by
  unfold pebEverB pWinB
  rw [h, if_neg (by omega)]
  simp
theorem fit_at {a b : St} {xs ys : List Int} (h : readyB a xs b ys = true) : fitB a xs b ys = true ↔ pW 0 a xs b ys := by
  unfold fitB
  rw [h, Bool.true_and]
  exact ⟨fun e => ⟨ready_signs h, e⟩, fun e => e.2⟩
theorem pebWin_zero (a : St) (xs : List Int) (b : St) (ys : List Int) {t : Int} (ht : t = 0) : pebWinB a xs b ys t = fitB a xs b ys := by
  subst ht
  cases h : readyB a xs b ys with
  | false => unfold pebWinB fitB; rw [h]; rfl
  | true => rw [Bool.eq_iff_iff, pebWin_at h (by omega) (by omega), fit_at h]; rfl
theorem pebWin_comm (a : St) (xs : List Int) (b : St) (ys : List Int) (t : Int) : pebWinB b ys a xs t = pebWinB a xs b ys t := by
  have key : ∀ (a b : St) (xs ys : List Int), pebWinB a xs b ys t = true → pebWinB b ys a xs t = true := fun a b xs ys e => by
    have h : readyB a xs b ys = true := by unfold pebWinB at e; simp only [Bool.and_eq_true] at e; exact e.1.1
    have hi : inB t 0 4 = true := by unfold pebWinB at e; simp only [Bool.and_eq_true] at e; exact e.1.2
    have h4 : 0 ≤ t ∧ t ≤ 4 := by unfold inB at hi; simpa using hi
    rw [pebWin_at h h4.1 h4.2] at e
    rw [pebWin_at (ready_swap h) h4.1 h4.2]
    exact pW_comm _ _ _ _ _ (readyB_true h).2.2.1 e
  rw [Bool.eq_iff_iff]; exact ⟨key _ _ _ _, key _ _ _ _⟩
/-! ### a turn of drawn pebbles -/
noncomputable def pwF (a : St) (xs : List Int) (b : St) (ys : List Int) (t : Int) (i x y : Nat) : Bool := pebWinB a (xs.set i (x : Int)) b (ys.set i (y : Int)) (t - 1)
noncomputable def pwG (a : St) (xs : List Int) (b : St) (ys : List Int) (t : Int) (i y x : Nat) : Bool := pwF a xs b ys t i x y
noncomputable def pwA (a : St) (xs : List Int) (b : St) (ys : List Int) (t : Int) : Nat → Bool
  | 0 => true
  | i + 1 => pwA a xs b ys t i && allW (pwF a xs b ys t i) a.n.toNat b.n.toNat && allW (pwG a xs b ys t i) b.n.toNat a.n.toNat
theorem pwA_true {a b : St} {xs ys : List Int} {t : Int} (h : readyB a xs b ys = true) (h1 : 1 ≤ t) (h3 : t ≤ 3) : ∀ k : Nat, k ≤ xs.length → (pwA a xs b ys t k = true ↔ ∀ i : Nat, i < k →
    (∀ x : Nat, x < a.n.toNat → ∃ y : Nat, y < b.n.toNat ∧ pW (t.toNat - 1) a (xs.set i (x : Int)) b (ys.set i (y : Int))) ∧ (∀ y : Nat, y < b.n.toNat → ∃ x : Nat, x < a.n.toNat ∧ pW (t.toNat - 1) a (xs.set i (x : Int)) b (ys.set i (y : Int))))
  | 0, _ => ⟨fun _ i hi => absurd hi (by omega), fun _ => rfl⟩
  | k + 1, hk => by
    have key : ∀ x y : Nat, x < a.n.toNat → y < b.n.toNat → (pwF a xs b ys t k x y = true ↔ pW (t.toNat - 1) a (xs.set k (x : Int)) b (ys.set k (y : Int))) := fun x y hx hy => by
      unfold pwF
      rw [pebWin_at (ready_set h hx hy) (by omega) (by omega), show (t - 1).toNat = t.toNat - 1 from by omega]
    unfold pwA
    rw [Bool.and_eq_true, Bool.and_eq_true, pwA_true h h1 h3 k (by omega), allW_true, allW_true]
    constructor
    · rintro ⟨⟨h2, h4⟩, h5⟩ i hi
      rcases Nat.lt_or_ge i k with h6 | h6
      · exact h2 i h6
      · obtain rfl : i = k := by omega
        exact ⟨fun x hx => (h4 x hx).elim fun y hy => ⟨y, hy.1, (key x y hx hy.1).1 hy.2⟩, fun y hy => (h5 y hy).elim fun x hx => ⟨x, hx.1, (key x y hx.1 hy).1 hx.2⟩⟩
    · intro h2
      obtain ⟨h4, h5⟩ := h2 k (by omega)
      exact ⟨⟨fun i hi => h2 i (by omega), fun x hx => (h4 x hx).elim fun y hy => ⟨y, hy.1, (key x y hx hy.1).2 hy.2⟩⟩, fun y hy => (h5 y hy).elim fun x hx => ⟨x, hx.1, (key x y hx.1 hy).2 hx.2⟩⟩
theorem pebWin_moves {a b : St} {xs ys : List Int} {t : Int} (hf : fitB a xs b ys = true) (h1 : 1 ≤ t) (h3 : t ≤ 3) : pebWinB a xs b ys t = pwA a xs b ys t xs.length := by
  have h : readyB a xs b ys = true := by unfold fitB at hf; simp only [Bool.and_eq_true] at hf; exact hf.1
  rw [Bool.eq_iff_iff, pebWin_at h (by omega) (by omega), pwA_true h h1 h3 _ (Nat.le_refl _), show t.toNat = (t.toNat - 1) + 1 from by omega]
  exact ⟨fun e => e.2, fun e => ⟨pW_moves ((fit_at h).1 hf) e, e⟩⟩
/-! ### forever -/
theorem pF_fit {a b : St} {xs ys : List Int} (hf : fitB a xs b ys = false) : pebEverB a xs b ys = false := by
  cases h : readyB a xs b ys with
  | false => unfold pebEverB; rw [h]; rfl
  | true =>
    cases e : pebEverB a xs b ys with
    | false => rfl
    | true => rw [(fit_at h).2 ((pebEver_at h).1 e 0)] at hf; cases hf
theorem ever_ready {a b : St} {xs ys : List Int} (h : pebEverB a xs b ys = true) : readyB a xs b ys = true := by
  unfold pebEverB at h; simp only [Bool.and_eq_true] at h; exact h.1
theorem ever_win {a b : St} {xs ys : List Int} (h : pebEverB a xs b ys = true) {t : Int} (h0 : 0 ≤ t) (h4 : t ≤ 4) : pebWinB a xs b ys t = true :=
  (pebWin_at (ever_ready h) h0 h4).2 ((pebEver_at (ever_ready h)).1 h _)
theorem pF_bound {P : Nat → Nat → Prop} : ∀ m : Nat, (∀ y : Nat, y < m → ∃ n, ¬ P n y) → (∀ n y, P (n + 1) y → P n y) → ∃ n, ∀ y : Nat, y < m → ¬ P n y
  | 0, _, _ => ⟨0, fun y hy => absurd hy (by omega)⟩
  | m + 1, h, hd => by
    obtain ⟨n1, h1⟩ := pF_bound m (fun y hy => h y (by omega)) hd
    obtain ⟨n2, h2⟩ := h m (by omega)
    have down : ∀ (k n y : Nat), P (n + k) y → P n y := fun k => by
      induction k with
      | zero => exact fun _ _ h => h
      | succ k ih => exact fun n y h => ih n y (hd _ _ h)
    refine ⟨n1 + n2, fun y hy e => ?_⟩
    rcases Nat.lt_or_ge y m with h3 | h3
    · exact h1 y h3 (down n2 n1 y e)
    · obtain rfl : y = m := by omega
      exact h2 (down n1 n2 y (by rw [Nat.add_comm]; exact e))
theorem pF_move {a b : St} {xs ys : List Int} (h : pF a xs b ys) {i x : Nat} (hi : i < xs.length) (hx : x < a.n.toNat) : ∃ y : Nat, y < b.n.toNat ∧ pF a (xs.set i (x : Int)) b (ys.set i (y : Int)) := by
  refine Classical.byContradiction fun hn => ?_
  obtain ⟨n, h2⟩ := pF_bound (P := fun n y => pW n a (xs.set i (x : Int)) b (ys.set i (y : Int))) b.n.toNat (fun y hy => Classical.byContradiction fun h3 => hn ⟨y, hy, fun n => Classical.byContradiction fun h4 => h3 ⟨n, h4⟩⟩) (fun n y e => e.1)
  obtain ⟨y, hy, h5⟩ := ((h (n + 1)).2 i hi).1 x hx
  exact h2 y hy h5
noncomputable def evF (a : St) (xs : List Int) (b : St) (ys : List Int) (i x y : Nat) : Bool := pebEverB a (xs.set i (x : Int)) b (ys.set i (y : Int))
theorem ever_moves {a b : St} {xs ys : List Int} (h : pebEverB a xs b ys = true) {i x : Nat} (hi : i < xs.length) (hx : x < a.n.toNat) : someW (evF a xs b ys i) x b.n.toNat = true := by
  have hr := ever_ready h
  obtain ⟨y, hy, h2⟩ := pF_move ((pebEver_at hr).1 h) hi hx
  unfold someW
  exact List.any_eq_true.2 ⟨y, List.mem_range.2 hy, (pebEver_at (ready_set hr hx hy)).2 h2⟩
theorem pW_refl (a : St) : ∀ (n : Nat) (xs : List Int), pW n a xs a xs
  | 0, _ => ⟨fun _ _ => Iff.rfl, same_refl a _⟩
  | n + 1, xs => ⟨pW_refl a n xs, fun _ _ => ⟨fun x hx => ⟨x, hx, pW_refl a n _⟩, fun y hy => ⟨y, hy, pW_refl a n _⟩⟩⟩
theorem ready_refl {a b : St} {xs ys : List Int} (h : readyB a xs b ys = true) : readyB a xs a xs = true := by
  obtain ⟨hVa, _, h1, h3, _, hx, _⟩ := ready_peb h
  exact readyB_of hVa hVa h1 h3 hx hx fun _ _ => Iff.rfl
theorem ever_refl {a b : St} {xs ys : List Int} (h : readyB a xs b ys = true) : pebEverB a xs a xs = true := (pebEver_at (ready_refl h)).2 fun n => pW_refl a n xs
theorem ever_comm (a : St) (xs : List Int) (b : St) (ys : List Int) : pebEverB b ys a xs = pebEverB a xs b ys := by
  have key : ∀ (a b : St) (xs ys : List Int), pebEverB a xs b ys = true → pebEverB b ys a xs = true := fun a b xs ys e => by
    have h := ever_ready e
    rw [pebEver_at h] at e
    rw [pebEver_at (ready_swap h)]
    exact fun n => pW_comm _ _ _ _ _ (readyB_true h).2.2.1 (e n)
  rw [Bool.eq_iff_iff]; exact ⟨key _ _ _ _, key _ _ _ _⟩
/-! ### pebbles beside, fewer pebbles -/
theorem bes_ready {a b : St} {k : Nat} (hVa : validB a = true) (hVb : validB b = true) (h1 : 1 ≤ k) (h3 : k ≤ 3) : readyB a (bes k) b (bes k) = true :=
  readyB_of hVa hVb (by rw [bes_len]; exact h1) (by rw [bes_len]; exact h3) (by rw [bes_len]; exact bes_peb _ _) (by rw [bes_len]; exact bes_peb _ _) fun _ _ => Iff.rfl
theorem placed_same {xs zs : List Int} : ∀ {i : Nat}, i ≤ xs.length → placed (xs ++ zs) i = placed xs i
  | 0, _ => rfl
  | i + 1, h => by
    unfold placed
    rw [placed_same (by omega), List.getD_eq_getElem?_getD, List.getElem?_append_left (by omega), ← List.getD_eq_getElem?_getD]
theorem sign_app {xs ys : List Int} {x y : Int} (hl : xs.length = ys.length) (h : ∀ i : Nat, i < (xs ++ [x]).length → ((xs ++ [x]).getD i 0 < 0 ↔ (ys ++ [y]).getD i 0 < 0)) : ∀ i : Nat, i < xs.length → (xs.getD i 0 < 0 ↔ ys.getD i 0 < 0) := fun i hi => by
  have := h i (by rw [List.length_append]; omega)
  rwa [List.getD_eq_getElem?_getD, List.getElem?_append_left hi, List.getD_eq_getElem?_getD, List.getElem?_append_left (by omega), ← List.getD_eq_getElem?_getD, ← List.getD_eq_getElem?_getD] at this
/-- a pebble less -/
theorem pW_drop : ∀ {n : Nat} {a b : St} {xs ys : List Int} {x y : Int}, xs.length = ys.length → pW n a (xs ++ [x]) b (ys ++ [y]) → pW n a xs b ys
  | 0, a, b, xs, ys, x, y, hl, h => by
    obtain ⟨h1, h2⟩ := h
    have hs := sign_app hl h1
    refine ⟨hs, ?_⟩
    have he : (placed xs xs.length).length = (placed ys ys.length).length := by rw [← hl]; exact placed_len _ hs
    have hx := h1 xs.length (by simp)
    rw [List.length_append, List.length_append, List.length_singleton, List.length_singleton, placed, placed, placed_same (Nat.le_refl _), placed_same (Nat.le_refl _)] at h2
    rw [← hl] at h2
    by_cases e : (xs ++ [x]).getD xs.length 0 < 0
    · rw [if_pos e, if_pos (hx.1 e)] at h2
      rw [← hl]; exact h2
    · rw [if_neg e, if_neg (fun h => e (hx.2 h)), same_more (by rw [he, hl]), Bool.and_eq_true] at h2
      rw [← hl]; exact h2.1
  | n + 1, a, b, xs, ys, x, y, hl, h => by
    refine ⟨pW_drop hl h.1, fun i hi => ?_⟩
    obtain ⟨h1, h2⟩ := h.2 i (by rw [List.length_append]; omega)
    refine ⟨fun u hu => (h1 u hu).elim fun v hv => ⟨v, hv.1, ?_⟩, fun v hv => (h2 v hv).elim fun u hu => ⟨u, hu.1, ?_⟩⟩
    · have := hv.2
      rw [List.set_append_left _ _ hi, List.set_append_left _ _ (by omega)] at this
      exact pW_drop (by simp [hl]) this
    · have := hu.2
      rw [List.set_append_left _ _ hi, List.set_append_left _ _ (by omega)] at this
      exact pW_drop (by simp [hl]) this
theorem bes_snoc (k : Nat) : bes (k + 1) = bes k ++ [-1] := by unfold bes; rw [List.replicate_succ']
theorem bes_fewer {n k : Nat} {a b : St} (h : pW n a (bes (k + 1)) b (bes (k + 1))) : pW n a (bes k) b (bes k) := by
  rw [bes_snoc] at h; exact pW_drop rfl h
end Go.Wk
