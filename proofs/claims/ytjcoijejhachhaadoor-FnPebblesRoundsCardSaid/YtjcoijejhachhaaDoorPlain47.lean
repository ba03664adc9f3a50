/-
  PEBBLE GAMES BY STATES: turns until nothing changes. No program in sight.
-/
import Derived.Test.YtjcoijejhachhaaDoorPlain45
namespace Go.Wk
open Go.RowKit
theorem winAt_less {n : Nat} {a b : St} {k s : Nat} (h : winAt (n + 1) a b k s = true) : winAt n a b k s = true := winAt_true.2 (winAt_true.1 h).1
theorem wl_less {n : Nat} {a b : St} {k : Nat} (s : Nat) (h : (WL (n + 1) a b k).getD s false = true) : (WL n a b k).getD s false = true := by
  rcases Nat.lt_or_ge s (prN a b ^ k) with h1 | h1
  · rw [WL_at h1] at h ⊢; exact winAt_less h
  · rw [List.getD_eq_getElem?_getD, List.getElem?_eq_none (by rw [WL_len]; exact h1)] at h; cases h
/-- how many places are true -/
def nT : List Bool → Nat
  | [] => 0
  | x :: X => (if x then 1 else 0) + nT X
theorem nT_le : ∀ {X Y : List Bool}, X.length = Y.length → (∀ s : Nat, X.getD s false = true → Y.getD s false = true) → nT X ≤ nT Y ∧ (X ≠ Y → nT X < nT Y)
  | [], [], _, _ => ⟨Nat.le_refl _, fun h => absurd rfl h⟩
  | [], _ :: _, h, _ => by cases h
  | _ :: _, [], h, _ => by cases h
  | x :: X, y :: Y, hl, h => by
    obtain ⟨h1, h2⟩ := nT_le (X := X) (Y := Y) (by simpa using hl) (fun s hs => h (s + 1) hs)
    have h0 : x = true → y = true := h 0
    unfold nT
    cases x <;> cases y
    · exact ⟨by simpa using h1, fun hne => by simpa using h2 (fun e => hne (by rw [e]))⟩
    · refine ⟨?_, fun _ => ?_⟩ <;> simp <;> omega
    · cases h0 rfl
    · exact ⟨by simpa using h1, fun hne => by simpa using h2 (fun e => hne (by rw [e]))⟩
theorem wl_down {n : Nat} {a b : St} {k : Nat} (h : ¬ WL (n + 1) a b k = WL n a b k) : nT (WL (n + 1) a b k) < nT (WL n a b k) :=
  (nT_le (by rw [WL_len, WL_len]) (fun s => wl_less s)).2 h
theorem wl_next {n m : Nat} {a b : St} {k : Nat} (h : WL n a b k = WL m a b k) : WL (n + 1) a b k = WL (m + 1) a b k := by
  refine bools_same (by rw [WL_len, WL_len]) fun s hs => ?_
  rw [WL_len] at hs
  rw [WL_at hs, WL_at hs, Bool.eq_iff_iff, win_step, win_step]
  refine and_congr_right fun _ => forall_congr' fun i => imp_congr_right fun hi => ?_
  rw [← ans_wl hi hs, ← ans_wl hi hs, h]
theorem wl_all {n : Nat} {a b : St} {k : Nat} (h : WL (n + 1) a b k = WL n a b k) : ∀ m : Nat, WL (n + m) a b k = WL n a b k
  | 0 => rfl
  | m + 1 => (wl_next (wl_all h m)).trans h
theorem wl_ever {n : Nat} {a b : St} {k s : Nat} (h : WL (n + 1) a b k = WL n a b k) (hs : s < prN a b ^ k) : (WL (n + 1) a b k).getD s false = true ↔ ∀ m : Nat, winAt m a b k s = true := by
  constructor
  · intro e m
    rw [h] at e
    have h1 : (WL (n + m) a b k).getD s false = true := by rw [wl_all h m]; exact e
    rw [WL_at hs, winAt_true, Nat.add_comm n m] at h1
    exact winAt_true.2 (pW_less n h1)
  · intro e; rw [WL_at hs]; exact e (n + 1)
theorem ready_state {a b : St} {xs ys : List Int} (hr : readyB a xs b ys = true) : stN a b xs ys < prN a b ^ xs.length ∧ stX a b xs.length (stN a b xs ys) = xs ∧ stY a b xs.length (stN a b xs ys) = ys := by
  obtain ⟨_, _, _, _, _, hx, hy⟩ := ready_peb hr
  obtain ⟨_, _, _, hsg⟩ := readyB_true hr
  exact stN_ok hx hy (signsB_true hsg)
open Classical in
theorem ever_code {n : Nat} {a b : St} {xs ys : List Int} (hr : readyB a xs b ys = true) (h : WL (n + 1) a b xs.length = WL n a b xs.length) : (WL (n + 1) a b xs.length).getD (stN a b xs ys) false = pebEverB a xs b ys := by
  obtain ⟨hs, ex, ey⟩ := ready_state hr
  rw [Bool.eq_iff_iff, wl_ever h hs]
  unfold pebEverB pWinB
  rw [hr, if_neg (by omega), Bool.true_and, decide_eq_true_eq]
  unfold pF
  exact forall_congr' fun m => by rw [winAt_true, ex, ey]
open Classical in
theorem win_code {t : Int} {a b : St} {xs ys : List Int} (hr : readyB a xs b ys = true) (h0 : 0 ≤ t) (h4 : t ≤ 4) : (WL t.toNat a b xs.length).getD (stN a b xs ys) false = pebWinB a xs b ys t := by
  obtain ⟨hs, ex, ey⟩ := ready_state hr
  unfold pebWinB pWinB
  rw [hr, show inB t 0 4 = true from by unfold inB; simp; omega, if_pos (by omega), Bool.true_and, Bool.true_and, WL_at hs, Bool.eq_iff_iff, winAt_true, decide_eq_true_eq, ex, ey]
/-! ### the turns that the first player needs -/
def bes (k : Nat) : List Int := List.replicate k (-1)
@[simp] theorem bes_len (k : Nat) : (bes k).length = k := List.length_replicate
theorem bes_peb (size k : Nat) : Peb size k (bes k) := ⟨bes_len k, fun x hx => by rw [List.eq_of_mem_replicate hx]; omega⟩
theorem bes_at {k i : Nat} (h : i < k) : (bes k).getD i 0 = -1 := by
  rw [getD_at (by rw [bes_len]; exact h)]; simp [bes]
theorem dig_zero (p i : Nat) : dig p 0 i = 0 := by unfold dig; simp
theorem stX_zero (a b : St) (k : Nat) : stX a b k 0 = bes k := list_ext0 (by simp) fun i hi => by
  rw [stX_len] at hi
  rw [bes_at hi]; unfold stX; rw [pX_at hi, dig_zero]; rfl
theorem stY_zero (a b : St) (k : Nat) : stY a b k 0 = bes k := list_ext0 (by simp) fun i hi => by
  rw [stY_len] at hi
  rw [bes_at hi]; unfold stY; rw [pY_at hi, dig_zero]; rfl
theorem wl_first {n : Nat} {a b : St} {k : Nat} : (WL n a b k).getD 0 false = true ↔ pW n a (bes k) b (bes k) := by
  rw [WL_at (Nat.pow_pos (prN_pos a b)), winAt_true, stX_zero, stY_zero]
theorem idxP_bes (size : Nat) : ∀ k : Nat, idxP size (bes k) = 0
  | 0 => rfl
  | k + 1 => by
    have : bes (k + 1) = bes k ++ [-1] := by unfold bes; rw [List.replicate_succ']
    rw [this, idxP_snoc, idxP_bes size k]; simp
def Turns (a b : St) (k : Nat) (t : Int) : Prop := (∃ n : Nat, t = (n : Int) ∧ ¬ pW n a (bes k) b (bes k) ∧ ∀ m : Nat, m < n → pW m a (bes k) b (bes k)) ∨ (t = -1 ∧ pF a (bes k) b (bes k))
theorem turns_one {a b : St} {k : Nat} {t u : Int} (h : Turns a b k t) (h' : Turns a b k u) : t = u := by
  rcases h with ⟨n, rfl, h1, h2⟩ | ⟨rfl, h1⟩ <;> rcases h' with ⟨m, rfl, h3, h4⟩ | ⟨rfl, h3⟩
  · rcases Nat.lt_trichotomy n m with e | e | e
    · exact absurd (h4 n e) h1
    · rw [e]
    · exact absurd (h2 m e) h3
  · exact absurd (h3 n) h1
  · exact absurd (h1 m) h3
  · rfl
open Classical in
noncomputable def turnsP (a b : St) (k : Nat) : Int := if h : ∃ t, Turns a b k t then h.choose else 0
theorem turns_of {a b : St} {k : Nat} {t : Int} (h : Turns a b k t) : turnsP a b k = t := by
  have e : ∃ t, Turns a b k t := ⟨t, h⟩
  unfold turnsP
  rw [dif_pos e]
  exact turns_one e.choose_spec h
noncomputable def turnsB (a b : St) (p : Int) : Int := if validB a && validB b && inB p 1 3 then turnsP a b p.toNat else -2
theorem placed_bes {k : Nat} : ∀ j : Nat, j ≤ k → placed (bes k) j = []
  | 0, _ => rfl
  | j + 1, h => by
    unfold placed
    rw [if_pos (by rw [bes_at (by omega)]; decide), placed_bes j (by omega)]
theorem pW_first {a b : St} {k : Nat} : pW 0 a (bes k) b (bes k) := by
  refine ⟨fun _ _ => Iff.rfl, ?_⟩
  rw [placed_bes _ (by rw [bes_len]; exact Nat.le_refl _)]; rfl
theorem turns_won {n : Nat} {a b : St} {k : Nat} (h : ¬ pW (n + 1) a (bes k) b (bes k)) (hb : pW n a (bes k) b (bes k)) : Turns a b k ((n : Int) + 1) :=
  .inl ⟨n + 1, by omega, h, fun m hm => by
    have : pW (m + (n - m)) a (bes k) b (bes k) := by rw [show m + (n - m) = n from by omega]; exact hb
    exact pW_less _ this⟩
theorem turns_never {n : Nat} {a b : St} {k : Nat} (h : WL (n + 1) a b k = WL n a b k) (h0 : (WL (n + 1) a b k).getD 0 false = true) : Turns a b k (-1) :=
  .inr ⟨rfl, fun m => by
    have := (wl_ever h (Nat.pow_pos (prN_pos a b))).1 h0 m
    rwa [winAt_true, stX_zero, stY_zero] at this⟩
end Go.Wk
