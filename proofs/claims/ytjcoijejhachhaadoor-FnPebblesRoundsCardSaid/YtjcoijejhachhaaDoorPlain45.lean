/-
  A TURN of a pebble game by states: its loops. No program in sight.
-/
import Derived.Test.YtjcoijejhachhaaDoorPlain44
namespace Go.Wk
open Go.RowKit
structure TurnAt (fit W : Nat → Bool) (a b : St) (k i S : Nat) (X : List Bool) : Prop where
  len : X.length = prN a b ^ k
  at_ : ∀ s : Nat, s < prN a b ^ k → (X.getD s false = true ↔ fit s = true ∧ (∀ j : Nat, j < i → Ans W a.n.toNat b.n.toNat (zer (prN a b) s j) (prN a b ^ j)) ∧ (zer (prN a b) s i < S → Ans W a.n.toNat b.n.toNat (zer (prN a b) s i) (prN a b ^ i)))
theorem turn_zero {W : Nat → Bool} {a b : St} {k : Nat} {X : List Bool} (h : X.length = prN a b ^ k) : TurnAt (fun s => X.getD s false) W a b k 0 0 X :=
  ⟨h, fun s _ => ⟨fun e => ⟨e, fun j hj => absurd hj (by omega), fun h => absurd h (by omega)⟩, fun e => e.1⟩⟩
theorem turn_round {fit W : Nat → Bool} {a b : St} {k i : Nat} {X : List Bool} (h : TurnAt fit W a b k i (prN a b ^ k) X) : TurnAt fit W a b k (i + 1) 0 X :=
  ⟨h.len, fun s hs => (h.at_ s hs).trans (and_congr_right fun _ => ⟨fun e => ⟨fun j hj => by
    rcases Nat.lt_or_ge j i with h1 | h1
    · exact e.1 j h1
    · rw [show j = i from by omega]; exact e.2 (zer_lt hs), fun h => absurd h (by omega)⟩, fun e => ⟨fun j hj => e.1 j (by omega), fun _ => e.1 i (by omega)⟩⟩)⟩
theorem turn_skip {fit W : Nat → Bool} {a b : St} {k i S : Nat} {X : List Bool} (h : TurnAt fit W a b k i S X) (hd : dig (prN a b) S i ≠ 0) : TurnAt fit W a b k i (S + 1) X :=
  ⟨h.len, fun s hs => (h.at_ s hs).trans (and_congr_right fun _ => and_congr_right fun _ => by
    have hne : zer (prN a b) s i ≠ S := fun e => hd (by rw [← e]; exact (dig_zer (prN_pos a b)).1)
    exact ⟨fun e h1 => e (by omega), fun e h1 => e (by omega)⟩)⟩
theorem turn_yes {fit W : Nat → Bool} {a b : St} {k i S : Nat} {X : List Bool} (h : TurnAt fit W a b k i S X) (hA : Ans W a.n.toNat b.n.toNat S (prN a b ^ i)) : TurnAt fit W a b k i (S + 1) X :=
  ⟨h.len, fun s hs => (h.at_ s hs).trans (and_congr_right fun _ => and_congr_right fun _ => by
    refine ⟨fun e h1 => ?_, fun e h1 => e (by omega)⟩
    by_cases hz : zer (prN a b) s i = S
    · rw [hz]; exact hA
    · exact e (by omega))⟩
/-- places cleared -/
structure Cleared (X0 X : List Bool) (S step Q : Nat) : Prop where
  len : X.length = X0.length
  at_ : ∀ s : Nat, s < X0.length → (X.getD s false = true ↔ X0.getD s false = true ∧ ¬ ∃ q, q < Q ∧ s = S + step * q)
theorem clear_zero (X : List Bool) (S step : Nat) : Cleared X X S step 0 := ⟨rfl, fun s _ => ⟨fun e => ⟨e, fun ⟨q, hq, _⟩ => absurd hq (by omega)⟩, fun e => e.1⟩⟩
theorem clear_next {X0 X : List Bool} {S step Q : Nat} (h : Cleared X0 X S step Q) (hl : S + step * Q < X0.length) : Cleared X0 (X.set (S + step * Q) false) S step (Q + 1) := by
  refine ⟨by rw [List.length_set]; exact h.len, fun s hs => ?_⟩
  rw [set_at (by rw [h.len]; exact hl)]
  by_cases e : S + step * Q = s
  · rw [if_pos e]
    exact ⟨(fun h => by cases h), fun h => absurd ⟨Q, by omega, e.symm⟩ h.2⟩
  · rw [if_neg e, h.at_ s hs]
    refine and_congr_right fun _ => not_congr ⟨fun ⟨q, h1, h2⟩ => ⟨q, by omega, h2⟩, fun ⟨q, h1, h2⟩ => ⟨q, ?_, h2⟩⟩
    rcases Nat.lt_or_ge q Q with h3 | h3
    · exact h3
    · exact absurd (by rw [h2, show q = Q from by omega]) e
theorem turn_no {fit W : Nat → Bool} {a b : St} {k i S : Nat} {X X' : List Bool} (h : TurnAt fit W a b k i S X) (hd : dig (prN a b) S i = 0) (hA : ¬ Ans W a.n.toNat b.n.toNat S (prN a b ^ i)) (hc : Cleared X X' S (prN a b ^ i) (prN a b)) : TurnAt fit W a b k i (S + 1) X' := by
  refine ⟨hc.len.trans h.len, fun s hs => ?_⟩
  rw [hc.at_ s (by rw [h.len]; exact hs), h.at_ s hs, ← zer_iff (prN_pos a b) hd]
  constructor
  · rintro ⟨⟨h1, h2, h3⟩, h4⟩
    exact ⟨h1, h2, fun h5 => h3 (by omega)⟩
  · rintro ⟨h1, h2, h3⟩
    refine ⟨⟨h1, h2, fun h5 => h3 (by omega)⟩, fun e => hA ?_⟩
    have := h3 (by omega)
    rwa [e] at this
theorem ans_wl {n : Nat} {a b : St} {k s j : Nat} (hj : j < k) (hs : s < prN a b ^ k) : Ans (fun s => (WL n a b k).getD s false) a.n.toNat b.n.toNat (zer (prN a b) s j) (prN a b ^ j) ↔ Ans (winAt n a b k) a.n.toNat b.n.toNat (zer (prN a b) s j) (prN a b ^ j) := by
  have key : ∀ x y : Nat, x < a.n.toNat → y < b.n.toNat → ((WL n a b k).getD (zer (prN a b) s j + prN a b ^ j * (1 + x * b.n.toNat + y)) false = true ↔ winAt n a b k (zer (prN a b) s j + prN a b ^ j * (1 + x * b.n.toNat + y)) = true) := fun x y hx hy => by
    rw [WL_at (put_lt (prN_pos a b) (dig_zer (prN_pos a b)).1 (pair_lt hx hy) hj (zer_lt hs))]
  unfold Ans
  exact and_congr (forall_congr' fun x => imp_congr_right fun hx => exists_congr fun y => and_congr_right fun hy => key x y hx hy) (forall_congr' fun y => imp_congr_right fun hy => exists_congr fun x => and_congr_right fun hx => key x y hx hy)
theorem turn_end {n : Nat} {a b : St} {k : Nat} {X : List Bool} (h : TurnAt (fun s => (WL 0 a b k).getD s false) (fun s => (WL n a b k).getD s false) a b k k 0 X) : X = WL (n + 1) a b k := by
  refine bools_same (by rw [h.len, WL_len]) fun s hs => ?_
  rw [h.len] at hs
  rw [WL_at hs, Bool.eq_iff_iff, h.at_ s hs, win_step, WL_at hs]
  exact and_congr_right fun _ => ⟨fun e i hi => (ans_wl hi hs).1 (e.1 i hi), fun e => ⟨fun i hi => (ans_wl hi hs).2 (e i hi), fun h => absurd h (by omega)⟩⟩
end Go.Wk
namespace Go.Wk
open Go.RowKit
theorem dig_down {p s i : Nat} : s / p ^ (i + 1) = s / p ^ i / p := by rw [Nat.pow_succ, Nat.div_div_eq_div_mul]
theorem dig_xv {a b : St} {k s i : Nat} (h : i < k) (hd : 0 < dig (prN a b) s i) {n : Int} (hn : n = b.n) (hb : 0 ≤ b.n) : Value.int .i64 ((((dig (prN a b) s i : Nat) : Int) - 1) / n) = Value.int .i64 ((stX a b k s).getD i 0) := by
  unfold stX
  rw [pX_at h, xOf, if_neg (by omega), hn, Int.natCast_ediv, show (((dig (prN a b) s i - 1 : Nat) : Int)) = (dig (prN a b) s i : Int) - 1 from by omega, Int.toNat_of_nonneg hb]
theorem dig_yv {a b : St} {k s i : Nat} (h : i < k) (hd : 0 < dig (prN a b) s i) {n : Int} (hn : n = b.n) (hb : 0 ≤ b.n) : Value.int .i64 ((((dig (prN a b) s i : Nat) : Int) - 1) % n) = Value.int .i64 ((stY a b k s).getD i 0) := by
  unfold stY
  rw [pY_at h, yOf, if_neg (by omega), hn, Int.natCast_emod, show (((dig (prN a b) s i - 1 : Nat) : Int)) = (dig (prN a b) s i : Int) - 1 from by omega, Int.toNat_of_nonneg hb]
end Go.Wk
namespace Go.Wk
open Go.RowKit
theorem row_put {u : Array Value} {L off : Nat} {X : List Bool} {b : Bool} (h : u.toList.take L = bools X) : (u.setIfInBounds off (.bool b)).toList.take L = bools (X.set off b) := by
  rw [Array.toList_setIfInBounds, List.take_set, h]
  simp [bools, List.map_set]
end Go.Wk
