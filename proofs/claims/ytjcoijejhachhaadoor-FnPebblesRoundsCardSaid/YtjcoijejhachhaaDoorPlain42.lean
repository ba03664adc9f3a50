/-
  PEBBLE GAMES BY STATES: numbers with digits. No program in sight.
-/
import Derived.Test.YtjcoijejhachhaaDoorPlain41
namespace Go.Wk
open Go.RowKit
/-- a state's digit -/
def dig (pr s i : Nat) : Nat := s / pr ^ i % pr
/-- a state with a digit's pebble beside -/
def zer (pr s i : Nat) : Nat := s - pr ^ i * dig pr s i
theorem dig_lt {pr s i : Nat} (h : 0 < pr) : dig pr s i < pr := Nat.mod_lt _ h
theorem dig_first {pr s c : Nat} (hc : c < pr) : dig pr (s * pr + c) 0 = c := by
  unfold dig
  rw [Nat.pow_zero, Nat.div_one, Nat.add_comm, Nat.add_mul_mod_self_right, Nat.mod_eq_of_lt hc]
theorem dig_next {pr s c i : Nat} (hc : c < pr) : dig pr (s * pr + c) (i + 1) = dig pr s i := by
  unfold dig
  rw [Nat.pow_succ', ← Nat.div_div_eq_div_mul, Nat.add_comm (s * pr), Nat.add_mul_div_right _ _ (by omega), Nat.div_eq_of_lt hc, Nat.zero_add]
theorem dig_le {pr s i : Nat} : pr ^ i * dig pr s i ≤ s := by
  unfold dig
  exact Nat.le_trans (Nat.mul_le_mul_left _ (Nat.mod_le _ _)) (Nat.mul_div_le _ _)
theorem zer_add {pr s i : Nat} : zer pr s i + pr ^ i * dig pr s i = s := by
  have := dig_le (pr := pr) (s := s) (i := i)
  unfold zer; omega
/-- a number cut at a digit -/
theorem dig_cut (pr s i : Nat) : s = (s / pr ^ (i + 1)) * pr ^ (i + 1) + pr ^ i * dig pr s i + s % pr ^ i := by
  have h1 := Nat.div_add_mod s (pr ^ i)
  have h2 := Nat.div_add_mod (s / pr ^ i) pr
  rw [Nat.div_div_eq_div_mul, ← Nat.pow_succ] at h2
  have h3 : pr ^ i * (s / pr ^ i) = pr ^ i * (pr * (s / pr ^ (i + 1)) + s / pr ^ i % pr) := by rw [h2]
  rw [Nat.mul_add, ← Nat.mul_assoc, ← Nat.pow_succ, Nat.mul_comm (pr ^ (i + 1))] at h3
  unfold dig
  omega
theorem dig_of_cut {pr h q l i : Nat} (hq : q < pr) (hl : l < pr ^ i) : dig pr (h * pr ^ (i + 1) + pr ^ i * q + l) i = q := by
  have hp : 0 < pr ^ i := by omega
  unfold dig
  have e : h * pr ^ (i + 1) + pr ^ i * q + l = l + pr ^ i * (h * pr + q) := by
    rw [Nat.mul_add, Nat.pow_succ, show pr ^ i * (h * pr) = h * (pr ^ i * pr) from by rw [Nat.mul_left_comm]]; omega
  rw [e, Nat.add_mul_div_left _ _ hp, Nat.div_eq_of_lt hl, Nat.zero_add, Nat.add_comm, Nat.add_mul_mod_self_right, Nat.mod_eq_of_lt hq]
theorem dig_below {pr h q l i j : Nat} (hj : j < i) : dig pr (h * pr ^ (i + 1) + pr ^ i * q + l) j = dig pr l j := by
  have key : ∀ s, dig pr s j = s % pr ^ (j + 1) / pr ^ j := fun s => by
    unfold dig
    rw [Nat.pow_succ, Nat.mod_mul_right_div_self]
  have e : h * pr ^ (i + 1) + pr ^ i * q + l = l + pr ^ (j + 1) * (pr ^ (i - j - 1) * (h * pr + q)) := by
    rw [← Nat.mul_assoc, ← Nat.pow_add, show j + 1 + (i - j - 1) = i from by omega, Nat.mul_add, Nat.pow_succ, show pr ^ i * (h * pr) = h * (pr ^ i * pr) from by rw [Nat.mul_left_comm]]; omega
  rw [key, key, e, Nat.add_mul_mod_self_left]
theorem cut_hi {pr h q l i : Nat} (hq : q < pr) (hl : l < pr ^ i) : (h * pr ^ (i + 1) + pr ^ i * q + l) / pr ^ (i + 1) = h := by
  have hp : 0 < pr ^ (i + 1) := Nat.pow_pos (by omega)
  have hs : pr ^ i * q + l < pr ^ (i + 1) := by
    have : pr ^ i * (q + 1) ≤ pr ^ i * pr := Nat.mul_le_mul_left _ hq
    rw [Nat.mul_add, Nat.mul_one] at this
    rw [Nat.pow_succ]; omega
  rw [Nat.add_assoc, Nat.add_comm, Nat.add_mul_div_right _ _ hp, Nat.div_eq_of_lt hs, Nat.zero_add]
theorem dig_above {pr h q l i j : Nat} (hq : q < pr) (hl : l < pr ^ i) (hj : i < j) : dig pr (h * pr ^ (i + 1) + pr ^ i * q + l) j = dig pr h (j - (i + 1)) := by
  obtain ⟨m, rfl⟩ : ∃ m, j = i + 1 + m := ⟨j - (i + 1), by omega⟩
  unfold dig
  rw [show i + 1 + m - (i + 1) = m from by omega, Nat.pow_add pr (i + 1) m, ← Nat.div_div_eq_div_mul, cut_hi hq hl]
/-- a digit put in the place of another -/
theorem dig_put {pr s i q : Nat} (hp : 0 < pr) (h0 : dig pr s i = 0) (hq : q < pr) : dig pr (s + pr ^ i * q) i = q ∧ ∀ j, j ≠ i → dig pr (s + pr ^ i * q) j = dig pr s j := by
  have hl : s % pr ^ i < pr ^ i := Nat.mod_lt _ (Nat.pow_pos hp)
  have e := dig_cut pr s i
  rw [h0, Nat.mul_zero, Nat.add_zero] at e
  have e2 : s + pr ^ i * q = (s / pr ^ (i + 1)) * pr ^ (i + 1) + pr ^ i * q + s % pr ^ i := by omega
  have e0 : s = (s / pr ^ (i + 1)) * pr ^ (i + 1) + pr ^ i * 0 + s % pr ^ i := by omega
  refine ⟨by rw [e2, dig_of_cut hq hl], fun j hj => ?_⟩
  rcases Nat.lt_or_ge j i with h1 | h1
  · rw [e2, dig_below h1]
    conv => rhs; rw [e0, dig_below h1]
  · rw [e2, dig_above hq hl (by omega)]
    conv => rhs; rw [e0, dig_above hp hl (by omega)]
theorem put_lt {pr s i q k : Nat} (hp : 0 < pr) (h0 : dig pr s i = 0) (hq : q < pr) (hi : i < k) (hs : s < pr ^ k) : s + pr ^ i * q < pr ^ k := by
  have hl : s % pr ^ i < pr ^ i := Nat.mod_lt _ (Nat.pow_pos hp)
  have e := dig_cut pr s i
  rw [h0, Nat.mul_zero, Nat.add_zero] at e
  have hh : s / pr ^ (i + 1) < pr ^ (k - (i + 1)) := Nat.div_lt_of_lt_mul (by rw [← Nat.pow_add, show i + 1 + (k - (i + 1)) = k from by omega]; exact hs)
  have h1 : (s / pr ^ (i + 1) + 1) * pr ^ (i + 1) ≤ pr ^ (k - (i + 1)) * pr ^ (i + 1) := Nat.mul_le_mul_right _ hh
  rw [← Nat.pow_add, show k - (i + 1) + (i + 1) = k from by omega, Nat.add_mul, Nat.one_mul] at h1
  have h2 : pr ^ i * (q + 1) ≤ pr ^ i * pr := Nat.mul_le_mul_left _ hq
  rw [Nat.mul_add, Nat.mul_one, ← Nat.pow_succ] at h2
  have h3 : pr ^ i.succ = pr ^ (i + 1) := rfl
  omega
theorem dig_zer {pr s i : Nat} (hp : 0 < pr) : dig pr (zer pr s i) i = 0 ∧ ∀ j, j ≠ i → dig pr (zer pr s i) j = dig pr s j := by
  have hl : s % pr ^ i < pr ^ i := Nat.mod_lt _ (Nat.pow_pos hp)
  have e := dig_cut pr s i
  have hz : zer pr s i = (s / pr ^ (i + 1)) * pr ^ (i + 1) + pr ^ i * 0 + s % pr ^ i := by
    unfold zer
    rw [Nat.mul_zero, Nat.add_zero]
    have h9 := dig_le (pr := pr) (s := s) (i := i)
    omega
  have h0 : dig pr (zer pr s i) i = 0 := by rw [hz, dig_of_cut hp hl]
  refine ⟨h0, fun j hj => ?_⟩
  have := (dig_put (q := dig pr s i) hp h0 (dig_lt hp)).2 j hj
  rw [zer_add] at this
  exact this.symm
theorem zer_iff {pr s t i : Nat} (hp : 0 < pr) (h0 : dig pr t i = 0) : zer pr s i = t ↔ ∃ q, q < pr ∧ s = t + pr ^ i * q := by
  constructor
  · intro e
    exact ⟨dig pr s i, dig_lt hp, by rw [← e, zer_add]⟩
  · rintro ⟨q, hq, rfl⟩
    unfold zer
    rw [(dig_put hp h0 hq).1]; omega
theorem zer_lt {pr s i k : Nat} (h : s < pr ^ k) : zer pr s i < pr ^ k := by unfold zer; omega
/-! ### pebbles of a state -/
def xOf (nb d : Nat) : Int := if d = 0 then -1 else (((d - 1) / nb : Nat) : Int)
def yOf (nb d : Nat) : Int := if d = 0 then -1 else (((d - 1) % nb : Nat) : Int)
def pX (nb pr k s : Nat) : List Int := (List.range k).map fun i => xOf nb (dig pr s i)
def pY (nb pr k s : Nat) : List Int := (List.range k).map fun i => yOf nb (dig pr s i)
@[simp] theorem pX_len (nb pr k s : Nat) : (pX nb pr k s).length = k := by simp [pX]
@[simp] theorem pY_len (nb pr k s : Nat) : (pY nb pr k s).length = k := by simp [pY]
theorem pX_at {nb pr k s i : Nat} (h : i < k) : (pX nb pr k s).getD i 0 = xOf nb (dig pr s i) := by
  rw [getD_at (by rw [pX_len]; exact h)]; simp [pX]
theorem pY_at {nb pr k s i : Nat} (h : i < k) : (pY nb pr k s).getD i 0 = yOf nb (dig pr s i) := by
  rw [getD_at (by rw [pY_len]; exact h)]; simp [pY]
theorem set_ext {l m : List Int} {i : Nat} {x : Int} (hl : m.length = l.length) (hx : i < l.length → m.getD i 0 = x) (hr : ∀ j, j < l.length → j ≠ i → m.getD j 0 = l.getD j 0) : m = l.set i x := by
  refine List.ext_getElem (by rw [List.length_set, hl]) fun j h1 h2 => ?_
  rw [List.length_set] at h2
  rw [List.getElem_set]
  split
  · rename_i e
    subst e
    rw [← hx h2, getD_at h1]
  · rename_i e
    have := hr j h2 (fun h => e h.symm)
    rw [getD_at h1, getD_at h2] at this
    exact this
theorem pX_put {nb pr k s i x y : Nat} (hp : 0 < pr) (hi : i < k) (h0 : dig pr s i = 0) (hq : 1 + x * nb + y < pr) (hy : y < nb) : pX nb pr k (s + pr ^ i * (1 + x * nb + y)) = (pX nb pr k s).set i (x : Int) := by
  obtain ⟨h1, h2⟩ := dig_put hp h0 hq
  refine set_ext (by simp) (fun _ => ?_) fun j hj hne => ?_
  · rw [pX_at hi, h1]
    unfold xOf
    rw [if_neg (by omega), show 1 + x * nb + y - 1 = y + x * nb from by omega, Nat.add_mul_div_right _ _ (by omega), Nat.div_eq_of_lt hy, Nat.zero_add]
  · rw [pX_len] at hj
    rw [pX_at hj, pX_at hj, h2 j hne]
theorem pY_put {nb pr k s i x y : Nat} (hp : 0 < pr) (hi : i < k) (h0 : dig pr s i = 0) (hq : 1 + x * nb + y < pr) (hy : y < nb) : pY nb pr k (s + pr ^ i * (1 + x * nb + y)) = (pY nb pr k s).set i (y : Int) := by
  obtain ⟨h1, h2⟩ := dig_put hp h0 hq
  refine set_ext (by simp) (fun _ => ?_) fun j hj hne => ?_
  · rw [pY_at hi, h1]
    unfold yOf
    rw [if_neg (by omega), show 1 + x * nb + y - 1 = y + x * nb from by omega, Nat.add_mul_mod_self_right, Nat.mod_eq_of_lt hy]
  · rw [pY_len] at hj
    rw [pY_at hj, pY_at hj, h2 j hne]
/-- the pebble that a digit tells is put anew: the state without it matters alone -/
theorem pX_zer {nb pr k s i : Nat} (hp : 0 < pr) {x : Int} : (pX nb pr k (zer pr s i)).set i x = (pX nb pr k s).set i x := by
  obtain ⟨_, h2⟩ := dig_zer (s := s) (i := i) hp
  refine set_ext (by simp) (fun h => ?_) fun j hj hne => ?_
  · rw [pX_len] at h
    rw [List.getD_eq_getElem?_getD, List.getElem?_set_self (by rw [pX_len]; exact h)]; rfl
  · rw [pX_len] at hj
    rw [List.getD_eq_getElem?_getD, List.getElem?_set_ne (fun e => hne e.symm), ← List.getD_eq_getElem?_getD, pX_at hj, pX_at hj, h2 j hne]
theorem pY_zer {nb pr k s i : Nat} (hp : 0 < pr) {x : Int} : (pY nb pr k (zer pr s i)).set i x = (pY nb pr k s).set i x := by
  obtain ⟨_, h2⟩ := dig_zer (s := s) (i := i) hp
  refine set_ext (by simp) (fun h => ?_) fun j hj hne => ?_
  · rw [pY_len] at h
    rw [List.getD_eq_getElem?_getD, List.getElem?_set_self (by rw [pY_len]; exact h)]; rfl
  · rw [pY_len] at hj
    rw [List.getD_eq_getElem?_getD, List.getElem?_set_ne (fun e => hne e.symm), ← List.getD_eq_getElem?_getD, pY_at hj, pY_at hj, h2 j hne]
/-! ### the state of pebbles -/
def code (nb : Nat) (x y : Int) : Nat := if 0 ≤ x then 1 + x.toNat * nb + y.toNat else 0
def stU (nb pr : Nat) (xs ys : List Int) (k : Nat) : Nat → Nat
  | 0 => 0
  | j + 1 => stU nb pr xs ys k j * pr + code nb (xs.getD (k - 1 - j) 0) (ys.getD (k - 1 - j) 0)
theorem stU_dig {nb pr k : Nat} {xs ys : List Int} (hc : ∀ i : Nat, i < k → code nb (xs.getD i 0) (ys.getD i 0) < pr) : ∀ j : Nat, j ≤ k → ∀ i : Nat, i < j → dig pr (stU nb pr xs ys k j) i = code nb (xs.getD (k - j + i) 0) (ys.getD (k - j + i) 0)
  | 0, _, i, hi => absurd hi (by omega)
  | j + 1, hj, i, hi => by
    have hcj := hc (k - 1 - j) (by omega)
    unfold stU
    cases i with
    | zero => rw [dig_first hcj, show k - (j + 1) + 0 = k - 1 - j from by omega]
    | succ i => rw [dig_next hcj, stU_dig hc j (by omega) i (by omega), show k - (j + 1) + (i + 1) = k - j + i from by omega]
theorem stU_lt {nb pr k : Nat} {xs ys : List Int} (hc : ∀ i : Nat, i < k → code nb (xs.getD i 0) (ys.getD i 0) < pr) : ∀ j : Nat, j ≤ k → stU nb pr xs ys k j < pr ^ j
  | 0, _ => Nat.one_pos
  | j + 1, hj => by
    have h1 := stU_lt hc j (by omega)
    have hcj := hc (k - 1 - j) (by omega)
    have h2 : (stU nb pr xs ys k j + 1) * pr ≤ pr ^ j * pr := Nat.mul_le_mul_right _ h1
    rw [Nat.add_mul, Nat.one_mul] at h2
    unfold stU
    rw [Nat.pow_succ]; omega
end Go.Wk
