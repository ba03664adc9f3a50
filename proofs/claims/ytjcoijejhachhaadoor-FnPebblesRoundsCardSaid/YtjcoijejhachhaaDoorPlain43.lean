/-
  PEBBLE GAMES BY STATES: winning lists, a turn more. No program in sight.
-/
import Derived.Test.YtjcoijejhachhaaDoorPlain42
namespace Go.Wk
open Go.RowKit
def prN (a b : St) : Nat := a.n.toNat * b.n.toNat + 1
theorem prN_pos (a b : St) : 0 < prN a b := Nat.succ_pos _
theorem pair_lt {a b : St} {x y : Nat} (hx : x < a.n.toNat) (hy : y < b.n.toNat) : 1 + x * b.n.toNat + y < prN a b := by
  have : (x + 1) * b.n.toNat ≤ a.n.toNat * b.n.toNat := Nat.mul_le_mul_right _ hx
  rw [Nat.add_mul, Nat.one_mul] at this
  unfold prN; omega
theorem prN_le {a b : St} (ha : a.n.toNat ≤ 8) (hb : b.n.toNat ≤ 8) : prN a b ≤ 65 := by
  have := Nat.mul_le_mul ha hb
  unfold prN; omega
theorem pow65 {p k : Nat} (h : p ≤ 65) (hk : k ≤ 3) : p ^ k ≤ 274625 := Nat.le_trans (Nat.pow_le_pow_left h k) (Nat.le_trans (Nat.pow_le_pow_right (by decide) hk) (by decide))
/-- the elements of a state on either structure -/
def stX (a b : St) (k s : Nat) : List Int := pX b.n.toNat (prN a b) k s
def stY (a b : St) (k s : Nat) : List Int := pY b.n.toNat (prN a b) k s
theorem dig_x {a b : St} {k s i : Nat} (h : i < k) : -1 ≤ (stX a b k s).getD i 0 ∧ (stX a b k s).getD i 0 < (a.n.toNat : Int) ∧ ((stX a b k s).getD i 0 < 0 ↔ dig (prN a b) s i = 0) := by
  have hd := dig_lt (s := s) (i := i) (prN_pos a b)
  unfold stX
  rw [pX_at h]
  unfold xOf
  by_cases e : dig (prN a b) s i = 0
  · rw [if_pos e]; omega
  · rw [if_neg e]
    have h1 : (dig (prN a b) s i - 1) / b.n.toNat < a.n.toNat := Nat.div_lt_of_lt_mul (by rw [Nat.mul_comm]; have hq : prN a b = a.n.toNat * b.n.toNat + 1 := rfl; omega)
    generalize (dig (prN a b) s i - 1) / b.n.toNat = z at h1 ⊢
    omega
theorem dig_y {a b : St} {k s i : Nat} (hb : 1 ≤ b.n.toNat) (h : i < k) : -1 ≤ (stY a b k s).getD i 0 ∧ (stY a b k s).getD i 0 < (b.n.toNat : Int) ∧ ((stY a b k s).getD i 0 < 0 ↔ dig (prN a b) s i = 0) := by
  unfold stY
  rw [pY_at h]
  unfold yOf
  by_cases e : dig (prN a b) s i = 0
  · rw [if_pos e]; omega
  · rw [if_neg e]
    have h1 : (dig (prN a b) s i - 1) % b.n.toNat < b.n.toNat := Nat.mod_lt _ (by omega)
    omega
theorem stX_peb {a b : St} {k s : Nat} : Peb a.n.toNat k (stX a b k s) := by
  refine ⟨by unfold stX; simp, fun x hx => ?_⟩
  obtain ⟨i, hi, rfl⟩ := List.mem_iff_getElem.1 hx
  have := dig_x (a := a) (b := b) (s := s) (k := k) (i := i) (by unfold stX at hi; simpa using hi)
  rw [getD_at hi] at this
  omega
theorem stY_peb {a b : St} {k s : Nat} (hb : 1 ≤ b.n.toNat) : Peb b.n.toNat k (stY a b k s) := by
  refine ⟨by unfold stY; simp, fun x hx => ?_⟩
  obtain ⟨i, hi, rfl⟩ := List.mem_iff_getElem.1 hx
  have := dig_y (a := a) (s := s) hb (k := k) (i := i) (by unfold stY at hi; simpa using hi)
  rw [getD_at hi] at this
  omega
@[simp] theorem stX_len (a b : St) (k s : Nat) : (stX a b k s).length = k := by unfold stX; simp
@[simp] theorem stY_len (a b : St) (k s : Nat) : (stY a b k s).length = k := by unfold stY; simp
theorem st_signs {a b : St} {k s : Nat} (hb : 1 ≤ b.n.toNat) : ∀ i : Nat, i < k → ((stX a b k s).getD i 0 < 0 ↔ (stY a b k s).getD i 0 < 0) := fun _ hi =>
  (dig_x hi).2.2.trans (dig_y hb hi).2.2.symm
open Classical in
noncomputable def winAt (n : Nat) (a b : St) (k s : Nat) : Bool := decide (pW n a (stX a b k s) b (stY a b k s))
open Classical in
theorem winAt_true {n : Nat} {a b : St} {k s : Nat} : winAt n a b k s = true ↔ pW n a (stX a b k s) b (stY a b k s) := by
  unfold winAt; exact decide_eq_true_iff
noncomputable def WL (n : Nat) (a b : St) (k : Nat) : List Bool := (List.range (prN a b ^ k)).map (winAt n a b k)
@[simp] theorem WL_len (n : Nat) (a b : St) (k : Nat) : (WL n a b k).length = prN a b ^ k := by simp [WL]
theorem WL_at {n : Nat} {a b : St} {k s : Nat} (h : s < prN a b ^ k) : (WL n a b k).getD s false = winAt n a b k s := by
  rw [getD_at (by rw [WL_len]; exact h)]; simp [WL]
theorem win_zero {a b : St} {k s : Nat} (hb : 1 ≤ b.n.toNat) : winAt 0 a b k s = sameB a (placed (stX a b k s) k) b (placed (stY a b k s) k) := by
  rw [Bool.eq_iff_iff, winAt_true]
  unfold pW
  rw [stX_len, stY_len]
  exact ⟨fun h => h.2, fun h => ⟨st_signs hb, h⟩⟩
/-- whether each choice with a pebble has an answer, from a winning list -/
def Ans (W : Nat → Bool) (na nb rest step : Nat) : Prop := (∀ x : Nat, x < na → ∃ y : Nat, y < nb ∧ W (rest + step * (1 + x * nb + y)) = true) ∧ ∀ y : Nat, y < nb → ∃ x : Nat, x < na ∧ W (rest + step * (1 + x * nb + y)) = true
theorem ans_iff {n : Nat} {a b : St} {k s i : Nat} (hi : i < k) : Ans (winAt n a b k) a.n.toNat b.n.toNat (zer (prN a b) s i) (prN a b ^ i) ↔
    (∀ x : Nat, x < a.n.toNat → ∃ y : Nat, y < b.n.toNat ∧ pW n a ((stX a b k s).set i (x : Int)) b ((stY a b k s).set i (y : Int))) ∧ (∀ y : Nat, y < b.n.toNat → ∃ x : Nat, x < a.n.toNat ∧ pW n a ((stX a b k s).set i (x : Int)) b ((stY a b k s).set i (y : Int))) := by
  have hp := prN_pos a b
  have key : ∀ x y : Nat, x < a.n.toNat → y < b.n.toNat → (winAt n a b k (zer (prN a b) s i + prN a b ^ i * (1 + x * b.n.toNat + y)) = true ↔ pW n a ((stX a b k s).set i (x : Int)) b ((stY a b k s).set i (y : Int))) := fun x y hx hy => by
    have h0 := (dig_zer (s := s) (i := i) hp).1
    rw [winAt_true]
    unfold stX stY
    rw [pX_put hp hi h0 (pair_lt hx hy) hy, pY_put hp hi h0 (pair_lt hx hy) hy, pX_zer hp, pY_zer hp]
  unfold Ans
  refine and_congr ?_ ?_
  · exact forall_congr' fun x => imp_congr_right fun hx => exists_congr fun y => and_congr_right fun hy => key x y hx hy
  · exact forall_congr' fun y => imp_congr_right fun hy => exists_congr fun x => and_congr_right fun hx => key x y hx hy
/-- a turn more, without what was won before -/
theorem pW_moves : ∀ {n : Nat} {a : St} {xs : List Int} {b : St} {ys : List Int}, pW 0 a xs b ys → (∀ i : Nat, i < xs.length → (∀ x : Nat, x < a.n.toNat → ∃ y : Nat, y < b.n.toNat ∧ pW n a (xs.set i (x : Int)) b (ys.set i (y : Int))) ∧ (∀ y : Nat, y < b.n.toNat → ∃ x : Nat, x < a.n.toNat ∧ pW n a (xs.set i (x : Int)) b (ys.set i (y : Int)))) → pW n a xs b ys
  | 0, _, _, _, _, h, _ => h
  | n + 1, a, xs, b, ys, h, hm => by
    have hm' : ∀ i : Nat, i < xs.length → (∀ x : Nat, x < a.n.toNat → ∃ y : Nat, y < b.n.toNat ∧ pW n a (xs.set i (x : Int)) b (ys.set i (y : Int))) ∧ (∀ y : Nat, y < b.n.toNat → ∃ x : Nat, x < a.n.toNat ∧ pW n a (xs.set i (x : Int)) b (ys.set i (y : Int))) := fun i hi =>
      ⟨fun x hx => ((hm i hi).1 x hx).elim fun y hy => ⟨y, hy.1, hy.2.1⟩, fun y hy => ((hm i hi).2 y hy).elim fun x hx => ⟨x, hx.1, hx.2.1⟩⟩
    exact ⟨pW_moves h hm', hm'⟩
theorem win_step {n : Nat} {a b : St} {k s : Nat} : winAt (n + 1) a b k s = true ↔ winAt 0 a b k s = true ∧ ∀ i : Nat, i < k → Ans (winAt n a b k) a.n.toNat b.n.toNat (zer (prN a b) s i) (prN a b ^ i) := by
  rw [winAt_true, winAt_true]
  constructor
  · intro h
    refine ⟨?_, fun i hi => (ans_iff hi).2 (h.2 i (by rw [stX_len]; exact hi))⟩
    have := pW_less (n := 0) (n + 1) (by rw [Nat.zero_add]; exact h)
    exact this
  · rintro ⟨h1, h2⟩
    have hm : ∀ i : Nat, i < (stX a b k s).length → _ := fun i hi => (ans_iff (n := n) (s := s) (by rw [stX_len] at hi; exact hi)).1 (h2 i (by rw [stX_len] at hi; exact hi))
    exact ⟨pW_moves h1 hm, hm⟩
/-! ### the state of pebbles that are ready -/
theorem code_lt {a b : St} {k : Nat} {xs ys : List Int} (hx : Peb a.n.toNat k xs) (hy : Peb b.n.toNat k ys) (hs : ∀ i : Nat, i < k → (xs.getD i 0 < 0 ↔ ys.getD i 0 < 0)) : ∀ i : Nat, i < k → code b.n.toNat (xs.getD i 0) (ys.getD i 0) < prN a b := fun i hi => by
  obtain ⟨x1, x2⟩ := peb_at hx hi
  obtain ⟨y1, y2⟩ := peb_at hy hi
  have := hs i hi
  unfold code
  split
  · exact pair_lt (by omega) (by omega)
  · exact prN_pos a b
theorem code_x {nb : Nat} {x y : Int} (h1 : -1 ≤ x) (hs : x < 0 ↔ y < 0) (hy : y < (nb : Int)) : xOf nb (code nb x y) = x := by
  unfold code
  split
  · unfold xOf
    rw [if_neg (by omega), show 1 + x.toNat * nb + y.toNat - 1 = y.toNat + x.toNat * nb from by omega, Nat.add_mul_div_right _ _ (by omega), Nat.div_eq_of_lt (by omega)]
    omega
  · unfold xOf; rw [if_pos rfl]; omega
theorem code_y {nb : Nat} {x y : Int} (h1 : -1 ≤ y) (hs : x < 0 ↔ y < 0) (hy : y < (nb : Int)) : yOf nb (code nb x y) = y := by
  unfold code
  split
  · unfold yOf
    rw [if_neg (by omega), show 1 + x.toNat * nb + y.toNat - 1 = y.toNat + x.toNat * nb from by omega, Nat.add_mul_mod_self_right, Nat.mod_eq_of_lt (by omega)]
    omega
  · unfold yOf; rw [if_pos rfl]; omega
def stN (a b : St) (xs ys : List Int) : Nat := stU b.n.toNat (prN a b) xs ys xs.length xs.length
theorem list_ext0 {l m : List Int} (hl : l.length = m.length) (h : ∀ i : Nat, i < l.length → l.getD i 0 = m.getD i 0) : l = m := by
  refine List.ext_getElem hl fun i h1 h2 => ?_
  have := h i h1
  rwa [getD_at h1, getD_at h2] at this
theorem stN_ok {a b : St} {xs ys : List Int} (hx : Peb a.n.toNat xs.length xs) (hy : Peb b.n.toNat xs.length ys) (hs : ∀ i : Nat, i < xs.length → (xs.getD i 0 < 0 ↔ ys.getD i 0 < 0)) : stN a b xs ys < prN a b ^ xs.length ∧ stX a b xs.length (stN a b xs ys) = xs ∧ stY a b xs.length (stN a b xs ys) = ys := by
  have hc := code_lt hx hy hs
  refine ⟨stU_lt hc _ (Nat.le_refl _), list_ext0 (by simp) fun i hi => ?_, list_ext0 (by simp [hy.1]) fun i hi => ?_⟩
  · rw [stX_len] at hi
    unfold stX stN
    rw [pX_at hi, stU_dig hc _ (Nat.le_refl _) i hi, Nat.sub_self, Nat.zero_add]
    obtain ⟨x1, x2⟩ := peb_at hx hi
    obtain ⟨y1, y2⟩ := peb_at hy hi
    exact code_x x1 (hs i hi) y2
  · rw [stY_len] at hi
    unfold stY stN
    rw [pY_at hi, stU_dig hc _ (Nat.le_refl _) i hi, Nat.sub_self, Nat.zero_add]
    obtain ⟨x1, x2⟩ := peb_at hx hi
    obtain ⟨y1, y2⟩ := peb_at hy hi
    exact code_y y1 (hs i hi) y2
end Go.Wk
