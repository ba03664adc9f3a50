/-
  PEBBLE GAMES: who wins so many turns; that the reference's numbers tell it. No program in sight.
-/
import Derived.Test.YtjcoijejhachhaaDoorPlain31
import Derived.Test.YtjcoijejhachhaaDoorPlain34
namespace Go.Wk
open Go.RowKit
/-- the second player wins so many turns -/
def pW : Nat → St → List Int → St → List Int → Prop
  | 0, a, xs, b, ys => (∀ i : Nat, i < xs.length → (xs.getD i 0 < 0 ↔ ys.getD i 0 < 0)) ∧ sameB a (placed xs xs.length) b (placed ys ys.length) = true
  | n + 1, a, xs, b, ys => pW n a xs b ys ∧ ∀ i : Nat, i < xs.length → (∀ x : Nat, x < a.n.toNat → ∃ y : Nat, y < b.n.toNat ∧ pW n a (xs.set i (x : Int)) b (ys.set i (y : Int))) ∧
      (∀ y : Nat, y < b.n.toNat → ∃ x : Nat, x < a.n.toNat ∧ pW n a (xs.set i (x : Int)) b (ys.set i (y : Int)))
/-! ### pebbles by numbers -/
def idxP (size : Nat) (xs : List Int) : Nat := xs.foldl (fun n x => n * (size + 1) + (x + 1).toNat) 0
def atP (size : Nat) : Nat → Nat → List Int
  | 0, _ => []
  | k + 1, n => atP size k (n / (size + 1)) ++ [((n % (size + 1) : Nat) : Int) - 1]
/-- pebbles on a structure of a size: elements, or -1 -/
def Peb (size k : Nat) (xs : List Int) : Prop := xs.length = k ∧ ∀ x ∈ xs, -1 ≤ x ∧ x < (size : Int)
@[simp] theorem atP_len (size : Nat) : ∀ k n, (atP size k n).length = k
  | 0, _ => rfl
  | k + 1, n => by simp [atP, atP_len size k]
theorem atP_peb (size : Nat) : ∀ k n, Peb size k (atP size k n)
  | 0, n => ⟨rfl, fun x hx => by cases hx⟩
  | k + 1, n => by
    refine ⟨atP_len _ _ _, fun x hx => ?_⟩
    unfold atP at hx
    rcases List.mem_append.1 hx with h | h
    · exact (atP_peb size k _).2 x h
    · rw [List.mem_singleton.1 h]
      have := Nat.mod_lt n (show 0 < size + 1 by omega)
      omega
theorem idxP_snoc (size : Nat) (xs : List Int) (x : Int) : idxP size (xs ++ [x]) = idxP size xs * (size + 1) + (x + 1).toNat := by simp [idxP]
theorem idx_at (size : Nat) : ∀ k n, n < (size + 1) ^ k → idxP size (atP size k n) = n
  | 0, n, h => by simp at h; subst h; rfl
  | k + 1, n, h => by
    unfold atP
    have h1 : n / (size + 1) < (size + 1) ^ k := Nat.div_lt_of_lt_mul (by rw [Nat.mul_comm, ← Nat.pow_succ]; exact h)
    rw [idxP_snoc, idx_at size k _ h1, show (((n % (size + 1) : Nat) : Int) - 1 + 1).toNat = n % (size + 1) from by omega]
    exact Nat.div_add_mod' n (size + 1)
theorem peb_snoc {size k : Nat} {xs : List Int} (h : Peb size (k + 1) xs) : ∃ ys x, xs = ys ++ [x] ∧ Peb size k ys ∧ -1 ≤ x ∧ x < (size : Int) := by
  rcases xs.eq_nil_or_concat with rfl | ⟨ys, x, rfl⟩
  · have := h.1; simp at this
  · rw [List.concat_eq_append] at h ⊢
    have hl := h.1
    rw [List.length_append, List.length_singleton] at hl
    exact ⟨ys, x, rfl, ⟨by omega, fun y hy => h.2 y (List.mem_append_left _ hy)⟩, h.2 x (by simp)⟩
theorem idxP_lt {size : Nat} : ∀ {k : Nat} {xs : List Int}, Peb size k xs → idxP size xs < (size + 1) ^ k
  | 0, xs, h => by
    have : xs = [] := List.length_eq_zero_iff.1 h.1
    subst this; exact Nat.one_pos
  | k + 1, xs, h => by
    obtain ⟨ys, x, rfl, h1, h2, h3⟩ := peb_snoc h
    have := idxP_lt h1
    rw [idxP_snoc, Nat.pow_succ]
    have h4 : (idxP size ys + 1) * (size + 1) ≤ (size + 1) ^ k * (size + 1) := Nat.mul_le_mul_right _ this
    rw [Nat.add_mul, Nat.one_mul] at h4
    omega
theorem at_idx {size : Nat} : ∀ {k : Nat} {xs : List Int}, Peb size k xs → atP size k (idxP size xs) = xs
  | 0, xs, h => by
    have : xs = [] := List.length_eq_zero_iff.1 h.1
    subst this; rfl
  | k + 1, xs, h => by
    obtain ⟨ys, x, rfl, h1, h2, h3⟩ := peb_snoc h
    unfold atP
    have h4 : (x + 1).toNat < size + 1 := by omega
    have e1 : (idxP size ys * (size + 1) + (x + 1).toNat) / (size + 1) = idxP size ys := by
      rw [Nat.add_comm, Nat.add_mul_div_right _ _ (by omega), Nat.div_eq_of_lt h4, Nat.zero_add]
    have e2 : (idxP size ys * (size + 1) + (x + 1).toNat) % (size + 1) = (x + 1).toNat := by
      rw [Nat.add_comm, Nat.add_mul_mod_self_right, Nat.mod_eq_of_lt h4]
    rw [idxP_snoc, e1, e2, at_idx h1, show (((x + 1).toNat : Nat) : Int) - 1 = x from by omega]
theorem peb_set {size k i : Nat} {xs : List Int} (h : Peb size k xs) {x : Nat} (hx : x < size) : Peb size k (xs.set i (x : Int)) := by
  refine ⟨by rw [List.length_set]; exact h.1, fun y hy => ?_⟩
  rcases List.mem_or_eq_of_mem_set hy with h1 | h1
  · exact h.2 y h1
  · rw [h1]; omega
/-! ### numbers of pebbles -/
def numP (size : Nat) (R : List Int) (xs : List Int) : Int := R.getD (idxP size xs) 0
/-- two rows of numbers tell who wins n turns -/
structure GoodP (n k : Nat) (a b : St) (Ra Rb : List Int) : Prop where
  aa : ∀ xs ys, Peb a.n.toNat k xs → Peb a.n.toNat k ys → (numP a.n.toNat Ra xs = numP a.n.toNat Ra ys ↔ pW n a xs a ys)
  ab : ∀ xs ys, Peb a.n.toNat k xs → Peb b.n.toNat k ys → (numP a.n.toNat Ra xs = numP b.n.toNat Rb ys ↔ pW n a xs b ys)
  bb : ∀ xs ys, Peb b.n.toNat k xs → Peb b.n.toNat k ys → (numP b.n.toNat Rb xs = numP b.n.toNat Rb ys ↔ pW n b xs b ys)
theorem pW_comm : ∀ (n : Nat) (a : St) (xs : List Int) (b : St) (ys : List Int), xs.length = ys.length → pW n a xs b ys → pW n b ys a xs
  | 0, a, xs, b, ys, hl, h => by
    have e := placed_len (xs := xs) (ys := ys) xs.length fun i hi => h.1 i hi
    refine ⟨fun i hi => (h.1 i (by omega)).symm, ?_⟩
    have h2 := h.2
    rwa [sameB_comm (by rw [e, hl])] at h2
  | n + 1, a, xs, b, ys, hl, h => by
    refine ⟨pW_comm n _ _ _ _ hl h.1, fun i hi => ?_⟩
    obtain ⟨h1, h2⟩ := h.2 i (by omega)
    exact ⟨fun y hy => (h2 y hy).elim fun x hx => ⟨x, hx.1, pW_comm n _ _ _ _ (by simp [hl]) hx.2⟩, fun x hx => (h1 x hx).elim fun y hy => ⟨y, hy.1, pW_comm n _ _ _ _ (by simp [hl]) hy.2⟩⟩
/-- the numbers that a pebble's moves come to, sorted -/
def movesTo (size : Nat) (R : List Int) (xs : List Int) (i : Nat) : Nat → List Int
  | 0 => []
  | x + 1 => insS (movesTo size R xs i x) (numP size R (xs.set i (x : Int)))
theorem moves_sorted (size : Nat) (R : List Int) (xs : List Int) (i : Nat) : ∀ m, (movesTo size R xs i m).Pairwise (· < ·)
  | 0 => List.Pairwise.nil
  | m + 1 => sorted_insS (moves_sorted size R xs i m)
theorem moves_mem {size : Nat} {R : List Int} {xs : List Int} {i : Nat} {z : Int} : ∀ {m : Nat}, z ∈ movesTo size R xs i m ↔ ∃ x : Nat, x < m ∧ z = numP size R (xs.set i (x : Int))
  | 0 => by simp [movesTo]
  | m + 1 => by
    rw [movesTo, mem_insS, moves_mem]
    constructor
    · rintro (h | ⟨x, h1, h2⟩)
      · exact ⟨m, by omega, h⟩
      · exact ⟨x, by omega, h2⟩
    · rintro ⟨x, h1, h2⟩
      rcases Nat.lt_or_ge x m with h3 | h3
      · exact .inr ⟨x, h3, h2⟩
      · rw [show x = m from by omega] at h2; exact .inl h2
theorem moves_le (size : Nat) (R : List Int) (xs : List Int) (i : Nat) : ∀ m, (movesTo size R xs i m).length ≤ m
  | 0 => Nat.le_refl _
  | m + 1 => by
    have := moves_le size R xs i m
    exact Nat.le_trans insS_length (by omega)
theorem moves_eq {s t : Nat} {R Q : List Int} {xs ys : List Int} {i : Nat} : movesTo s R xs i s = movesTo t Q ys i t ↔
    (∀ x : Nat, x < s → ∃ y : Nat, y < t ∧ numP s R (xs.set i (x : Int)) = numP t Q (ys.set i (y : Int))) ∧ (∀ y : Nat, y < t → ∃ x : Nat, x < s ∧ numP s R (xs.set i (x : Int)) = numP t Q (ys.set i (y : Int))) := by
  constructor
  · intro h
    refine ⟨fun x hx => ?_, fun y hy => ?_⟩
    · have h1 : numP s R (xs.set i (x : Int)) ∈ movesTo t Q ys i t := by rw [← h]; exact moves_mem.2 ⟨x, hx, rfl⟩
      exact moves_mem.1 h1
    · have h1 : numP t Q (ys.set i (y : Int)) ∈ movesTo s R xs i s := by rw [h]; exact moves_mem.2 ⟨y, hy, rfl⟩
      obtain ⟨x, h2, h3⟩ := moves_mem.1 h1
      exact ⟨x, h2, h3.symm⟩
  · rintro ⟨h1, h2⟩
    refine sorted_ext (moves_sorted _ _ _ _ _) (moves_sorted _ _ _ _ _) fun z => ?_
    rw [moves_mem, moves_mem]
    constructor
    · rintro ⟨x, hx, rfl⟩
      obtain ⟨y, hy, e⟩ := h1 x hx
      exact ⟨y, hy, e⟩
    · rintro ⟨y, hy, rfl⟩
      obtain ⟨x, hx, e⟩ := h2 y hy
      exact ⟨x, hx, e.symm⟩
/-- a state's description: its number before, its moves -/
def descM (size : Nat) (R : List Int) (xs : List Int) : Nat → List UInt8
  | 0 => []
  | i + 1 => (descM size R xs i ++ commas (movesTo size R xs i size)) ++ [59]
def descP (size : Nat) (R : List Int) (xs : List Int) (k : Nat) : List UInt8 := ([114] ++ decS (numP size R xs).toNat) ++ descM size R xs k
def NonNeg (R : List Int) : Prop := ∀ i : Nat, 0 ≤ R.getD i 0
theorem moves_nn {s : Nat} {R : List Int} (h : NonNeg R) {xs : List Int} {i m : Nat} : ∀ z ∈ movesTo s R xs i m, 0 ≤ z := fun z hz => by
  obtain ⟨x, _, rfl⟩ := moves_mem.1 hz
  exact h _
theorem commas_dig (L : List Int) : ∀ c ∈ commas L, c ≠ 59 := fun c hc => by
  obtain ⟨m, _, h⟩ := List.mem_flatMap.1 hc
  rcases List.mem_append.1 h with h1 | h1
  · rw [List.mem_singleton.1 h1]; decide
  · have key : ∀ n : Nat, ∀ c ∈ decS n, c ≠ 59 := fun n => by
      induction n using Nat.strongRecOn with
      | _ n ih =>
        have dig : ∀ k, k ≤ 9 → UInt8.ofNat (48 + k) ≠ 59 := fun k hk e => by
          have h2 := congrArg UInt8.toNat e
          rw [toNat_dig hk] at h2
          simp at h2; omega
        rw [decS]
        split
        · intro c hc; rw [List.mem_singleton.1 hc]; exact dig _ (by omega)
        · intro c hc
          rcases List.mem_append.1 hc with h | h
          · exact ih _ (by omega) c h
          · rw [List.mem_singleton.1 h]; exact dig _ (by omega)
    exact key _ c h1
/-- a description's tail from a pebble on -/
def descT (size : Nat) (R : List Int) (xs : List Int) (i : Nat) : Nat → List UInt8
  | 0 => []
  | m + 1 => (commas (movesTo size R xs i size) ++ [59]) ++ descT size R xs (i + 1) m
theorem descM_tail (size : Nat) (R : List Int) (xs : List Int) : ∀ i m, descM size R xs i ++ descT size R xs i m = descM size R xs (i + m)
  | i, 0 => by simp [descT]
  | i, m + 1 => by
    have := descM_tail size R xs (i + 1) m
    rw [show i + (m + 1) = i + 1 + m from by omega, ← this, descM, descT]
    simp
theorem descT_head (size : Nat) (R : List Int) (xs : List Int) (i m : Nat) : (descT size R xs i m = [] ∨ ∃ t, descT size R xs i m = 44 :: t) ∨ ∃ t, descT size R xs i m = 59 :: t := by
  cases m with
  | zero => exact .inl (.inl rfl)
  | succ m =>
    unfold descT
    rcases commas_head (movesTo size R xs i size) with h | ⟨t, h⟩
    · rw [h]; exact .inr ⟨_, rfl⟩
    · rw [h]; exact .inl (.inr ⟨_, rfl⟩)
theorem descT_inj {s t : Nat} {R Q : List Int} {xs ys : List Int} (hR : NonNeg R) (hQ : NonNeg Q) : ∀ {m i : Nat}, descT s R xs i m = descT t Q ys i m ↔ ∀ j : Nat, i ≤ j → j < i + m → movesTo s R xs j s = movesTo t Q ys j t
  | 0, i => by
    refine ⟨fun _ j h1 h2 => by omega, fun _ => rfl⟩
  | m + 1, i => by
    have ih := descT_inj (s := s) (t := t) (xs := xs) (ys := ys) hR hQ (m := m) (i := i + 1)
    unfold descT
    constructor
    · intro h
      rw [List.append_assoc, List.append_assoc] at h
      obtain ⟨h1, h2⟩ := cut (c := 59) (commas_dig _) (commas_dig _) (.inr ⟨_, rfl⟩) (.inr ⟨_, rfl⟩) h
      have h3 := commas_inj (moves_nn hR) (moves_nn hQ) h1
      have h4 := ih.1 (List.append_cancel_left (show [59] ++ descT s R xs (i + 1) m = [59] ++ descT t Q ys (i + 1) m from h2))
      intro j h5 h6
      rcases Nat.lt_or_ge i j with h7 | h7
      · exact h4 j (by omega) (by omega)
      · rw [show j = i from by omega]; exact h3
    · intro h
      rw [h i (Nat.le_refl _) (by omega), ih.2 fun j h1 h2 => h j (by omega) (by omega)]
theorem cut2 {u v r s : List UInt8} (hu : ∀ x ∈ u, x ≠ 44 ∧ x ≠ 59) (hv : ∀ x ∈ v, x ≠ 44 ∧ x ≠ 59) (hr : (r = [] ∨ ∃ t, r = 44 :: t) ∨ ∃ t, r = 59 :: t) (hs : (s = [] ∨ ∃ t, s = 44 :: t) ∨ ∃ t, s = 59 :: t) (h : u ++ r = v ++ s) : u = v ∧ r = s := by
  have key : ∀ (u r : List UInt8), (∀ x ∈ u, x ≠ 44 ∧ x ≠ 59) → ((r = [] ∨ ∃ t, r = 44 :: t) ∨ ∃ t, r = 59 :: t) → (u ++ r).takeWhile (fun x => decide (x ≠ 44) && decide (x ≠ 59)) = u := fun u r hu hr => by
    rw [List.takeWhile_append_of_pos (fun x hx => by simpa using hu x hx)]
    rcases hr with (rfl | ⟨t, rfl⟩) | ⟨t, rfl⟩ <;> simp
  have e1 : u = v := by rw [← key u r hu hr, h, key v s hv hs]
  subst e1
  exact ⟨rfl, List.append_cancel_left h⟩
theorem decS_dig2 (n : Nat) : ∀ c ∈ decS n, c ≠ 44 ∧ c ≠ 59 := fun c hc => by
  refine ⟨(decS_dig n c hc).1, ?_⟩
  have := commas_dig [(n : Int)] c (by unfold commas; simp [hc])
  exact this
theorem descP_inj {s t k : Nat} {R Q : List Int} {xs ys : List Int} (hR : NonNeg R) (hQ : NonNeg Q) : descP s R xs k = descP t Q ys k ↔ numP s R xs = numP t Q ys ∧ ∀ i : Nat, i < k → movesTo s R xs i s = movesTo t Q ys i t := by
  have e : ∀ (s : Nat) (R xs : List Int), descM s R xs k = descT s R xs 0 k := fun s R xs => by
    have := descM_tail s R xs 0 k
    rw [Nat.zero_add] at this
    rw [← this]; rfl
  unfold descP
  rw [e, e]
  constructor
  · intro h
    rw [List.append_assoc, List.append_assoc] at h
    obtain ⟨h1, h2⟩ := cut2 (decS_dig2 _) (decS_dig2 _) (descT_head _ _ _ _ _) (descT_head _ _ _ _ _) (List.append_cancel_left h)
    have h3 := decS_inj h1
    have h4 : 0 ≤ numP s R xs := hR _
    have h5 : 0 ≤ numP t Q ys := hQ _
    exact ⟨by omega, fun i hi => (descT_inj hR hQ).1 h2 i (by omega) (by omega)⟩
  · rintro ⟨h1, h2⟩
    rw [h1, (descT_inj hR hQ).2 fun j _ hj => h2 j (by omega)]
/-- the numbers of descriptions -/
def NumOf (T : List (List UInt8)) (text : Nat → List UInt8) (R : List Int) (N : Nat) : Prop := R.length = N ∧ ∀ i : Nat, i < N → ∃ m : Nat, R.getD i 0 = (m : Int) ∧ T[m]? = some (text i)
theorem NumOf.nn {T : List (List UInt8)} {text : Nat → List UInt8} {R : List Int} {N : Nat} (h : NumOf T text R N) : NonNeg R := fun i => by
  rcases Nat.lt_or_ge i N with h1 | h1
  · obtain ⟨m, e, _⟩ := h.2 i h1
    rw [e]; omega
  · rw [List.getD_eq_getElem?_getD, List.getElem?_eq_none (by rw [h.1]; exact h1)]; exact Int.le_refl 0
theorem NumOf.mono {T T' : List (List UInt8)} {text : Nat → List UInt8} {R : List Int} {N : Nat} (h : NumOf T text R N) (hp : T <+: T') : NumOf T' text R N :=
  ⟨h.1, fun i hi => (h.2 i hi).elim fun m hm => ⟨m, hm.1, prefix_get hp hm.2⟩⟩
theorem NumOf.eq {T : List (List UInt8)} (hT : T.Nodup) {text text' : Nat → List UInt8} {R Q : List Int} {N M : Nat} (h : NumOf T text R N) (h' : NumOf T text' Q M) {i j : Nat} (hi : i < N) (hj : j < M) : R.getD i 0 = Q.getD j 0 ↔ text i = text' j := by
  obtain ⟨m, e1, e2⟩ := h.2 i hi
  obtain ⟨p, e3, e4⟩ := h'.2 j hj
  rw [e1, e3]
  constructor
  · intro e
    rw [show m = p from by omega, e4] at e2
    exact (Option.some.inj e2).symm
  · intro e
    rw [← e] at e4
    have := nodup_get hT e2 e4
    omega
where nodup_get {T : List (List UInt8)} (hT : T.Nodup) {m p : Nat} {s : List UInt8} (h1 : T[m]? = some s) (h2 : T[p]? = some s) : m = p :=
  (List.getElem?_inj (List.getElem?_eq_some_iff.1 h1).1 hT).1 (h1.trans h2.symm)
def text0 (a : St) (k : Nat) (i : Nat) : List UInt8 := (fun xs : List Int => signT xs xs.length ++ atomBits a (placed xs xs.length)) (atP a.n.toNat k i)
def textS (a : St) (R : List Int) (k : Nat) (i : Nat) : List UInt8 := descP a.n.toNat R (atP a.n.toNat k i) k
theorem text0_eq {a b : St} {xs ys : List Int} (hl : xs.length = ys.length) : (signT xs xs.length ++ atomBits a (placed xs xs.length)) = (signT ys ys.length ++ atomBits b (placed ys ys.length)) ↔ pW 0 a xs b ys := by
  have sg : signT xs xs.length = signT ys ys.length ↔ ∀ i : Nat, i < xs.length → (xs.getD i 0 < 0 ↔ ys.getD i 0 < 0) := by
    rw [← hl]
    have key : ∀ k : Nat, signT xs k = signT ys k ↔ ∀ i : Nat, i < k → (xs.getD i 0 < 0 ↔ ys.getD i 0 < 0) := fun k => by
      induction k with
      | zero => simp [signT]
      | succ k ih =>
        unfold signT
        constructor
        · intro h
          obtain ⟨h1, h2⟩ := List.append_inj h (by simp)
          intro i hi
          rcases Nat.lt_or_ge i k with h3 | h3
          · exact ih.1 h1 i h3
          · rw [show i = k from by omega]
            by_cases e1 : xs.getD k 0 < 0
            · by_cases e2 : ys.getD k 0 < 0
              · exact ⟨fun _ => e2, fun _ => e1⟩
              · rw [if_pos e1, if_neg e2] at h2; exact absurd h2 (by decide)
            · by_cases e2 : ys.getD k 0 < 0
              · rw [if_neg e1, if_pos e2] at h2; exact absurd h2 (by decide)
              · exact ⟨fun h => absurd h e1, fun h => absurd h e2⟩
        · intro h
          rw [ih.2 fun i hi => h i (by omega)]
          have := h k (by omega)
          by_cases e1 : xs.getD k 0 < 0
          · rw [if_pos e1, if_pos (this.1 e1)]
          · rw [if_neg e1, if_neg (fun e => e1 (this.2 e))]
    exact key _
  constructor
  · intro h
    obtain ⟨h1, h2⟩ := List.append_inj h (by simp [hl])
    have h3 := sg.1 h1
    refine ⟨h3, ?_⟩
    have hp := placed_len (xs := xs) (ys := ys) xs.length fun i hi => h3 i hi
    rw [← atomBits_same (by rw [hp, hl]), h2]; exact beq_self_eq_true _
  · rintro ⟨h1, h2⟩
    have hp := placed_len (xs := xs) (ys := ys) xs.length fun i hi => h1 i hi
    rw [← atomBits_same (by rw [hp, hl]), beq_iff_eq] at h2
    rw [sg.2 h1, h2]
theorem good_zero {a b : St} {k : Nat} {T : List (List UInt8)} (hT : T.Nodup) {Ra Rb : List Int} (ha : NumOf T (text0 a k) Ra ((a.n.toNat + 1) ^ k)) (hb : NumOf T (text0 b k) Rb ((b.n.toNat + 1) ^ k)) : GoodP 0 k a b Ra Rb := by
  have key : ∀ {c d : St} {R Q : List Int}, NumOf T (text0 c k) R ((c.n.toNat + 1) ^ k) → NumOf T (text0 d k) Q ((d.n.toNat + 1) ^ k) → ∀ xs ys, Peb c.n.toNat k xs → Peb d.n.toNat k ys → (numP c.n.toNat R xs = numP d.n.toNat Q ys ↔ pW 0 c xs d ys) := fun {c d R Q} hc hd xs ys hx hy => by
    unfold numP
    rw [NumOf.eq hT hc hd (idxP_lt hx) (idxP_lt hy)]
    unfold text0
    rw [at_idx hx, at_idx hy]
    exact text0_eq (hx.1.trans hy.1.symm)
  exact ⟨key ha ha, key ha hb, key hb hb⟩
theorem good_step {n k : Nat} {a b : St} {T : List (List UInt8)} (hT : T.Nodup) {Ra Rb Ra' Rb' : List Int} (hR : NonNeg Ra) (hQ : NonNeg Rb) (h : GoodP n k a b Ra Rb) (ha : NumOf T (textS a Ra k) Ra' ((a.n.toNat + 1) ^ k)) (hb : NumOf T (textS b Rb k) Rb' ((b.n.toNat + 1) ^ k)) : GoodP (n + 1) k a b Ra' Rb' := by
  have key : ∀ {c d : St} {R Q R' Q' : List Int}, NonNeg R → NonNeg Q → (∀ xs ys, Peb c.n.toNat k xs → Peb d.n.toNat k ys → (numP c.n.toNat R xs = numP d.n.toNat Q ys ↔ pW n c xs d ys)) →
      NumOf T (textS c R k) R' ((c.n.toNat + 1) ^ k) → NumOf T (textS d Q k) Q' ((d.n.toNat + 1) ^ k) → ∀ xs ys, Peb c.n.toNat k xs → Peb d.n.toNat k ys → (numP c.n.toNat R' xs = numP d.n.toNat Q' ys ↔ pW (n + 1) c xs d ys) := fun {c d R Q R' Q'} nR nQ hg hc hd xs ys hx hy => by
    show R'.getD _ 0 = Q'.getD _ 0 ↔ _
    rw [NumOf.eq hT hc hd (idxP_lt hx) (idxP_lt hy)]
    unfold textS
    rw [at_idx hx, at_idx hy, descP_inj nR nQ, hg xs ys hx hy]
    show _ ↔ pW n c xs d ys ∧ _
    refine and_congr_right fun _ => ?_
    rw [hx.1]
    refine forall_congr' fun i => imp_congr_right fun hi => ?_
    rw [moves_eq]
    refine and_congr ?_ ?_
    · exact forall_congr' fun x => imp_congr_right fun hx' => exists_congr fun y => and_congr_right fun hy' => hg _ _ (peb_set hx hx') (peb_set hy hy')
    · exact forall_congr' fun y => imp_congr_right fun hy' => exists_congr fun x => and_congr_right fun hx' => hg _ _ (peb_set hx hx') (peb_set hy hy')
  exact ⟨key hR hR h.aa ha ha, key hR hQ h.ab ha hb, key hQ hQ h.bb hb hb⟩
end Go.Wk
