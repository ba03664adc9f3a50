/-
  THE GAME OF TWO PLAYERS: who wins, as the program plays it; that numbers of descriptions are equal exactly if the second player wins. No program in sight.
-/
import Derived.Test.YtmannilblelfjaaDoorPlain11
namespace Go.Wk
open Go.RowKit

def rep (g : St → List Int → St → List Int → Bool) (a : St) (xs : List Int) (b : St) (ys : List Int) (x : Int) : Option Nat :=
  if sameB a xs b ys then (List.range b.n.toNat).find? (fun y => stillB a xs b ys x y && g a (xs ++ [x]) b (ys ++ [(y : Int)])) else none
def goB : Nat → St → List Int → St → List Int → Bool
  | 0, _, _, _, _ => true
  | n + 1, a, xs, b, ys => (List.range a.n.toNat).all (fun x => (rep (goB n) a xs b ys x).isSome) && (List.range b.n.toNat).all (fun y => (rep (goB n) b ys a xs y).isSome)
def winB (n : Nat) (a : St) (xs : List Int) (b : St) (ys : List Int) : Bool := sameB a xs b ys && goB n a xs b ys
def winP : Nat → St → List Int → St → List Int → Prop
  | 0, a, xs, b, ys => sameB a xs b ys = true
  | n + 1, a, xs, b, ys => sameB a xs b ys = true ∧ (∀ x : Nat, x < a.n.toNat → ∃ y : Nat, y < b.n.toNat ∧ winP n a (xs ++ [(x : Int)]) b (ys ++ [(y : Int)])) ∧
      (∀ y : Nat, y < b.n.toNat → ∃ x : Nat, x < a.n.toNat ∧ winP n a (xs ++ [(x : Int)]) b (ys ++ [(y : Int)]))
section
variable {a b : St} {xs ys : List Int}
theorem sameB_comm (hl : xs.length = ys.length) : sameB a xs b ys = sameB b ys a xs := by
  rw [← atomBits_same hl, ← atomBits_same hl.symm, Bool.eq_iff_iff, beq_iff_eq, beq_iff_eq]; exact eq_comm
theorem same_more {x y : Int} (hl : xs.length = ys.length) : sameB a (xs ++ [x]) b (ys ++ [y]) = (sameB a xs b ys && stillB a xs b ys x y) := by
  have key : ∀ i, i < xs.length → stillAt a (xs ++ [x]) b (ys ++ [y]) i = stillAt a xs b ys i := fun i hi => by
    have h := stillAt_take (a := a) (b := b) (xs := xs ++ [x]) (ys := ys ++ [y]) hi
    rw [List.take_left' rfl, List.take_left' hl.symm] at h
    exact h.symm
  unfold sameB
  rw [List.length_append, List.length_singleton, List.range_succ, List.all_append]
  congr 1
  · rw [Bool.eq_iff_iff, List.all_eq_true, List.all_eq_true]
    exact ⟨fun h i hi => by rw [← key i (List.mem_range.1 hi)]; exact h i hi, fun h i hi => by rw [key i (List.mem_range.1 hi)]; exact h i hi⟩
  · simp [still_more hl]
theorem winP_same : ∀ n, winP n a xs b ys → sameB a xs b ys = true
  | 0, h => h
  | _ + 1, h => h.1
end
theorem winP_comm : ∀ (n : Nat) (a : St) (xs : List Int) (b : St) (ys : List Int), xs.length = ys.length → winP n a xs b ys → winP n b ys a xs
  | 0, a, xs, b, ys, hl, h => by
    have h' : sameB a xs b ys = true := h
    rw [sameB_comm hl] at h'; exact h'
  | n + 1, a, xs, b, ys, hl, h => by
    obtain ⟨h1, h2, h3⟩ := h
    refine ⟨by rw [← sameB_comm hl]; exact h1, fun y hy => ?_, fun x hx => ?_⟩
    · obtain ⟨x, hx, hw⟩ := h3 y hy; exact ⟨x, hx, winP_comm n _ _ _ _ (by simp [hl]) hw⟩
    · obtain ⟨y, hy, hw⟩ := h2 x hx; exact ⟨y, hy, winP_comm n _ _ _ _ (by simp [hl]) hw⟩
theorem rep_some {g : St → List Int → St → List Int → Bool} {a b : St} {xs ys : List Int} {x : Int} (hl : xs.length = ys.length) :
    (rep g a xs b ys x).isSome = true ↔ ∃ y : Nat, y < b.n.toNat ∧ (sameB a (xs ++ [x]) b (ys ++ [(y : Int)]) && g a (xs ++ [x]) b (ys ++ [(y : Int)])) = true := by
  unfold rep
  cases hs : sameB a xs b ys with
  | false => simp [same_more hl, hs]
  | true => simp [same_more hl, hs]
theorem win_iff : ∀ (n : Nat) (a : St) (xs : List Int) (b : St) (ys : List Int), xs.length = ys.length → (winB n a xs b ys = true ↔ winP n a xs b ys)
  | 0, _, _, _, _, _ => by simp [winB, goB, winP]
  | n + 1, a, xs, b, ys, hl => by
    have ih := win_iff n
    unfold winB at ih ⊢
    rw [Bool.and_eq_true, goB, Bool.and_eq_true, List.all_eq_true, List.all_eq_true]
    show _ ∧ _ ∧ _ ↔ _ ∧ _ ∧ _
    refine and_congr_right fun _ => and_congr ?_ ?_
    · refine ⟨fun h x hx => ?_, fun h x hx => ?_⟩
      · obtain ⟨y, hy, hw⟩ := (rep_some hl).1 (h x (List.mem_range.2 hx))
        exact ⟨y, hy, (ih _ _ _ _ (by simp [hl])).1 hw⟩
      · obtain ⟨y, hy, hw⟩ := h x (List.mem_range.1 hx)
        exact (rep_some hl).2 ⟨y, hy, (ih _ _ _ _ (by simp [hl])).2 hw⟩
    · refine ⟨fun h y hy => ?_, fun h y hy => ?_⟩
      · obtain ⟨x, hx, hw⟩ := (rep_some hl.symm).1 (h y (List.mem_range.2 hy))
        exact ⟨x, hx, winP_comm _ _ _ _ _ (by simp [hl]) ((ih _ _ _ _ (by simp [hl])).1 hw)⟩
      · obtain ⟨x, hx, hw⟩ := h y (List.mem_range.1 hy)
        exact (rep_some hl.symm).2 ⟨x, hx, (ih _ _ _ _ (by simp [hl])).2 (winP_comm _ _ _ _ _ (by simp [hl]) hw)⟩
/-- fewer rounds are won, too -/
theorem winP_less : ∀ (n : Nat) (a : St) (xs : List Int) (b : St) (ys : List Int), winP (n + 1) a xs b ys → winP n a xs b ys
  | 0, _, _, _, _, h => h.1
  | n + 1, _, _, _, _, h => ⟨h.1, fun x hx => (h.2.1 x hx).elim fun y hy => ⟨y, hy.1, winP_less n _ _ _ _ hy.2⟩, fun y hy => (h.2.2 y hy).elim fun x hx => ⟨x, hx.1, winP_less n _ _ _ _ hx.2⟩⟩
/-! ### decimal digits -/
def decS (n : Nat) : List UInt8 := if n ≤ 9 then [UInt8.ofNat (48 + n)] else decS (n / 10) ++ [UInt8.ofNat (48 + n % 10)]
termination_by n
decreasing_by omega
def valS (l : List UInt8) : Nat := l.foldl (fun v c => v * 10 + (c.toNat - 48)) 0
theorem toNat_dig {k : Nat} (h : k ≤ 9) : (UInt8.ofNat (48 + k)).toNat = 48 + k := by
  rw [UInt8.toNat_ofNat']; omega
theorem valS_dec (n : Nat) : valS (decS n) = n := by
  induction n using Nat.strongRecOn with
  | _ n ih =>
    rw [decS]
    split
    · simp only [valS, List.foldl_cons, List.foldl_nil]; rw [toNat_dig (by omega)]; omega
    · rename_i h
      have := ih (n / 10) (by omega)
      simp only [valS] at this ⊢
      rw [List.foldl_append, this, List.foldl_cons, List.foldl_nil, toNat_dig (by omega)]; omega
theorem decS_inj {n m : Nat} (h : decS n = decS m) : n = m := by rw [← valS_dec n, h, valS_dec]
theorem decS_dig (n : Nat) : ∀ c ∈ decS n, c ≠ 44 ∧ c ≠ 58 := by
  induction n using Nat.strongRecOn with
  | _ n ih =>
    have key : ∀ k, k ≤ 9 → UInt8.ofNat (48 + k) ≠ 44 ∧ UInt8.ofNat (48 + k) ≠ 58 := fun k hk => by
      constructor <;> intro h <;> have h2 := congrArg UInt8.toNat h <;> rw [toNat_dig hk] at h2 <;> simp at h2 <;> omega
    rw [decS]
    split
    · intro c hc; rw [List.mem_singleton.1 hc]; exact key _ (by omega)
    · intro c hc
      rcases List.mem_append.1 hc with h | h
      · exact ih _ (by omega) c h
      · rw [List.mem_singleton.1 h]; exact key _ (by omega)
theorem decS_len (n : Nat) : ∀ k, n < 10 ^ k → 0 < k → (decS n).length ≤ k := by
  induction n using Nat.strongRecOn with
  | _ n ih =>
    intro k hk h0
    rw [decS]
    split
    · simp; omega
    · cases k with
      | zero => omega
      | succ k =>
        rw [List.length_append, List.length_singleton]
        rw [Nat.pow_succ] at hk
        have hk0 : 0 < k := by
          rcases Nat.eq_zero_or_pos k with h | h
          · subst h; simp at hk; omega
          · exact h
        have := ih (n / 10) (by omega) k (by omega) hk0
        omega
def commas (L : List Int) : List UInt8 := L.flatMap fun m => [44] ++ decS m.toNat
theorem cut {c : UInt8} {u v r s : List UInt8} (hu : ∀ x ∈ u, x ≠ c) (hv : ∀ x ∈ v, x ≠ c) (hr : r = [] ∨ ∃ t, r = c :: t) (hs : s = [] ∨ ∃ t, s = c :: t) (h : u ++ r = v ++ s) : u = v ∧ r = s := by
  have key : ∀ (u r : List UInt8), (∀ x ∈ u, x ≠ c) → (r = [] ∨ ∃ t, r = c :: t) → (u ++ r).takeWhile (fun x => decide (x ≠ c)) = u := fun u r hu hr => by
    rw [List.takeWhile_append_of_pos (fun x hx => by simpa using hu x hx)]
    rcases hr with rfl | ⟨t, rfl⟩ <;> simp
  have e1 : u = v := by rw [← key u r hu hr, h, key v s hv hs]
  subst e1
  exact ⟨rfl, List.append_cancel_left h⟩
theorem commas_head (L : List Int) : commas L = [] ∨ ∃ t, commas L = 44 :: t := by
  cases L with
  | nil => exact .inl rfl
  | cons m L => exact .inr ⟨_, rfl⟩
theorem commas_inj : ∀ {L M : List Int}, (∀ m ∈ L, 0 ≤ m) → (∀ m ∈ M, 0 ≤ m) → commas L = commas M → L = M
  | [], [], _, _, _ => rfl
  | [], m :: M, _, _, h => by simp [commas] at h
  | m :: L, [], _, _, h => by simp [commas] at h
  | m :: L, k :: M, hL, hM, h => by
    have h1 : decS m.toNat ++ commas L = decS k.toNat ++ commas M := by
      have : ([44] ++ decS m.toNat) ++ commas L = ([44] ++ decS k.toNat) ++ commas M := h
      simpa using this
    obtain ⟨h2, h3⟩ := cut (fun x hx => (decS_dig _ x hx).1) (fun x hx => (decS_dig _ x hx).1) (commas_head L) (commas_head M) h1
    have h4 := decS_inj h2
    have := hL m (by simp)
    have := hM k (by simp)
    rw [commas_inj (fun x hx => hL x (by simp [hx])) (fun x hx => hM x (by simp [hx])) h3, show m = k from by omega]
/-! ### what a number means -/
def descr (n : Nat) (bits : List UInt8) (L : List Int) : List UInt8 := (decS n ++ [58]) ++ (bits ++ commas L)
def Means (T : List (List UInt8)) : Nat → St → List Int → Nat → Prop
  | 0, a, xs, i => T[i]? = some (descr 0 (atomBits a xs) [])
  | n + 1, a, xs, i => ∃ L : List Int, L.Pairwise (· < ·) ∧ (∀ x : Nat, x < a.n.toNat → ∃ k : Nat, (k : Int) ∈ L ∧ Means T n a (xs ++ [(x : Int)]) k) ∧
      (∀ m ∈ L, ∃ k x : Nat, m = k ∧ x < a.n.toNat ∧ Means T n a (xs ++ [(x : Int)]) k) ∧ T[i]? = some (descr (n + 1) (atomBits a xs) L)
theorem prefix_get {T T' : List (List UInt8)} (h : T <+: T') {i : Nat} {s : List UInt8} (hi : T[i]? = some s) : T'[i]? = some s := by
  obtain ⟨U, rfl⟩ := h
  have : i < T.length := by
    rcases Nat.lt_or_ge i T.length with h | h
    · exact h
    · rw [List.getElem?_eq_none h] at hi; cases hi
  rw [List.getElem?_append_left this]; exact hi
theorem Means.mono {T T' : List (List UInt8)} (h : T <+: T') : ∀ (n : Nat) (a : St) (xs : List Int) (i : Nat), Means T n a xs i → Means T' n a xs i
  | 0, _, _, _, hm => prefix_get h hm
  | n + 1, a, xs, i, ⟨L, h1, h2, h3, h4⟩ => ⟨L, h1, fun x hx => (h2 x hx).elim fun k hk => ⟨k, hk.1, Means.mono h n _ _ _ hk.2⟩, fun m hm => by
      obtain ⟨k, x, e, hx, hk⟩ := h3 m hm; exact ⟨k, x, e, hx, Means.mono h n _ _ _ hk⟩, prefix_get h h4⟩
theorem sorted_ext : ∀ {l m : List Int}, l.Pairwise (· < ·) → m.Pairwise (· < ·) → (∀ x, x ∈ l ↔ x ∈ m) → l = m
  | [], [], _, _, _ => rfl
  | [], y :: m, _, _, h => absurd ((h y).2 (by simp)) (by simp)
  | x :: l, [], _, _, h => absurd ((h x).1 (by simp)) (by simp)
  | x :: l, y :: m, hl, hm, h => by
    obtain ⟨l1, l2⟩ := List.pairwise_cons.1 hl
    obtain ⟨m1, m2⟩ := List.pairwise_cons.1 hm
    have e : x = y := by
      rcases List.mem_cons.1 ((h x).1 (by simp)) with h1 | h1
      · exact h1
      · rcases List.mem_cons.1 ((h y).2 (by simp)) with h2 | h2
        · exact h2.symm
        · have := m1 x h1; have := l1 y h2; omega
    subst e
    rw [sorted_ext l2 m2 fun z => ?_]
    constructor
    · intro hz
      rcases List.mem_cons.1 ((h z).1 (by simp [hz])) with h1 | h1
      · subst h1; have := l1 z hz; omega
      · exact h1
    · intro hz
      rcases List.mem_cons.1 ((h z).2 (by simp [hz])) with h1 | h1
      · subst h1; have := m1 z hz; omega
      · exact h1
theorem descr_inj {n : Nat} {u v : List UInt8} {L M : List Int} (hl : u.length = v.length) (hL : ∀ m ∈ L, 0 ≤ m) (hM : ∀ m ∈ M, 0 ≤ m) (h : descr n u L = descr n v M) : u = v ∧ L = M := by
  unfold descr at h
  obtain ⟨h1, h2⟩ := List.append_inj (List.append_cancel_left h) hl
  exact ⟨h1, commas_inj hL hM h2⟩
/-- EQUAL NUMBERS: THE SECOND PLAYER WINS. -/
theorem means_win {T : List (List UInt8)} (hT : T.Nodup) : ∀ (n : Nat) (a : St) (xs : List Int) (b : St) (ys : List Int) (i j : Nat), xs.length = ys.length → Means T n a xs i → Means T n b ys j → (i = j ↔ winP n a xs b ys)
  | 0, a, xs, b, ys, i, j, hl, hi, hj => by
    have hi' : T[i]? = some (descr 0 (atomBits a xs) []) := hi
    have hj' : T[j]? = some (descr 0 (atomBits b ys) []) := hj
    show i = j ↔ sameB a xs b ys = true
    rw [← atomBits_same hl, beq_iff_eq]
    constructor
    · rintro rfl
      rw [hi'] at hj'
      exact (descr_inj (by unfold atomBits; rw [← hl]; exact bitsTo_length a xs b ys _) (by simp) (by simp) (Option.some.inj hj')).1
    · intro h
      rw [h] at hi'
      refine (List.getElem?_inj ?_ hT).1 (hi'.trans hj'.symm)
      rcases Nat.lt_or_ge i T.length with h | h
      · exact h
      · rw [List.getElem?_eq_none h] at hi'; cases hi'
  | n + 1, a, xs, b, ys, i, j, hl, ⟨L, sL, L1, L2, hi⟩, ⟨M, sM, M1, M2, hj⟩ => by
    have ih := means_win hT n
    have pos : ∀ {a : St} {xs : List Int} {L : List Int}, (∀ m ∈ L, ∃ k x : Nat, m = k ∧ x < a.n.toNat ∧ Means T n a (xs ++ [(x : Int)]) k) → ∀ m ∈ L, 0 ≤ m := fun h m hm => by
      obtain ⟨k, x, e, _⟩ := h m hm; omega
    show i = j ↔ sameB a xs b ys = true ∧ _ ∧ _
    rw [← atomBits_same hl, beq_iff_eq]
    constructor
    · rintro rfl
      rw [hi] at hj
      obtain ⟨e1, e2⟩ := descr_inj (by unfold atomBits; rw [← hl]; exact bitsTo_length a xs b ys _) (pos L2) (pos M2) (Option.some.inj hj)
      subst e2
      refine ⟨e1, fun x hx => ?_, fun y hy => ?_⟩
      · obtain ⟨k, hk, hm⟩ := L1 x hx
        obtain ⟨k', y, e, hy, hm'⟩ := M2 _ hk
        obtain rfl : k = k' := by omega
        exact ⟨y, hy, (ih _ _ _ _ _ _ (by simp [hl]) hm hm').1 rfl⟩
      · obtain ⟨k, hk, hm⟩ := M1 y hy
        obtain ⟨k', x, e, hx, hm'⟩ := L2 _ hk
        obtain rfl : k = k' := by omega
        exact ⟨x, hx, (ih _ _ _ _ _ _ (by simp [hl]) hm' hm).1 rfl⟩
    · rintro ⟨e1, h2, h3⟩
      have e2 : L = M := sorted_ext sL sM fun m => by
        constructor
        · intro hm
          obtain ⟨k, x, e, hx, hk⟩ := L2 m hm
          obtain ⟨y, hy, hw⟩ := h2 x hx
          obtain ⟨k', hk', hm'⟩ := M1 y hy
          rw [e, (ih _ _ _ _ _ _ (by simp [hl]) hk hm').2 hw]; exact hk'
        · intro hm
          obtain ⟨k, y, e, hy, hk⟩ := M2 m hm
          obtain ⟨x, hx, hw⟩ := h3 y hy
          obtain ⟨k', hk', hm'⟩ := L1 x hx
          rw [e, ← (ih _ _ _ _ _ _ (by simp [hl]) hm' hk).2 hw]; exact hk'
      rw [e1, e2] at hi
      refine (List.getElem?_inj ?_ hT).1 (hi.trans hj.symm)
      rcases Nat.lt_or_ge i T.length with h | h
      · exact h
      · rw [List.getElem?_eq_none h] at hi; cases hi
/-! ### a number put into a sorted list, once -/
def insS : List Int → Int → List Int
  | [], n => [n]
  | x :: l, n => if x = n then x :: l else if n < x then n :: x :: l else x :: insS l n
theorem mem_insS {m n : Int} : ∀ {l : List Int}, m ∈ insS l n ↔ m = n ∨ m ∈ l
  | [] => by simp [insS]
  | x :: l => by
    unfold insS
    split
    · rename_i h; subst h; simp
    · split
      · simp
      · rw [List.mem_cons, mem_insS, List.mem_cons]; constructor <;> rintro (h | h | h) <;> simp [h]
theorem sorted_insS {n : Int} : ∀ {l : List Int}, l.Pairwise (· < ·) → (insS l n).Pairwise (· < ·)
  | [], _ => by simp [insS]
  | x :: l, h => by
    obtain ⟨h1, h2⟩ := List.pairwise_cons.1 h
    unfold insS
    split
    · exact h
    · split
      · rename_i h3
        exact List.pairwise_cons.2 ⟨fun y hy => by rcases List.mem_cons.1 hy with rfl | hy; exact h3; have := h1 y hy; omega, h⟩
      · exact List.pairwise_cons.2 ⟨fun y hy => by rcases mem_insS.1 hy with rfl | hy; omega; exact h1 y hy, sorted_insS h2⟩
theorem insS_length {n : Int} : ∀ {l : List Int}, (insS l n).length ≤ l.length + 1
  | [] => by simp [insS]
  | x :: l => by
    have := insS_length (n := n) (l := l)
    unfold insS
    split
    · simp
    · split
      · simp
      · simp; omega
theorem insS_at {n : Int} : ∀ {l : List Int} {i : Nat}, i < l.length → (∀ j : Nat, j < i → ¬ l.getD j 0 = n ∧ ¬ n < l.getD j 0) → l.getD i 0 = n → insS l n = l
  | [], i, hi, _, _ => by simp at hi
  | x :: l, 0, hi, _, h => by simp at h; simp [insS, h]
  | x :: l, i + 1, hi, hall, h => by
    have h0 := hall 0 (by omega)
    simp at h0
    unfold insS
    rw [if_neg h0.1, if_neg (by omega), insS_at (i := i) (by simpa using hi) (fun j hj => by simpa using hall (j + 1) (by omega)) (by simpa using h)]
theorem insS_mid {n : Int} : ∀ {l : List Int} {i : Nat}, i < l.length → (∀ j : Nat, j < i → ¬ l.getD j 0 = n ∧ ¬ n < l.getD j 0) → n < l.getD i 0 → insS l n = (l.take i ++ [n]) ++ l.drop i
  | [], i, hi, _, _ => by simp at hi
  | x :: l, 0, hi, _, h => by simp at h; simp [insS, h]; omega
  | x :: l, i + 1, hi, hall, h => by
    have h0 := hall 0 (by omega)
    simp at h0
    unfold insS
    rw [if_neg h0.1, if_neg (by omega), insS_mid (i := i) (by simpa using hi) (fun j hj => by simpa using hall (j + 1) (by omega)) (by simpa using h)]
    simp
theorem insS_end {n : Int} : ∀ {l : List Int}, (∀ j : Nat, j < l.length → ¬ l.getD j 0 = n ∧ ¬ n < l.getD j 0) → insS l n = l ++ [n]
  | [], _ => rfl
  | x :: l, hall => by
    have h0 := hall 0 (by simp)
    simp at h0
    unfold insS
    rw [if_neg h0.1, if_neg (by omega), insS_end (l := l) (fun j hj => by simpa using hall (j + 1) (by simpa using hj))]
    simp
/-! ### entries of a table -/
def hashS (s : List UInt8) : Nat := s.foldl (fun k c => (k * 31 + c.toNat) % 997) 0
theorem hash_step {s : List UInt8} {i : Nat} (h : i < s.length) : hashS (s.take (i + 1)) = (hashS (s.take i) * 31 + (s.getD i 0).toNat) % 997 := by
  rw [List.take_add_one, List.getElem?_eq_getElem h]
  simp only [hashS, Option.toList, List.foldl_append, List.foldl_cons, List.foldl_nil]
  rw [getD_at h]
theorem hash_lt (s : List UInt8) : hashS s < 997 := by
  rcases s.eq_nil_or_concat with rfl | ⟨t, c, rfl⟩
  · simp [hashS]
  · simp only [hashS, List.concat_eq_append, List.foldl_append, List.foldl_cons, List.foldl_nil]; omega
def ents (T : List (List UInt8)) (k : Nat) : List (List UInt8 × Nat) := T.zipIdx.filter fun e => decide (hashS e.1 = k)
theorem ents_add (T : List (List UInt8)) (s : List UInt8) (k : Nat) : ents (T ++ [s]) k = ents T k ++ (if hashS s = k then [(s, T.length)] else []) := by
  unfold ents
  rw [List.zipIdx_append, List.filter_append]
  congr 1
  simp only [List.zipIdx_singleton, List.filter_cons, List.filter_nil, Nat.zero_add, decide_eq_true_eq]
theorem ents_mem {T : List (List UInt8)} {k : Nat} {e : List UInt8 × Nat} (h : e ∈ ents T k) : T[e.2]? = some e.1 := by
  have := (List.mem_filter.1 h).1
  exact List.mem_zipIdx_iff_getElem?.1 this
theorem ents_not {T : List (List UInt8)} {s : List UInt8} (h : ∀ e ∈ ents T (hashS s), e.1 ≠ s) : s ∉ T := fun hs => by
  obtain ⟨i, hi⟩ := List.mem_iff_getElem?.1 hs
  exact h (s, i) (List.mem_filter.2 ⟨List.mem_zipIdx_iff_getElem?.2 hi, by simp⟩) rfl
theorem ents_le (T : List (List UInt8)) (k : Nat) : (ents T k).length ≤ T.length := by
  unfold ents
  exact Nat.le_trans (List.length_filter_le _ _) (by simp)
def entC (e : List UInt8 × Nat) : List Value := [str e.1, .int .i64 e.2]
def flatE (es : List (List UInt8 × Nat)) : List Value := es.flatMap entC
end Go.Wk
