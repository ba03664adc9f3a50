/-
  LAWS OF GAMES: winning is an equivalence; won rounds; first moves and replies. No program in sight.
-/
import Derived.Test.YtjcoijejhachhaaDoorPlain29
import Derived.Test.YtjcoijejhachhaaDoorCore3
namespace Go.Wk
open Go.RowKit
theorem same_refl (a : St) (xs : List Int) : sameB a xs a xs = true := by
  rw [← atomBits_same rfl]; exact beq_self_eq_true _
theorem same_trans {a b c : St} {xs ys zs : List Int} (h1 : xs.length = ys.length) (h2 : ys.length = zs.length) (h : sameB a xs b ys = true) (k : sameB b ys c zs = true) : sameB a xs c zs = true := by
  rw [← atomBits_same h1, beq_iff_eq] at h
  rw [← atomBits_same h2, beq_iff_eq] at k
  rw [← atomBits_same (h1.trans h2), beq_iff_eq]; exact h.trans k
theorem winP_refl : ∀ (n : Nat) (a : St) (xs : List Int), winP n a xs a xs
  | 0, a, xs => same_refl a xs
  | n + 1, a, xs => ⟨same_refl a xs, fun x hx => ⟨x, hx, winP_refl n a _⟩, fun x hx => ⟨x, hx, winP_refl n a _⟩⟩
theorem winP_trans : ∀ (n : Nat) (a : St) (xs : List Int) (b : St) (ys : List Int) (c : St) (zs : List Int), xs.length = ys.length → ys.length = zs.length → winP n a xs b ys → winP n b ys c zs → winP n a xs c zs
  | 0, a, xs, b, ys, c, zs, h1, h2, h, k => same_trans (a := a) (b := b) (c := c) h1 h2 h k
  | n + 1, a, xs, b, ys, c, zs, h1, h2, h, k => by
    refine ⟨same_trans h1 h2 h.1 k.1, fun x hx => ?_, fun z hz => ?_⟩
    · obtain ⟨y, hy, h3⟩ := h.2.1 x hx
      obtain ⟨z, hz, h4⟩ := k.2.1 y hy
      exact ⟨z, hz, winP_trans n _ _ _ _ _ _ (by simp [h1]) (by simp [h2]) h3 h4⟩
    · obtain ⟨y, hy, h3⟩ := k.2.2 z hz
      obtain ⟨x, hx, h4⟩ := h.2.2 y hy
      exact ⟨x, hx, winP_trans n _ _ _ _ _ _ (by simp [h1]) (by simp [h2]) h4 h3⟩
theorem listsB_comm (a : St) (xs : List Int) (b : St) (ys : List Int) : listsB a xs b ys = listsB b ys a xs := by
  unfold listsB
  have : decide ((xs.length : Int) = ys.length) = decide ((ys.length : Int) = xs.length) := by rw [decide_eq_decide]; exact eq_comm
  rw [this, Bool.and_comm (listB a xs)]
theorem listsB_self {a b : St} {xs ys : List Int} (h : listsB a xs b ys = true) : listsB a xs a xs = true := by
  unfold listsB at h ⊢
  simp only [Bool.and_eq_true] at h ⊢
  exact ⟨⟨h.1.1, h.1.1⟩, by simp⟩
theorem listsB_trans {a b c : St} {xs ys zs : List Int} (h : listsB a xs b ys = true) (k : listsB b ys c zs = true) : listsB a xs c zs = true := by
  unfold listsB at h k ⊢
  simp only [Bool.and_eq_true, decide_eq_true_eq] at h k ⊢
  exact ⟨⟨h.1.1, k.1.2⟩, h.2.trans k.2⟩
theorem sec_of {a b : St} {xs ys : List Int} {r : Int} (h : listsB a xs b ys = true) (h0 : 0 ≤ r) (h3 : r ≤ 3) : secB a xs b ys r = true ↔ winP r.toNat a xs b ys := by
  rw [secB_true h h0 h3, win_iff _ _ _ _ _ (listsB_true h).2.2]
theorem sec_refl {a b : St} {xs ys : List Int} {r : Int} (h : listsB a xs b ys = true) (h0 : 0 ≤ r) (h3 : r ≤ 3) : secB a xs a xs r = true :=
  (sec_of (listsB_self h) h0 h3).2 (winP_refl _ _ _)
theorem sec_comm (a : St) (xs : List Int) (b : St) (ys : List Int) (r : Int) : secB b ys a xs r = secB a xs b ys r := by
  unfold secB
  rw [gameB_comm b ys a xs r]
  cases h : gameB a xs b ys r with
  | false => rfl
  | true =>
    have hl := (listsB_true (gameB_true h).1).2.2
    rw [Bool.true_and, Bool.true_and, Bool.eq_iff_iff, win_iff _ _ _ _ _ hl.symm, win_iff _ _ _ _ _ hl]
    exact ⟨winP_comm _ _ _ _ _ hl.symm, winP_comm _ _ _ _ _ hl⟩
theorem sec_less {a b : St} {xs ys : List Int} {r : Int} (h : listsB a xs b ys = true) (h1 : 1 ≤ r) (h3 : r ≤ 3) (hs : secB a xs b ys r = true) : secB a xs b ys (r - 1) = true := by
  have h2 := (sec_of h (by omega) h3).1 hs
  rw [show r.toNat = (r - 1).toNat + 1 from by omega] at h2
  exact (sec_of h (by omega) (by omega)).2 (winP_less _ _ _ _ _ h2)
theorem sec_third {a b c : St} {xs ys zs : List Int} {r : Int} (h : listsB a xs b ys = true) (k : listsB c zs a xs = true) (h0 : 0 ≤ r) (h3 : r ≤ 3) (hs : secB a xs b ys r = true) : secB b ys c zs r = secB a xs c zs r := by
  have hl := (listsB_true h).2.2
  have kl := (listsB_true k).2.2
  have k' : listsB a xs c zs = true := by rw [listsB_comm]; exact k
  have h' : listsB b ys c zs = true := listsB_trans (by rw [listsB_comm]; exact h) k'
  have hw := (sec_of h h0 h3).1 hs
  rw [Bool.eq_iff_iff, sec_of h' h0 h3, sec_of k' h0 h3]
  exact ⟨fun w => winP_trans _ _ _ _ _ _ _ hl (hl.symm.trans kl.symm) hw w, fun w => winP_trans _ _ _ _ _ _ _ hl.symm kl.symm (winP_comm _ _ _ _ _ hl hw) w⟩
/-! ### won rounds -/
theorem mono_cut {f : Nat → Bool} (hm : ∀ n, f (n + 1) = true → f n = true) : ∃ m : Nat, m ≤ 4 ∧ (∀ i : Nat, i < m → f i = true) ∧ (m < 4 → f m = false) := by
  have hm' : ∀ n k, f (n + k) = true → f n = true := fun n k => by
    induction k with
    | zero => exact id
    | succ k ih => exact fun h => ih (hm _ h)
  cases h0 : f 0 with
  | false => exact ⟨0, by omega, fun i hi => by omega, fun _ => h0⟩
  | true =>
    cases h1 : f 1 with
    | false => exact ⟨1, by omega, fun i hi => by rw [show i = 0 from by omega]; exact h0, fun _ => h1⟩
    | true =>
      cases h2 : f 2 with
      | false => exact ⟨2, by omega, fun i hi => hm' i (1 - i) (by rw [show i + (1 - i) = 1 from by omega]; exact h1), fun _ => h2⟩
      | true =>
        cases h3 : f 3 with
        | false => exact ⟨3, by omega, fun i hi => hm' i (2 - i) (by rw [show i + (2 - i) = 2 from by omega]; exact h2), fun _ => h3⟩
        | true => exact ⟨4, by omega, fun i hi => hm' i (3 - i) (by rw [show i + (3 - i) = 3 from by omega]; exact h3), fun h => by omega⟩
theorem won_listed {a b : St} {xs ys : List Int} (h : ¬ wonI a xs b ys < -1) : listsB a xs b ys = true := by
  cases hl : listsB a xs b ys with
  | true => rfl
  | false => unfold wonI at h; rw [hl, if_neg (by decide)] at h; omega
theorem won_le {a b : St} {xs ys : List Int} {k : Nat} (h : listsB a xs b ys = true) (hk : k ≤ 3) : secB a xs b ys k = decide ((k : Int) ≤ wonI a xs b ys) := by
  have hl := (listsB_true h).2.2
  obtain ⟨m, h1, h2, h3⟩ := mono_cut (f := fun n => winB n a xs b ys) (fun n h => win_less hl h)
  have e : wonI a xs b ys = (m : Int) - 1 := by
    unfold wonI
    rw [h, if_pos rfl, lastW_of (f := fun n => winB n a xs b ys) (fun n h => win_less hl h) h1 h2 h3]
  rw [secB_true h (by omega) (by omega), Int.toNat_natCast, e]
  rcases Nat.lt_or_ge k m with h4 | h4
  · have := h2 k h4
    rw [this, eq_comm, decide_eq_true_iff]; omega
  · have h5 : winB k a xs b ys = false := by
      cases h6 : winB k a xs b ys with
      | false => rfl
      | true =>
        have h7 : ∀ j, winB (m + j) a xs b ys = true → winB m a xs b ys = true := fun j => by
          induction j with
          | zero => exact id
          | succ j ih => exact fun h => ih (win_less hl h)
        have h8 := h7 (k - m) (by rw [show m + (k - m) = k from by omega]; exact h6)
        have h9 := h3 (by omega)
        rw [h9] at h8; cases h8
    rw [h5, eq_comm, decide_eq_false_iff_not]; omega
/-! ### first moves -/
section
variable {a b : St} {xs ys : List Int} {r : Int}
theorem move_cases (n : Nat) (a : St) (xs : List Int) (b : St) (ys : List Int) :
    (∃ x : Nat, x < a.n.toNat ∧ (∀ i : Nat, i < x → (rep (goB n) a xs b ys i).isSome = true) ∧ (rep (goB n) a xs b ys x).isSome = false ∧ moveO n a xs b ys = some (true, x)) ∨
    (∃ y : Nat, y < b.n.toNat ∧ (∀ i : Nat, i < y → (rep (goB n) b ys a xs i).isSome = true) ∧ (rep (goB n) b ys a xs y).isSome = false ∧ moveO n a xs b ys = some (false, y)) ∨
    (goB (n + 1) a xs b ys = true ∧ moveO n a xs b ys = none) := by
  have key : ∀ (m : Nat) (f : Nat → Bool), (∃ x : Nat, x < m ∧ (∀ i : Nat, i < x → f i = true) ∧ f x = false) ∨ ∀ i : Nat, i < m → f i = true := fun m f => by
    induction m with
    | zero => exact .inr fun i hi => by omega
    | succ m ih =>
      rcases ih with ⟨x, h1, h2, h3⟩ | h
      · exact .inl ⟨x, by omega, h2, h3⟩
      · cases hm : f m with
        | false => exact .inl ⟨m, by omega, h, hm⟩
        | true =>
          refine .inr fun i hi => ?_
          rcases Nat.lt_or_ge i m with h1 | h1
          · exact h i h1
          · rw [show i = m from by omega]; exact hm
  rcases key a.n.toNat (fun x => (rep (goB n) a xs b ys x).isSome) with ⟨x, h1, h2, h3⟩ | h
  · exact .inl ⟨x, h1, h2, h3, move_1 h1 h2 h3⟩
  · rcases key b.n.toNat (fun x => (rep (goB n) b ys a xs x).isSome) with ⟨y, h1, h2, h3⟩ | h'
    · exact .inr (.inl ⟨y, h1, h2, h3, move_2 h h1 h2 h3⟩)
    · refine .inr (.inr ⟨?_, move_none h h'⟩)
      rw [goB, Bool.and_eq_true, List.all_eq_true, List.all_eq_true]
      exact ⟨fun x hx => h x (List.mem_range.1 hx), fun y hy => h' y (List.mem_range.1 hy)⟩
theorem go_no_l {n x : Nat} (hx : x < a.n.toNat) (h : (rep (goB n) a xs b ys x).isSome = false) : goB (n + 1) a xs b ys = false := by
  cases hg : goB (n + 1) a xs b ys with
  | false => rfl
  | true =>
    rw [goB, Bool.and_eq_true, List.all_eq_true] at hg
    have := hg.1 x (List.mem_range.2 hx)
    rw [h] at this; cases this
theorem go_no_r {n y : Nat} (hy : y < b.n.toNat) (h : (rep (goB n) b ys a xs y).isSome = false) : goB (n + 1) a xs b ys = false := by
  cases hg : goB (n + 1) a xs b ys with
  | false => rfl
  | true =>
    rw [goB, Bool.and_eq_true, List.all_eq_true, List.all_eq_true] at hg
    have := hg.2 y (List.mem_range.2 hy)
    rw [h] at this; cases this
theorem fm_game (h : (fmO a xs b ys r).isSome = true) : gameB a xs b ys r = true ∧ sameB a xs b ys = true ∧ 1 ≤ r ∧ fmO a xs b ys r = moveO (r - 1).toNat a xs b ys := by
  unfold fmO at h ⊢
  split at h
  · rename_i h1
    rw [if_pos h1]
    simp only [Bool.and_eq_true, decide_eq_true_eq] at h1
    exact ⟨h1.1.1, h1.1.2, h1.2, rfl⟩
  · cases h
theorem fm_at (h : (fmO a xs b ys r).isSome = true) :
    (∃ x : Nat, x < a.n.toNat ∧ (∀ i : Nat, i < x → (srO a xs b ys r [97] i).isSome = true) ∧ (srO a xs b ys r [97] x).isSome = false ∧ fmO a xs b ys r = some (true, x)) ∨
    (∃ y : Nat, y < b.n.toNat ∧ (∀ i : Nat, i < y → (srO a xs b ys r [98] i).isSome = true) ∧ (srO a xs b ys r [98] y).isSome = false ∧ fmO a xs b ys r = some (false, y)) := by
  obtain ⟨h1, h2, h3, h4⟩ := fm_game h
  have e97 : ∀ i : Nat, i < a.n.toNat → srO a xs b ys r [97] i = rep (goB (r - 1).toNat) a xs b ys i := fun i hi => by
    rw [srO_a (by decide), srA_yes h1 h3 (elB_true.2 ⟨by omega, by omega⟩)]
  have e98 : ∀ i : Nat, i < b.n.toNat → srO a xs b ys r [98] i = rep (goB (r - 1).toNat) b ys a xs i := fun i hi => by
    rw [srO_b (by decide), srA_yes (by rw [gameB_comm]; exact h1) h3 (elB_true.2 ⟨by omega, by omega⟩)]
  rw [h4] at h ⊢
  rcases move_cases (r - 1).toNat a xs b ys with ⟨x, k1, k2, k3, k4⟩ | ⟨x, k1, k2, k3, k4⟩ | ⟨_, k4⟩
  · exact .inl ⟨x, k1, fun i hi => by rw [e97 i (by omega)]; exact k2 i hi, by rw [e97 x k1]; exact k3, k4⟩
  · exact .inr ⟨x, k1, fun i hi => by rw [e98 i (by omega)]; exact k2 i hi, by rw [e98 x k1]; exact k3, k4⟩
  · rw [k4] at h; cases h
theorem fm_reply (h : (fmO a xs b ys r).isSome = true) : (srO a xs b ys r (sideS (fmO a xs b ys r)) (moveI (fmO a xs b ys r))).isSome = false := by
  rcases fm_at h with ⟨x, _, _, h1, e⟩ | ⟨x, _, _, h1, e⟩ <;> rw [e] <;> exact h1
theorem fm_before (h : (fmO a xs b ys r).isSome = true) {y : Nat} (hy : (y : Int) < moveI (fmO a xs b ys r)) : (srO a xs b ys r (sideS (fmO a xs b ys r)) y).isSome = true := by
  rcases fm_at h with ⟨x, _, h1, _, e⟩ | ⟨x, _, h1, _, e⟩ <;> rw [e] at hy ⊢ <;> exact h1 y (by simpa [moveI] using hy)
theorem fm_small (a : St) (xs : List Int) (b : St) (ys : List Int) (r : Int) (ha : a.n ≤ 8) (hb : b.n ≤ 8) : 0 ≤ moveI (fmO a xs b ys r) ∧ moveI (fmO a xs b ys r) ≤ 8 := by
  cases h : (fmO a xs b ys r).isSome with
  | false =>
    have e : fmO a xs b ys r = none := by
      cases h2 : fmO a xs b ys r with
      | none => rfl
      | some z => rw [h2] at h; cases h
    rw [e]; exact ⟨Int.le_refl _, by decide⟩
  | true => rcases fm_at h with ⟨x, h1, _, _, e⟩ | ⟨x, h1, _, _, e⟩ <;> rw [e] <;> simp only [moveI] <;> omega
theorem fm_lost (h : (fmO a xs b ys r).isSome = true) : secB a xs b ys r = false := by
  obtain ⟨h1, h2, h3, h4⟩ := fm_game h
  have e : r.toNat = (r - 1).toNat + 1 := by omega
  have key : goB ((r - 1).toNat + 1) a xs b ys = false := by
    rcases move_cases (r - 1).toNat a xs b ys with ⟨x, k1, k2, k3, k4⟩ | ⟨x, k1, k2, k3, k4⟩ | ⟨_, k4⟩
    · exact go_no_l k1 k3
    · exact go_no_r k1 k3
    · rw [h4, k4] at h; cases h
  unfold secB winB
  rw [e, key]; simp
theorem fm_wins (h : (fmO a xs b ys r).isSome = false) (hw : wayB a xs b ys = true) (h0 : 0 ≤ r) (h3 : r ≤ 3) : secB a xs b ys r = true := by
  unfold wayB at hw
  rw [Bool.and_eq_true] at hw
  have hg : gameB a xs b ys r = true := by unfold gameB inB; rw [hw.1]; simp [h0, h3]
  unfold secB winB
  rw [hg, hw.2, Bool.true_and, Bool.true_and]
  rcases Classical.em (0 < r) with h1 | h1
  · have e : r.toNat = (r - 1).toNat + 1 := by omega
    rw [e]
    have h4 : fmO a xs b ys r = moveO (r - 1).toNat a xs b ys := by unfold fmO; rw [hg, hw.2, if_pos (by simp; omega)]
    rw [h4] at h
    rcases move_cases (r - 1).toNat a xs b ys with ⟨x, k1, k2, k3, k4⟩ | ⟨x, k1, k2, k3, k4⟩ | ⟨k3, _⟩
    · rw [k4] at h; cases h
    · rw [k4] at h; cases h
    · exact k3
  · rw [show r.toNat = 0 from by omega]; rfl
/-! ### replies -/
theorem sr_side {s : List UInt8} {x : Int} (h : (srO a xs b ys r s x).isSome = true) : (s = [98] ∧ (srA b ys a xs r x).isSome = true ∧ srO a xs b ys r s x = srA b ys a xs r x) ∨ (s = [97] ∧ (srA a xs b ys r x).isSome = true ∧ srO a xs b ys r s x = srA a xs b ys r x) := by
  unfold srO at h ⊢
  split at h
  · rename_i e; rw [if_pos e]; exact .inl ⟨e, h, rfl⟩
  · rename_i e
    split at h
    · rename_i e2; rw [if_neg e, if_pos e2]; exact .inr ⟨e2, h, rfl⟩
    · cases h
theorem srA_some {x : Int} (h : (srA a xs b ys r x).isSome = true) : gameB a xs b ys r = true ∧ 1 ≤ r ∧ a.El x ∧ srA a xs b ys r x = rep (goB (r - 1).toNat) a xs b ys x := by
  unfold srA at h ⊢
  split at h
  · rename_i e
    rw [if_pos e]
    simp only [Bool.and_eq_true, decide_eq_true_eq] at e
    exact ⟨e.1.1, e.1.2, elB_true.1 e.2, rfl⟩
  · cases h
/-- the reply: an element; it wins -/
theorem srA_wins {x : Int} (h : (srA a xs b ys r x).isSome = true) : (srA a xs b ys r x).getD 0 < b.n.toNat ∧ winB (r - 1).toNat a (xs ++ [x]) b (ys ++ [(((srA a xs b ys r x).getD 0 : Nat) : Int)]) = true ∧ sameB a xs b ys = true := by
  obtain ⟨h1, h2, h3, h4⟩ := srA_some h
  have hl := (listsB_true (gameB_true h1).1).2.2
  rw [h4] at h ⊢
  have hs : sameB a xs b ys = true := by
    cases e : sameB a xs b ys with
    | true => rfl
    | false => unfold rep at h; rw [e, if_neg (by decide)] at h; cases h
  rw [rep_win hl] at h ⊢
  obtain ⟨y, hy⟩ := Option.isSome_iff_exists.1 h
  rw [hy]
  have h5 := List.find?_range_eq_some.1 hy
  exact ⟨List.mem_range.1 h5.2.1, h5.1, hs⟩
theorem sr_lists {s : List UInt8} {x : Int} (h : (srO a xs b ys r s x).isSome = true) : listsB a xs b ys = true ∧ 1 ≤ r ∧ r ≤ 3 ∧ (s = [98] ∨ s = [97]) := by
  rcases sr_side h with ⟨e, h1, _⟩ | ⟨e, h1, _⟩
  · obtain ⟨h2, h3, _⟩ := srA_some h1
    rw [gameB_comm] at h2
    obtain ⟨h4, h5, h6⟩ := gameB_true h2
    exact ⟨h4, h3, h6, .inl e⟩
  · obtain ⟨h2, h3, _⟩ := srA_some h1
    obtain ⟨h4, h5, h6⟩ := gameB_true h2
    exact ⟨h4, h3, h6, .inr e⟩
theorem sr_way {s : List UInt8} {x : Int} (h : (srO a xs b ys r s x).isSome = true) : wayB a xs b ys = true := by
  unfold wayB
  rw [(sr_lists h).1, Bool.true_and]
  rcases sr_side h with ⟨e, h1, _⟩ | ⟨e, h1, _⟩
  · have h2 := (srA_wins h1).2.2
    rwa [sameB_comm (listsB_true (sr_lists h).1).2.2.symm] at h2
  · exact (srA_wins h1).2.2
theorem sr_wins_b {s : List UInt8} {x : Int} (hs : (s == [98]) = true) (h : (srO a xs b ys r s x).isSome = true) (h3 : xs.length ≤ 3) : secB a (xs ++ [(((srO a xs b ys r s x).getD 0 : Nat) : Int)]) b (ys ++ [x]) (r - 1) = true := by
  rw [srO_b hs] at h ⊢
  obtain ⟨h1, h2, h4, _⟩ := srA_some h
  obtain ⟨k1, k2, _⟩ := srA_wins h
  obtain ⟨g1, g2, g3⟩ := gameB_true h1
  obtain ⟨m, rfl⟩ : ∃ m : Nat, x = m := ⟨x.toNat, by have := h4.1; omega⟩
  have hl := (listsB_true g1).2.2
  rw [← sec_comm, secB_true (lists_more g1 (by omega) (by have := h4.2; omega) k1) (by omega) (by omega)]
  exact k2
theorem sr_wins_a {s : List UInt8} {x : Int} (hs : (s == [98]) = false) (h : (srO a xs b ys r s x).isSome = true) (h3 : xs.length ≤ 3) : secB a (xs ++ [x]) b (ys ++ [(((srO a xs b ys r s x).getD 0 : Nat) : Int)]) (r - 1) = true := by
  rcases sr_side h with ⟨e, _, _⟩ | ⟨_, h', e⟩
  · subst e; exact absurd hs (by decide)
  rw [e]
  obtain ⟨h1, h2, h4, _⟩ := srA_some h'
  obtain ⟨k1, k2, _⟩ := srA_wins h'
  obtain ⟨g1, g2, g3⟩ := gameB_true h1
  obtain ⟨m, rfl⟩ : ∃ m : Nat, x = m := ⟨x.toNat, by have := h4.1; omega⟩
  rw [secB_true (lists_more g1 (by omega) (by have := h4.2; omega) k1) (by omega) (by omega)]
  exact k2
/-- the other side's name -/
def otherS (s : List UInt8) : List UInt8 := if s = [98] then [97] else [98]
theorem sr_other {s : List UInt8} {x : Int} (h : s = [98] ∨ s = [97]) : srO b ys a xs r (otherS s) x = srO a xs b ys r s x := by
  rcases h with rfl | rfl
  · rw [show otherS [98] = [97] from rfl, srO_a (by decide), srO_b (by decide)]
  · rw [show otherS [97] = [98] from rfl, srO_b (by decide), srO_a (by decide)]
end
theorem other_at {s : List UInt8} (h : s = [98] ∨ s = [97]) : ([str [98], str [97]] : List Value)[((((s.length : Int) - (1 : Int)) + ((s.getD ((0 : Int).toNat) 0).toNat : Int)) - (97 : Int)).toNat]? = some (str (otherS s)) := by
  rcases h with rfl | rfl <;> rfl
theorem way_listed {a b : St} {xs ys : List Int} (h : wayB a xs b ys = true) : listsB a xs b ys = true ∧ sameB a xs b ys = true := by
  unfold wayB at h; simpa using h
theorem bools_all (bs : List Bool) : ((bs.map Value.bool).toArray).toList.take bs.length = bools bs := by
  show (bs.map Value.bool).take bs.length = bs.map Value.bool
  rw [List.take_of_length_le (by simp)]
end Go.Wk
