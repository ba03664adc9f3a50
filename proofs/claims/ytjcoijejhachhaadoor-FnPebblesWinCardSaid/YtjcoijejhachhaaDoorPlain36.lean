/-
  CLASSES AND ORBITS: what numbers say; elements of one orbit. No program in sight.
-/
import Derived.Test.YtjcoijejhachhaaDoorPlain33
import Derived.Test.YtjcoijejhachhaaDoorPlain35
namespace Go.Wk
open Go.RowKit
/-! ### numbers of classes -/
theorem cls_prefix {q : Nat → Nat → Bool} {k : Nat} : ∀ {m : Nat}, k < m → (clsN q m).1.getD k 0 = (clsN q (k + 1)).1.getD k 0
  | 0, h => by omega
  | m + 1, h => by
    rcases Nat.lt_or_ge k m with h1 | h1
    · have hl := cls_length q m
      rcases cls_cases q m with ⟨y, h2, h3, h4⟩ | h2
      · rw [cls_old h2 h3 h4, getD_app1 (by omega), cls_prefix h1]
      · rw [cls_new h2, getD_app1 (by omega), cls_prefix h1]
    · rw [show k = m from by omega]
theorem cls_last_old {q : Nat → Nat → Bool} {x y : Nat} (h1 : y < x) (h2 : ∀ i, i < y → q i x = false) (h3 : q y x = true) : (clsN q (x + 1)).1.getD x 0 = (clsN q x).1.getD y 0 := by
  have hl := cls_length q x
  rw [cls_old h1 h2 h3]
  have := getD_app2 (l := (clsN q x).1) (z := (clsN q x).1.getD y 0)
  rwa [hl] at this
theorem cls_last_new {q : Nat → Nat → Bool} {x : Nat} (h : ∀ i, i < x → q i x = false) : (clsN q (x + 1)).1.getD x 0 = ((clsN q x).2 : Int) := by
  have hl := cls_length q x
  rw [cls_new h]
  have := getD_app2 (l := (clsN q x).1) (z := ((clsN q x).2 : Int))
  rwa [hl] at this
theorem cls_lt {q : Nat → Nat → Bool} {m y : Nat} (h : y < m) : (clsN q m).1.getD y 0 < ((clsN q m).2 : Int) := by
  have hl := cls_length q m
  rw [getD_at (by omega)]
  exact ((cls_small q m).2 _ (List.getElem_mem _)).2
/-- the number at a place, against how many classes there were and are -/
theorem cls_max {q : Nat → Nat → Bool} {n x : Nat} (hx : x < n) : (clsN q n).1.getD x 0 ≤ ((clsN q x).2 : Int) ∧ (if (clsN q n).1.getD x 0 > ((clsN q x).2 : Int) - 1 then (clsN q n).1.getD x 0 else ((clsN q x).2 : Int) - 1) = ((clsN q (x + 1)).2 : Int) - 1 := by
  rw [cls_prefix hx]
  rcases cls_cases q x with ⟨y, h1, h2, h3⟩ | h
  · have h4 := cls_lt (q := q) h1
    rw [cls_last_old h1 h2 h3, cls_old h1 h2 h3]
    dsimp only
    exact ⟨by omega, by rw [if_neg (by omega)]⟩
  · rw [cls_last_new h, cls_new h]
    dsimp only
    exact ⟨Int.le_refl _, by rw [if_pos (by omega)]; omega⟩
theorem cls_iff {q : Nat → Nat → Bool} (hs : ∀ x y, q x y = true → q y x = true) (ht : ∀ x y z, q x y = true → q y z = true → q x z = true) : ∀ {n x y : Nat}, x < n → y < x → ((clsN q n).1.getD x 0 = (clsN q n).1.getD y 0 ↔ q y x = true) := by
  have key : ∀ x : Nat, ∀ y : Nat, y < x → ((clsN q (x + 1)).1.getD x 0 = (clsN q (y + 1)).1.getD y 0 ↔ q y x = true) := fun x => by
    induction x using Nat.strongRecOn with
    | _ x ih =>
      intro y hy
      rcases cls_cases q x with ⟨z, h1, h2, h3⟩ | h
      · rw [cls_last_old h1 h2 h3, cls_prefix h1]
        rcases Nat.lt_trichotomy z y with h4 | h4 | h4
        · rw [eq_comm, ih y hy z h4]
          exact ⟨fun e => ht _ _ _ (hs _ _ e) h3, fun e => ht _ _ _ h3 (hs _ _ e)⟩
        · subst h4; simp [h3]
        · rw [ih z h1 y h4]
          refine ⟨fun e => ht _ _ _ e h3, fun e => ?_⟩
          rw [h2 y h4] at e; cases e
      · rw [cls_last_new h, h y hy]
        have h4 := cls_lt (q := q) hy
        rw [cls_prefix hy] at h4
        constructor
        · intro e; omega
        · intro e; cases e
  intro n x y hx hy
  rw [cls_prefix hx, cls_prefix (show y < n by omega)]
  exact key x y hy
def clsL (a : St) (r : Int) : List Int := if clsOk a r then clsOf a r else []
theorem clsL_le (a : St) (r : Int) : (clsL a r).length ≤ 8 := by
  unfold clsL
  split
  · rename_i h
    have := (validB_fine (clsOk_true h).1).hi
    unfold clsOf
    rw [cls_length]; omega
  · exact Nat.zero_le _
theorem clsL_ok {a : St} {r : Int} (h : ¬ ((clsL a r).length : Int) = 0) : clsOk a r = true ∧ (clsL a r).length = a.n.toNat ∧ clsL a r = clsOf a r := by
  cases hv : clsOk a r with
  | false => unfold clsL at h; rw [hv] at h; simp at h
  | true => exact ⟨rfl, by unfold clsL; rw [hv, if_pos rfl]; exact cls_length _ _, by unfold clsL; rw [hv, if_pos rfl]⟩
theorem clsL_empty {a : St} {r : Int} (h : ((clsL a r).length : Int) = 0) (hv : validB a = true) (h0 : 0 ≤ r) : 3 < r := by
  rcases Classical.em (3 < r) with h3 | h3
  · exact h3
  · have e : clsOk a r = true := by unfold clsOk inB; rw [hv]; simp; omega
    unfold clsL at h
    rw [e, if_pos rfl] at h
    unfold clsOf at h
    rw [cls_length] at h
    have := (validB_fine hv).lo
    omega
section
variable {a : St} {r : Int}
def qC (a : St) (r : Int) : Nat → Nat → Bool := fun y x => winB r.toNat a [(y : Int)] a [(x : Int)]
theorem qC_win {y x : Nat} : qC a r y x = true ↔ winP r.toNat a [(y : Int)] a [(x : Int)] := by unfold qC; rw [win_iff r.toNat a [(y : Int)] a [(x : Int)] rfl]
theorem qC_symm (x y : Nat) (h : qC a r x y = true) : qC a r y x = true := qC_win.2 (winP_comm _ _ _ _ _ rfl (qC_win.1 h))
theorem qC_trans (x y z : Nat) (h : qC a r x y = true) (k : qC a r y z = true) : qC a r x z = true := qC_win.2 (winP_trans _ a [(x : Int)] a [(y : Int)] a [(z : Int)] rfl rfl (qC_win.1 h) (qC_win.1 k))
theorem one_list {c : St} {x : Nat} (hv : validB c = true) (hx : x < c.n.toNat) : listB c [(x : Int)] = true := listB_of hv (els_one ⟨by omega, by omega⟩) (by simp)
theorem cls_sec (h : clsOk a r = true) {x y : Nat} (hx : x < a.n.toNat) (hy : y < x) : decide ((clsL a r).getD ((x : Int)).toNat 0 = (clsL a r).getD ((y : Int)).toNat 0) = secB a [(x : Int)] a [(y : Int)] r := by
  obtain ⟨hv, h0, h3⟩ := clsOk_true h
  have hL : listsB a [(x : Int)] a [(y : Int)] = true := listsB_of (one_list hv hx) (one_list hv (by omega)) rfl
  unfold clsL
  rw [h, if_pos rfl, Bool.eq_iff_iff, decide_eq_true_iff, sec_of hL h0 h3]
  show (clsN (qC a r) a.n.toNat).1.getD x 0 = (clsN (qC a r) a.n.toNat).1.getD y 0 ↔ _
  rw [cls_iff qC_symm qC_trans hx hy, qC_win]
  exact ⟨winP_comm _ _ _ _ _ rfl, winP_comm _ _ _ _ _ rfl⟩
/-- an order that leaves a as it is moves x to z -/
def Moved (a : St) (x z : Int) : Prop := ∃ os : List Int, (os.length : Int) = a.n ∧ a.Els os ∧ sameB a os a (upto os.length) = true ∧ os.getD x.toNat 0 = z
theorem cls_moved (h : clsOk a r = true) {x : Nat} (hx : x < a.n.toNat) {z : Int} (hz : a.El z) (hm : Moved a x z) : (clsL a r).getD z.toNat 0 = (clsL a r).getD ((x : Int)).toNat 0 := by
  obtain ⟨hv, h0, h3⟩ := clsOk_true h
  obtain ⟨os, hl, hA, hs, e⟩ := hm
  have hw := shape_wins (a := a) (b := a) rfl hl hA hs r.toNat [(x : Int)] fun y hy => by rw [List.mem_singleton.1 hy]; omega
  rw [show atO os [(x : Int)] = [z] from by simp [atO]; rw [← e]; simp] at hw
  obtain ⟨m, rfl⟩ : ∃ m : Nat, z = m := ⟨z.toNat, by have := hz.1; omega⟩
  have hm : m < a.n.toNat := by have := hz.2; omega
  rw [show ((m : Int)).toNat = m from by omega, show ((x : Int)).toNat = x from by omega]
  have key : ∀ {u v : Nat}, u < a.n.toNat → v < u → winP r.toNat a [(u : Int)] a [(v : Int)] → (clsL a r).getD u 0 = (clsL a r).getD v 0 := fun {u v} hu hv' hw => by
    have hL : listsB a [(u : Int)] a [(v : Int)] = true := listsB_of (one_list hv hu) (one_list hv (by omega)) rfl
    have h1 := cls_sec h hu hv'
    rw [(sec_of hL h0 h3).2 hw] at h1
    exact of_decide_eq_true h1
  rcases Nat.lt_trichotomy m x with h1 | h1 | h1
  · exact (key hx h1 (winP_comm _ _ _ _ _ rfl hw)).symm
  · subst h1; rfl
  · exact key hm h1 hw
theorem cls_at_max (h : clsOk a r = true) {k : Nat} (hk : k < a.n.toNat) : (clsL a r).getD ((k : Int)).toNat 0 ≤ ((clsN (qC a r) k).2 : Int) ∧ (if (clsL a r).getD ((k : Int)).toNat 0 > ((clsN (qC a r) k).2 : Int) - 1 then (clsL a r).getD ((k : Int)).toNat 0 else ((clsN (qC a r) k).2 : Int) - 1) = ((clsN (qC a r) (k + 1)).2 : Int) - 1 := by
  unfold clsL
  rw [h, if_pos rfl]
  exact cls_max (q := qC a r) hk
theorem cls_count (h : clsOk a r = true) (h2 : ¬ 2 < r) : countC a 1 r = ((clsN (qC a r) a.n.toNat).2 : Int) := by
  obtain ⟨hv, h0, h3⟩ := clsOk_true h
  unfold countC inB
  rw [hv, if_pos (by simp; omega)]
  have e : a.n.toNat ^ (1 : Int).toNat = a.n.toNat := by rw [show (1 : Int).toNat = 1 from rfl, Nat.pow_one]
  rw [e]
  congr 2
  refine cls_congr fun y x hy hx => ?_
  unfold qP qC
  rw [show (1 : Int).toNat = 1 from rfl]
  have pt : ∀ k : Nat, k < a.n.toNat → pointL a.n.toNat 1 k = [(k : Int)] := fun k hk => by
    unfold pointL pointL
    rw [Nat.mod_eq_of_lt hk]; rfl
  rw [pt y (by omega), pt x hx]
end
/-! ### an orbit -/
def orbStep (x : Int) (os : List Int) (t : List Bool) : List Bool × Bool := (t.set (os.getD x.toNat 0).toNat true, true)
section
variable {τ : Type}
theorem shS_inv {a b : St} {step : List Int → τ → τ × Bool} {I : τ → Prop} (hstep : ∀ os t, (os.length : Int) = a.n → a.Els os → sameB a os b (upto os.length) = true → I t → I (step os t).1) (ha : a.Fine) : ∀ (m : Nat) (os : List Int) (t : τ), os.length + m = a.n.toNat → a.Els os → sameB a os b (upto os.length) = true → I t → I (shS a b step m os t).1
  | 0, os, t, h, hA, hs, hI => hstep os t (by have := ha.lo; omega) hA hs hI
  | m + 1, os, t, h, hA, hs, hI => by
    have key : ∀ k : Nat, k ≤ a.n.toNat → I (shLoop (shF a b (shS a b step m) os) k t).1 := fun k => by
      induction k with
      | zero => exact fun _ => hI
      | succ k ih =>
        intro hk
        rw [shLoop]
        split
        · unfold shF
          split
          · rename_i hst
            exact shS_inv hstep ha m _ _ (by simp; omega) (els_more hA ⟨by omega, by omega⟩) (same_grown hs hst) (ih (by omega))
          · exact ih (by omega)
        · exact ih (by omega)
    exact key _ (Nat.le_refl _)
end
def OrbI (a : St) (x : Int) (t : List Bool) : Prop := t.length = a.n.toNat ∧ ∀ z : Nat, z < a.n.toNat → t.getD z false = true → Moved a x z
theorem orb_inv {a : St} {x : Int} (ha : a.Fine) (hx : a.El x) : OrbI a x (shS a a (orbStep x) a.n.toNat [] (List.replicate a.n.toNat false)).1 := by
  refine shS_inv (I := OrbI a x) (fun os t hl hA hs hI => ?_) ha a.n.toNat [] _ (by simp) (fun x hx => by cases hx) rfl ⟨by simp, fun z hz h => ?_⟩
  · unfold orbStep
    refine ⟨by rw [List.length_set]; exact hI.1, fun z hz h => ?_⟩
    have hel := hA (os.getD x.toNat 0) (by rw [getD_at (by have := hx.2; have := hx.1; omega)]; exact List.getElem_mem _)
    by_cases e : (os.getD x.toNat 0).toNat = z
    · exact ⟨os, hl, hA, hs, by have := hel.1; omega⟩
    · refine hI.2 z hz ?_
      rwa [List.getD_eq_getElem?_getD, List.getElem?_set_ne e, ← List.getD_eq_getElem?_getD] at h
  · rw [List.getD_eq_getElem?_getD, List.getElem?_replicate, if_pos hz] at h; cases h
theorem bools_all (bs : List Bool) : ((bs.map Value.bool).toArray).toList.take bs.length = bools bs := by
  show (bs.map Value.bool).take bs.length = bs.map Value.bool
  rw [List.take_of_length_le (by simp)]
/-- the places that are marked -/
def trueTo (bs : List Bool) : Nat → List Int
  | 0 => []
  | k + 1 => if bs.getD k false then trueTo bs k ++ [(k : Int)] else trueTo bs k
theorem true_yes {bs : List Bool} {k : Nat} (h : bs.getD k false = true) : trueTo bs (k + 1) = trueTo bs k ++ [(k : Int)] := by rw [trueTo, if_pos h]
theorem true_no {bs : List Bool} {k : Nat} (h : bs.getD k false = false) : trueTo bs (k + 1) = trueTo bs k := by rw [trueTo, if_neg (by rw [h]; decide)]
theorem true_le (bs : List Bool) : ∀ k, (trueTo bs k).length ≤ k
  | 0 => Nat.le_refl _
  | k + 1 => by
    have := true_le bs k
    rw [trueTo]
    split
    · simp; omega
    · omega
theorem mem_true {bs : List Bool} {z : Int} : ∀ {k : Nat}, z ∈ trueTo bs k → ∃ i : Nat, i < k ∧ z = i ∧ bs.getD i false = true
  | 0, h => by cases h
  | k + 1, h => by
    rw [trueTo] at h
    split at h
    · rename_i hb
      rcases List.mem_append.1 h with h1 | h1
      · obtain ⟨i, h2, h3⟩ := mem_true h1; exact ⟨i, by omega, h3⟩
      · exact ⟨k, by omega, List.mem_singleton.1 h1, hb⟩
    · obtain ⟨i, h2, h3⟩ := mem_true h; exact ⟨i, by omega, h3⟩
theorem orb_all {a : St} {x : Int} {t : List Bool} (h : OrbI a x t) : ∀ z ∈ trueTo t t.length, a.El z ∧ Moved a x z := fun z hz => by
  obtain ⟨i, h1, rfl, h2⟩ := mem_true hz
  rw [h.1] at h1
  exact ⟨⟨by omega, by omega⟩, h.2 i h1 h2⟩
end Go.Wk
