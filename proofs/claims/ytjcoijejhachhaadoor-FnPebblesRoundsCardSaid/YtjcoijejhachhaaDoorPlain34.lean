/-
  COUNTING WAYS AND CLASSES: representatives; more rounds, longer lists, another structure. No program in sight.
-/
import Derived.Test.YtjcoijejhachhaaDoorCore4
import Derived.Test.YtjcoijejhachhaaDoorPlain30
namespace Go.Wk
open Go.RowKit
/-! ### representatives -/
def repsL (q : Nat → Nat → Bool) (N : Nat) : List Nat := (List.range N).filter fun x => (List.range x).all fun y => !q y x
theorem reps_mem {q : Nat → Nat → Bool} {N x : Nat} : x ∈ repsL q N ↔ x < N ∧ ∀ y, y < x → q y x = false := by
  unfold repsL
  rw [List.mem_filter, List.mem_range, List.all_eq_true]
  refine and_congr_right fun _ => ⟨fun h y hy => by simpa using h y (List.mem_range.2 hy), fun h y hy => by simpa using h y (List.mem_range.1 hy)⟩
theorem reps_nodup (q : Nat → Nat → Bool) (N : Nat) : (repsL q N).Nodup := List.Nodup.sublist List.filter_sublist List.nodup_range
theorem cls_reps (q : Nat → Nat → Bool) : ∀ N, (clsN q N).2 = (repsL q N).length
  | 0 => rfl
  | x + 1 => by
    have ih := cls_reps q x
    have e : repsL q (x + 1) = repsL q x ++ (if (List.range x).all (fun y => !q y x) then [x] else []) := by
      unfold repsL
      rw [List.range_succ, List.filter_append]
      simp [List.filter_cons]
    rcases cls_cases q x with ⟨y, h1, h2, h3⟩ | h
    · rw [cls_old h1 h2 h3, e, if_neg fun h => by
        have := List.all_eq_true.1 h y (List.mem_range.2 h1)
        rw [h3] at this; cases this]
      simpa using ih
    · rw [cls_new h, e, if_pos (List.all_eq_true.2 fun y hy => by rw [h y (List.mem_range.1 hy)]; rfl)]
      simp [ih]
theorem nodup_sub {α : Type} [DecidableEq α] : ∀ {S T : List α}, S.Nodup → (∀ x ∈ S, x ∈ T) → S.length ≤ T.length
  | [], _, _, _ => Nat.zero_le _
  | x :: S, T, hd, h => by
    obtain ⟨h1, h2⟩ := List.nodup_cons.1 hd
    have hx := h x (by simp)
    have := nodup_sub (T := T.erase x) h2 fun y hy => (List.mem_erase_of_ne (fun e => h1 (by rw [← e]; exact hy))).2 (h y (by simp [hy]))
    rw [List.length_erase_of_mem hx] at this
    have := List.length_pos_of_mem hx
    rw [List.length_cons]; omega
theorem nodup_map_inj {α β : Type} {f : α → β} : ∀ {l : List α}, (∀ x ∈ l, ∀ y ∈ l, f x = f y → x = y) → l.Nodup → (l.map f).Nodup
  | [], _, _ => List.nodup_nil
  | x :: l, h, hd => by
    obtain ⟨h1, h2⟩ := List.nodup_cons.1 hd
    rw [List.map_cons]
    refine List.nodup_cons.2 ⟨fun hm => ?_, nodup_map_inj (fun y hy z hz => h y (by simp [hy]) z (by simp [hz])) h2⟩
    obtain ⟨y, hy, e⟩ := List.mem_map.1 hm
    exact h1 ((h y (by simp [hy]) x (by simp) e) ▸ hy)
/-- fewer are alike: no fewer classes -/
theorem reps_mono {q q' : Nat → Nat → Bool} {N : Nat} (h : ∀ y x, y < x → x < N → q' y x = true → q y x = true) : (repsL q N).length ≤ (repsL q' N).length :=
  nodup_sub (reps_nodup q N) fun x hx => by
    obtain ⟨h1, h2⟩ := reps_mem.1 hx
    refine reps_mem.2 ⟨h1, fun y hy => ?_⟩
    cases e : q' y x with
    | false => rfl
    | true => have := h y x hy h1 e; rw [h2 y hy] at this; cases this
theorem reps_le (q : Nat → Nat → Bool) (N : Nat) : (repsL q N).length ≤ N := by
  have := List.length_filter_le (fun x => (List.range x).all fun y => !q y x) (List.range N)
  rw [List.length_range] at this
  exact this
theorem reps_pos (q : Nat → Nat → Bool) {N : Nat} (h : 0 < N) : 1 ≤ (repsL q N).length := List.length_pos_of_mem (reps_mem.2 ⟨h, fun y hy => absurd hy (by omega)⟩ : 0 ∈ repsL q N)
/-- lists with one element more -/
theorem reps_wider {q q' : Nat → Nat → Bool} {N s : Nat} (hs : 0 < s) (h : ∀ y x, y < N * s → x < N * s → q' y x = true → q (y / s) (x / s) = true) : (repsL q N).length ≤ (repsL q' (N * s)).length := by
  have h1 : ((repsL q N).map (· * s)).length ≤ (repsL q' (N * s)).length := nodup_sub (nodup_map_inj (fun x _ y _ e => Nat.eq_of_mul_eq_mul_right hs e) (reps_nodup q N)) fun z hz => by
    obtain ⟨x, hx, rfl⟩ := List.mem_map.1 hz
    obtain ⟨h1, h2⟩ := reps_mem.1 hx
    have hxs : x * s < N * s := Nat.mul_lt_mul_of_pos_right h1 hs
    refine reps_mem.2 ⟨hxs, fun y hy => ?_⟩
    cases e : q' y (x * s) with
    | false => rfl
    | true =>
      have h3 := h y (x * s) (by omega) hxs e
      rw [Nat.mul_div_cancel _ hs, h2 (y / s) (Nat.div_lt_of_lt_mul (by rw [Nat.mul_comm]; exact hy))] at h3
      cases h3
  rwa [List.length_map] at h1
/-! ### texts, each once -/
theorem mem_addK {ks : List (List UInt8)} {s t : List UInt8} : t ∈ addK ks s ↔ t ∈ ks ∨ t = s := by
  unfold addK
  split
  · rename_i h; exact ⟨.inl, fun h2 => h2.elim id (fun e => e ▸ h)⟩
  · simp
theorem addK_nodup {ks : List (List UInt8)} {s : List UInt8} (h : ks.Nodup) : (addK ks s).Nodup := by
  unfold addK
  split
  · exact h
  · rename_i h1
    rw [List.nodup_append]
    exact ⟨h, by simp, fun z hz y hy e => h1 (by rw [List.mem_singleton.1 hy] at e; exact e ▸ hz)⟩
theorem dedup_fold : ∀ (l ks : List (List UInt8)), (∀ t, t ∈ l.foldl addK ks ↔ t ∈ ks ∨ t ∈ l) ∧ (ks.Nodup → (l.foldl addK ks).Nodup)
  | [], ks => ⟨fun t => by simp, id⟩
  | s :: l, ks => by
    obtain ⟨h1, h2⟩ := dedup_fold l (addK ks s)
    refine ⟨fun t => ?_, fun h => h2 (addK_nodup h)⟩
    rw [List.foldl_cons, h1, mem_addK, List.mem_cons, or_assoc]
theorem mem_dedup {l : List (List UInt8)} {t : List UInt8} : t ∈ dedup l ↔ t ∈ l := by
  unfold dedup; rw [(dedup_fold l []).1]; simp
theorem dedup_nodup (l : List (List UInt8)) : (dedup l).Nodup := (dedup_fold l []).2 List.nodup_nil
theorem dedup_add (l : List (List UInt8)) (s : List UInt8) : dedup (l ++ [s]) = addK (dedup l) s := by unfold dedup; rw [List.foldl_append]; rfl
theorem dedup_reps {f : Nat → List UInt8} {q : Nat → Nat → Bool} : ∀ {N : Nat}, (∀ y x, y < x → x < N → (q y x = true ↔ f y = f x)) → (dedup ((List.range N).map f)).length = (repsL q N).length
  | 0, _ => rfl
  | N + 1, h => by
    have ih := dedup_reps (f := f) (q := q) (N := N) fun y x hy hx => h y x hy (by omega)
    rw [List.range_succ, List.map_append, List.map_singleton, dedup_add]
    have e : repsL q (N + 1) = repsL q N ++ (if (List.range N).all (fun y => !q y N) then [N] else []) := by
      unfold repsL
      rw [List.range_succ, List.filter_append]
      simp [List.filter_cons]
    rw [e]
    by_cases hm : f N ∈ dedup ((List.range N).map f)
    · obtain ⟨y, hy, e2⟩ := List.mem_map.1 (mem_dedup.1 hm)
      have hy' := List.mem_range.1 hy
      rw [addK_old (by simpa using hm), if_neg fun ha => by
        have := List.all_eq_true.1 ha y hy
        rw [(h y N hy' (by omega)).2 e2] at this; cases this]
      simpa using ih
    · rw [addK_new hm, if_pos (List.all_eq_true.2 fun y hy => by
        have hy' := List.mem_range.1 hy
        cases e2 : q y N with
        | false => rfl
        | true => exact absurd (mem_dedup.2 (List.mem_map.2 ⟨y, hy, (h y N hy' (by omega)).1 e2⟩)) hm)]
      simp [ih]
/-! ### the two texts of atoms say the same -/
theorem atomsT_app (l m : List (List UInt8 × Bool)) : atomsT (l ++ m) = atomsT l ++ atomsT m := by simp [atomsT]
theorem atomsT_len : ∀ l : List (List UInt8 × Bool), (atomsT l).length = l.length
  | [] => rfl
  | f :: l => by
    have := atomsT_len l
    simp only [atomsT, List.flatMap_cons, List.length_append, bitS_length, List.length_cons] at this ⊢
    omega
theorem atomsT_inj : ∀ {l m : List (List UInt8 × Bool)}, l.length = m.length → (atomsT l = atomsT m ↔ l.map Prod.snd = m.map Prod.snd)
  | [], [], _ => by simp
  | [], _ :: _, h => by simp at h
  | _ :: _, [], h => by simp at h
  | f :: l, g :: m, h => by
    have ih := atomsT_inj (l := l) (m := m) (by simpa using h)
    have e : ∀ (f : List UInt8 × Bool) (l : List (List UInt8 × Bool)), atomsT (f :: l) = bitS f.2 ++ atomsT l := fun f l => rfl
    rw [e, e, List.map_cons, List.map_cons, List.cons.injEq, ← ih]
    constructor
    · intro h2
      obtain ⟨h3, h4⟩ := List.append_inj h2 (by simp)
      exact ⟨bitS_inj.1 h3, h4⟩
    · rintro ⟨h3, h4⟩; rw [h3, h4]
theorem map_app_iff {l m l' m' : List (List UInt8 × Bool)} (h : l.length = m.length) : (l ++ l').map Prod.snd = (m ++ m').map Prod.snd ↔ l.map Prod.snd = m.map Prod.snd ∧ l'.map Prod.snd = m'.map Prod.snd := by
  rw [List.map_append, List.map_append]
  exact ⟨fun h2 => List.append_inj h2 (by simpa using h), fun ⟨h2, h3⟩ => by rw [h2, h3]⟩
theorem more_iff {a b : St} {xs ys : List Int} {i : Nat} : ∀ k : Nat, (moreL a xs i k).map Prod.snd = (moreL b ys i k).map Prod.snd ↔ ∀ j : Nat, j < k → pairOk a b (xs.getD i 0) (ys.getD i 0) (xs.getD j 0) (ys.getD j 0) = true
  | 0 => by simp [moreL]
  | k + 1 => by
    unfold moreL
    rw [map_app_iff (by simp), more_iff k]
    constructor
    · rintro ⟨h1, h2⟩ j hj
      rcases Nat.lt_or_ge j k with h3 | h3
      · exact h1 j h3
      · obtain rfl : j = k := by omega
        refine pairOk_true.2 ?_
        simpa using h2
    · intro h
      refine ⟨fun j hj => h j (by omega), ?_⟩
      have := pairOk_true.1 (h k (by omega))
      simpa using this
theorem facts_iff {a b : St} {xs ys : List Int} (hl : xs.length = ys.length) : ∀ n : Nat, n ≤ xs.length → ((factsL a xs n).map Prod.snd = (factsL b ys n).map Prod.snd ↔ ∀ i : Nat, i < n → stillAt a xs b ys i = true)
  | 0, _ => by simp [factsL]
  | n + 1, hn => by
    have hfl : ∀ (a b : St) (xs ys : List Int) (n : Nat), (factsL a xs n).length = (factsL b ys n).length := fun a b xs ys n => by
      induction n with
      | zero => rfl
      | succ n ih => simp [factsL, ih]
    have ih := facts_iff hl n (by omega) (a := a) (b := b)
    have key : (factL a xs n).map Prod.snd = (factL b ys n).map Prod.snd ↔ stillAt a xs b ys n = true := by
      unfold factL stillAt
      rw [map_app_iff (by simp), more_iff, stillB_true (by simp [hl])]
      have e : ((headL a xs n).map Prod.snd = (headL b ys n).map Prod.snd) ↔ a.inSet (xs.getD n 0) = b.inSet (ys.getD n 0) ∧ a.inRel (xs.getD n 0) (xs.getD n 0) = b.inRel (ys.getD n 0) (ys.getD n 0) := by simp [headL]
      rw [e, and_assoc]
      refine and_congr_right fun _ => and_congr_right fun _ => ?_
      rw [List.length_take, Nat.min_eq_left (by omega)]
      exact ⟨fun h k hk => by rw [take_getD hk, take_getD hk]; exact h k hk, fun h k hk => by have := h k hk; rwa [take_getD hk, take_getD hk] at this⟩
    unfold factsL
    rw [map_app_iff (hfl a b xs ys n), ih, key]
    exact ⟨fun ⟨h1, h2⟩ i hi => by
      rcases Nat.lt_or_ge i n with h3 | h3
      · exact h1 i h3
      · rw [show i = n from by omega]; exact h2, fun h => ⟨fun i hi => h i (by omega), h n (by omega)⟩⟩
theorem kind_same {a b : St} {xs ys : List Int} (hl : xs.length = ys.length) : atomsT (factsL a xs xs.length) = atomsT (factsL b ys ys.length) ↔ sameB a xs b ys = true := by
  have hfl : ∀ (a b : St) (xs ys : List Int) (n : Nat), (factsL a xs n).length = (factsL b ys n).length := fun a b xs ys n => by
    induction n with
    | zero => rfl
    | succ n ih => simp [factsL, ih]
  rw [← hl, atomsT_inj (hfl _ _ _ _ _), facts_iff hl _ (Nat.le_refl _)]
  unfold sameB
  rw [List.all_eq_true]
  exact ⟨fun h i hi => h i (List.mem_range.1 hi), fun h i hi => h i (List.mem_range.2 hi)⟩
/-! ### the numbers of classes -/
def cntQ (a : St) (r w : Nat) : Nat := (repsL (qP a r w) (a.n.toNat ^ w)).length
theorem qP_win (a : St) (r w y x : Nat) : qP a r w y x = true ↔ winP r a (pointL a.n.toNat w y) a (pointL a.n.toNat w x) := by
  unfold qP; rw [win_iff _ _ _ _ _ (by simp)]
theorem pow_pos8 {a : St} (ha : a.Fine) (w : Nat) : 0 < a.n.toNat ^ w := Nat.pow_pos (by have := ha.lo; omega)
theorem kinds_cnt {a : St} (ha : a.Fine) (w : Nat) : (dedup (kindsL a w)).length = cntQ a 0 w := by
  have e : kindsL a w = (List.range (a.n.toNat ^ w)).map fun k => atomsT (factsL a (pointL a.n.toNat w k) (pointL a.n.toNat w k).length) := by
    refine List.ext_getElem (by rw [kindsL_length]; simp) fun k h1 h2 => ?_
    rw [kindsL_length] at h1
    have := kinds_at ha (w := w) (k := k) h1
    rw [List.getD_eq_getElem?_getD, List.getElem?_eq_getElem (by rw [kindsL_length]; exact h1), Option.getD_some] at this
    rw [this]; simp
  rw [e]
  refine dedup_reps fun _ _ _ _ => ?_
  rw [qP_win]
  show sameB _ _ _ _ = true ↔ _
  rw [kind_same (by simp)]
theorem cnt_pos {a : St} (ha : a.Fine) (r w : Nat) : 1 ≤ cntQ a r w ∧ cntQ a r w ≤ a.n.toNat ^ w := ⟨reps_pos _ (pow_pos8 ha w), reps_le _ _⟩
theorem cnt_rounds (a : St) (r w : Nat) : cntQ a r w ≤ cntQ a (r + 1) w := reps_mono fun _ _ _ _ h => (qP_win _ _ _ _ _).2 (winP_less _ _ _ _ _ ((qP_win _ _ _ _ _).1 h))
theorem cnt_of {a b : St} (hn : a.n = b.n) {r w : Nat} (h : ∀ y x, y < a.n.toNat ^ w → x < a.n.toNat ^ w → (winP r a (pointL a.n.toNat w y) a (pointL a.n.toNat w x) ↔ winP r b (pointL a.n.toNat w y) b (pointL a.n.toNat w x))) : cntQ a r w = cntQ b r w := by
  have key : ∀ y x, y < x → x < a.n.toNat ^ w → (qP a r w y x = true ↔ qP b r w y x = true) := fun y x hy hx => by
    rw [qP_win, qP_win, ← hn]; exact h y x (by omega) hx
  unfold cntQ
  rw [← hn]
  exact Nat.le_antisymm (reps_mono fun y x hy hx e => (key y x hy hx).2 e) (reps_mono fun y x hy hx e => (key y x hy hx).1 e)
/-- what is won of longer lists is won of them without an element -/
theorem same_less {a b : St} {xs ys zs ws : List Int} {x y : Int} (h1 : xs.length = ys.length) (h2 : zs.length = ws.length) (h : sameB a (xs ++ x :: zs) b (ys ++ y :: ws) = true) : sameB a (xs ++ zs) b (ys ++ ws) = true := by
  have hl : (xs ++ x :: zs).length = (ys ++ y :: ws).length := by simp [h1, h2]
  have key : ∀ i : Nat, i < (xs ++ zs).length → ∃ j : Nat, j < (xs ++ x :: zs).length ∧ (xs ++ x :: zs).getD j 0 = (xs ++ zs).getD i 0 ∧ (ys ++ y :: ws).getD j 0 = (ys ++ ws).getD i 0 := fun i hi => by
    rw [List.length_append] at hi
    rcases Nat.lt_or_ge i xs.length with h3 | h3
    · refine ⟨i, by simp; omega, ?_, ?_⟩
      · simp only [List.getD_eq_getElem?_getD, List.getElem?_append_left h3]
      · simp only [List.getD_eq_getElem?_getD, List.getElem?_append_left (h1 ▸ h3)]
    · refine ⟨i + 1, by simp; omega, ?_, ?_⟩
      · simp only [List.getD_eq_getElem?_getD]
        rw [List.getElem?_append_right (by omega), List.getElem?_append_right h3, show i + 1 - xs.length = (i - xs.length) + 1 from by omega, List.getElem?_cons_succ]
      · simp only [List.getD_eq_getElem?_getD]
        rw [List.getElem?_append_right (by omega), List.getElem?_append_right (by omega), show i + 1 - ys.length = (i - ys.length) + 1 from by omega, List.getElem?_cons_succ]
  unfold sameB
  rw [List.all_eq_true]
  intro i hi
  have hi' := List.mem_range.1 hi
  obtain ⟨j, hj, e1, e2⟩ := key i hi'
  unfold stillAt
  have h4 := same_at hl h hj
  rw [e1, e2] at h4
  refine (stillB_true (by simp [h1, h2])).2 ⟨h4.1, h4.2.1, fun k hk => ?_⟩
  rw [List.length_take] at hk
  obtain ⟨m, hm, e3, e4⟩ := key k (by omega)
  rw [take_getD (by omega), take_getD (by omega), ← e1, ← e2, ← e3, ← e4]
  exact same_pairs hl h hj hm
theorem winP_without : ∀ (n : Nat) (a : St) (xs zs : List Int) (x : Int) (b : St) (ys ws : List Int) (y : Int), xs.length = ys.length → zs.length = ws.length → winP n a (xs ++ x :: zs) b (ys ++ y :: ws) → winP n a (xs ++ zs) b (ys ++ ws)
  | 0, _, _, _, _, _, _, _, _, h1, h2, h => same_less h1 h2 h
  | n + 1, a, xs, zs, x, b, ys, ws, y, h1, h2, h => by
    have e : ∀ (l m : List Int) (u v : Int), (l ++ u :: m) ++ [v] = l ++ u :: (m ++ [v]) := fun l m u v => by simp
    refine ⟨same_less h1 h2 h.1, fun u hu => ?_, fun v hv => ?_⟩
    · obtain ⟨v, hv, hw⟩ := h.2.1 u hu
      rw [e, e] at hw
      refine ⟨v, hv, ?_⟩
      rw [List.append_assoc, List.append_assoc]
      exact winP_without n _ _ _ _ _ _ _ _ h1 (by simp [h2]) hw
    · obtain ⟨u, hu, hw⟩ := h.2.2 v hv
      rw [e, e] at hw
      refine ⟨u, hu, ?_⟩
      rw [List.append_assoc, List.append_assoc]
      exact winP_without n _ _ _ _ _ _ _ _ h1 (by simp [h2]) hw
theorem cnt_wider {a : St} (ha : a.Fine) (r w : Nat) : cntQ a r w ≤ cntQ a r (w + 1) := by
  unfold cntQ
  rw [Nat.pow_succ]
  refine reps_wider (by have := ha.lo; omega) fun y x _ _ h => (qP_win _ _ _ _ _).2 ?_
  have h1 := (qP_win _ _ _ _ _).1 h
  unfold pointL at h1
  have h2 := winP_without r a (pointL a.n.toNat w (y / a.n.toNat)) [] _ a (pointL a.n.toNat w (x / a.n.toNat)) [] _ (by simp) rfl h1
  simpa using h2
/-! ### no more than so many with one element more -/
def bitsN : Nat → List (List UInt8)
  | 0 => [[]]
  | k + 1 => (bitsN k).flatMap fun s => [s ++ [48], s ++ [49]]
theorem bitsN_len : ∀ k, (bitsN k).length = 2 ^ k
  | 0 => rfl
  | k + 1 => by
    have ih := bitsN_len k
    unfold bitsN
    rw [List.length_flatMap, Nat.pow_succ, ← ih]
    generalize bitsN k = l
    induction l with
    | nil => rfl
    | cons x l ihl => simp at ihl ⊢; omega
theorem bits_more {s : List UInt8} {k : Nat} (h : s ∈ bitsN k) (b : Bool) : s ++ bitS b ∈ bitsN (k + 1) := by
  unfold bitsN
  rw [List.mem_flatMap]
  refine ⟨s, h, ?_⟩
  cases b <;> simp [bitS]
theorem pairBits_in (a : St) (xs : List Int) (i : Nat) : ∀ k, pairBits a xs i k ∈ bitsN (3 * k)
  | 0 => by simp [pairBits, bitsN]
  | k + 1 => bits_more (bits_more (bits_more (pairBits_in a xs i k) _) _) _
theorem bits_app : ∀ {k m : Nat} {s t : List UInt8}, s ∈ bitsN k → t ∈ bitsN m → s ++ t ∈ bitsN (k + m)
  | k, 0, s, t, hs, ht => by
    have : t = [] := by simpa [bitsN] using ht
    subst this; simpa using hs
  | k, m + 1, s, t, hs, ht => by
    unfold bitsN at ht
    obtain ⟨u, hu, h2⟩ := List.mem_flatMap.1 ht
    have ih := bits_app hs hu
    have h3 : t = u ++ bitS false ∨ t = u ++ bitS true := by simpa [bitS] using h2
    rcases h3 with rfl | rfl <;> rw [← List.append_assoc] <;> exact bits_more ih _
theorem atom_more (a : St) (xs : List Int) (x : Int) : ∃ s ∈ bitsN (1 + 3 * (xs.length + 1)), atomBits a (xs ++ [x]) = atomBits a xs ++ s := by
  refine ⟨bitS (a.inSet ((xs ++ [x]).getD xs.length 0)) ++ pairBits a (xs ++ [x]) xs.length (xs.length + 1), bits_app (by cases a.inSet ((xs ++ [x]).getD xs.length 0) <;> simp [bitS, bitsN]) (pairBits_in _ _ _ _), ?_⟩
  have key : ∀ k : Nat, k ≤ xs.length → bitsTo a (xs ++ [x]) k = bitsTo a xs k := fun k => by
    have g : ∀ i : Nat, i < xs.length → (xs ++ [x]).getD i 0 = xs.getD i 0 := fun i hi => by rw [List.getD_eq_getElem?_getD, List.getElem?_append_left hi, ← List.getD_eq_getElem?_getD]
    have hp : ∀ i : Nat, i < xs.length → ∀ j : Nat, j ≤ xs.length → pairBits a (xs ++ [x]) i j = pairBits a xs i j := fun i hi j => by
      induction j with
      | zero => intro _; rfl
      | succ j ih => intro hj; unfold pairBits; rw [ih (by omega), g i hi, g j (by omega)]
    induction k with
    | zero => intro _; rfl
    | succ k ih =>
      intro hk
      unfold bitsTo
      rw [ih (by omega), g k (by omega), hp k (by omega) (k + 1) (by omega)]
  unfold atomBits
  rw [List.length_append, List.length_singleton]
  show (bitsTo a (xs ++ [x]) xs.length ++ _) ++ _ = _
  rw [key _ (Nat.le_refl _), List.append_assoc]
theorem cnt_atoms (a : St) (w : Nat) : (dedup ((List.range (a.n.toNat ^ w)).map fun k => atomBits a (pointL a.n.toNat w k))).length = cntQ a 0 w :=
  dedup_reps fun _ _ _ _ => by
    rw [qP_win]
    show sameB _ _ _ _ = true ↔ _
    rw [← atomBits_same (by simp), beq_iff_eq]
theorem flat_len {α β : Type} (l : List α) (m : List β) {γ : Type} (f : α → β → γ) : (l.flatMap fun x => m.map (f x)).length = l.length * m.length := by
  induction l with
  | nil => simp
  | cons x l ih => simp [List.flatMap_cons, ih, Nat.add_mul, Nat.add_comm]
theorem cnt_most (a : St) {w : Nat} (hw : w ≤ 2) : cntQ a 0 (w + 1) ≤ cntQ a 0 w * 1024 := by
  rw [← cnt_atoms a (w + 1), ← cnt_atoms a w]
  have h1 : (bitsN (1 + 3 * (w + 1))).length ≤ 1024 := by
    rw [bitsN_len]
    exact Nat.pow_le_pow_right (by decide) (show 1 + 3 * (w + 1) ≤ 10 by omega)
  refine Nat.le_trans ?_ (Nat.mul_le_mul_left _ h1)
  rw [← flat_len _ _ (fun (p s : List UInt8) => p ++ s)]
  refine nodup_sub (dedup_nodup _) fun t ht => ?_
  obtain ⟨k, hk, e⟩ := List.mem_map.1 (mem_dedup.1 ht)
  have hk' := List.mem_range.1 hk
  obtain ⟨s, hs, e2⟩ := atom_more a (pointL a.n.toNat w (k / a.n.toNat)) ((k % a.n.toNat : Nat) : Int)
  rw [pointL_length] at hs
  refine List.mem_flatMap.2 ⟨atomBits a (pointL a.n.toNat w (k / a.n.toNat)), mem_dedup.2 (List.mem_map.2 ⟨k / a.n.toNat, List.mem_range.2 ?_, rfl⟩), List.mem_map.2 ⟨s, hs, ?_⟩⟩
  · rw [Nat.pow_succ] at hk'
    exact Nat.div_lt_of_lt_mul (by rw [Nat.mul_comm]; exact hk')
  · rw [← e, ← e2]; rfl
end Go.Wk
