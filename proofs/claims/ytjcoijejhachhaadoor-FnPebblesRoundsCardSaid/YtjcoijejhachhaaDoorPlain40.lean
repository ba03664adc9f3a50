/-
  PEBBLE GAMES: levels of numbers; when a turn more tells nothing more. No program in sight.
-/
import Derived.Test.YtjcoijejhachhaaDoorPlain32
import Derived.Test.YtjcoijejhachhaaDoorPlain39
namespace Go.Wk
open Go.RowKit
/-- every new text of the table is some row's -/
def Onto (T0 T : List (List UInt8)) (R : List Int) (k : Nat) : Prop := ∀ m : Nat, T0.length ≤ m → m < T.length → ∃ i : Nat, i < k ∧ R.getD i 0 = (m : Int)
theorem Onto.zero (T : List (List UInt8)) (R : List Int) : Onto T T R 0 := fun m h1 h2 => absurd h1 (by omega)
theorem Onto.step {T0 T T' : List (List UInt8)} {R : List Int} {k m : Nat} {s : List UInt8} (h : Onto T0 T R k) (hd : T' = T ∨ T' = T ++ [s] ∧ m = T.length) (hk : k < R.length) : Onto T0 T' (R.set k (m : Int)) (k + 1) := fun p h1 h2 => by
  have old : ∀ i : Nat, i < k → (R.set k (m : Int)).getD i 0 = R.getD i 0 := fun i hi => by
    rw [List.getD_eq_getElem?_getD, List.getElem?_set_ne (by omega), ← List.getD_eq_getElem?_getD]
  have new : (R.set k (m : Int)).getD k 0 = (m : Int) := by rw [List.getD_eq_getElem?_getD, List.getElem?_set_self hk]; rfl
  rcases hd with e | ⟨e, e2⟩
  · subst e
    obtain ⟨i, hi, h3⟩ := h p h1 h2
    exact ⟨i, by omega, (old i hi).trans h3⟩
  · rw [e, List.length_append, List.length_singleton] at h2
    rcases Nat.lt_or_ge p T.length with h4 | h4
    · obtain ⟨i, hi, h3⟩ := h p h1 h4
      exact ⟨i, by omega, (old i hi).trans h3⟩
    · exact ⟨k, by omega, by rw [new, e2, show p = T.length from by omega]⟩
/-- the numbers of both structures' pebbles after some turns -/
structure LevP (n k : Nat) (a b : St) (Ra Rb : List Int) (K : Nat) : Prop where
  good : GoodP n k a b Ra Rb
  la : Ra.length = (a.n.toNat + 1) ^ k
  lb : Rb.length = (b.n.toNat + 1) ^ k
  sa : ∀ i : Nat, i < Ra.length → 0 ≤ Ra.getD i 0 ∧ Ra.getD i 0 < (K : Int)
  sb : ∀ i : Nat, i < Rb.length → 0 ≤ Rb.getD i 0 ∧ Rb.getD i 0 < (K : Int)
  onto : ∀ m : Nat, m < K → (∃ i : Nat, i < Ra.length ∧ Ra.getD i 0 = (m : Int)) ∨ ∃ i : Nat, i < Rb.length ∧ Rb.getD i 0 = (m : Int)
theorem num_small {T : List (List UInt8)} {text : Nat → List UInt8} {R : List Int} {N : Nat} (h : NumOf T text R N) {i : Nat} (hi : i < R.length) : 0 ≤ R.getD i 0 ∧ R.getD i 0 < (T.length : Int) := by
  obtain ⟨m, e, h2⟩ := h.2 i (by rw [← h.1]; exact hi)
  have := (List.getElem?_eq_some_iff.1 h2).1
  rw [e]; omega
theorem lev_of {n k : Nat} {a b : St} {ta tb : Nat → List UInt8} {T1 T2 : List (List UInt8)} {Ra Rb : List Int} (hp : T1 <+: T2) (ha : NumOf T1 ta Ra ((a.n.toNat + 1) ^ k)) (hb : NumOf T2 tb Rb ((b.n.toNat + 1) ^ k)) (oa : Onto [] T1 Ra ((a.n.toNat + 1) ^ k)) (ob : Onto T1 T2 Rb ((b.n.toNat + 1) ^ k)) (hg : GoodP n k a b Ra Rb) : LevP n k a b Ra Rb T2.length := by
  refine ⟨hg, ha.1, hb.1, fun i hi => num_small (ha.mono hp) hi, fun i hi => num_small hb hi, fun m hm => ?_⟩
  rcases Nat.lt_or_ge m T1.length with h1 | h1
  · obtain ⟨i, h2, h3⟩ := oa m (Nat.zero_le _) h1
    exact .inl ⟨i, by rw [ha.1]; exact h2, h3⟩
  · obtain ⟨i, h2, h3⟩ := ob m h1 hm
    exact .inr ⟨i, by rw [hb.1]; exact h2, h3⟩
theorem lev_zero {k : Nat} {a b : St} {T1 T2 : List (List UInt8)} {Ra Rb : List Int} (hT : T2.Nodup) (hp : T1 <+: T2) (ha : NumOf T1 (text0 a k) Ra ((a.n.toNat + 1) ^ k)) (hb : NumOf T2 (text0 b k) Rb ((b.n.toNat + 1) ^ k)) (oa : Onto [] T1 Ra ((a.n.toNat + 1) ^ k)) (ob : Onto T1 T2 Rb ((b.n.toNat + 1) ^ k)) : LevP 0 k a b Ra Rb T2.length :=
  lev_of hp ha hb oa ob (good_zero hT (ha.mono hp) hb)
theorem LevP.na {n k : Nat} {a b : St} {Ra Rb : List Int} {K : Nat} (h : LevP n k a b Ra Rb K) : NonNeg Ra := fun i => by
  rcases Nat.lt_or_ge i Ra.length with h1 | h1
  · exact (h.sa i h1).1
  · rw [List.getD_eq_getElem?_getD, List.getElem?_eq_none h1]; exact Int.le_refl 0
theorem LevP.nb {n k : Nat} {a b : St} {Ra Rb : List Int} {K : Nat} (h : LevP n k a b Ra Rb K) : NonNeg Rb := fun i => by
  rcases Nat.lt_or_ge i Rb.length with h1 | h1
  · exact (h.sb i h1).1
  · rw [List.getD_eq_getElem?_getD, List.getElem?_eq_none h1]; exact Int.le_refl 0
theorem LevP.ma {n k : Nat} {a b : St} {Ra Rb : List Int} {K : Nat} (h : LevP n k a b Ra Rb K) (hK : K ≤ 1000000) : ∀ i : Nat, 0 ≤ Ra.getD i 0 ∧ Ra.getD i 0 < 1000000 := fun i => by
  rcases Nat.lt_or_ge i Ra.length with h1 | h1
  · have := h.sa i h1; omega
  · rw [List.getD_eq_getElem?_getD, List.getElem?_eq_none h1]; exact ⟨Int.le_refl 0, by decide⟩
theorem LevP.mb {n k : Nat} {a b : St} {Ra Rb : List Int} {K : Nat} (h : LevP n k a b Ra Rb K) (hK : K ≤ 1000000) : ∀ i : Nat, 0 ≤ Rb.getD i 0 ∧ Rb.getD i 0 < 1000000 := fun i => by
  rcases Nat.lt_or_ge i Rb.length with h1 | h1
  · have := h.sb i h1; omega
  · rw [List.getD_eq_getElem?_getD, List.getElem?_eq_none h1]; exact ⟨Int.le_refl 0, by decide⟩
theorem lev_step {n k K : Nat} {a b : St} {T1 T2 : List (List UInt8)} {Ra Rb Ra' Rb' : List Int} (h : LevP n k a b Ra Rb K) (hT : T2.Nodup) (hp : T1 <+: T2) (ha : NumOf T1 (textS a Ra k) Ra' ((a.n.toNat + 1) ^ k)) (hb : NumOf T2 (textS b Rb k) Rb' ((b.n.toNat + 1) ^ k)) (oa : Onto [] T1 Ra' ((a.n.toNat + 1) ^ k)) (ob : Onto T1 T2 Rb' ((b.n.toNat + 1) ^ k)) : LevP (n + 1) k a b Ra' Rb' T2.length :=
  lev_of hp ha hb oa ob (good_step hT h.na h.nb h.good (ha.mono hp) hb)
/-! ### states of either structure -/
def sS (a b : St) (s : Bool × List Int) : St := if s.1 then b else a
def sV (a b : St) (Ra Rb : List Int) (s : Bool × List Int) : Int := numP (sS a b s).n.toNat (if s.1 then Rb else Ra) s.2
def sP (a b : St) (k : Nat) (s : Bool × List Int) : Prop := Peb (sS a b s).n.toNat k s.2
theorem sV_iff {n k : Nat} {a b : St} {Ra Rb : List Int} (h : GoodP n k a b Ra Rb) {s t : Bool × List Int} (hs : sP a b k s) (ht : sP a b k t) : sV a b Ra Rb s = sV a b Ra Rb t ↔ pW n (sS a b s) s.2 (sS a b t) t.2 := by
  obtain ⟨u, xs⟩ := s
  obtain ⟨v, ys⟩ := t
  cases u <;> cases v
  · exact h.aa xs ys hs ht
  · exact h.ab xs ys hs ht
  · have hl : xs.length = ys.length := hs.1.trans ht.1.symm
    exact ⟨fun e => pW_comm _ _ _ _ _ hl.symm ((h.ab ys xs ht hs).1 e.symm), fun e => ((h.ab ys xs ht hs).2 (pW_comm _ _ _ _ _ hl e)).symm⟩
  · exact h.bb xs ys hs ht
theorem lev_rep {n k K : Nat} {a b : St} {Ra Rb : List Int} (h : LevP n k a b Ra Rb K) {m : Nat} (hm : m < K) : ∃ s, sP a b k s ∧ sV a b Ra Rb s = (m : Int) := by
  rcases h.onto m hm with ⟨i, h1, h2⟩ | ⟨i, h1, h2⟩
  · refine ⟨(false, atP a.n.toNat k i), atP_peb _ _ _, ?_⟩
    show numP a.n.toNat Ra (atP a.n.toNat k i) = _
    rw [num_at (by rw [← h.la]; exact h1)]; exact h2
  · refine ⟨(true, atP b.n.toNat k i), atP_peb _ _ _, ?_⟩
    show numP b.n.toNat Rb (atP b.n.toNat k i) = _
    rw [num_at (by rw [← h.lb]; exact h1)]; exact h2
theorem lev_sV {n k K : Nat} {a b : St} {Ra Rb : List Int} (h : LevP n k a b Ra Rb K) {s : Bool × List Int} (hs : sP a b k s) : 0 ≤ sV a b Ra Rb s ∧ sV a b Ra Rb s < (K : Int) := by
  obtain ⟨u, xs⟩ := s
  cases u
  · exact h.sa _ (by rw [h.la]; exact idxP_lt hs)
  · exact h.sb _ (by rw [h.lb]; exact idxP_lt hs)
/-- representatives of the first numbers -/
theorem lev_reps {n k K : Nat} {a b : St} {Ra Rb : List Int} (h : LevP n k a b Ra Rb K) : ∀ m : Nat, m ≤ K → ∃ L : List (Bool × List Int), L.length = m ∧ (∀ s ∈ L, sP a b k s) ∧ L.map (sV a b Ra Rb) = (List.range m).map fun i : Nat => (i : Int)
  | 0, _ => ⟨[], rfl, (fun s h => by cases h), rfl⟩
  | m + 1, hm => by
    obtain ⟨L, h1, h2, h3⟩ := lev_reps h m (by omega)
    obtain ⟨s, h4, h5⟩ := lev_rep h (m := m) (by omega)
    refine ⟨L ++ [s], by simp [h1], fun t ht => ?_, by rw [List.map_append, h3, List.range_succ, List.map_append]; simp [h5]⟩
    rcases List.mem_append.1 ht with h | h
    · exact h2 t h
    · rw [List.mem_singleton.1 h]; exact h4
theorem lev_fine {n k K K' : Nat} {a b : St} {Ra Rb Ra' Rb' : List Int} (h : LevP n k a b Ra Rb K) (h' : LevP (n + 1) k a b Ra' Rb' K') {s t : Bool × List Int} (hs : sP a b k s) (ht : sP a b k t) (e : sV a b Ra' Rb' s = sV a b Ra' Rb' t) : sV a b Ra Rb s = sV a b Ra Rb t :=
  (sV_iff h.good hs ht).2 ((sV_iff h'.good hs ht).1 e).1
theorem reps_nodup' {n k K K' : Nat} {a b : St} {Ra Rb Ra' Rb' : List Int} (h : LevP n k a b Ra Rb K) (h' : LevP (n + 1) k a b Ra' Rb' K') {L : List (Bool × List Int)} {m : Nat} (h2 : ∀ s ∈ L, sP a b k s) (h3 : L.map (sV a b Ra Rb) = (List.range m).map fun i : Nat => (i : Int)) : (L.map (sV a b Ra' Rb')).Nodup := by
  have hn : (L.map (sV a b Ra Rb)).Nodup := by
    rw [h3]; exact nodup_map_inj (fun x _ y _ e => Int.ofNat.inj e) List.nodup_range
  clear h3
  induction L with
  | nil => exact List.nodup_nil
  | cons s L ih =>
    rw [List.map_cons, List.nodup_cons] at hn ⊢
    refine ⟨fun hm => hn.1 ?_, ih (fun t ht => h2 t (List.mem_cons_of_mem _ ht)) hn.2⟩
    obtain ⟨t, ht, e⟩ := List.mem_map.1 hm
    exact List.mem_map.2 ⟨t, ht, lev_fine h h' (h2 t (List.mem_cons_of_mem _ ht)) (h2 s List.mem_cons_self) e⟩
theorem lev_le {n k K K' : Nat} {a b : St} {Ra Rb Ra' Rb' : List Int} (h : LevP n k a b Ra Rb K) (h' : LevP (n + 1) k a b Ra' Rb' K') : K ≤ K' := by
  obtain ⟨L, h1, h2, h3⟩ := lev_reps h K (Nat.le_refl _)
  have := nodup_le K' (L.map (sV a b Ra' Rb')) (reps_nodup' h h' h2 h3) fun x hx => by
    obtain ⟨s, hs, rfl⟩ := List.mem_map.1 hx
    exact lev_sV h' (h2 s hs)
  rw [List.length_map, h1] at this
  exact this
theorem lev_still {n k K : Nat} {a b : St} {Ra Rb Ra' Rb' : List Int} (h : LevP n k a b Ra Rb K) (h' : LevP (n + 1) k a b Ra' Rb' K) {s t : Bool × List Int} (hs : sP a b k s) (ht : sP a b k t) (e : sV a b Ra Rb s = sV a b Ra Rb t) : sV a b Ra' Rb' s = sV a b Ra' Rb' t := by
  obtain ⟨L, h1, h2, h3⟩ := lev_reps h K (Nat.le_refl _)
  have hn := reps_nodup' h h' h2 h3
  obtain ⟨hz, hK⟩ := lev_sV h hs
  obtain ⟨r, hr, er⟩ : ∃ r ∈ L, sV a b Ra Rb r = sV a b Ra Rb s := by
    have hm : sV a b Ra Rb s ∈ L.map (sV a b Ra Rb) := by
      rw [h3]; exact List.mem_map.2 ⟨(sV a b Ra Rb s).toNat, List.mem_range.2 (by omega), by omega⟩
    exact List.mem_map.1 hm
  have key : ∀ u, sP a b k u → sV a b Ra Rb u = sV a b Ra Rb s → sV a b Ra' Rb' u = sV a b Ra' Rb' r := fun u hu eu => by
    by_cases hc : sV a b Ra' Rb' u ∈ L.map (sV a b Ra' Rb')
    · obtain ⟨v, hv, ev⟩ := List.mem_map.1 hc
      have e1 := lev_fine h h' (h2 v hv) hu ev
      have e2 : sV a b Ra Rb v = sV a b Ra Rb r := e1.trans (eu.trans er.symm)
      have inj : ∀ {L : List (Bool × List Int)}, (L.map (sV a b Ra Rb)).Nodup → ∀ v ∈ L, ∀ r ∈ L, sV a b Ra Rb v = sV a b Ra Rb r → v = r := fun {L} hL => by
        induction L with
        | nil => intro v hv; cases hv
        | cons x L ih =>
          rw [List.map_cons, List.nodup_cons] at hL
          intro v hv r hr e
          rcases List.mem_cons.1 hv with e1 | hv'
          · rcases List.mem_cons.1 hr with e2 | hr'
            · rw [e1, e2]
            · exact absurd (List.mem_map.2 ⟨r, hr', by rw [← e, e1]⟩) hL.1
          · rcases List.mem_cons.1 hr with e2 | hr'
            · exact absurd (List.mem_map.2 ⟨v, hv', by rw [e, e2]⟩) hL.1
            · exact ih hL.2 v hv' r hr' e
      have hn2 : (L.map (sV a b Ra Rb)).Nodup := by
        rw [h3]; exact nodup_map_inj (fun x _ y _ e => Int.ofNat.inj e) List.nodup_range
      rw [← inj hn2 v hv r hr e2]; exact ev.symm
    · exfalso
      have := nodup_le K (sV a b Ra' Rb' u :: L.map (sV a b Ra' Rb')) (List.nodup_cons.2 ⟨hc, hn⟩) fun x hx => by
        rcases List.mem_cons.1 hx with rfl | hx
        · exact lev_sV h' hu
        · obtain ⟨s, hs, rfl⟩ := List.mem_map.1 hx
          exact lev_sV h' (h2 s hs)
      rw [List.length_cons, List.length_map, h1] at this
      omega
  exact (key s hs rfl).trans (key t ht e.symm).symm
/-! ### forever -/
def pF (a : St) (xs : List Int) (b : St) (ys : List Int) : Prop := ∀ n, pW n a xs b ys
def Still (n k : Nat) (a b : St) : Prop := ∀ s t, sP a b k s → sP a b k t → pW n (sS a b s) s.2 (sS a b t) t.2 → pW (n + 1) (sS a b s) s.2 (sS a b t) t.2
theorem still_of {n k K : Nat} {a b : St} {Ra Rb Ra' Rb' : List Int} (h : LevP n k a b Ra Rb K) (h' : LevP (n + 1) k a b Ra' Rb' K) : Still n k a b := fun _ _ hs ht e =>
  (sV_iff h'.good hs ht).1 (lev_still h h' hs ht ((sV_iff h.good hs ht).2 e))
theorem Still.next {n k : Nat} {a b : St} (h : Still n k a b) : Still (n + 1) k a b := fun s t hs ht e => by
  refine ⟨e, fun i hi => ?_⟩
  obtain ⟨h1, h2⟩ := e.2 i hi
  have put : ∀ {u : Bool × List Int} {x : Nat}, sP a b k u → x < (sS a b u).n.toNat → sP a b k (u.1, u.2.set i (x : Int)) := fun hu hx => peb_set hu hx
  refine ⟨fun x hx => ?_, fun y hy => ?_⟩
  · obtain ⟨y, hy, e2⟩ := h1 x hx
    exact ⟨y, hy, h (s.1, s.2.set i (x : Int)) (t.1, t.2.set i (y : Int)) (put hs hx) (put ht hy) e2⟩
  · obtain ⟨x, hx, e2⟩ := h2 y hy
    exact ⟨x, hx, h (s.1, s.2.set i (x : Int)) (t.1, t.2.set i (y : Int)) (put hs hx) (put ht hy) e2⟩
theorem Still.all {n k : Nat} {a b : St} (h : Still n k a b) : ∀ m : Nat, Still (n + m) k a b
  | 0 => h
  | m + 1 => (h.all m).next
theorem pW_less : ∀ {n : Nat} {a : St} {xs : List Int} {b : St} {ys : List Int}, ∀ m : Nat, pW (n + m) a xs b ys → pW n a xs b ys
  | _, _, _, _, _, 0, h => h
  | _, _, _, _, _, m + 1, h => pW_less m (show pW (_ + m) _ _ _ _ from h.1)
theorem Still.up {n k : Nat} {a b : St} (h : Still n k a b) {s t : Bool × List Int} (hs : sP a b k s) (ht : sP a b k t) (e : pW n (sS a b s) s.2 (sS a b t) t.2) : ∀ m : Nat, pW (n + m) (sS a b s) s.2 (sS a b t) t.2
  | 0 => e
  | m + 1 => h.all m s t hs ht (h.up hs ht e m)
theorem Still.forever {n k : Nat} {a b : St} (h : Still n k a b) {xs ys : List Int} (hx : Peb a.n.toNat k xs) (hy : Peb b.n.toNat k ys) : pW n a xs b ys ↔ pF a xs b ys := by
  refine ⟨fun e m => ?_, fun e => e n⟩
  have hh := h.up (s := (false, xs)) (t := (true, ys)) hx hy e m
  rw [Nat.add_comm] at hh
  exact pW_less n hh
/-! ### kinds -/
def kindsP (L : List Int) : Int := L.foldl (fun n x => max n (x + 1)) 0
theorem kinds_take {L : List Int} {k : Nat} (h : k < L.length) : kindsP (L.take (k + 1)) = max (kindsP (L.take k)) (L.getD k 0 + 1) := by
  unfold kindsP
  rw [List.take_succ_eq_append_getElem h, List.foldl_append, getD_at h]; rfl
theorem kinds_ge {L : List Int} {K : Int} (h : ∀ x ∈ L, x < K) (h0 : 0 ≤ K) : kindsP L ≤ K ∧ (∀ x ∈ L, x < kindsP L) := by
  have key : ∀ (L : List Int) (c : Int), c ≤ K → (∀ x ∈ L, x < K) → L.foldl (fun n x => max n (x + 1)) c ≤ K ∧ c ≤ L.foldl (fun n x => max n (x + 1)) c ∧ ∀ x ∈ L, x < L.foldl (fun n x => max n (x + 1)) c := fun L => by
    induction L with
    | nil => intro c hc _; exact ⟨hc, Int.le_refl _, fun x hx => by cases hx⟩
    | cons y L ih =>
      intro c hc hL
      have hy := hL y List.mem_cons_self
      obtain ⟨h1, h2, h3⟩ := ih (max c (y + 1)) (by omega) fun x hx => hL x (List.mem_cons_of_mem _ hx)
      rw [List.foldl_cons]
      refine ⟨h1, by omega, fun x hx => ?_⟩
      rcases List.mem_cons.1 hx with rfl | hx
      · omega
      · exact h3 x hx
  obtain ⟨h1, _, h3⟩ := key L 0 h0 h
  exact ⟨h1, h3⟩
theorem kinds_lev {n k K : Nat} {a b : St} {Ra Rb : List Int} (h : LevP n k a b Ra Rb K) : kindsP (Ra ++ Rb) = (K : Int) := by
  have hs : ∀ x ∈ Ra ++ Rb, x < (K : Int) := fun x hx => by
    rcases List.mem_append.1 hx with hx | hx
    · obtain ⟨i, hi, rfl⟩ := List.mem_iff_getElem.1 hx
      have := (h.sa i hi).2
      rwa [getD_at hi] at this
    · obtain ⟨i, hi, rfl⟩ := List.mem_iff_getElem.1 hx
      have := (h.sb i hi).2
      rwa [getD_at hi] at this
  obtain ⟨h1, h2⟩ := kinds_ge hs (by omega)
  cases K with
  | zero =>
    have hlt : 0 < Ra.length := by rw [h.la]; exact Nat.pow_pos (by omega)
    have := h.sa 0 hlt
    omega
  | succ K =>
    have : ((K : Nat) : Int) ∈ Ra ++ Rb := by
      rcases h.onto K (by omega) with ⟨i, hi, e⟩ | ⟨i, hi, e⟩
      · rw [← e, getD_at hi]; exact List.mem_append_left _ (List.getElem_mem _)
      · rw [← e, getD_at hi]; exact List.mem_append_right _ (List.getElem_mem _)
    have := h2 _ this
    omega
end Go.Wk
