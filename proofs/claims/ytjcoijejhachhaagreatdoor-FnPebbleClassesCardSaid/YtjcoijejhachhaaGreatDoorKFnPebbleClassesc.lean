/-
  FnPebbleClasses: all that its proof names (part 3)
-/
import Derived.Test.YtjcoijejhachhaaGreatDoorKFnPebbleClassesb
import Derived.Shelf.Strings.SlTrimAscii
import Derived.Shelf.Strings.Trim
import Derived.Test.YtjcoijejhachhaaGreatDoorProg
import Derived.Test.YtjcoijejhachhaaGreatDoorKFnPebbleClassesa
namespace Go.Wk
open Go.RowKit
/-- every new text of the table is some row's -/
def Onto (T0 T : List (List UInt8)) (R : List Int) (k : Nat) : Prop := ∀ m : Nat, T0.length ≤ m → m < T.length → ∃ i : Nat, i < k ∧ R.getD i 0 = (m : Int)
theorem Onto.zero (T : List (List UInt8)) (R : List Int) : Onto T T R 0 := fun m h1 h2 => absurd h1 (by omega)
theorem Onto.step {T0 T T' : List (List UInt8)} {R : List Int} {k m : Nat} {s : List UInt8} (h : Onto T0 T R k) (hd : T' = T ∨ T' = T ++ [s] ∧ m = T.length) (hk : k < R.length) : Onto T0 T' (R.set k (m : Int)) (k + 1) := fun p h1 h2 => by
  have old : ∀ i : Nat, i < k → (R.set k (m : Int)).getD i 0 = R.getD i 0 := fun i hi => by
    rw [List.getD_eq_getElem?_getD, List.getElem?_set_ne (by omega), ← List.getD_eq_getElem?_getD]
  have new : (R.set k (m : Int)).getD k 0 = (m : Int) := by rw [List.getD_eq_getElem?_getD, List.getElem?_set_self hk]; rfl
  rcases hd with e | ⟨e, e2⟩
  · subst e
    obtain ⟨i, hi, h3⟩ := h p h1 h2
    exact ⟨i, by omega, (old i hi).trans h3⟩
  · rw [e, List.length_append, List.length_singleton] at h2
    rcases Nat.lt_or_ge p T.length with h4 | h4
    · obtain ⟨i, hi, h3⟩ := h p h1 h4
      exact ⟨i, by omega, (old i hi).trans h3⟩
    · exact ⟨k, by omega, by rw [new, e2, show p = T.length from by omega]⟩
/-- the numbers of both structures' pebbles after some turns -/
structure LevP (n k : Nat) (a b : St) (Ra Rb : List Int) (K : Nat) : Prop where
  good : GoodP n k a b Ra Rb
  la : Ra.length = (a.n.toNat + 1) ^ k
  lb : Rb.length = (b.n.toNat + 1) ^ k
  sa : ∀ i : Nat, i < Ra.length → 0 ≤ Ra.getD i 0 ∧ Ra.getD i 0 < (K : Int)
  sb : ∀ i : Nat, i < Rb.length → 0 ≤ Rb.getD i 0 ∧ Rb.getD i 0 < (K : Int)
  onto : ∀ m : Nat, m < K → (∃ i : Nat, i < Ra.length ∧ Ra.getD i 0 = (m : Int)) ∨ ∃ i : Nat, i < Rb.length ∧ Rb.getD i 0 = (m : Int)
theorem num_small {T : List (List UInt8)} {text : Nat → List UInt8} {R : List Int} {N : Nat} (h : NumOf T text R N) {i : Nat} (hi : i < R.length) : 0 ≤ R.getD i 0 ∧ R.getD i 0 < (T.length : Int) := by
  obtain ⟨m, e, h2⟩ := h.2 i (by rw [← h.1]; exact hi)
  have := (List.getElem?_eq_some_iff.1 h2).1
  rw [e]; omega
theorem lev_of {n k : Nat} {a b : St} {ta tb : Nat → List UInt8} {T1 T2 : List (List UInt8)} {Ra Rb : List Int} (hp : T1 <+: T2) (ha : NumOf T1 ta Ra ((a.n.toNat + 1) ^ k)) (hb : NumOf T2 tb Rb ((b.n.toNat + 1) ^ k)) (oa : Onto [] T1 Ra ((a.n.toNat + 1) ^ k)) (ob : Onto T1 T2 Rb ((b.n.toNat + 1) ^ k)) (hg : GoodP n k a b Ra Rb) : LevP n k a b Ra Rb T2.length := by
  refine ⟨hg, ha.1, hb.1, fun i hi => num_small (ha.mono hp) hi, fun i hi => num_small hb hi, fun m hm => ?_⟩
  rcases Nat.lt_or_ge m T1.length with h1 | h1
  · obtain ⟨i, h2, h3⟩ := oa m (Nat.zero_le _) h1
    exact .inl ⟨i, by rw [ha.1]; exact h2, h3⟩
  · obtain ⟨i, h2, h3⟩ := ob m h1 hm
    exact .inr ⟨i, by rw [hb.1]; exact h2, h3⟩
theorem lev_zero {k : Nat} {a b : St} {T1 T2 : List (List UInt8)} {Ra Rb : List Int} (hT : T2.Nodup) (hp : T1 <+: T2) (ha : NumOf T1 (text0 a k) Ra ((a.n.toNat + 1) ^ k)) (hb : NumOf T2 (text0 b k) Rb ((b.n.toNat + 1) ^ k)) (oa : Onto [] T1 Ra ((a.n.toNat + 1) ^ k)) (ob : Onto T1 T2 Rb ((b.n.toNat + 1) ^ k)) : LevP 0 k a b Ra Rb T2.length :=
  lev_of hp ha hb oa ob (good_zero hT (ha.mono hp) hb)
theorem LevP.na {n k : Nat} {a b : St} {Ra Rb : List Int} {K : Nat} (h : LevP n k a b Ra Rb K) : NonNeg Ra := fun i => by
  rcases Nat.lt_or_ge i Ra.length with h1 | h1
  · exact (h.sa i h1).1
  · rw [List.getD_eq_getElem?_getD, List.getElem?_eq_none h1]; exact Int.le_refl 0
theorem LevP.nb {n k : Nat} {a b : St} {Ra Rb : List Int} {K : Nat} (h : LevP n k a b Ra Rb K) : NonNeg Rb := fun i => by
  rcases Nat.lt_or_ge i Rb.length with h1 | h1
  · exact (h.sb i h1).1
  · rw [List.getD_eq_getElem?_getD, List.getElem?_eq_none h1]; exact Int.le_refl 0
theorem LevP.ma {n k : Nat} {a b : St} {Ra Rb : List Int} {K : Nat} (h : LevP n k a b Ra Rb K) (hK : K ≤ 1000000) : ∀ i : Nat, 0 ≤ Ra.getD i 0 ∧ Ra.getD i 0 < 1000000 := fun i => by
  rcases Nat.lt_or_ge i Ra.length with h1 | h1
  · have := h.sa i h1; omega
  · rw [List.getD_eq_getElem?_getD, List.getElem?_eq_none h1]; exact ⟨Int.le_refl 0, by decide⟩
theorem LevP.mb {n k : Nat} {a b : St} {Ra Rb : List Int} {K : Nat} (h : LevP n k a b Ra Rb K) (hK : K ≤ 1000000) : ∀ i : Nat, 0 ≤ Rb.getD i 0 ∧ Rb.getD i 0 < 1000000 := fun i => by
  rcases Nat.lt_or_ge i Rb.length with h1 | h1
  · have := h.sb i h1; omega
  · rw [List.getD_eq_getElem?_getD, List.getElem?_eq_none h1]; exact ⟨Int.le_refl 0, by decide⟩
theorem lev_step {n k K : Nat} {a b : St} {T1 T2 : List (List UInt8)} {Ra Rb Ra' Rb' : List Int} (h : LevP n k a b Ra Rb K) (hT : T2.Nodup) (hp : T1 <+: T2) (ha : NumOf T1 (textS a Ra k) Ra' ((a.n.toNat + 1) ^ k)) (hb : NumOf T2 (textS b Rb k) Rb' ((b.n.toNat + 1) ^ k)) (oa : Onto [] T1 Ra' ((a.n.toNat + 1) ^ k)) (ob : Onto T1 T2 Rb' ((b.n.toNat + 1) ^ k)) : LevP (n + 1) k a b Ra' Rb' T2.length :=
  lev_of hp ha hb oa ob (good_step hT h.na h.nb h.good (ha.mono hp) hb)
def sS (a b : St) (s : Bool × List Int) : St := if s.1 then b else a
def sV (a b : St) (Ra Rb : List Int) (s : Bool × List Int) : Int := numP (sS a b s).n.toNat (if s.1 then Rb else Ra) s.2
def sP (a b : St) (k : Nat) (s : Bool × List Int) : Prop := Peb (sS a b s).n.toNat k s.2
theorem sV_iff {n k : Nat} {a b : St} {Ra Rb : List Int} (h : GoodP n k a b Ra Rb) {s t : Bool × List Int} (hs : sP a b k s) (ht : sP a b k t) : sV a b Ra Rb s = sV a b Ra Rb t ↔ pW n (sS a b s) s.2 (sS a b t) t.2 := by
  obtain ⟨u, xs⟩ := s
  obtain ⟨v, ys⟩ := t
  cases u <;> cases v
  · exact h.aa xs ys hs ht
  · exact h.ab xs ys hs ht
  · have hl : xs.length = ys.length := hs.1.trans ht.1.symm
    exact ⟨fun e => pW_comm _ _ _ _ _ hl.symm ((h.ab ys xs ht hs).1 e.symm), fun e => ((h.ab ys xs ht hs).2 (pW_comm _ _ _ _ _ hl e)).symm⟩
  · exact h.bb xs ys hs ht
theorem lev_rep {n k K : Nat} {a b : St} {Ra Rb : List Int} (h : LevP n k a b Ra Rb K) {m : Nat} (hm : m < K) : ∃ s, sP a b k s ∧ sV a b Ra Rb s = (m : Int) := by
  rcases h.onto m hm with ⟨i, h1, h2⟩ | ⟨i, h1, h2⟩
  · refine ⟨(false, atP a.n.toNat k i), atP_peb _ _ _, ?_⟩
    show numP a.n.toNat Ra (atP a.n.toNat k i) = _
    rw [num_at (by rw [← h.la]; exact h1)]; exact h2
  · refine ⟨(true, atP b.n.toNat k i), atP_peb _ _ _, ?_⟩
    show numP b.n.toNat Rb (atP b.n.toNat k i) = _
    rw [num_at (by rw [← h.lb]; exact h1)]; exact h2
theorem lev_sV {n k K : Nat} {a b : St} {Ra Rb : List Int} (h : LevP n k a b Ra Rb K) {s : Bool × List Int} (hs : sP a b k s) : 0 ≤ sV a b Ra Rb s ∧ sV a b Ra Rb s < (K : Int) := by
  obtain ⟨u, xs⟩ := s
  cases u
  · exact h.sa _ (by rw [h.la]; exact idxP_lt hs)
  · exact h.sb _ (by rw [h.lb]; exact idxP_lt hs)
/-- representatives of the first numbers -/
theorem lev_reps {n k K : Nat} {a b : St} {Ra Rb : List Int} (h : LevP n k a b Ra Rb K) : ∀ m : Nat, m ≤ K → ∃ L : List (Bool × List Int), L.length = m ∧ (∀ s ∈ L, sP a b k s) ∧ L.map (sV a b Ra Rb) = (List.range m).map fun i : Nat => (i : Int)
  | 0, _ => ⟨[], rfl, (fun s h => by cases h), rfl⟩
  | m + 1, hm => by
    obtain ⟨L, h1, h2, h3⟩ := lev_reps h m (by omega)
    obtain ⟨s, h4, h5⟩ := lev_rep h (m := m) (by omega)
    refine ⟨L ++ [s], by simp [h1], fun t ht => ?_, by rw [List.map_append, h3, List.range_succ, List.map_append]; simp [h5]⟩
    rcases List.mem_append.1 ht with h | h
    · exact h2 t h
    · rw [List.mem_singleton.1 h]; exact h4
theorem lev_fine {n k K K' : Nat} {a b : St} {Ra Rb Ra' Rb' : List Int} (h : LevP n k a b Ra Rb K) (h' : LevP (n + 1) k a b Ra' Rb' K') {s t : Bool × List Int} (hs : sP a b k s) (ht : sP a b k t) (e : sV a b Ra' Rb' s = sV a b Ra' Rb' t) : sV a b Ra Rb s = sV a b Ra Rb t :=
  (sV_iff h.good hs ht).2 ((sV_iff h'.good hs ht).1 e).1
theorem reps_nodup' {n k K K' : Nat} {a b : St} {Ra Rb Ra' Rb' : List Int} (h : LevP n k a b Ra Rb K) (h' : LevP (n + 1) k a b Ra' Rb' K') {L : List (Bool × List Int)} {m : Nat} (h2 : ∀ s ∈ L, sP a b k s) (h3 : L.map (sV a b Ra Rb) = (List.range m).map fun i : Nat => (i : Int)) : (L.map (sV a b Ra' Rb')).Nodup := by
  have hn : (L.map (sV a b Ra Rb)).Nodup := by
    rw [h3]; exact nodup_map_inj (fun x _ y _ e => Int.ofNat.inj e) List.nodup_range
  clear h3
  induction L with
  | nil => exact List.nodup_nil
  | cons s L ih =>
    rw [List.map_cons, List.nodup_cons] at hn ⊢
    refine ⟨fun hm => hn.1 ?_, ih (fun t ht => h2 t (List.mem_cons_of_mem _ ht)) hn.2⟩
    obtain ⟨t, ht, e⟩ := List.mem_map.1 hm
    exact List.mem_map.2 ⟨t, ht, lev_fine h h' (h2 t (List.mem_cons_of_mem _ ht)) (h2 s List.mem_cons_self) e⟩
theorem lev_le {n k K K' : Nat} {a b : St} {Ra Rb Ra' Rb' : List Int} (h : LevP n k a b Ra Rb K) (h' : LevP (n + 1) k a b Ra' Rb' K') : K ≤ K' := by
  obtain ⟨L, h1, h2, h3⟩ := lev_reps h K (Nat.le_refl _)
  have := nodup_le K' (L.map (sV a b Ra' Rb')) (reps_nodup' h h' h2 h3) fun x hx => by
    obtain ⟨s, hs, rfl⟩ := List.mem_map.1 hx
    exact lev_sV h' (h2 s hs)
  rw [List.length_map, h1] at this
  exact this
theorem lev_still {n k K : Nat} {a b : St} {Ra Rb Ra' Rb' : List Int} (h : LevP n k a b Ra Rb K) (h' : LevP (n + 1) k a b Ra' Rb' K) {s t : Bool × List Int} (hs : sP a b k s) (ht : sP a b k t) (e : sV a b Ra Rb s = sV a b Ra Rb t) : sV a b Ra' Rb' s = sV a b Ra' Rb' t := by
  obtain ⟨L, h1, h2, h3⟩ := lev_reps h K (Nat.le_refl _)
  have hn := reps_nodup' h h' h2 h3
  obtain ⟨hz, hK⟩ := lev_sV h hs
  obtain ⟨r, hr, er⟩ : ∃ r ∈ L, sV a b Ra Rb r = sV a b Ra Rb s := by
    have hm : sV a b Ra Rb s ∈ L.map (sV a b Ra Rb) := by
      rw [h3]; exact List.mem_map.2 ⟨(sV a b Ra Rb s).toNat, List.mem_range.2 (by omega), by omega⟩
    exact List.mem_map.1 hm
  have key : ∀ u, sP a b k u → sV a b Ra Rb u = sV a b Ra Rb s → sV a b Ra' Rb' u = sV a b Ra' Rb' r := fun u hu eu => by
    by_cases hc : sV a b Ra' Rb' u ∈ L.map (sV a b Ra' Rb')
    · obtain ⟨v, hv, ev⟩ := List.mem_map.1 hc
      have e1 := lev_fine h h' (h2 v hv) hu ev
      have e2 : sV a b Ra Rb v = sV a b Ra Rb r := e1.trans (eu.trans er.symm)
      have inj : ∀ {L : List (Bool × List Int)}, (L.map (sV a b Ra Rb)).Nodup → ∀ v ∈ L, ∀ r ∈ L, sV a b Ra Rb v = sV a b Ra Rb r → v = r := fun {L} hL => by
        induction L with
        | nil => intro v hv; cases hv
        | cons x L ih =>
          rw [List.map_cons, List.nodup_cons] at hL
          intro v hv r hr e
          rcases List.mem_cons.1 hv with e1 | hv'
          · rcases List.mem_cons.1 hr with e2 | hr'
            · rw [e1, e2]
            · exact absurd (List.mem_map.2 ⟨r, hr', by rw [← e, e1]⟩) hL.1
          · rcases List.mem_cons.1 hr with e2 | hr'
            · exact absurd (List.mem_map.2 ⟨v, hv', by rw [e, e2]⟩) hL.1
            · exact ih hL.2 v hv' r hr' e
      have hn2 : (L.map (sV a b Ra Rb)).Nodup := by
        rw [h3]; exact nodup_map_inj (fun x _ y _ e => Int.ofNat.inj e) List.nodup_range
      rw [← inj hn2 v hv r hr e2]; exact ev.symm
    · exfalso
      have := nodup_le K (sV a b Ra' Rb' u :: L.map (sV a b Ra' Rb')) (List.nodup_cons.2 ⟨hc, hn⟩) fun x hx => by
        rcases List.mem_cons.1 hx with rfl | hx
        · exact lev_sV h' hu
        · obtain ⟨s, hs, rfl⟩ := List.mem_map.1 hx
          exact lev_sV h' (h2 s hs)
      rw [List.length_cons, List.length_map, h1] at this
      omega
  exact (key s hs rfl).trans (key t ht e.symm).symm
def pF (a : St) (xs : List Int) (b : St) (ys : List Int) : Prop := ∀ n, pW n a xs b ys
def Still (n k : Nat) (a b : St) : Prop := ∀ s t, sP a b k s → sP a b k t → pW n (sS a b s) s.2 (sS a b t) t.2 → pW (n + 1) (sS a b s) s.2 (sS a b t) t.2
theorem still_of {n k K : Nat} {a b : St} {Ra Rb Ra' Rb' : List Int} (h : LevP n k a b Ra Rb K) (h' : LevP (n + 1) k a b Ra' Rb' K) : Still n k a b := fun _ _ hs ht e =>
  (sV_iff h'.good hs ht).1 (lev_still h h' hs ht ((sV_iff h.good hs ht).2 e))
theorem Still.next {n k : Nat} {a b : St} (h : Still n k a b) : Still (n + 1) k a b := fun s t hs ht e => by
  refine ⟨e, fun i hi => ?_⟩
  obtain ⟨h1, h2⟩ := e.2 i hi
  have put : ∀ {u : Bool × List Int} {x : Nat}, sP a b k u → x < (sS a b u).n.toNat → sP a b k (u.1, u.2.set i (x : Int)) := fun hu hx => peb_set hu hx
  refine ⟨fun x hx => ?_, fun y hy => ?_⟩
  · obtain ⟨y, hy, e2⟩ := h1 x hx
    exact ⟨y, hy, h (s.1, s.2.set i (x : Int)) (t.1, t.2.set i (y : Int)) (put hs hx) (put ht hy) e2⟩
  · obtain ⟨x, hx, e2⟩ := h2 y hy
    exact ⟨x, hx, h (s.1, s.2.set i (x : Int)) (t.1, t.2.set i (y : Int)) (put hs hx) (put ht hy) e2⟩
theorem Still.all {n k : Nat} {a b : St} (h : Still n k a b) : ∀ m : Nat, Still (n + m) k a b
  | 0 => h
  | m + 1 => (h.all m).next
theorem pW_less : ∀ {n : Nat} {a : St} {xs : List Int} {b : St} {ys : List Int}, ∀ m : Nat, pW (n + m) a xs b ys → pW n a xs b ys
  | _, _, _, _, _, 0, h => h
  | _, _, _, _, _, m + 1, h => pW_less m (show pW (_ + m) _ _ _ _ from h.1)
theorem Still.up {n k : Nat} {a b : St} (h : Still n k a b) {s t : Bool × List Int} (hs : sP a b k s) (ht : sP a b k t) (e : pW n (sS a b s) s.2 (sS a b t) t.2) : ∀ m : Nat, pW (n + m) (sS a b s) s.2 (sS a b t) t.2
  | 0 => e
  | m + 1 => h.all m s t hs ht (h.up hs ht e m)
theorem Still.forever {n k : Nat} {a b : St} (h : Still n k a b) {xs ys : List Int} (hx : Peb a.n.toNat k xs) (hy : Peb b.n.toNat k ys) : pW n a xs b ys ↔ pF a xs b ys := by
  refine ⟨fun e m => ?_, fun e => e n⟩
  have hh := h.up (s := (false, xs)) (t := (true, ys)) hx hy e m
  rw [Nat.add_comm] at hh
  exact pW_less n hh
def kindsP (L : List Int) : Int := L.foldl (fun n x => max n (x + 1)) 0
theorem kinds_take {L : List Int} {k : Nat} (h : k < L.length) : kindsP (L.take (k + 1)) = max (kindsP (L.take k)) (L.getD k 0 + 1) := by
  unfold kindsP
  rw [List.take_succ_eq_append_getElem h, List.foldl_append, getD_at h]; rfl
theorem kinds_ge {L : List Int} {K : Int} (h : ∀ x ∈ L, x < K) (h0 : 0 ≤ K) : kindsP L ≤ K ∧ (∀ x ∈ L, x < kindsP L) := by
  have key : ∀ (L : List Int) (c : Int), c ≤ K → (∀ x ∈ L, x < K) → L.foldl (fun n x => max n (x + 1)) c ≤ K ∧ c ≤ L.foldl (fun n x => max n (x + 1)) c ∧ ∀ x ∈ L, x < L.foldl (fun n x => max n (x + 1)) c := fun L => by
    induction L with
    | nil => intro c hc _; exact ⟨hc, Int.le_refl _, fun x hx => by cases hx⟩
    | cons y L ih =>
      intro c hc hL
      have hy := hL y List.mem_cons_self
      obtain ⟨h1, h2, h3⟩ := ih (max c (y + 1)) (by omega) fun x hx => hL x (List.mem_cons_of_mem _ hx)
      rw [List.foldl_cons]
      refine ⟨h1, by omega, fun x hx => ?_⟩
      rcases List.mem_cons.1 hx with rfl | hx
      · omega
      · exact h3 x hx
  obtain ⟨h1, _, h3⟩ := key L 0 h0 h
  exact ⟨h1, h3⟩
theorem kinds_lev {n k K : Nat} {a b : St} {Ra Rb : List Int} (h : LevP n k a b Ra Rb K) : kindsP (Ra ++ Rb) = (K : Int) := by
  have hs : ∀ x ∈ Ra ++ Rb, x < (K : Int) := fun x hx => by
    rcases List.mem_append.1 hx with hx | hx
    · obtain ⟨i, hi, rfl⟩ := List.mem_iff_getElem.1 hx
      have := (h.sa i hi).2
      rwa [getD_at hi] at this
    · obtain ⟨i, hi, rfl⟩ := List.mem_iff_getElem.1 hx
      have := (h.sb i hi).2
      rwa [getD_at hi] at this
  obtain ⟨h1, h2⟩ := kinds_ge hs (by omega)
  cases K with
  | zero =>
    have hlt : 0 < Ra.length := by rw [h.la]; exact Nat.pow_pos (by omega)
    have := h.sa 0 hlt
    omega
  | succ K =>
    have : ((K : Nat) : Int) ∈ Ra ++ Rb := by
      rcases h.onto K (by omega) with ⟨i, hi, e⟩ | ⟨i, hi, e⟩
      · rw [← e, getD_at hi]; exact List.mem_append_left _ (List.getElem_mem _)
      · rw [← e, getD_at hi]; exact List.mem_append_right _ (List.getElem_mem _)
    have := h2 _ this
    omega
end Go.Wk
namespace Go.Wk
open Go.RowKit
/-- levels of numbers: so many, the kinds grow up to some level -/
structure Levs (k M : Nat) (a b : St) (A B : List (List Int)) (m g : Nat) : Prop where
  la : A.length = m + 1
  lb : B.length = m + 1
  lev : ∃ Ks : Nat → Nat, (∀ i : Nat, i ≤ m → Ks i ≤ 1458 ∧ LevP i k a b (A.getD i []) (B.getD i []) (Ks i)) ∧ (4 < M → ∀ i : Nat, i < g → Ks i < Ks (i + 1))
theorem levs_zero {k M K : Nat} {a b : St} {Ra Rb : List Int} (h : LevP 0 k a b Ra Rb K) (hK : K ≤ 1458) : Levs k M a b [Ra] [Rb] 0 0 :=
  ⟨rfl, rfl, fun _ => K, fun i hi => by obtain rfl : i = 0 := by omega
                                        exact ⟨hK, h⟩, fun _ i hi => absurd hi (by omega)⟩
theorem getA1 {α : Type} {l : List α} {x d : α} {i : Nat} (h : i < l.length) : (l ++ [x]).getD i d = l.getD i d := by
  rw [List.getD_eq_getElem?_getD, List.getElem?_append_left h, ← List.getD_eq_getElem?_getD]
theorem getA2 {α : Type} {l : List α} {x d : α} {i : Nat} (h : i = l.length) : (l ++ [x]).getD i d = x := by
  rw [List.getD_eq_getElem?_getD, List.getElem?_append_right (by omega), h, Nat.sub_self]; rfl
theorem levs_more {k M n K : Nat} {a b : St} {A B : List (List Int)} {Ra Rb : List Int} (h : Levs k M a b A B n n) (h' : LevP (n + 1) k a b Ra Rb K) (hK : K ≤ 1458) : Levs k M a b (A ++ [Ra]) (B ++ [Rb]) (n + 1) n := by
  obtain ⟨hA, hB, Ks, h1, h2⟩ := h
  refine ⟨by rw [List.length_append, hA]; rfl, by rw [List.length_append, hB]; rfl, fun i => if i = n + 1 then K else Ks i, fun i hi => ?_, fun hM i hi => ?_⟩
  · by_cases e : i = n + 1
    · subst e
      rw [getA2 (by omega), getA2 (by omega)]
      simp only [if_pos]
      exact ⟨hK, h'⟩
    · rw [getA1 (by omega), getA1 (by omega)]
      simp only [if_neg e]
      exact h1 i (by omega)
  · have e1 : ¬ i = n + 1 := by omega
    have e2 : ¬ i + 1 = n + 1 := by omega
    simp only [if_neg e1, if_neg e2]
    exact h2 hM i hi
theorem Levs.at {k M m g : Nat} {a b : St} {A B : List (List Int)} (h : Levs k M a b A B m g) {i : Nat} (hi : i ≤ m) : ∃ K, K ≤ 1458 ∧ LevP i k a b (A.getD i []) (B.getD i []) K := by
  obtain ⟨_, _, Ks, h1, _⟩ := h
  exact ⟨Ks i, h1 i hi⟩
theorem levs_go {k M n : Nat} {a b : St} {A B : List (List Int)} (h : Levs k M a b A B (n + 1) n) (hd : 4 < M → ¬ kindsP (A.getD n [] ++ B.getD n []) = kindsP (A.getD (n + 1) [] ++ B.getD (n + 1) [])) : Levs k M a b A B (n + 1) (n + 1) := by
  obtain ⟨hA, hB, Ks, h1, h2⟩ := h
  refine ⟨hA, hB, Ks, h1, fun hM i hi => ?_⟩
  rcases Nat.lt_or_ge i n with h3 | h3
  · exact h2 hM i h3
  · obtain rfl : i = n := by omega
    have l1 := (h1 i (by omega)).2
    have l2 := (h1 (i + 1) (by omega)).2
    have h4 := hd hM
    rw [kinds_lev l1, kinds_lev l2] at h4
    have := lev_le l1 l2
    omega
theorem levs_stop {k M n g : Nat} {a b : St} {A B : List (List Int)} (h : Levs k M a b A B (n + 1) g) (hd : kindsP (A.getD n [] ++ B.getD n []) = kindsP (A.getD (n + 1) [] ++ B.getD (n + 1) [])) : Still n k a b := by
  obtain ⟨hA, hB, Ks, h1, h2⟩ := h
  have l1 := (h1 n (by omega)).2
  have l2 := (h1 (n + 1) (by omega)).2
  rw [kinds_lev l1, kinds_lev l2] at hd
  have e : Ks n = Ks (n + 1) := by omega
  rw [← e] at l2
  exact still_of l1 l2
/-- how the levels end -/
def LevEnds (k M : Nat) (a b : St) (m : Nat) : Prop := m = M ∨ 4 < M ∧ 1 ≤ m ∧ Still (m - 1) k a b
theorem levs_grown {k M m g : Nat} {a b : St} {A B : List (List Int)} (h : Levs k M a b A B m g) (hM : 4 < M) (hg : g ≤ m) : g ≤ 1458 := by
  obtain ⟨_, _, Ks, h1, h2⟩ := h
  have key : ∀ i : Nat, i ≤ g → i ≤ Ks i := fun i => by
    induction i with
    | zero => intro _; exact Nat.zero_le _
    | succ i ih =>
      intro hi
      have := h2 hM i (by omega)
      have := ih (by omega)
      omega
  have h3 := (h1 g hg).1
  have := key g (Nat.le_refl _)
  omega
open Classical in
/-- who wins so many turns, or forever -/
noncomputable def pWinB (M : Nat) (a : St) (xs : List Int) (b : St) (ys : List Int) : Bool := if M ≤ 4 then decide (pW M a xs b ys) else decide (pF a xs b ys)
theorem levs_end {k M m : Nat} {a b : St} {A B : List (List Int)} (h : Levs k M a b A B m (m - 1)) (he : LevEnds k M a b m) (hM : M ≤ 4 ∨ M = 2000) {xs ys : List Int} (hx : Peb a.n.toNat k xs) (hy : Peb b.n.toNat k ys) :
    decide (numP a.n.toNat (A.getD m []) xs = numP b.n.toNat (B.getD m []) ys) = pWinB M a xs b ys := by
  obtain ⟨K, hK, hl⟩ := h.at (Nat.le_refl m)
  have hg := hl.good.ab xs ys hx hy
  unfold pWinB
  by_cases h4 : M ≤ 4
  · rw [if_pos h4]
    rcases he with e | ⟨h5, _⟩
    · subst e
      exact decide_eq_decide.2 hg
    · omega
  · rw [if_neg h4]
    refine decide_eq_decide.2 (hg.trans ?_)
    rcases he with e | ⟨_, h6, h7⟩
    · have := levs_grown h (by omega) (by omega)
      omega
    · have hs := h7.next
      rw [Nat.sub_add_cancel h6] at hs
      exact hs.forever hx hy
theorem rows_more2 {B : Nat} {w0 w : World} {I : TypeId} {rr ss : List RR} {x y : RR} {f hs : List (Nat × Obj)} (h : Own B w0 (f ++ ((x.g, .cells x.cur I (0, 0)) :: (y.g, .cells y.cur I (0, 0)) :: (rowsB I rr ++ (rowsB I ss ++ hs)))) w) : Own B w0 (f ++ (rowsB I (rr ++ [x]) ++ (rowsB I (ss ++ [y]) ++ hs))) w := by
  refine h.perm (List.Perm.append_left f ?_)
  unfold rowsB
  rw [List.map_append, List.map_append, List.append_assoc, List.append_assoc]
  refine List.Perm.trans ?_ (perm_back [(x.g, Obj.cells x.cur I (0, 0))] (rr.map (fun r => (r.g, Obj.cells r.cur I (0, 0)))) _)
  refine List.Perm.cons _ ?_
  have h1 := perm_back [(y.g, Obj.cells y.cur I (0, 0))] (rr.map (fun r => (r.g, Obj.cells r.cur I (0, 0)))) (ss.map (fun r => (r.g, Obj.cells r.cur I (0, 0))) ++ hs)
  refine h1.trans (List.Perm.append_left _ ?_)
  exact perm_back [(y.g, Obj.cells y.cur I (0, 0))] (ss.map (fun r => (r.g, Obj.cells r.cur I (0, 0)))) hs
theorem RR.ofInts {R : List Int} (g n : Nat) (h : R.length = n) : RR.Ok ⟨g, n, (ints R).toArray, R⟩ := by
  refine ⟨by rw [Nat.mul_one]; show (ints R).length = n; rw [ints_length, h], by show R.length ≤ n; omega, ?_⟩
  show (ints R).take R.length = ints R
  exact List.take_of_length_le (by rw [ints_length]; exact Nat.le_refl _)
end Go.Wk
namespace Go.Wk
open Go.RowKit
theorem xs_at {rr : List RR} {i : Nat} : (rr.map RR.xs).getD i [] = (rr.getD i rd).xs := by
  rw [List.getD_eq_getElem?_getD, List.getElem?_map, List.getD_eq_getElem?_getD]
  cases rr[i]? <;> rfl
theorem RowsOk.addI {rr : List RR} {u u' : Array Value} {c c' g n : Nat} {R : List Int} (h : RowsOk rr u c) (hR : R.length = n) (hs : u'.size = c' * 1) (hl : rr.length + 1 ≤ c') (hv : u'.toList.take ((rr.length + 1) * 1) = u.toList.take (rr.length * 1) ++ [.slice (some ⟨g, 0, none⟩) n n]) : RowsOk (rr ++ [⟨g, n, (ints R).toArray, R⟩]) u' c' :=
  h.add (RR.ofInts g n hR) hs hl (by rw [hv]; subst hR; rfl)
theorem RowsOk.oneI {R : List Int} {g n : Nat} (hR : R.length = n) : RowsOk [⟨g, n, (ints R).toArray, R⟩] #[.slice (some ⟨g, 0, none⟩) n n] 1 :=
  ⟨rfl, Nat.le_refl 1, by subst hR; rfl, fun r hr => by rw [List.mem_singleton.1 hr]; exact RR.ofInts g n hR⟩
theorem RowsOk.cell {rr : List RR} {u : Array Value} {c i : Nat} (h : RowsOk rr u c) (hi : i < rr.length) : u.toList[i]? = some (rv (rr.getD i rd)) := by
  have := rvs_at hi
  rw [← h.vals, List.getElem?_take, if_pos hi] at this
  exact this
theorem RowsOk.old {rr : List RR} {x : RR} {u : Array Value} {c i : Nat} (h : RowsOk (rr ++ [x]) u c) (hi : i < rr.length) : u.toList[i]? = some (rv (rr.getD i rd)) := by
  have := h.cell (i := i) (by rw [List.length_append]; omega)
  rwa [getA1 hi] at this
theorem RowsOk.newI {rr : List RR} {g n : Nat} {R : List Int} {u : Array Value} {c i : Nat} (h : RowsOk (rr ++ [⟨g, n, (ints R).toArray, R⟩]) u c) (hR : R.length = n) (hi : i = rr.length) : u.toList[i]? = some (.slice (some ⟨g, 0, none⟩) n n) := by
  have := h.cell (i := i) (by rw [List.length_append]; show i < rr.length + 1; omega)
  rw [getA2 hi] at this
  rw [this]; subst hR; rfl
end Go.Wk
namespace Go.Wk
open Go.RowKit
theorem Levs.less {k M m g g' : Nat} {a b : St} {A B : List (List Int)} (h : Levs k M a b A B m g) (hg : g' ≤ g) : Levs k M a b A B m g' := by
  obtain ⟨hA, hB, Ks, h1, h2⟩ := h
  exact ⟨hA, hB, Ks, h1, fun hM i hi => h2 hM i (by omega)⟩
end Go.Wk
namespace Go.Wk
open Go.RowKit
theorem LevP.sm {n k K : Nat} {a b : St} {Ra Rb : List Int} (h : LevP n k a b Ra Rb K) (hK : K ≤ 1000000) : ∀ i : Nat, i < (Ra ++ Rb).length → 0 ≤ (Ra ++ Rb).getD i 0 ∧ (Ra ++ Rb).getD i 0 < 1000000 := fun i hi => by
  rw [List.getD_eq_getElem?_getD]
  rcases Nat.lt_or_ge i Ra.length with h1 | h1
  · rw [List.getElem?_append_left h1, ← List.getD_eq_getElem?_getD]; exact h.ma hK i
  · rw [List.getElem?_append_right h1, ← List.getD_eq_getElem?_getD]; exact h.mb hK _
end Go.Wk
namespace Go.Wk
open Go.RowKit
theorem ready_peb {a b : St} {xs ys : List Int} (h : readyB a xs b ys = true) : validB a = true ∧ validB b = true ∧ 1 ≤ xs.length ∧ xs.length ≤ 3 ∧ xs.length = ys.length ∧ Peb a.n.toNat xs.length xs ∧ Peb b.n.toNat xs.length ys := by
  obtain ⟨Pa, Pb, hl, _⟩ := readyB_true h
  unfold readyB at h
  simp only [Bool.and_eq_true, decide_eq_true_eq] at h
  have ea := peb_el h.1.1.1
  have eb := peb_el h.1.1.2
  have la := Pa.fine.lo
  have lb := Pb.fine.lo
  refine ⟨Pa.valid, Pb.valid, Pa.lo, Pa.hi, hl, ⟨rfl, fun x hx => ?_⟩, ⟨hl.symm, fun x hx => ?_⟩⟩
  · have := ea x hx; have := Pa.top x hx; omega
  · have := eb x hx; have := Pb.top x hx; omega
theorem rows_behind2 (f : List (Nat × Obj)) (x y : Nat × Obj) (r s : List (Nat × Obj)) : (x :: y :: (r ++ (s ++ f))).Perm (f ++ (x :: y :: (r ++ (s ++ [])))) := by
  have := List.perm_append_comm (l₁ := x :: y :: (r ++ s)) (l₂ := f)
  rw [List.append_nil]
  rw [← List.append_assoc]
  exact this
noncomputable def pebEverB (a : St) (xs : List Int) (b : St) (ys : List Int) : Bool := readyB a xs b ys && pWinB 2000 a xs b ys
end Go.Wk
namespace Go.Wk
open Go.RowKit
/-- a state's digit -/
def dig (pr s i : Nat) : Nat := s / pr ^ i % pr
/-- a state with a digit's pebble beside -/
def zer (pr s i : Nat) : Nat := s - pr ^ i * dig pr s i
theorem dig_lt {pr s i : Nat} (h : 0 < pr) : dig pr s i < pr := Nat.mod_lt _ h
theorem dig_first {pr s c : Nat} (hc : c < pr) : dig pr (s * pr + c) 0 = c := by
  unfold dig
  rw [Nat.pow_zero, Nat.div_one, Nat.add_comm, Nat.add_mul_mod_self_right, Nat.mod_eq_of_lt hc]
theorem dig_next {pr s c i : Nat} (hc : c < pr) : dig pr (s * pr + c) (i + 1) = dig pr s i := by
  unfold dig
  rw [Nat.pow_succ', ← Nat.div_div_eq_div_mul, Nat.add_comm (s * pr), Nat.add_mul_div_right _ _ (by omega), Nat.div_eq_of_lt hc, Nat.zero_add]
theorem dig_le {pr s i : Nat} : pr ^ i * dig pr s i ≤ s := by
  unfold dig
  exact Nat.le_trans (Nat.mul_le_mul_left _ (Nat.mod_le _ _)) (Nat.mul_div_le _ _)
theorem zer_add {pr s i : Nat} : zer pr s i + pr ^ i * dig pr s i = s := by
  have := dig_le (pr := pr) (s := s) (i := i)
  unfold zer; omega
/-- a number cut at a digit -/
theorem dig_cut (pr s i : Nat) : s = (s / pr ^ (i + 1)) * pr ^ (i + 1) + pr ^ i * dig pr s i + s % pr ^ i := by
  have h1 := Nat.div_add_mod s (pr ^ i)
  have h2 := Nat.div_add_mod (s / pr ^ i) pr
  rw [Nat.div_div_eq_div_mul, ← Nat.pow_succ] at h2
  have h3 : pr ^ i * (s / pr ^ i) = pr ^ i * (pr * (s / pr ^ (i + 1)) + s / pr ^ i % pr) := by rw [h2]
  rw [Nat.mul_add, ← Nat.mul_assoc, ← Nat.pow_succ, Nat.mul_comm (pr ^ (i + 1))] at h3
  unfold dig
  omega
theorem dig_of_cut {pr h q l i : Nat} (hq : q < pr) (hl : l < pr ^ i) : dig pr (h * pr ^ (i + 1) + pr ^ i * q + l) i = q := by
  have hp : 0 < pr ^ i := by omega
  unfold dig
  have e : h * pr ^ (i + 1) + pr ^ i * q + l = l + pr ^ i * (h * pr + q) := by
    rw [Nat.mul_add, Nat.pow_succ, show pr ^ i * (h * pr) = h * (pr ^ i * pr) from by rw [Nat.mul_left_comm]]; omega
  rw [e, Nat.add_mul_div_left _ _ hp, Nat.div_eq_of_lt hl, Nat.zero_add, Nat.add_comm, Nat.add_mul_mod_self_right, Nat.mod_eq_of_lt hq]
theorem dig_below {pr h q l i j : Nat} (hj : j < i) : dig pr (h * pr ^ (i + 1) + pr ^ i * q + l) j = dig pr l j := by
  have key : ∀ s, dig pr s j = s % pr ^ (j + 1) / pr ^ j := fun s => by
    unfold dig
    rw [Nat.pow_succ, Nat.mod_mul_right_div_self]
  have e : h * pr ^ (i + 1) + pr ^ i * q + l = l + pr ^ (j + 1) * (pr ^ (i - j - 1) * (h * pr + q)) := by
    rw [← Nat.mul_assoc, ← Nat.pow_add, show j + 1 + (i - j - 1) = i from by omega, Nat.mul_add, Nat.pow_succ, show pr ^ i * (h * pr) = h * (pr ^ i * pr) from by rw [Nat.mul_left_comm]]; omega
  rw [key, key, e, Nat.add_mul_mod_self_left]
theorem cut_hi {pr h q l i : Nat} (hq : q < pr) (hl : l < pr ^ i) : (h * pr ^ (i + 1) + pr ^ i * q + l) / pr ^ (i + 1) = h := by
  have hp : 0 < pr ^ (i + 1) := Nat.pow_pos (by omega)
  have hs : pr ^ i * q + l < pr ^ (i + 1) := by
    have : pr ^ i * (q + 1) ≤ pr ^ i * pr := Nat.mul_le_mul_left _ hq
    rw [Nat.mul_add, Nat.mul_one] at this
    rw [Nat.pow_succ]; omega
  rw [Nat.add_assoc, Nat.add_comm, Nat.add_mul_div_right _ _ hp, Nat.div_eq_of_lt hs, Nat.zero_add]
theorem dig_above {pr h q l i j : Nat} (hq : q < pr) (hl : l < pr ^ i) (hj : i < j) : dig pr (h * pr ^ (i + 1) + pr ^ i * q + l) j = dig pr h (j - (i + 1)) := by
  obtain ⟨m, rfl⟩ : ∃ m, j = i + 1 + m := ⟨j - (i + 1), by omega⟩
  unfold dig
  rw [show i + 1 + m - (i + 1) = m from by omega, Nat.pow_add pr (i + 1) m, ← Nat.div_div_eq_div_mul, cut_hi hq hl]
/-- a digit put in the place of another -/
theorem dig_put {pr s i q : Nat} (hp : 0 < pr) (h0 : dig pr s i = 0) (hq : q < pr) : dig pr (s + pr ^ i * q) i = q ∧ ∀ j, j ≠ i → dig pr (s + pr ^ i * q) j = dig pr s j := by
  have hl : s % pr ^ i < pr ^ i := Nat.mod_lt _ (Nat.pow_pos hp)
  have e := dig_cut pr s i
  rw [h0, Nat.mul_zero, Nat.add_zero] at e
  have e2 : s + pr ^ i * q = (s / pr ^ (i + 1)) * pr ^ (i + 1) + pr ^ i * q + s % pr ^ i := by omega
  have e0 : s = (s / pr ^ (i + 1)) * pr ^ (i + 1) + pr ^ i * 0 + s % pr ^ i := by omega
  refine ⟨by rw [e2, dig_of_cut hq hl], fun j hj => ?_⟩
  rcases Nat.lt_or_ge j i with h1 | h1
  · rw [e2, dig_below h1]
    conv => rhs; rw [e0, dig_below h1]
  · rw [e2, dig_above hq hl (by omega)]
    conv => rhs; rw [e0, dig_above hp hl (by omega)]
theorem put_lt {pr s i q k : Nat} (hp : 0 < pr) (h0 : dig pr s i = 0) (hq : q < pr) (hi : i < k) (hs : s < pr ^ k) : s + pr ^ i * q < pr ^ k := by
  have hl : s % pr ^ i < pr ^ i := Nat.mod_lt _ (Nat.pow_pos hp)
  have e := dig_cut pr s i
  rw [h0, Nat.mul_zero, Nat.add_zero] at e
  have hh : s / pr ^ (i + 1) < pr ^ (k - (i + 1)) := Nat.div_lt_of_lt_mul (by rw [← Nat.pow_add, show i + 1 + (k - (i + 1)) = k from by omega]; exact hs)
  have h1 : (s / pr ^ (i + 1) + 1) * pr ^ (i + 1) ≤ pr ^ (k - (i + 1)) * pr ^ (i + 1) := Nat.mul_le_mul_right _ hh
  rw [← Nat.pow_add, show k - (i + 1) + (i + 1) = k from by omega, Nat.add_mul, Nat.one_mul] at h1
  have h2 : pr ^ i * (q + 1) ≤ pr ^ i * pr := Nat.mul_le_mul_left _ hq
  rw [Nat.mul_add, Nat.mul_one, ← Nat.pow_succ] at h2
  have h3 : pr ^ i.succ = pr ^ (i + 1) := rfl
  omega
theorem dig_zer {pr s i : Nat} (hp : 0 < pr) : dig pr (zer pr s i) i = 0 ∧ ∀ j, j ≠ i → dig pr (zer pr s i) j = dig pr s j := by
  have hl : s % pr ^ i < pr ^ i := Nat.mod_lt _ (Nat.pow_pos hp)
  have e := dig_cut pr s i
  have hz : zer pr s i = (s / pr ^ (i + 1)) * pr ^ (i + 1) + pr ^ i * 0 + s % pr ^ i := by
    unfold zer
    rw [Nat.mul_zero, Nat.add_zero]
    have h9 := dig_le (pr := pr) (s := s) (i := i)
    omega
  have h0 : dig pr (zer pr s i) i = 0 := by rw [hz, dig_of_cut hp hl]
  refine ⟨h0, fun j hj => ?_⟩
  have := (dig_put (q := dig pr s i) hp h0 (dig_lt hp)).2 j hj
  rw [zer_add] at this
  exact this.symm
theorem zer_iff {pr s t i : Nat} (hp : 0 < pr) (h0 : dig pr t i = 0) : zer pr s i = t ↔ ∃ q, q < pr ∧ s = t + pr ^ i * q := by
  constructor
  · intro e
    exact ⟨dig pr s i, dig_lt hp, by rw [← e, zer_add]⟩
  · rintro ⟨q, hq, rfl⟩
    unfold zer
    rw [(dig_put hp h0 hq).1]; omega
theorem zer_lt {pr s i k : Nat} (h : s < pr ^ k) : zer pr s i < pr ^ k := by unfold zer; omega
def xOf (nb d : Nat) : Int := if d = 0 then -1 else (((d - 1) / nb : Nat) : Int)
def yOf (nb d : Nat) : Int := if d = 0 then -1 else (((d - 1) % nb : Nat) : Int)
def pX (nb pr k s : Nat) : List Int := (List.range k).map fun i => xOf nb (dig pr s i)
def pY (nb pr k s : Nat) : List Int := (List.range k).map fun i => yOf nb (dig pr s i)
@[simp] theorem pX_len (nb pr k s : Nat) : (pX nb pr k s).length = k := by simp [pX]
@[simp] theorem pY_len (nb pr k s : Nat) : (pY nb pr k s).length = k := by simp [pY]
theorem pX_at {nb pr k s i : Nat} (h : i < k) : (pX nb pr k s).getD i 0 = xOf nb (dig pr s i) := by
  rw [getD_at (by rw [pX_len]; exact h)]; simp [pX]
theorem pY_at {nb pr k s i : Nat} (h : i < k) : (pY nb pr k s).getD i 0 = yOf nb (dig pr s i) := by
  rw [getD_at (by rw [pY_len]; exact h)]; simp [pY]
theorem set_ext {l m : List Int} {i : Nat} {x : Int} (hl : m.length = l.length) (hx : i < l.length → m.getD i 0 = x) (hr : ∀ j, j < l.length → j ≠ i → m.getD j 0 = l.getD j 0) : m = l.set i x := by
  refine List.ext_getElem (by rw [List.length_set, hl]) fun j h1 h2 => ?_
  rw [List.length_set] at h2
  rw [List.getElem_set]
  split
  · rename_i e
    subst e
    rw [← hx h2, getD_at h1]
  · rename_i e
    have := hr j h2 (fun h => e h.symm)
    rw [getD_at h1, getD_at h2] at this
    exact this
theorem pX_put {nb pr k s i x y : Nat} (hp : 0 < pr) (hi : i < k) (h0 : dig pr s i = 0) (hq : 1 + x * nb + y < pr) (hy : y < nb) : pX nb pr k (s + pr ^ i * (1 + x * nb + y)) = (pX nb pr k s).set i (x : Int) := by
  obtain ⟨h1, h2⟩ := dig_put hp h0 hq
  refine set_ext (by simp) (fun _ => ?_) fun j hj hne => ?_
  · rw [pX_at hi, h1]
    unfold xOf
    rw [if_neg (by omega), show 1 + x * nb + y - 1 = y + x * nb from by omega, Nat.add_mul_div_right _ _ (by omega), Nat.div_eq_of_lt hy, Nat.zero_add]
  · rw [pX_len] at hj
    rw [pX_at hj, pX_at hj, h2 j hne]
theorem pY_put {nb pr k s i x y : Nat} (hp : 0 < pr) (hi : i < k) (h0 : dig pr s i = 0) (hq : 1 + x * nb + y < pr) (hy : y < nb) : pY nb pr k (s + pr ^ i * (1 + x * nb + y)) = (pY nb pr k s).set i (y : Int) := by
  obtain ⟨h1, h2⟩ := dig_put hp h0 hq
  refine set_ext (by simp) (fun _ => ?_) fun j hj hne => ?_
  · rw [pY_at hi, h1]
    unfold yOf
    rw [if_neg (by omega), show 1 + x * nb + y - 1 = y + x * nb from by omega, Nat.add_mul_mod_self_right, Nat.mod_eq_of_lt hy]
  · rw [pY_len] at hj
    rw [pY_at hj, pY_at hj, h2 j hne]
/-- the pebble that a digit tells is put anew: the state without it matters alone -/
theorem pX_zer {nb pr k s i : Nat} (hp : 0 < pr) {x : Int} : (pX nb pr k (zer pr s i)).set i x = (pX nb pr k s).set i x := by
  obtain ⟨_, h2⟩ := dig_zer (s := s) (i := i) hp
  refine set_ext (by simp) (fun h => ?_) fun j hj hne => ?_
  · rw [pX_len] at h
    rw [List.getD_eq_getElem?_getD, List.getElem?_set_self (by rw [pX_len]; exact h)]; rfl
  · rw [pX_len] at hj
    rw [List.getD_eq_getElem?_getD, List.getElem?_set_ne (fun e => hne e.symm), ← List.getD_eq_getElem?_getD, pX_at hj, pX_at hj, h2 j hne]
theorem pY_zer {nb pr k s i : Nat} (hp : 0 < pr) {x : Int} : (pY nb pr k (zer pr s i)).set i x = (pY nb pr k s).set i x := by
  obtain ⟨_, h2⟩ := dig_zer (s := s) (i := i) hp
  refine set_ext (by simp) (fun h => ?_) fun j hj hne => ?_
  · rw [pY_len] at h
    rw [List.getD_eq_getElem?_getD, List.getElem?_set_self (by rw [pY_len]; exact h)]; rfl
  · rw [pY_len] at hj
    rw [List.getD_eq_getElem?_getD, List.getElem?_set_ne (fun e => hne e.symm), ← List.getD_eq_getElem?_getD, pY_at hj, pY_at hj, h2 j hne]
def code (nb : Nat) (x y : Int) : Nat := if 0 ≤ x then 1 + x.toNat * nb + y.toNat else 0
def stU (nb pr : Nat) (xs ys : List Int) (k : Nat) : Nat → Nat
  | 0 => 0
  | j + 1 => stU nb pr xs ys k j * pr + code nb (xs.getD (k - 1 - j) 0) (ys.getD (k - 1 - j) 0)
theorem stU_dig {nb pr k : Nat} {xs ys : List Int} (hc : ∀ i : Nat, i < k → code nb (xs.getD i 0) (ys.getD i 0) < pr) : ∀ j : Nat, j ≤ k → ∀ i : Nat, i < j → dig pr (stU nb pr xs ys k j) i = code nb (xs.getD (k - j + i) 0) (ys.getD (k - j + i) 0)
  | 0, _, i, hi => absurd hi (by omega)
  | j + 1, hj, i, hi => by
    have hcj := hc (k - 1 - j) (by omega)
    unfold stU
    cases i with
    | zero => rw [dig_first hcj, show k - (j + 1) + 0 = k - 1 - j from by omega]
    | succ i => rw [dig_next hcj, stU_dig hc j (by omega) i (by omega), show k - (j + 1) + (i + 1) = k - j + i from by omega]
theorem stU_lt {nb pr k : Nat} {xs ys : List Int} (hc : ∀ i : Nat, i < k → code nb (xs.getD i 0) (ys.getD i 0) < pr) : ∀ j : Nat, j ≤ k → stU nb pr xs ys k j < pr ^ j
  | 0, _ => Nat.one_pos
  | j + 1, hj => by
    have h1 := stU_lt hc j (by omega)
    have hcj := hc (k - 1 - j) (by omega)
    have h2 : (stU nb pr xs ys k j + 1) * pr ≤ pr ^ j * pr := Nat.mul_le_mul_right _ h1
    rw [Nat.add_mul, Nat.one_mul] at h2
    unfold stU
    rw [Nat.pow_succ]; omega
end Go.Wk
namespace Go.Wk
open Go.RowKit
def prN (a b : St) : Nat := a.n.toNat * b.n.toNat + 1
theorem prN_pos (a b : St) : 0 < prN a b := Nat.succ_pos _
theorem pair_lt {a b : St} {x y : Nat} (hx : x < a.n.toNat) (hy : y < b.n.toNat) : 1 + x * b.n.toNat + y < prN a b := by
  have : (x + 1) * b.n.toNat ≤ a.n.toNat * b.n.toNat := Nat.mul_le_mul_right _ hx
  rw [Nat.add_mul, Nat.one_mul] at this
  unfold prN; omega
theorem prN_le {a b : St} (ha : a.n.toNat ≤ 8) (hb : b.n.toNat ≤ 8) : prN a b ≤ 65 := by
  have := Nat.mul_le_mul ha hb
  unfold prN; omega
theorem pow65 {p k : Nat} (h : p ≤ 65) (hk : k ≤ 3) : p ^ k ≤ 274625 := Nat.le_trans (Nat.pow_le_pow_left h k) (Nat.le_trans (Nat.pow_le_pow_right (by decide) hk) (by decide))
/-- the elements of a state on either structure -/
def stX (a b : St) (k s : Nat) : List Int := pX b.n.toNat (prN a b) k s
def stY (a b : St) (k s : Nat) : List Int := pY b.n.toNat (prN a b) k s
theorem dig_x {a b : St} {k s i : Nat} (h : i < k) : -1 ≤ (stX a b k s).getD i 0 ∧ (stX a b k s).getD i 0 < (a.n.toNat : Int) ∧ ((stX a b k s).getD i 0 < 0 ↔ dig (prN a b) s i = 0) := by
  have hd := dig_lt (s := s) (i := i) (prN_pos a b)
  unfold stX
  rw [pX_at h]
  unfold xOf
  by_cases e : dig (prN a b) s i = 0
  · rw [if_pos e]; omega
  · rw [if_neg e]
    have h1 : (dig (prN a b) s i - 1) / b.n.toNat < a.n.toNat := Nat.div_lt_of_lt_mul (by rw [Nat.mul_comm]; have hq : prN a b = a.n.toNat * b.n.toNat + 1 := rfl; omega)
    generalize (dig (prN a b) s i - 1) / b.n.toNat = z at h1 ⊢
    omega
theorem dig_y {a b : St} {k s i : Nat} (hb : 1 ≤ b.n.toNat) (h : i < k) : -1 ≤ (stY a b k s).getD i 0 ∧ (stY a b k s).getD i 0 < (b.n.toNat : Int) ∧ ((stY a b k s).getD i 0 < 0 ↔ dig (prN a b) s i = 0) := by
  unfold stY
  rw [pY_at h]
  unfold yOf
  by_cases e : dig (prN a b) s i = 0
  · rw [if_pos e]; omega
  · rw [if_neg e]
    have h1 : (dig (prN a b) s i - 1) % b.n.toNat < b.n.toNat := Nat.mod_lt _ (by omega)
    omega
theorem stX_peb {a b : St} {k s : Nat} : Peb a.n.toNat k (stX a b k s) := by
  refine ⟨by unfold stX; simp, fun x hx => ?_⟩
  obtain ⟨i, hi, rfl⟩ := List.mem_iff_getElem.1 hx
  have := dig_x (a := a) (b := b) (s := s) (k := k) (i := i) (by unfold stX at hi; simpa using hi)
  rw [getD_at hi] at this
  omega
theorem stY_peb {a b : St} {k s : Nat} (hb : 1 ≤ b.n.toNat) : Peb b.n.toNat k (stY a b k s) := by
  refine ⟨by unfold stY; simp, fun x hx => ?_⟩
  obtain ⟨i, hi, rfl⟩ := List.mem_iff_getElem.1 hx
  have := dig_y (a := a) (s := s) hb (k := k) (i := i) (by unfold stY at hi; simpa using hi)
  rw [getD_at hi] at this
  omega
@[simp] theorem stX_len (a b : St) (k s : Nat) : (stX a b k s).length = k := by unfold stX; simp
@[simp] theorem stY_len (a b : St) (k s : Nat) : (stY a b k s).length = k := by unfold stY; simp
theorem st_signs {a b : St} {k s : Nat} (hb : 1 ≤ b.n.toNat) : ∀ i : Nat, i < k → ((stX a b k s).getD i 0 < 0 ↔ (stY a b k s).getD i 0 < 0) := fun _ hi =>
  (dig_x hi).2.2.trans (dig_y hb hi).2.2.symm
open Classical in
noncomputable def winAt (n : Nat) (a b : St) (k s : Nat) : Bool := decide (pW n a (stX a b k s) b (stY a b k s))
open Classical in
theorem winAt_true {n : Nat} {a b : St} {k s : Nat} : winAt n a b k s = true ↔ pW n a (stX a b k s) b (stY a b k s) := by
  unfold winAt; exact decide_eq_true_iff
noncomputable def WL (n : Nat) (a b : St) (k : Nat) : List Bool := (List.range (prN a b ^ k)).map (winAt n a b k)
@[simp] theorem WL_len (n : Nat) (a b : St) (k : Nat) : (WL n a b k).length = prN a b ^ k := by simp [WL]
theorem WL_at {n : Nat} {a b : St} {k s : Nat} (h : s < prN a b ^ k) : (WL n a b k).getD s false = winAt n a b k s := by
  rw [getD_at (by rw [WL_len]; exact h)]; simp [WL]
theorem win_zero {a b : St} {k s : Nat} (hb : 1 ≤ b.n.toNat) : winAt 0 a b k s = sameB a (placed (stX a b k s) k) b (placed (stY a b k s) k) := by
  rw [Bool.eq_iff_iff, winAt_true]
  unfold pW
  rw [stX_len, stY_len]
  exact ⟨fun h => h.2, fun h => ⟨st_signs hb, h⟩⟩
/-- whether each choice with a pebble has an answer, from a winning list -/
def Ans (W : Nat → Bool) (na nb rest step : Nat) : Prop := (∀ x : Nat, x < na → ∃ y : Nat, y < nb ∧ W (rest + step * (1 + x * nb + y)) = true) ∧ ∀ y : Nat, y < nb → ∃ x : Nat, x < na ∧ W (rest + step * (1 + x * nb + y)) = true
theorem ans_iff {n : Nat} {a b : St} {k s i : Nat} (hi : i < k) : Ans (winAt n a b k) a.n.toNat b.n.toNat (zer (prN a b) s i) (prN a b ^ i) ↔
    (∀ x : Nat, x < a.n.toNat → ∃ y : Nat, y < b.n.toNat ∧ pW n a ((stX a b k s).set i (x : Int)) b ((stY a b k s).set i (y : Int))) ∧ (∀ y : Nat, y < b.n.toNat → ∃ x : Nat, x < a.n.toNat ∧ pW n a ((stX a b k s).set i (x : Int)) b ((stY a b k s).set i (y : Int))) := by
  have hp := prN_pos a b
  have key : ∀ x y : Nat, x < a.n.toNat → y < b.n.toNat → (winAt n a b k (zer (prN a b) s i + prN a b ^ i * (1 + x * b.n.toNat + y)) = true ↔ pW n a ((stX a b k s).set i (x : Int)) b ((stY a b k s).set i (y : Int))) := fun x y hx hy => by
    have h0 := (dig_zer (s := s) (i := i) hp).1
    rw [winAt_true]
    unfold stX stY
    rw [pX_put hp hi h0 (pair_lt hx hy) hy, pY_put hp hi h0 (pair_lt hx hy) hy, pX_zer hp, pY_zer hp]
  unfold Ans
  refine and_congr ?_ ?_
  · exact forall_congr' fun x => imp_congr_right fun hx => exists_congr fun y => and_congr_right fun hy => key x y hx hy
  · exact forall_congr' fun y => imp_congr_right fun hy => exists_congr fun x => and_congr_right fun hx => key x y hx hy
/-- a turn more, without what was won before -/
theorem pW_moves : ∀ {n : Nat} {a : St} {xs : List Int} {b : St} {ys : List Int}, pW 0 a xs b ys → (∀ i : Nat, i < xs.length → (∀ x : Nat, x < a.n.toNat → ∃ y : Nat, y < b.n.toNat ∧ pW n a (xs.set i (x : Int)) b (ys.set i (y : Int))) ∧ (∀ y : Nat, y < b.n.toNat → ∃ x : Nat, x < a.n.toNat ∧ pW n a (xs.set i (x : Int)) b (ys.set i (y : Int)))) → pW n a xs b ys
  | 0, _, _, _, _, h, _ => h
  | n + 1, a, xs, b, ys, h, hm => by
    have hm' : ∀ i : Nat, i < xs.length → (∀ x : Nat, x < a.n.toNat → ∃ y : Nat, y < b.n.toNat ∧ pW n a (xs.set i (x : Int)) b (ys.set i (y : Int))) ∧ (∀ y : Nat, y < b.n.toNat → ∃ x : Nat, x < a.n.toNat ∧ pW n a (xs.set i (x : Int)) b (ys.set i (y : Int))) := fun i hi =>
      ⟨fun x hx => ((hm i hi).1 x hx).elim fun y hy => ⟨y, hy.1, hy.2.1⟩, fun y hy => ((hm i hi).2 y hy).elim fun x hx => ⟨x, hx.1, hx.2.1⟩⟩
    exact ⟨pW_moves h hm', hm'⟩
theorem win_step {n : Nat} {a b : St} {k s : Nat} : winAt (n + 1) a b k s = true ↔ winAt 0 a b k s = true ∧ ∀ i : Nat, i < k → Ans (winAt n a b k) a.n.toNat b.n.toNat (zer (prN a b) s i) (prN a b ^ i) := by
  rw [winAt_true, winAt_true]
  constructor
  · intro h
    refine ⟨?_, fun i hi => (ans_iff hi).2 (h.2 i (by rw [stX_len]; exact hi))⟩
    have := pW_less (n := 0) (n + 1) (by rw [Nat.zero_add]; exact h)
    exact this
  · rintro ⟨h1, h2⟩
    have hm : ∀ i : Nat, i < (stX a b k s).length → _ := fun i hi => (ans_iff (n := n) (s := s) (by rw [stX_len] at hi; exact hi)).1 (h2 i (by rw [stX_len] at hi; exact hi))
    exact ⟨pW_moves h1 hm, hm⟩
theorem code_lt {a b : St} {k : Nat} {xs ys : List Int} (hx : Peb a.n.toNat k xs) (hy : Peb b.n.toNat k ys) (hs : ∀ i : Nat, i < k → (xs.getD i 0 < 0 ↔ ys.getD i 0 < 0)) : ∀ i : Nat, i < k → code b.n.toNat (xs.getD i 0) (ys.getD i 0) < prN a b := fun i hi => by
  obtain ⟨x1, x2⟩ := peb_at hx hi
  obtain ⟨y1, y2⟩ := peb_at hy hi
  have := hs i hi
  unfold code
  split
  · exact pair_lt (by omega) (by omega)
  · exact prN_pos a b
theorem code_x {nb : Nat} {x y : Int} (h1 : -1 ≤ x) (hs : x < 0 ↔ y < 0) (hy : y < (nb : Int)) : xOf nb (code nb x y) = x := by
  unfold code
  split
  · unfold xOf
    rw [if_neg (by omega), show 1 + x.toNat * nb + y.toNat - 1 = y.toNat + x.toNat * nb from by omega, Nat.add_mul_div_right _ _ (by omega), Nat.div_eq_of_lt (by omega)]
    omega
  · unfold xOf; rw [if_pos rfl]; omega
theorem code_y {nb : Nat} {x y : Int} (h1 : -1 ≤ y) (hs : x < 0 ↔ y < 0) (hy : y < (nb : Int)) : yOf nb (code nb x y) = y := by
  unfold code
  split
  · unfold yOf
    rw [if_neg (by omega), show 1 + x.toNat * nb + y.toNat - 1 = y.toNat + x.toNat * nb from by omega, Nat.add_mul_mod_self_right, Nat.mod_eq_of_lt (by omega)]
    omega
  · unfold yOf; rw [if_pos rfl]; omega
def stN (a b : St) (xs ys : List Int) : Nat := stU b.n.toNat (prN a b) xs ys xs.length xs.length
theorem list_ext0 {l m : List Int} (hl : l.length = m.length) (h : ∀ i : Nat, i < l.length → l.getD i 0 = m.getD i 0) : l = m := by
  refine List.ext_getElem hl fun i h1 h2 => ?_
  have := h i h1
  rwa [getD_at h1, getD_at h2] at this
theorem stN_ok {a b : St} {xs ys : List Int} (hx : Peb a.n.toNat xs.length xs) (hy : Peb b.n.toNat xs.length ys) (hs : ∀ i : Nat, i < xs.length → (xs.getD i 0 < 0 ↔ ys.getD i 0 < 0)) : stN a b xs ys < prN a b ^ xs.length ∧ stX a b xs.length (stN a b xs ys) = xs ∧ stY a b xs.length (stN a b xs ys) = ys := by
  have hc := code_lt hx hy hs
  refine ⟨stU_lt hc _ (Nat.le_refl _), list_ext0 (by simp) fun i hi => ?_, list_ext0 (by simp [hy.1]) fun i hi => ?_⟩
  · rw [stX_len] at hi
    unfold stX stN
    rw [pX_at hi, stU_dig hc _ (Nat.le_refl _) i hi, Nat.sub_self, Nat.zero_add]
    obtain ⟨x1, x2⟩ := peb_at hx hi
    obtain ⟨y1, y2⟩ := peb_at hy hi
    exact code_x x1 (hs i hi) y2
  · rw [stY_len] at hi
    unfold stY stN
    rw [pY_at hi, stU_dig hc _ (Nat.le_refl _) i hi, Nat.sub_self, Nat.zero_add]
    obtain ⟨x1, x2⟩ := peb_at hx hi
    obtain ⟨y1, y2⟩ := peb_at hy hi
    exact code_y y1 (hs i hi) y2
end Go.Wk
namespace Go.Wk
open Go.RowKit
def idxB (bs : List Bool) (y : Bool) : Int := if y ∈ bs then ((bs.findIdx (fun z => y == z) : Nat) : Int) else -1
theorem idxB_at {bs : List Bool} {y : Bool} {k : Nat} (hk : k < bs.length) (h : ∀ i : Nat, i < k → (y == bs.getD i false) = false) (hq : (y == bs.getD k false) = true) : idxB bs y = k := by
  rw [getD_at hk] at hq
  unfold idxB
  rw [if_pos (by rw [eq_of_beq hq]; exact List.getElem_mem _)]
  congr 1
  rw [List.findIdx_eq hk]
  refine ⟨hq, fun j hj => ?_⟩
  have := h j hj
  rwa [getD_at (by omega)] at this
theorem idxB_none {bs : List Bool} {y : Bool} (h : ∀ i : Nat, i < bs.length → (y == bs.getD i false) = false) : idxB bs y = -1 := by
  unfold idxB
  rw [if_neg fun hm => ?_]
  obtain ⟨i, hi, e⟩ := List.getElem_of_mem hm
  have := h i hi
  rw [getD_at hi, e] at this
  simp at this
theorem idxB_has (bs : List Bool) (y : Bool) : decide (0 ≤ idxB bs y) = decide (y ∈ bs) := by
  unfold idxB
  by_cases h : y ∈ bs
  · rw [if_pos h]; simp [h]
  · rw [if_neg h]; simp [h]
theorem bools_same {xs ys : List Bool} (hl : xs.length = ys.length) (h : ∀ i : Nat, i < xs.length → xs.getD i false = ys.getD i false) : xs = ys := by
  refine List.ext_getElem hl fun i h1 h2 => ?_
  have := h i h1
  rwa [getD_at h1, getD_at h2] at this
theorem set_at {l : List Bool} {i j : Nat} {b : Bool} (hi : i < l.length) : (l.set i b).getD j false = if i = j then b else l.getD j false := by
  rw [List.getD_eq_getElem?_getD, List.getElem?_set, List.getD_eq_getElem?_getD]
  by_cases e : i = j
  · subst e; simp [hi]
  · simp [e]
theorem all_in {l : List Bool} : decide (false ∈ l) = false ↔ ∀ i : Nat, i < l.length → l.getD i false = true := by
  rw [decide_eq_false_iff_not]
  constructor
  · intro h i hi
    rw [getD_at hi]
    cases e : l[i] with
    | true => rfl
    | false => exact absurd (by rw [← e]; exact List.getElem_mem _) h
  · intro h hm
    obtain ⟨i, hi, e⟩ := List.getElem_of_mem hm
    have := h i hi
    rw [getD_at hi, e] at this
    cases this
structure Marks (f : Nat → Nat → Bool) (na nb x y : Nat) (R C : List Bool) : Prop where
  rl : R.length = na
  cl : C.length = nb
  rows : ∀ i : Nat, i < na → (R.getD i false = true ↔ ∃ j : Nat, j < nb ∧ (i < x ∨ i = x ∧ j < y) ∧ f i j = true)
  cols : ∀ j : Nat, j < nb → (C.getD j false = true ↔ ∃ i : Nat, i < na ∧ (i < x ∨ i = x ∧ j < y) ∧ f i j = true)
theorem marks_zero (f : Nat → Nat → Bool) (na nb : Nat) : Marks f na nb 0 0 (List.replicate na false) (List.replicate nb false) := by
  refine ⟨by simp, by simp, fun i hi => ?_, fun j hj => ?_⟩
  · rw [getD_at (by simpa using hi)]
    simp
  · rw [getD_at (by simpa using hj)]
    simp
theorem marks_next {f : Nat → Nat → Bool} {na nb x : Nat} {R C : List Bool} (h : Marks f na nb x nb R C) : Marks f na nb (x + 1) 0 R C := by
  refine ⟨h.rl, h.cl, fun i hi => (h.rows i hi).trans ?_, fun j hj => (h.cols j hj).trans ?_⟩
  · refine exists_congr fun j => and_congr_right fun hj => and_congr_left fun _ => ?_
    omega
  · refine exists_congr fun i => and_congr_right fun hi => and_congr_left fun _ => ?_
    omega
theorem marks_no {f : Nat → Nat → Bool} {na nb x y : Nat} {R C : List Bool} (h : Marks f na nb x y R C) (hf : f x y = false) : Marks f na nb x (y + 1) R C := by
  refine ⟨h.rl, h.cl, fun i hi => (h.rows i hi).trans ?_, fun j hj => (h.cols j hj).trans ?_⟩
  · refine exists_congr fun j => and_congr_right fun hj => ?_
    constructor
    · rintro ⟨h1, h2⟩; exact ⟨by omega, h2⟩
    · rintro ⟨h1, h2⟩
      refine ⟨?_, h2⟩
      rcases h1 with h1 | ⟨h1, h3⟩
      · exact .inl h1
      · by_cases e : j = y
        · subst e; subst h1; rw [hf] at h2; cases h2
        · exact .inr ⟨h1, by omega⟩
  · refine exists_congr fun i => and_congr_right fun hi => ?_
    constructor
    · rintro ⟨h1, h2⟩; exact ⟨by omega, h2⟩
    · rintro ⟨h1, h2⟩
      refine ⟨?_, h2⟩
      rcases h1 with h1 | ⟨h1, h3⟩
      · exact .inl h1
      · by_cases e : j = y
        · subst e; subst h1; rw [hf] at h2; cases h2
        · exact .inr ⟨h1, by omega⟩
theorem marks_yes {f : Nat → Nat → Bool} {na nb x y : Nat} {R C : List Bool} (h : Marks f na nb x y R C) (hx : x < na) (hy : y < nb) (hf : f x y = true) : Marks f na nb x (y + 1) (R.set x true) (C.set y true) := by
  refine ⟨by rw [List.length_set]; exact h.rl, by rw [List.length_set]; exact h.cl, fun i hi => ?_, fun j hj => ?_⟩
  · rw [set_at (by rw [h.rl]; exact hx)]
    by_cases e : x = i
    · subst e
      rw [if_pos rfl]
      exact ⟨fun _ => ⟨y, hy, by omega, hf⟩, fun _ => rfl⟩
    · rw [if_neg e, h.rows i hi]
      refine exists_congr fun j => and_congr_right fun hj => and_congr_left fun _ => ?_
      omega
  · rw [set_at (by rw [h.cl]; exact hy)]
    by_cases e : y = j
    · subst e
      rw [if_pos rfl]
      exact ⟨fun _ => ⟨x, hx, by omega, hf⟩, fun _ => rfl⟩
    · rw [if_neg e, h.cols j hj]
      refine exists_congr fun i => and_congr_right fun hi => and_congr_left fun _ => ?_
      omega
open Classical in
noncomputable def ansB (W : Nat → Bool) (na nb rest step : Nat) : Bool := decide (Ans W na nb rest step)
open Classical in
theorem ansB_true {W : Nat → Bool} {na nb rest step : Nat} : ansB W na nb rest step = true ↔ Ans W na nb rest step := by
  unfold ansB; exact decide_eq_true_iff
theorem marks_end {W : Nat → Bool} {na nb rest step : Nat} {R C : List Bool} (h : Marks (fun x y => W (rest + step * (1 + x * nb + y))) na nb na 0 R C) : (!decide (false ∈ R) && !decide (false ∈ C)) = ansB W na nb rest step := by
  rw [Bool.eq_iff_iff, ansB_true, Bool.and_eq_true, Bool.not_eq_true', Bool.not_eq_true', all_in, all_in, h.rl, h.cl]
  unfold Ans
  refine and_congr ?_ ?_
  · refine forall_congr' fun x => imp_congr_right fun hx => (h.rows x hx).trans (exists_congr fun y => and_congr_right fun hy => ?_)
    exact ⟨fun e => e.2, fun e => ⟨.inl hx, e⟩⟩
  · refine forall_congr' fun y => imp_congr_right fun hy => (h.cols y hy).trans (exists_congr fun x => and_congr_right fun hx => ?_)
    exact ⟨fun e => e.2, fun e => ⟨.inl hx, e⟩⟩
end Go.Wk
namespace Go.Wk
open Go.RowKit
theorem mul65 {x p : Nat} (hx : x ≤ 274625) (hp : p ≤ 65) : 0 ≤ (x : Int) * (p : Int) ∧ (x : Int) * (p : Int) ≤ 17850625 := by
  have := Nat.mul_le_mul hx hp
  rw [← Int.natCast_mul]; omega
theorem mul8 {x y : Int} (hx : 0 ≤ x) (hx8 : x < 8) (hy : 0 ≤ y) (hy8 : y ≤ 8) : 0 ≤ x * y ∧ x * y ≤ 64 :=
  ⟨Int.mul_nonneg hx hy, Int.le_trans (Int.mul_le_mul_of_nonneg_right (show x ≤ 8 by omega) hy) (by omega)⟩
theorem stU_pos {b : St} {pr k j : Nat} {xs ys : List Int} (h : 0 ≤ xs.getD (k - 1 - j) 0) (hy : 0 ≤ ys.getD (k - 1 - j) 0) (hb : 0 ≤ b.n) : ((stU b.n.toNat pr xs ys k (j + 1) : Nat) : Int) = ((stU b.n.toNat pr xs ys k j : Nat) : Int) * (pr : Int) + ((1 + xs.getD (k - 1 - j) 0 * b.n) + ys.getD (k - 1 - j) 0) := by
  rw [stU, code, if_pos h, Int.natCast_add, Int.natCast_mul, Int.natCast_add, Int.natCast_add, Int.natCast_mul, Int.toNat_of_nonneg h, Int.toNat_of_nonneg hy, Int.toNat_of_nonneg hb]
  rfl
theorem stU_neg {nb pr k j : Nat} {xs ys : List Int} (h : ¬ 0 ≤ xs.getD (k - 1 - j) 0) : ((stU nb pr xs ys k (j + 1) : Nat) : Int) = ((stU nb pr xs ys k j : Nat) : Int) * (pr : Int) := by
  rw [stU, code, if_neg h, Nat.add_zero, Int.natCast_mul]
end Go.Wk
namespace Go.Wk
theorem beq_no {xs ys : List Bool} (h : xs ≠ ys) : (xs == ys) = false := by simpa using h
end Go.Wk
namespace Go.Wk
open Go.RowKit
structure TurnAt (fit W : Nat → Bool) (a b : St) (k i S : Nat) (X : List Bool) : Prop where
  len : X.length = prN a b ^ k
  at_ : ∀ s : Nat, s < prN a b ^ k → (X.getD s false = true ↔ fit s = true ∧ (∀ j : Nat, j < i → Ans W a.n.toNat b.n.toNat (zer (prN a b) s j) (prN a b ^ j)) ∧ (zer (prN a b) s i < S → Ans W a.n.toNat b.n.toNat (zer (prN a b) s i) (prN a b ^ i)))
theorem turn_zero {W : Nat → Bool} {a b : St} {k : Nat} {X : List Bool} (h : X.length = prN a b ^ k) : TurnAt (fun s => X.getD s false) W a b k 0 0 X :=
  ⟨h, fun s _ => ⟨fun e => ⟨e, fun j hj => absurd hj (by omega), fun h => absurd h (by omega)⟩, fun e => e.1⟩⟩
theorem turn_round {fit W : Nat → Bool} {a b : St} {k i : Nat} {X : List Bool} (h : TurnAt fit W a b k i (prN a b ^ k) X) : TurnAt fit W a b k (i + 1) 0 X :=
  ⟨h.len, fun s hs => (h.at_ s hs).trans (and_congr_right fun _ => ⟨fun e => ⟨fun j hj => by
    rcases Nat.lt_or_ge j i with h1 | h1
    · exact e.1 j h1
    · rw [show j = i from by omega]; exact e.2 (zer_lt hs), fun h => absurd h (by omega)⟩, fun e => ⟨fun j hj => e.1 j (by omega), fun _ => e.1 i (by omega)⟩⟩)⟩
theorem turn_skip {fit W : Nat → Bool} {a b : St} {k i S : Nat} {X : List Bool} (h : TurnAt fit W a b k i S X) (hd : dig (prN a b) S i ≠ 0) : TurnAt fit W a b k i (S + 1) X :=
  ⟨h.len, fun s hs => (h.at_ s hs).trans (and_congr_right fun _ => and_congr_right fun _ => by
    have hne : zer (prN a b) s i ≠ S := fun e => hd (by rw [← e]; exact (dig_zer (prN_pos a b)).1)
    exact ⟨fun e h1 => e (by omega), fun e h1 => e (by omega)⟩)⟩
theorem turn_yes {fit W : Nat → Bool} {a b : St} {k i S : Nat} {X : List Bool} (h : TurnAt fit W a b k i S X) (hA : Ans W a.n.toNat b.n.toNat S (prN a b ^ i)) : TurnAt fit W a b k i (S + 1) X :=
  ⟨h.len, fun s hs => (h.at_ s hs).trans (and_congr_right fun _ => and_congr_right fun _ => by
    refine ⟨fun e h1 => ?_, fun e h1 => e (by omega)⟩
    by_cases hz : zer (prN a b) s i = S
    · rw [hz]; exact hA
    · exact e (by omega))⟩
/-- places cleared -/
structure Cleared (X0 X : List Bool) (S step Q : Nat) : Prop where
  len : X.length = X0.length
  at_ : ∀ s : Nat, s < X0.length → (X.getD s false = true ↔ X0.getD s false = true ∧ ¬ ∃ q, q < Q ∧ s = S + step * q)
theorem clear_zero (X : List Bool) (S step : Nat) : Cleared X X S step 0 := ⟨rfl, fun s _ => ⟨fun e => ⟨e, fun ⟨q, hq, _⟩ => absurd hq (by omega)⟩, fun e => e.1⟩⟩
theorem clear_next {X0 X : List Bool} {S step Q : Nat} (h : Cleared X0 X S step Q) (hl : S + step * Q < X0.length) : Cleared X0 (X.set (S + step * Q) false) S step (Q + 1) := by
  refine ⟨by rw [List.length_set]; exact h.len, fun s hs => ?_⟩
  rw [set_at (by rw [h.len]; exact hl)]
  by_cases e : S + step * Q = s
  · rw [if_pos e]
    exact ⟨(fun h => by cases h), fun h => absurd ⟨Q, by omega, e.symm⟩ h.2⟩
  · rw [if_neg e, h.at_ s hs]
    refine and_congr_right fun _ => not_congr ⟨fun ⟨q, h1, h2⟩ => ⟨q, by omega, h2⟩, fun ⟨q, h1, h2⟩ => ⟨q, ?_, h2⟩⟩
    rcases Nat.lt_or_ge q Q with h3 | h3
    · exact h3
    · exact absurd (by rw [h2, show q = Q from by omega]) e
theorem turn_no {fit W : Nat → Bool} {a b : St} {k i S : Nat} {X X' : List Bool} (h : TurnAt fit W a b k i S X) (hd : dig (prN a b) S i = 0) (hA : ¬ Ans W a.n.toNat b.n.toNat S (prN a b ^ i)) (hc : Cleared X X' S (prN a b ^ i) (prN a b)) : TurnAt fit W a b k i (S + 1) X' := by
  refine ⟨hc.len.trans h.len, fun s hs => ?_⟩
  rw [hc.at_ s (by rw [h.len]; exact hs), h.at_ s hs, ← zer_iff (prN_pos a b) hd]
  constructor
  · rintro ⟨⟨h1, h2, h3⟩, h4⟩
    exact ⟨h1, h2, fun h5 => h3 (by omega)⟩
  · rintro ⟨h1, h2, h3⟩
    refine ⟨⟨h1, h2, fun h5 => h3 (by omega)⟩, fun e => hA ?_⟩
    have := h3 (by omega)
    rwa [e] at this
theorem ans_wl {n : Nat} {a b : St} {k s j : Nat} (hj : j < k) (hs : s < prN a b ^ k) : Ans (fun s => (WL n a b k).getD s false) a.n.toNat b.n.toNat (zer (prN a b) s j) (prN a b ^ j) ↔ Ans (winAt n a b k) a.n.toNat b.n.toNat (zer (prN a b) s j) (prN a b ^ j) := by
  have key : ∀ x y : Nat, x < a.n.toNat → y < b.n.toNat → ((WL n a b k).getD (zer (prN a b) s j + prN a b ^ j * (1 + x * b.n.toNat + y)) false = true ↔ winAt n a b k (zer (prN a b) s j + prN a b ^ j * (1 + x * b.n.toNat + y)) = true) := fun x y hx hy => by
    rw [WL_at (put_lt (prN_pos a b) (dig_zer (prN_pos a b)).1 (pair_lt hx hy) hj (zer_lt hs))]
  unfold Ans
  exact and_congr (forall_congr' fun x => imp_congr_right fun hx => exists_congr fun y => and_congr_right fun hy => key x y hx hy) (forall_congr' fun y => imp_congr_right fun hy => exists_congr fun x => and_congr_right fun hx => key x y hx hy)
theorem turn_end {n : Nat} {a b : St} {k : Nat} {X : List Bool} (h : TurnAt (fun s => (WL 0 a b k).getD s false) (fun s => (WL n a b k).getD s false) a b k k 0 X) : X = WL (n + 1) a b k := by
  refine bools_same (by rw [h.len, WL_len]) fun s hs => ?_
  rw [h.len] at hs
  rw [WL_at hs, Bool.eq_iff_iff, h.at_ s hs, win_step, WL_at hs]
  exact and_congr_right fun _ => ⟨fun e i hi => (ans_wl hi hs).1 (e.1 i hi), fun e => ⟨fun i hi => (ans_wl hi hs).2 (e i hi), fun h => absurd h (by omega)⟩⟩
end Go.Wk
namespace Go.Wk
open Go.RowKit
theorem dig_down {p s i : Nat} : s / p ^ (i + 1) = s / p ^ i / p := by rw [Nat.pow_succ, Nat.div_div_eq_div_mul]
theorem dig_xv {a b : St} {k s i : Nat} (h : i < k) (hd : 0 < dig (prN a b) s i) {n : Int} (hn : n = b.n) (hb : 0 ≤ b.n) : Value.int .i64 ((((dig (prN a b) s i : Nat) : Int) - 1) / n) = Value.int .i64 ((stX a b k s).getD i 0) := by
  unfold stX
  rw [pX_at h, xOf, if_neg (by omega), hn, Int.natCast_ediv, show (((dig (prN a b) s i - 1 : Nat) : Int)) = (dig (prN a b) s i : Int) - 1 from by omega, Int.toNat_of_nonneg hb]
theorem dig_yv {a b : St} {k s i : Nat} (h : i < k) (hd : 0 < dig (prN a b) s i) {n : Int} (hn : n = b.n) (hb : 0 ≤ b.n) : Value.int .i64 ((((dig (prN a b) s i : Nat) : Int) - 1) % n) = Value.int .i64 ((stY a b k s).getD i 0) := by
  unfold stY
  rw [pY_at h, yOf, if_neg (by omega), hn, Int.natCast_emod, show (((dig (prN a b) s i - 1 : Nat) : Int)) = (dig (prN a b) s i : Int) - 1 from by omega, Int.toNat_of_nonneg hb]
end Go.Wk
namespace Go.Wk
open Go.RowKit
theorem row_put {u : Array Value} {L off : Nat} {X : List Bool} {b : Bool} (h : u.toList.take L = bools X) : (u.setIfInBounds off (.bool b)).toList.take L = bools (X.set off b) := by
  rw [Array.toList_setIfInBounds, List.take_set, h]
  simp [bools, List.map_set]
end Go.Wk
namespace Go.Wk
open Go.RowKit
theorem winAt_less {n : Nat} {a b : St} {k s : Nat} (h : winAt (n + 1) a b k s = true) : winAt n a b k s = true := winAt_true.2 (winAt_true.1 h).1
theorem wl_less {n : Nat} {a b : St} {k : Nat} (s : Nat) (h : (WL (n + 1) a b k).getD s false = true) : (WL n a b k).getD s false = true := by
  rcases Nat.lt_or_ge s (prN a b ^ k) with h1 | h1
  · rw [WL_at h1] at h ⊢; exact winAt_less h
  · rw [List.getD_eq_getElem?_getD, List.getElem?_eq_none (by rw [WL_len]; exact h1)] at h; cases h
/-- how many places are true -/
def nT : List Bool → Nat
  | [] => 0
  | x :: X => (if x then 1 else 0) + nT X
theorem nT_le : ∀ {X Y : List Bool}, X.length = Y.length → (∀ s : Nat, X.getD s false = true → Y.getD s false = true) → nT X ≤ nT Y ∧ (X ≠ Y → nT X < nT Y)
  | [], [], _, _ => ⟨Nat.le_refl _, fun h => absurd rfl h⟩
  | [], _ :: _, h, _ => by cases h
  | _ :: _, [], h, _ => by cases h
  | x :: X, y :: Y, hl, h => by
    obtain ⟨h1, h2⟩ := nT_le (X := X) (Y := Y) (by simpa using hl) (fun s hs => h (s + 1) hs)
    have h0 : x = true → y = true := h 0
    unfold nT
    cases x <;> cases y
    · exact ⟨by simpa using h1, fun hne => by simpa using h2 (fun e => hne (by rw [e]))⟩
    · refine ⟨?_, fun _ => ?_⟩ <;> simp <;> omega
    · cases h0 rfl
    · exact ⟨by simpa using h1, fun hne => by simpa using h2 (fun e => hne (by rw [e]))⟩
theorem wl_down {n : Nat} {a b : St} {k : Nat} (h : ¬ WL (n + 1) a b k = WL n a b k) : nT (WL (n + 1) a b k) < nT (WL n a b k) :=
  (nT_le (by rw [WL_len, WL_len]) (fun s => wl_less s)).2 h
theorem wl_next {n m : Nat} {a b : St} {k : Nat} (h : WL n a b k = WL m a b k) : WL (n + 1) a b k = WL (m + 1) a b k := by
  refine bools_same (by rw [WL_len, WL_len]) fun s hs => ?_
  rw [WL_len] at hs
  rw [WL_at hs, WL_at hs, Bool.eq_iff_iff, win_step, win_step]
  refine and_congr_right fun _ => forall_congr' fun i => imp_congr_right fun hi => ?_
  rw [← ans_wl hi hs, ← ans_wl hi hs, h]
theorem wl_all {n : Nat} {a b : St} {k : Nat} (h : WL (n + 1) a b k = WL n a b k) : ∀ m : Nat, WL (n + m) a b k = WL n a b k
  | 0 => rfl
  | m + 1 => (wl_next (wl_all h m)).trans h
theorem wl_ever {n : Nat} {a b : St} {k s : Nat} (h : WL (n + 1) a b k = WL n a b k) (hs : s < prN a b ^ k) : (WL (n + 1) a b k).getD s false = true ↔ ∀ m : Nat, winAt m a b k s = true := by
  constructor
  · intro e m
    rw [h] at e
    have h1 : (WL (n + m) a b k).getD s false = true := by rw [wl_all h m]; exact e
    rw [WL_at hs, winAt_true, Nat.add_comm n m] at h1
    exact winAt_true.2 (pW_less n h1)
  · intro e; rw [WL_at hs]; exact e (n + 1)
theorem ready_state {a b : St} {xs ys : List Int} (hr : readyB a xs b ys = true) : stN a b xs ys < prN a b ^ xs.length ∧ stX a b xs.length (stN a b xs ys) = xs ∧ stY a b xs.length (stN a b xs ys) = ys := by
  obtain ⟨_, _, _, _, _, hx, hy⟩ := ready_peb hr
  obtain ⟨_, _, _, hsg⟩ := readyB_true hr
  exact stN_ok hx hy (signsB_true hsg)
open Classical in
theorem ever_code {n : Nat} {a b : St} {xs ys : List Int} (hr : readyB a xs b ys = true) (h : WL (n + 1) a b xs.length = WL n a b xs.length) : (WL (n + 1) a b xs.length).getD (stN a b xs ys) false = pebEverB a xs b ys := by
  obtain ⟨hs, ex, ey⟩ := ready_state hr
  rw [Bool.eq_iff_iff, wl_ever h hs]
  unfold pebEverB pWinB
  rw [hr, if_neg (by omega), Bool.true_and, decide_eq_true_eq]
  unfold pF
  exact forall_congr' fun m => by rw [winAt_true, ex, ey]
def bes (k : Nat) : List Int := List.replicate k (-1)
@[simp] theorem bes_len (k : Nat) : (bes k).length = k := List.length_replicate
theorem bes_peb (size k : Nat) : Peb size k (bes k) := ⟨bes_len k, fun x hx => by rw [List.eq_of_mem_replicate hx]; omega⟩
theorem bes_at {k i : Nat} (h : i < k) : (bes k).getD i 0 = -1 := by
  rw [getD_at (by rw [bes_len]; exact h)]; simp [bes]
def Turns (a b : St) (k : Nat) (t : Int) : Prop := (∃ n : Nat, t = (n : Int) ∧ ¬ pW n a (bes k) b (bes k) ∧ ∀ m : Nat, m < n → pW m a (bes k) b (bes k)) ∨ (t = -1 ∧ pF a (bes k) b (bes k))
end Go.Wk
namespace Go.Wk
open Go.RowKit
theorem signsB_of {xs ys : List Int} (h : ∀ i : Nat, i < xs.length → (xs.getD i 0 < 0 ↔ ys.getD i 0 < 0)) : signsB xs ys = true := by
  unfold signsB
  rw [List.all_eq_true]
  intro i hi
  have := h i (List.mem_range.1 hi)
  simp only [this, beq_self_eq_true]
theorem pebB_of {a : St} {xs : List Int} (hv : validB a = true) (h1 : 1 ≤ xs.length) (h3 : xs.length ≤ 3) (h : Peb a.n.toNat xs.length xs) : pebB a xs = true := by
  have ha := validB_fine hv
  have := ha.lo
  unfold pebB inB
  simp only [Bool.and_eq_true, decide_eq_true_eq]
  refine ⟨⟨hv, by omega, by omega⟩, List.all_eq_true.2 fun x hx => ?_⟩
  have := h.2 x hx
  simp only [Bool.and_eq_true, decide_eq_true_eq]
  omega
theorem readyB_of {a b : St} {xs ys : List Int} (hVa : validB a = true) (hVb : validB b = true) (h1 : 1 ≤ xs.length) (h3 : xs.length ≤ 3) (hx : Peb a.n.toNat xs.length xs) (hy : Peb b.n.toNat xs.length ys) (hs : ∀ i : Nat, i < xs.length → (xs.getD i 0 < 0 ↔ ys.getD i 0 < 0)) : readyB a xs b ys = true := by
  have hl : ys.length = xs.length := hy.1
  unfold readyB
  simp only [Bool.and_eq_true, decide_eq_true_eq]
  exact ⟨⟨⟨pebB_of hVa h1 h3 hx, pebB_of hVb (by omega) (by omega) (by rw [hl]; exact hy)⟩, by omega⟩, signsB_of hs⟩
theorem ready_signs {a b : St} {xs ys : List Int} (h : readyB a xs b ys = true) : ∀ i : Nat, i < xs.length → (xs.getD i 0 < 0 ↔ ys.getD i 0 < 0) := signsB_true (readyB_true h).2.2.2
theorem set_sign {xs ys : List Int} {i : Nat} {x y : Nat} (hl : xs.length = ys.length) (hs : ∀ j : Nat, j < xs.length → (xs.getD j 0 < 0 ↔ ys.getD j 0 < 0)) : ∀ j : Nat, j < (xs.set i (x : Int)).length → ((xs.set i (x : Int)).getD j 0 < 0 ↔ (ys.set i (y : Int)).getD j 0 < 0) := fun j hj => by
  rw [List.length_set] at hj
  rw [List.getD_eq_getElem?_getD, List.getD_eq_getElem?_getD, List.getElem?_set, List.getElem?_set]
  by_cases e : i = j
  · subst e
    rw [if_pos rfl, if_pos rfl, if_pos hj, if_pos (by omega)]
    show ((x : Int) < 0 ↔ (y : Int) < 0)
    omega
  · rw [if_neg e, if_neg e, ← List.getD_eq_getElem?_getD, ← List.getD_eq_getElem?_getD]; exact hs j hj
theorem ready_set {a b : St} {xs ys : List Int} (h : readyB a xs b ys = true) {i x y : Nat} (hx : x < a.n.toNat) (hy : y < b.n.toNat) : readyB a (xs.set i (x : Int)) b (ys.set i (y : Int)) = true := by
  obtain ⟨hVa, hVb, h1, h3, hl, hX, hY⟩ := ready_peb h
  exact readyB_of hVa hVb (by rw [List.length_set]; exact h1) (by rw [List.length_set]; exact h3) (by rw [List.length_set]; exact peb_set hX hx) (by rw [List.length_set]; exact peb_set hY hy) (set_sign hl (ready_signs h))
theorem pebEver_at {a b : St} {xs ys : List Int} (h : readyB a xs b ys = true) : pebEverB a xs b ys = true ↔ pF a xs b ys := by
  unfold pebEverB pWinB
  rw [h, if_neg (by omega)]
  simp
theorem pW_refl (a : St) : ∀ (n : Nat) (xs : List Int), pW n a xs a xs
  | 0, _ => ⟨fun _ _ => Iff.rfl, same_refl a _⟩
  | n + 1, xs => ⟨pW_refl a n xs, fun _ _ => ⟨fun x hx => ⟨x, hx, pW_refl a n _⟩, fun y hy => ⟨y, hy, pW_refl a n _⟩⟩⟩
theorem bes_ready {a b : St} {k : Nat} (hVa : validB a = true) (hVb : validB b = true) (h1 : 1 ≤ k) (h3 : k ≤ 3) : readyB a (bes k) b (bes k) = true :=
  readyB_of hVa hVb (by rw [bes_len]; exact h1) (by rw [bes_len]; exact h3) (by rw [bes_len]; exact bes_peb _ _) (by rw [bes_len]; exact bes_peb _ _) fun _ _ => Iff.rfl
theorem placed_same {xs zs : List Int} : ∀ {i : Nat}, i ≤ xs.length → placed (xs ++ zs) i = placed xs i
  | 0, _ => rfl
  | i + 1, h => by
    unfold placed
    rw [placed_same (by omega), List.getD_eq_getElem?_getD, List.getElem?_append_left (by omega), ← List.getD_eq_getElem?_getD]
theorem sign_app {xs ys : List Int} {x y : Int} (hl : xs.length = ys.length) (h : ∀ i : Nat, i < (xs ++ [x]).length → ((xs ++ [x]).getD i 0 < 0 ↔ (ys ++ [y]).getD i 0 < 0)) : ∀ i : Nat, i < xs.length → (xs.getD i 0 < 0 ↔ ys.getD i 0 < 0) := fun i hi => by
  have := h i (by rw [List.length_append]; omega)
  rwa [List.getD_eq_getElem?_getD, List.getElem?_append_left hi, List.getD_eq_getElem?_getD, List.getElem?_append_left (by omega), ← List.getD_eq_getElem?_getD, ← List.getD_eq_getElem?_getD] at this
/-- a pebble less -/
theorem pW_drop : ∀ {n : Nat} {a b : St} {xs ys : List Int} {x y : Int}, xs.length = ys.length → pW n a (xs ++ [x]) b (ys ++ [y]) → pW n a xs b ys
  | 0, a, b, xs, ys, x, y, hl, h => by
    obtain ⟨h1, h2⟩ := h
    have hs := sign_app hl h1
    refine ⟨hs, ?_⟩
    have he : (placed xs xs.length).length = (placed ys ys.length).length := by rw [← hl]; exact placed_len _ hs
    have hx := h1 xs.length (by simp)
    rw [List.length_append, List.length_append, List.length_singleton, List.length_singleton, placed, placed, placed_same (Nat.le_refl _), placed_same (Nat.le_refl _)] at h2
    rw [← hl] at h2
    by_cases e : (xs ++ [x]).getD xs.length 0 < 0
    · rw [if_pos e, if_pos (hx.1 e)] at h2
      rw [← hl]; exact h2
    · rw [if_neg e, if_neg (fun h => e (hx.2 h)), same_more (by rw [he, hl]), Bool.and_eq_true] at h2
      rw [← hl]; exact h2.1
  | n + 1, a, b, xs, ys, x, y, hl, h => by
    refine ⟨pW_drop hl h.1, fun i hi => ?_⟩
    obtain ⟨h1, h2⟩ := h.2 i (by rw [List.length_append]; omega)
    refine ⟨fun u hu => (h1 u hu).elim fun v hv => ⟨v, hv.1, ?_⟩, fun v hv => (h2 v hv).elim fun u hu => ⟨u, hu.1, ?_⟩⟩
    · have := hv.2
      rw [List.set_append_left _ _ hi, List.set_append_left _ _ (by omega)] at this
      exact pW_drop (by simp [hl]) this
    · have := hu.2
      rw [List.set_append_left _ _ hi, List.set_append_left _ _ (by omega)] at this
      exact pW_drop (by simp [hl]) this
theorem bes_snoc (k : Nat) : bes (k + 1) = bes k ++ [-1] := by unfold bes; rw [List.replicate_succ']
end Go.Wk
namespace Go.Wk
open Go.RowKit
/-- a pebble on an element, the others beside -/
def bes1 (k x : Nat) : List Int := (bes k).set 0 (x : Int)
@[simp] theorem bes1_len (k x : Nat) : (bes1 k x).length = k := by unfold bes1; rw [List.length_set, bes_len]
noncomputable def qE (a : St) (k y x : Nat) : Bool := pebEverB a (bes1 k y) a (bes1 k x)
noncomputable def pebCls (a : St) (k : Nat) : Nat := (clsN (qE a k) a.n.toNat).2
noncomputable def pebClsB (a : St) (p : Int) : Int := if validB a && inB p 1 3 then (pebCls a p.toNat : Int) else -1
theorem bes1_ready {a b : St} {k x y : Nat} (hVa : validB a = true) (hVb : validB b = true) (h1 : 1 ≤ k) (h3 : k ≤ 3) (hx : x < a.n.toNat) (hy : y < b.n.toNat) : readyB a (bes1 k x) b (bes1 k y) = true :=
  ready_set (bes_ready hVa hVb h1 h3) hx hy
theorem bes1_peb {size k x : Nat} (hx : x < size) : Peb size k (bes1 k x) := peb_set (bes_peb size k) hx
theorem qE_true {a : St} {k y x : Nat} (hVa : validB a = true) (h1 : 1 ≤ k) (h3 : k ≤ 3) (hy : y < a.n.toNat) (hx : x < a.n.toNat) : qE a k y x = true ↔ pF a (bes1 k y) a (bes1 k x) := pebEver_at (bes1_ready hVa hVa h1 h3 hy hx)
open Classical in
theorem lev_ever {k m : Nat} {a : St} {A B : List (List Int)} (h : Levs k 2000 a a A B m (m - 1)) (he : LevEnds k 2000 a a m) {xs ys : List Int} (hx : Peb a.n.toNat k xs) (hy : Peb a.n.toNat k ys) : numP a.n.toNat (A.getD m []) xs = numP a.n.toNat (A.getD m []) ys ↔ pF a xs a ys := by
  obtain ⟨K, _, hl⟩ := h.at (Nat.le_refl m)
  have h1 := levs_end h he (.inr rfl) hx hy
  unfold pWinB at h1
  rw [if_neg (by omega), decide_eq_decide] at h1
  rw [hl.good.aa xs ys hx hy, ← hl.good.ab xs ys hx hy, h1]
/-- numbers seen, and how many classes -/
structure CntE (q : Nat → Nat → Bool) (num : Nat → Int) (n : Nat) (S : List Int) : Prop where
  srt : S.Pairwise (· < ·)
  has : ∀ y : Nat, y < n → num y ∈ S
  src : ∀ m ∈ S, ∃ y : Nat, y < n ∧ m = num y
  cls : (clsN q n).2 = S.length
theorem CntE.zero {q : Nat → Nat → Bool} {num : Nat → Int} : CntE q num 0 [] := ⟨List.Pairwise.nil, fun y hy => absurd hy (by omega), fun m hm => (by cases hm), rfl⟩
theorem CntE.step {q : Nat → Nat → Bool} {num : Nat → Int} {n : Nat} {S : List Int} (h : CntE q num n S) (hq : ∀ y : Nat, y < n → (q y n = true ↔ num y = num n)) : CntE q num (n + 1) (insS S (num n)) := by
  refine ⟨sorted_insS h.srt, fun y hy => ?_, fun m hm => ?_, ?_⟩
  · rw [mem_insS]
    rcases Nat.lt_or_ge y n with h1 | h1
    · exact .inr (h.has y h1)
    · obtain rfl : y = n := by omega
      exact .inl rfl
  · rcases mem_insS.1 hm with h1 | h1
    · exact ⟨n, by omega, h1⟩
    · obtain ⟨y, hy, e⟩ := h.src m h1
      exact ⟨y, by omega, e⟩
  · by_cases hm : num n ∈ S
    · obtain ⟨y, hy, e⟩ := h.src _ hm
      rw [insS_mem h.srt hm, cls_same hy ((hq y hy).2 e.symm), h.cls]
    · rw [insS_new hm, cls_more (fun y hy => ?_), h.cls]
      cases e : q y n with
      | false => rfl
      | true => exact absurd (by rw [← (hq y hy).1 e]; exact h.has y hy) hm
theorem CntE.len {q : Nat → Nat → Bool} {num : Nat → Int} {n : Nat} {S : List Int} (h : CntE q num n S) : S.length ≤ n := by rw [← h.cls]; exact (cls_small _ n).1
theorem ever_at {n : Nat} {a : St} {k y x : Nat} (hVa : validB a = true) (h1 : 1 ≤ k) (h3 : k ≤ 3) (hy : y < a.n.toNat) (hx : x < a.n.toNat) (hE : WL (n + 1) a a k = WL n a a k) : (WL (n + 1) a a k).getD (stU a.n.toNat (prN a a) (bes1 k y) (bes1 k x) k k) false = qE a k y x := by
  have hr := bes1_ready hVa hVa h1 h3 hy hx
  have := ever_code (n := n) hr (by rw [bes1_len]; exact hE)
  unfold stN at this
  rw [bes1_len] at this
  exact this
theorem max_ever {n : Nat} {a : St} {k : Nat} (hVa : validB a = true) (h1 : 1 ≤ k) (h3 : k ≤ 3) (hE : WL (n + 1) a a k = WL n a a k) : maxTo (clsN (fun y x => (WL (n + 1) a a k).getD (stU a.n.toNat (prN a a) (bes1 k y) (bes1 k x) k k) false) a.n.toNat).1 ((clsN (fun y x => (WL (n + 1) a a k).getD (stU a.n.toNat (prN a a) (bes1 k y) (bes1 k x) k k) false) a.n.toNat).1.length - 1) + 1 = pebClsB a (k : Int) := by
  have ha := validB_fine hVa
  have hlo := ha.lo
  rw [cls_length, max_cls _ (by omega), cls_congr (q' := qE a k) (fun y x hy hx => ever_at hVa h1 h3 (by omega) hx hE)]
  unfold pebClsB pebCls inB
  rw [if_pos (by simp [hVa]; omega), Int.toNat_natCast]
  omega
theorem box_heap {w w1 : World} {g : Nat} {o : Obj} {hs : List (Nat × Obj)} (hg : w.heap[g]? = some o) (hw : Own w.heap.size w hs w1) : w1.heap[g]? = some o := by
  have hlt : g < w.heap.size := by
    rcases Nat.lt_or_ge g w.heap.size with h | h
    · exact h
    · rw [Array.getElem?_eq_none h] at hg; cases hg
  rw [hw.below.block g hlt, hg]
theorem bes1_sign {k x y : Nat} : ∀ i : Nat, i < k → ((bes1 k x).getD i 0 < 0 ↔ (bes1 k y).getD i 0 < 0) := fun i hi =>
  set_sign (xs := bes k) (ys := bes k) rfl (fun _ _ => Iff.rfl) i (by rw [List.length_set, bes_len]; exact hi)
end Go.Wk
namespace Go.Wk
open Go.RowKit
theorem Turns.swap {a b : St} {k : Nat} {n : Int} (h : Turns a b k n) : Turns b a k n := by
  rcases h with ⟨m, e, h5, h6⟩ | ⟨e, h5⟩
  · exact .inl ⟨m, e, fun h => h5 (pW_comm _ _ _ _ _ rfl h), fun i hi => pW_comm _ _ _ _ _ rfl (h6 i hi)⟩
  · exact .inr ⟨e, fun i => pW_comm _ _ _ _ _ rfl (h5 i)⟩
def atQ (os ys : List Int) : List Int := ys.map fun y => if y < 0 then -1 else os.getD y.toNat 0
@[simp] theorem atQ_len (os ys : List Int) : (atQ os ys).length = ys.length := by simp [atQ]
theorem atQ_at (os : List Int) {ys : List Int} {i : Nat} (h : i < ys.length) : (atQ os ys).getD i 0 = if ys.getD i 0 < 0 then -1 else os.getD (ys.getD i 0).toNat 0 := by
  unfold atQ
  rw [getD_at (by simpa using h), getD_at h]; simp
theorem atQ_set (os ys : List Int) (i : Nat) (y : Nat) : atQ os (ys.set i (y : Int)) = (atQ os ys).set i (os.getD y 0) := by
  unfold atQ
  rw [List.map_set, if_neg (by omega), Int.toNat_natCast]
theorem atQ_sign {a : St} {os ys : List Int} (hA : a.Els os) (hB : ∀ y ∈ ys, -1 ≤ y ∧ y < (os.length : Int)) {i : Nat} (hi : i < ys.length) : (atQ os ys).getD i 0 < 0 ↔ ys.getD i 0 < 0 := by
  rw [atQ_at os hi]
  have := hB (ys.getD i 0) (by rw [getD_at hi]; exact List.getElem_mem _)
  by_cases e : ys.getD i 0 < 0
  · rw [if_pos e]; exact ⟨fun _ => e, fun _ => by decide⟩
  · rw [if_neg e]
    have h1 : (ys.getD i 0).toNat < os.length := by omega
    have := (hA (os.getD (ys.getD i 0).toNat 0) (by rw [getD_at h1]; exact List.getElem_mem _)).1
    omega
theorem atQ_placed {a : St} {os ys : List Int} (hA : a.Els os) (hB : ∀ y ∈ ys, -1 ≤ y ∧ y < (os.length : Int)) : ∀ i : Nat, i ≤ ys.length → placed (atQ os ys) i = atO os (placed ys i)
  | 0, _ => rfl
  | i + 1, h => by
    have hs := atQ_sign hA hB (show i < ys.length by omega)
    unfold placed
    rw [atQ_placed hA hB i (by omega)]
    by_cases e : ys.getD i 0 < 0
    · rw [if_pos (hs.2 e), if_pos e]
    · rw [if_neg (fun h => e (hs.1 h)), if_neg e, atQ_at os (by omega), if_neg e]; simp [atO]
theorem shape_pebs {a b : St} {os : List Int} (hn : a.n = b.n) (hl : (os.length : Int) = a.n) (hA : a.Els os) (hs : sameB a os b (upto os.length) = true) : ∀ (n : Nat) (ys : List Int), (∀ y ∈ ys, -1 ≤ y ∧ y < (os.length : Int)) → pW n a (atQ os ys) b ys
  | 0, ys, hB => by
    refine ⟨fun i hi => atQ_sign hA hB (by simpa using hi), ?_⟩
    rw [atQ_len, atQ_placed hA hB _ (Nat.le_refl _)]
    exact shape_same hs fun y hy => by
      obtain ⟨h1, h2⟩ := placed_mem _ (Nat.le_refl _) y hy
      exact ⟨h2, (hB y h1).2⟩
  | n + 1, ys, hB => by
    have more : ∀ (i y : Nat), y < os.length → pW n a ((atQ os ys).set i (os.getD y 0)) b (ys.set i (y : Int)) := fun i y hy => by
      rw [← atQ_set]
      exact shape_pebs hn hl hA hs n _ fun z hz => by
        rcases List.mem_or_eq_of_mem_set hz with h | h
        · exact hB z h
        · rw [h]; omega
    refine ⟨shape_pebs hn hl hA hs n ys hB, fun i _ => ⟨fun x hx => ?_, fun y hy => ?_⟩⟩
    · obtain ⟨y, hy, e⟩ := shaped_onto hl hA hs (x := (x : Int)) ⟨by omega, by omega⟩
      exact ⟨y, by omega, by rw [← e]; exact more i y hy⟩
    · have hy' : y < os.length := by omega
      have hel := hA (os.getD y 0) (by rw [getD_at hy']; exact List.getElem_mem _)
      refine ⟨(os.getD y 0).toNat, by have := hel.1; have := hel.2; omega, ?_⟩
      rw [show (((os.getD y 0).toNat : Nat) : Int) = os.getD y 0 from by have := hel.1; omega]
      exact more i y hy'
theorem atQ_bes (os : List Int) (k : Nat) : atQ os (bes k) = bes k := by unfold atQ bes; simp
end Go.Wk
namespace Go.Wk
open Go.RowKit
theorem pebCls_reps (a : St) (k : Nat) : pebCls a k = (repsL (qE a k) a.n.toNat).length := cls_reps _ _
theorem pebClsB_ok {a : St} {q : Int} (h : ¬ pebClsB a q < 0) : validB a = true ∧ 1 ≤ q ∧ q ≤ 3 ∧ pebClsB a q = (pebCls a q.toNat : Int) := by
  unfold pebClsB at h ⊢
  by_cases hc : (validB a && inB q 1 3) = true
  · rw [if_pos hc]
    unfold inB at hc
    simp only [Bool.and_eq_true, decide_eq_true_eq] at hc
    exact ⟨hc.1, hc.2.1, hc.2.2, rfl⟩
  · rw [if_neg hc] at h; exact absurd (by decide) h
theorem pebClsB_at {a : St} {q : Int} (hV : validB a = true) (h1 : 1 ≤ q) (h3 : q ≤ 3) : pebClsB a q = (pebCls a q.toNat : Int) := by
  unfold pebClsB inB
  rw [if_pos (by simp [hV]; omega)]
theorem pebClsB_no {a : St} {q : Int} (h : 3 < q) : pebClsB a q = -1 := by
  unfold pebClsB inB
  rw [if_neg]
  simp only [Bool.and_eq_true, decide_eq_true_eq]
  omega
theorem point_one {size k : Nat} (h : k < size) : pointL size 1 k = [(k : Int)] := by
  unfold pointL pointL
  rw [Nat.mod_eq_of_lt h]; rfl
theorem kinds_one {a : St} (hV : validB a = true) : kindsI a 1 = (cntQ a 0 1 : Int) := by
  have h := countC_eq (a := a) (W := 1) (R := 0) hV (by omega) (by omega)
  have h2 : ¬ countC a 1 0 < 0 := by rw [h]; omega
  rw [← count_zero h2 (by omega), h]; rfl
theorem cnt_one (a : St) : cntQ a 0 1 = (repsL (qP a 0 1) a.n.toNat).length := by unfold cntQ; rw [Nat.pow_one]
theorem placed_one {k x : Nat} (h : 1 ≤ k) : placed (bes1 k x) k = [(x : Int)] := by
  have key : ∀ j : Nat, 1 ≤ j → j ≤ k → placed (bes1 k x) j = [(x : Int)] := fun j => by
    induction j with
    | zero => intro h; omega
    | succ j ih =>
      intro _ hj
      rcases Nat.eq_zero_or_pos j with e | e
      · subst e
        have h0 : (bes1 k x).getD 0 0 = (x : Int) := by
          unfold bes1
          rw [List.getD_eq_getElem?_getD, List.getElem?_set_self (by rw [bes_len]; omega)]; rfl
        rw [placed_pos (by rw [h0]; omega), h0]; rfl
      · have h0 : (bes1 k x).getD j 0 = -1 := by
          unfold bes1
          rw [List.getD_eq_getElem?_getD, List.getElem?_set_ne (by omega), ← List.getD_eq_getElem?_getD, bes_at (by omega)]
        rw [placed_neg (by rw [h0]; decide), ih e (by omega)]
  exact key k h (Nat.le_refl k)
theorem one_fit {a : St} {k y x : Nat} (h : 1 ≤ k) : pW 0 a (bes1 k y) a (bes1 k x) ↔ sameB a [(y : Int)] a [(x : Int)] = true := by
  unfold pW
  rw [bes1_len, bes1_len, placed_one h, placed_one h]
  exact ⟨fun e => e.2, fun e => ⟨bes1_sign, e⟩⟩
theorem qP_same {a : St} {y x : Nat} (hy : y < a.n.toNat) (hx : x < a.n.toNat) : qP a 0 1 y x = sameB a [(y : Int)] a [(x : Int)] := by
  unfold qP winB
  rw [point_one hy, point_one hx]; simp [goB]
theorem pebCls_kinds {a : St} {k : Nat} (hV : validB a = true) (h1 : 1 ≤ k) (h3 : k ≤ 3) : kindsI a 1 ≤ (pebCls a k : Int) := by
  rw [kinds_one hV, cnt_one, pebCls_reps]
  have := reps_mono (q := qP a 0 1) (q' := qE a k) (N := a.n.toNat) fun y x hyx hx h => by
    rw [qP_same (by omega) hx]
    exact (one_fit h1).1 ((qE_true hV h1 h3 (by omega) hx).1 h 0)
  omega
theorem one_moves {a : St} {y x : Nat} (h : pW 0 a (bes1 1 y) a (bes1 1 x)) : ∀ n : Nat, pW n a (bes1 1 y) a (bes1 1 x)
  | 0 => h
  | n + 1 => by
    refine ⟨one_moves h n, fun i hi => ?_⟩
    rw [bes1_len] at hi
    obtain rfl : i = 0 := by omega
    have e : ∀ z u : Nat, (bes1 1 z).set 0 (u : Int) = [(u : Int)] := fun z u => by unfold bes1 bes; rfl
    refine ⟨fun u hu => ⟨u, hu, ?_⟩, fun u hu => ⟨u, hu, ?_⟩⟩ <;> (rw [e, e]; exact pW_refl a n _)
theorem pebCls_one {a : St} (hV : validB a = true) : (pebCls a 1 : Int) = kindsI a 1 := by
  have h1 := pebCls_kinds hV (k := 1) (by omega) (by omega)
  have h2 := reps_mono (q := qE a 1) (q' := qP a 0 1) (N := a.n.toNat) fun y x hyx hx h => by
    rw [qP_same (by omega) hx] at h
    exact (qE_true hV (by omega) (by omega) (by omega) hx).2 (one_moves ((one_fit (by omega)).2 h))
  rw [kinds_one hV, cnt_one] at h1 ⊢
  rw [pebCls_reps] at h1 ⊢
  omega
theorem bes1_snoc {k x : Nat} (h : 1 ≤ k) : bes1 (k + 1) x = bes1 k x ++ [-1] := by
  unfold bes1
  rw [bes_snoc, List.set_append_left _ _ (by rw [bes_len]; omega)]
theorem pebCls_next {a : St} {k : Nat} (hV : validB a = true) (h1 : 1 ≤ k) (h3 : k + 1 ≤ 3) : pebCls a k ≤ pebCls a (k + 1) := by
  rw [pebCls_reps, pebCls_reps]
  refine reps_mono fun y x hyx hx h => ?_
  refine (qE_true hV h1 (by omega) (by omega) hx).2 fun n => ?_
  have := (qE_true hV (by omega) h3 (by omega) hx).1 h n
  rw [bes1_snoc h1, bes1_snoc h1] at this
  exact pW_drop (by simp) this
theorem pebClsB_next {a : St} {q : Int} (hV : validB a = true) (h1 : 1 ≤ q) (h3 : q ≤ 3) : pebClsB a (q + 1) < 0 ∨ (pebCls a q.toNat : Int) ≤ pebClsB a (q + 1) := by
  rcases Int.lt_or_le 3 (q + 1) with h | h
  · exact .inl (by rw [pebClsB_no h]; decide)
  · have := pebCls_next hV (k := q.toNat) (by omega) (by omega)
    rw [pebClsB_at hV (by omega) h, show (q + 1).toNat = q.toNat + 1 by omega]
    omega
theorem atQ_one {os : List Int} {k x : Nat} : atQ os (bes1 k x) = (bes k).set 0 (os.getD x 0) := by
  unfold bes1
  rw [atQ_set, atQ_bes]
theorem moved_class {a : St} {k x : Nat} {z : Int} (hV : validB a = true) (h1 : 1 ≤ k) (h3 : k ≤ 3) (hx : x < a.n.toNat) (hz : a.El z) (hm : Moved a x z) : qE a k z.toNat x = true := by
  have hz0 := hz.1
  have hz1 := hz.2
  have hlo := (validB_fine hV).lo
  refine (qE_true hV h1 h3 (by omega) hx).2 fun n => ?_
  obtain ⟨os, hl, hA, hs, e⟩ := hm
  have := shape_pebs rfl hl hA hs n (bes1 k x) fun y hy => by
    have := (bes1_peb (size := a.n.toNat) (k := k) hx).2 y hy
    omega
  rw [atQ_one] at this
  have e2 : os.getD x 0 = ((z.toNat : Nat) : Int) := by rw [Int.toNat_of_nonneg hz0, ← e]; simp
  rw [e2] at this
  exact this
theorem reps_succ (q : Nat → Nat → Bool) (N : Nat) : (repsL q (N + 1)).length = (repsL q N).length + (if (List.range N).all (fun y => !q y N) then 1 else 0) := by
  unfold repsL
  rw [List.range_succ, List.filter_append, List.length_append]
  congr 1
  split
  · rename_i h; simp only [List.filter_cons, h, if_true, List.filter_nil]; rfl
  · rename_i h; simp only [List.filter_cons, h, List.filter_nil]; rfl
theorem orb_yes {q : Nat → Nat → Bool} {i : Nat} {o : Int} (h : ((repsL q i).length : Int) ≤ o) : ((repsL q (i + 1)).length : Int) ≤ o + 1 := by
  rw [reps_succ]; split <;> omega
theorem orb_no {a : St} {k i : Nat} {o z : Int} (hV : validB a = true) (h1 : 1 ≤ k) (h3 : k ≤ 3) (hi : i < a.n.toNat) (h : ((repsL (qE a k) i).length : Int) ≤ o) (hz : a.El z) (hm : Moved a i z) (hle : z ≤ (i : Int)) (hne : ¬ z = (i : Int)) : ((repsL (qE a k) (i + 1)).length : Int) ≤ o := by
  rw [reps_succ, if_neg]
  · omega
  · intro hall
    have hz0 := hz.1
    have h2 := List.all_eq_true.1 hall z.toNat (List.mem_range.2 (by omega))
    rw [moved_class hV h1 h3 hi hz hm] at h2
    cases h2
end Go.Wk
namespace Go.Proofs
open Go.Shelf
def Tryz.lays160_ren : Go.Shelf.Ren := ⟨fun | 160 => 59 | 232 => 77 | 231 => 76 | 227 => 78 | 234 => 80 | 233 => 79 | 236 => 82 | 235 => 81 | 228 => 89 | 271 => 92 | 151 => 91 | 197 => 90 | 120 => 96 | 152 => 95 | 260 => 94 | 137 => 97 | 119 => 98 | 224 => 99 | 225 => 100 | 217 => 101 | 266 => 102 | n => n, fun | 9 => 9 | 4 => 4 | 3 => 3 | 5 => 5 | 117 => 103 | 116 => 102 | 0 => 0 | 124 => 106 | 21 => 21 | 105 => 115 | 46 => 121 | 119 => 120 | 139 => 124 | 138 => 123 | n => n, fun | 3 => 0 | 4 => 1 | n => n⟩
theorem Tryz.lays160 : Go.Proofs.Lays.n160 Tryz.prog Tryz.lays160_ren := {
  mixed := by kernel_rfl
  f119 := Tryz.func98.trans (congrArg some (by kernel_rfl))
  f120 := Tryz.func96.trans (congrArg some (by kernel_rfl))
  f137 := Tryz.func97.trans (congrArg some (by kernel_rfl))
  f151 := Tryz.func91.trans (congrArg some (by kernel_rfl))
  f152 := Tryz.func95.trans (congrArg some (by kernel_rfl))
  f160 := Tryz.func59.trans (congrArg some (by kernel_rfl))
  f197 := Tryz.func90.trans (congrArg some (by kernel_rfl))
  f217 := Tryz.func101.trans (congrArg some (by kernel_rfl))
  f224 := Tryz.func99.trans (congrArg some (by kernel_rfl))
  f225 := Tryz.func100.trans (congrArg some (by kernel_rfl))
  f227 := Tryz.func78.trans (congrArg some (by kernel_rfl))
  f228 := Tryz.func89.trans (congrArg some (by kernel_rfl))
  f231 := Tryz.func76.trans (congrArg some (by kernel_rfl))
  f232 := Tryz.func77.trans (congrArg some (by kernel_rfl))
  f233 := Tryz.func79.trans (congrArg some (by kernel_rfl))
  f234 := Tryz.func80.trans (congrArg some (by kernel_rfl))
  f235 := Tryz.func81.trans (congrArg some (by kernel_rfl))
  f236 := Tryz.func82.trans (congrArg some (by kernel_rfl))
  f260 := Tryz.func94.trans (congrArg some (by kernel_rfl))
  f266 := Tryz.func102.trans (congrArg some (by kernel_rfl))
  f271 := Tryz.func92.trans (congrArg some (by kernel_rfl))
  t0 := Tryz.underlying0
  a0 := Tryz.isAgg0
  z0 := Tryz.sizeOf0
  v0 := Tryz.zeroValue0
  t3 := Tryz.underlying3
  a3 := Tryz.isAgg3
  z3 := Tryz.sizeOf3
  v3 := Tryz.zeroValue3
  t4 := Tryz.underlying4
  a4 := Tryz.isAgg4
  z4 := Tryz.sizeOf4
  v4 := Tryz.zeroValue4
  t5 := Tryz.underlying5
  a5 := Tryz.isAgg5
  z5 := Tryz.sizeOf5
  v5 := Tryz.zeroValue5
  t9 := Tryz.underlying9
  a9 := Tryz.isAgg9
  z9 := Tryz.sizeOf9
  v9 := Tryz.zeroValue9
  t21 := Tryz.underlying21
  a21 := Tryz.isAgg21
  z21 := Tryz.sizeOf21
  v21 := Tryz.zeroValue21
  t46 := Tryz.underlying121
  a46 := Tryz.isAgg121
  z46 := Tryz.sizeOf121
  v46 := Tryz.zeroValue121
  t105 := Tryz.underlying115
  a105 := Tryz.isAgg115
  z105 := Tryz.sizeOf115
  v105 := Tryz.zeroValue115
  t116 := Tryz.underlying102
  a116 := Tryz.isAgg102
  z116 := Tryz.sizeOf102
  t117 := Tryz.underlying103
  a117 := Tryz.isAgg103
  z117 := Tryz.sizeOf103
  v117 := Tryz.zeroValue103
  t119 := Tryz.underlying120
  a119 := Tryz.isAgg120
  z119 := Tryz.sizeOf120
  t124 := Tryz.underlying106
  a124 := Tryz.isAgg106
  z124 := Tryz.sizeOf106
  v124 := Tryz.zeroValue106
  t138 := Tryz.underlying123
  a138 := Tryz.isAgg123
  z138 := Tryz.sizeOf123
  v138 := Tryz.zeroValue123
  t139 := Tryz.underlying124
  a139 := Tryz.isAgg124
  z139 := Tryz.sizeOf124
  v139 := Tryz.zeroValue124
  g3 := by kernel_rfl
  g4 := by kernel_rfl }
end Go.Proofs
namespace Go.Proofs.YtjcoijejhachhaaGreatDoor
open Go.RowKit Go.Wk
theorem Base.mixed : Tryz.prog.follows .mixedOrders = true := by kernel_rfl
theorem Base.elem22 : Elem Tryz.prog 22 5 1 := ⟨Tryz.underlying22, Tryz.t5, _, by kernel_rfl, rfl, rfl, by decide, rfl, by decide⟩
theorem Base.elem28 : Elem Tryz.prog 28 3 1 := ⟨Tryz.underlying28, Tryz.t3, _, by kernel_rfl, rfl, rfl, by decide, rfl, by decide⟩
theorem Base.elem42 : Elem Tryz.prog 42 4 1 := ⟨Tryz.underlying42, Tryz.t4, _, by kernel_rfl, rfl, rfl, by decide, rfl, by decide⟩
theorem Base.elem48 : Elem Tryz.prog 48 28 1 := ⟨Tryz.underlying48, Tryz.t28, _, by kernel_rfl, rfl, rfl, by decide, rfl, by decide⟩
theorem Base.elem70 : Elem Tryz.prog 70 110 1 := ⟨Tryz.underlying70, Tryz.t110, _, by kernel_rfl, rfl, rfl, by decide, rfl, by decide⟩
theorem Base.elem78 : Elem Tryz.prog 78 9 1 := ⟨Tryz.underlying78, Tryz.t9, _, by kernel_rfl, rfl, rfl, by decide, rfl, by decide⟩
theorem Base.elem110 : Elem Tryz.prog 110 112 2 := ⟨Tryz.underlying110, Tryz.t112, _, by kernel_rfl, rfl, rfl, by decide, rfl, by decide⟩
theorem trim_ok (s : List UInt8) (w : World) (hs : s.length ≤ 1048576) :
    Calls Tryz.prog 59 [str s, str [48, 49]].toArray w fun en w' => en = .returned (str (Lib.trimS s [48, 49])) ∧ Below w.heap.size w w' :=
  Any.strings_Trim_laid Tryz.lays160 (by kernel_rfl) ⟨⟨s⟩⟩ ⟨⟨[48, 49]⟩⟩ w (by show s.length ≤ 9223372036854775807; omega) (by decide) (ascii_of_all (by decide))
end Go.Proofs.YtjcoijejhachhaaGreatDoor
namespace Go.Proofs.YtjcoijejhachhaaGreatDoor
open Go.RowKit Go.Wk
set_option linter.unusedSimpArgs false
set_option maxHeartbeats 400000 in
/-- spec.l1In -/
theorem l1In_ok (n lo hi : Int) (w : World) :
    Calls Tryz.prog 21 [i6_ n, i6_ lo, i6_ hi].toArray w fun en w' => en = .returned (.bool (inB n lo hi)) ∧ Below w.heap.size w w' := by
 refine fnStart (n := 15) (e := [(0, i6_ n), (1, i6_ lo), (2, i6_ hi)]) Tryz.func21 rfl rfl rfl rfl Ends.both ?_
 refine Wk.seq ?_
 refine Wk.regionQ ?_
 refine Lq.run 1 rfl ?_
 refine Lq.nil ?_
 refine Kt.sel [0, 1, 2] [_, _, _] rfl ?_
 refine Wk.seq ?_
 refine Wk.regionQ ?_
 refine Lq.run 4 rfl ?_
 refine Lq.bool fun b10 hg10 => ?_
 cases b10
 ·
  replace hg10 := of_decide_eq_false hg10
  refine Lq.pass rfl rfl rfl ?_
  refine Lq.pass rfl rfl rfl ?_
  refine Lq.pass rfl rfl rfl ?_
  refine Lq.run 2 rfl ?_
  refine Lq.nil ?_
  refine Kt.sel [6] [_] rfl ?_
  refine Wk.ret (Kt.end1 rfl rfl fun w' hw => ?_)
  exact ⟨ret_b (by first | rfl | (simp_all [inB]; done) | (simp_all [inB]; omega)), hw.below⟩
 ·
  replace hg10 := of_decide_eq_true hg10
  refine Lq.run 5 rfl ?_
  refine Lq.nil ?_
  refine Kt.sel [6] [_] rfl ?_
  refine Wk.ret (Kt.end1 rfl rfl fun w' hw => ?_)
  exact ⟨ret_b (by first | rfl | (simp_all [inB]; done) | (simp_all [inB]; omega)), hw.below⟩
set_option maxHeartbeats 400000 in
/-- spec.l1Bits -/
theorem l1Bits_ok (s : List UInt8) (n : Int) (w : World) (hs : s.length ≤ 1048576) :
    Calls Tryz.prog 41 [str s, i6_ n].toArray w fun en w' => en = .returned (.bool (bitsB s n)) ∧ Below w.heap.size w w' := by
 refine fnStart (n := 26) (e := [(0, str s), (1, i6_ n)]) Tryz.func41 rfl rfl rfl rfl Ends.both ?_
 refine Wk.seq ?_
 refine Wk.regionQ ?_
 refine Lq.run 1 rfl ?_
 refine Lq.nil ?_
 refine Kt.sel [0, 1] [_, _] rfl ?_
 refine Wk.seq ?_
 refine Wk.seq ?_
 refine Wk.regionQ ?_
 refine Lq.run 1 rfl ?_
 refine Lq.nil ?_
 refine Kt.sel [0, 1, 5] [_, _, _] rfl ?_
 refine Wk.block ?_
 refine Wk.loop (σ := Nat) (fun k => k ≤ s.length ∧ (s.take k).all isBit = true) (fun k => [(0, str s), (1, i6_ n), (5, i6_ ((k : Int)))]) (fun k => Own w.heap.size w []) (fun k => s.length - k) (0) ⟨by omega, rfl⟩ (Sub.sel [0, 1, 5] rfl) (fun _ h => h) ?_
 rintro k ⟨hk, hall⟩
 refine Wk.seq ?_
 refine Wk.seq ?_
 refine Wk.regionQ ?_
 refine Lq.run 2 rfl ?_
 refine Lq.op (v := i6_ ((s.length : Int))) rfl rfl rfl (OpQ.lenStr rfl Tryz.runUnderlying9 rfl) ?_
 refine Lq.run 1 rfl ?_
 refine Lq.nil ?_
 refine Kt.sel [0, 1, 5, 9] [_, _, _, _] rfl ?_
 refine Wk.cond (b := decide (((k : Int)) < ((s.length : Int)))) rfl (fun h9 => ?_) (fun h9 => ?_)
 ·
  replace h9 := of_decide_eq_true h9
  refine Wk.skip ?_
  refine Kt.sel [0, 1, 5] [_, _, _] rfl ?_
  refine Wk.seq ?_
  refine Wk.block ?_
  refine Wk.seq ?_
  refine Wk.regionQ ?_
  refine Lq.run 2 rfl ?_
  refine Lq.op (v := .int .u8 (((s.getD (((k : Int)).toNat) 0).toNat : Int))) rfl rfl rfl (OpQ.indexStr rfl Tryz.runUnderlying9 rfl rfl (by omega) (by omega)) ?_
  refine Lq.run 2 rfl ?_
  refine Lq.bool fun b16 hg16 => ?_
  cases b16
  ·
   replace hg16 := not_false hg16
   replace hg16 := of_decide_eq_true hg16
   refine Lq.pass rfl rfl rfl ?_
   refine Lq.pass rfl rfl rfl ?_
   refine Lq.pass rfl rfl rfl ?_
   refine Lq.pass rfl rfl rfl ?_
   refine Lq.run 1 rfl ?_
   refine Lq.nil ?_
   refine Kt.sel [0, 1, 5, 21] [_, _, _, _] rfl ?_
   refine Wk.condF rfl ?_
   refine Wk.skip ?_
   refine Kt.sel [0, 1, 5] [_, _, _] rfl ?_
   refine Wk.regionQ ?_
   refine Lq.run 1 rfl ?_
   refine Lq.op rfl rfl rfl (OpQ.add rfl rfl rfl (by omega) (by omega)) ?_
   refine Lq.run 1 rfl ?_
   refine Lq.nil ?_
   refine Kt.again (k + 1) ⟨by omega, all_take (by omega) hall (by unfold isBit; simp_all)⟩ (by omega) (Sub.sel [0, 1, 5] rfl) (fun _ h => h)
  ·
   replace hg16 := not_true hg16
   replace hg16 := of_decide_eq_false hg16
   refine Lq.run 2 rfl ?_
   refine Lq.op (v := .int .u8 (((s.getD (((k : Int)).toNat) 0).toNat : Int))) rfl rfl rfl (OpQ.indexStr rfl Tryz.runUnderlying9 rfl rfl (by omega) (by omega)) ?_
   refine Lq.run 2 rfl ?_
   refine Lq.nil ?_
   refine Kt.sel [0, 1, 5, 21] [_, _, _, _] rfl ?_
   refine Wk.cond (b := !(decide ((((s.getD (((k : Int)).toNat) 0).toNat : Int)) = (49 : Int)))) rfl (fun h21 => ?_) (fun h21 => ?_)
   ·
    replace h21 := not_true h21
    replace h21 := of_decide_eq_false h21
    refine Wk.seq ?_
    refine Wk.regionQ ?_
    refine Lq.run 1 rfl ?_
    refine Lq.nil ?_
    refine Kt.sel [4] [_] rfl ?_
    refine Wk.ret (Kt.end1 rfl rfl fun w' hw => ?_)
    exact ⟨ret_b (by unfold bitsB; rw [all_false (k := k) (by omega) (by unfold isBit; simp_all)]; rfl), hw.below⟩
   ·
    replace h21 := not_false h21
    replace h21 := of_decide_eq_true h21
    refine Wk.skip ?_
    refine Kt.sel [0, 1, 5] [_, _, _] rfl ?_
    refine Wk.regionQ ?_
    refine Lq.run 1 rfl ?_
    refine Lq.op rfl rfl rfl (OpQ.add rfl rfl rfl (by omega) (by omega)) ?_
    refine Lq.run 1 rfl ?_
    refine Lq.nil ?_
    refine Kt.again (k + 1) ⟨by omega, all_take (by omega) hall (by unfold isBit; simp_all)⟩ (by omega) (Sub.sel [0, 1, 5] rfl) (fun _ h => h)
 ·
  replace h9 := of_decide_eq_false h9
  refine Wk.exit rfl ?_
  refine Kt.sel [0, 1] [_, _] rfl ?_
  refine Wk.seq ?_
  refine Wk.regionQ ?_
  refine Lq.run 1 rfl ?_
  refine Lq.op (v := i6_ ((s.length : Int))) rfl rfl rfl (OpQ.lenStr rfl Tryz.runUnderlying9 rfl) ?_
  refine Lq.run 3 rfl ?_
  refine Lq.nil ?_
  refine Kt.sel [4] [_] rfl ?_
  refine Wk.ret (Kt.end1 rfl rfl fun w' hw => ?_)
  exact ⟨ret_b (by unfold bitsB; rw [show s.all isBit = true from by rw [← List.take_of_length_le (show s.length ≤ k by omega)]; exact hall]; rfl), hw.below⟩
set_option maxHeartbeats 400000 in
/-- spec.StructureValid -/
theorem sValid_ok (a : St) (w : World) (ha : a.Small) :
    Calls Tryz.prog 20 [vS a].toArray w fun en w' => en = .returned (.bool (validB a)) ∧ Below w.heap.size w w' := by
 refine fnStart (n := 23) (e := [(0, vS a)]) Tryz.func20 rfl rfl rfl rfl Ends.both ?_
 have h1 := ha.set
 have h2 := ha.rel
 refine Wk.seq ?_
 refine Wk.region ?_
 refine Ll.box (v := vS a) rfl rfl rfl rfl rfl fun p1 hp1 => ?_
 show Ll _ _ (Own _ _ [_]) _ _ ((1, pt_ p1) :: _) _ _ _
 refine Ll.run 1 rfl ?_
 refine Ll.nil ?_
 refine Kt.sel [1] [_] rfl ?_
 refine Wk.seq ?_
 refine Wk.regionQ ?_
 refine Lq.op rfl rfl rfl (OpQ.fieldAddr rfl Tryz.runUnderlying24 rfl Tryz.sizeOf3 rfl rfl) ?_
 refine Lq.op rfl rfl rfl (OpQ.loadOwn 0 rfl Tryz.isAgg3 rfl rfl rfl) ?_
 refine Lq.op (v := bo_ (inB a.n 1 8)) rfl rfl rfl (OpQ.call rfl Tryz.call21 rfl Own.stable (fun w1 hw1 => l1In_ok a.n 1 8 w1 )) ?_
 refine Lq.run 1 rfl ?_
 refine Lq.bool fun b6 hg6 => ?_
 cases b6
 ·
  refine Lq.pass rfl rfl rfl ?_
  refine Lq.pass rfl rfl rfl ?_
  refine Lq.pass rfl rfl rfl ?_
  refine Lq.pass rfl rfl rfl ?_
  refine Lq.pass rfl rfl rfl ?_
  refine Lq.run 2 rfl ?_
  refine Lq.pass rfl rfl rfl ?_
  refine Lq.pass rfl rfl rfl ?_
  refine Lq.pass rfl rfl rfl ?_
  refine Lq.pass rfl rfl rfl ?_
  refine Lq.pass rfl rfl rfl ?_
  refine Lq.pass rfl rfl rfl ?_
  refine Lq.pass rfl rfl rfl ?_
  refine Lq.pass rfl rfl rfl ?_
  refine Lq.run 2 rfl ?_
  refine Lq.nil ?_
  refine Kt.sel [2] [_] rfl ?_
  refine Wk.ret (Kt.end1 rfl rfl fun w' hw => ?_)
  exact ⟨ret_b (by first | (simp [validB, *]; done) | (simp [validB, *]; omega)), hw.below⟩
 ·
  have hn : 1 ≤ a.n ∧ a.n ≤ 8 := by unfold inB at hg6; simpa using hg6
  have hq := sq_le hn.1 hn.2
  refine Lq.op rfl rfl rfl (OpQ.fieldAddr rfl Tryz.runUnderlying24 rfl Tryz.sizeOf9 rfl rfl) ?_
  refine Lq.op rfl rfl rfl (OpQ.loadOwn 0 rfl Tryz.isAgg9 rfl rfl rfl) ?_
  refine Lq.op rfl rfl rfl (OpQ.fieldAddr rfl Tryz.runUnderlying24 rfl Tryz.sizeOf3 rfl rfl) ?_
  refine Lq.op rfl rfl rfl (OpQ.loadOwn 0 rfl Tryz.isAgg3 rfl rfl rfl) ?_
  refine Lq.op (v := bo_ (bitsB a.set a.n)) rfl rfl rfl (OpQ.call rfl Tryz.call41 rfl Own.stable (fun w1 hw1 => l1Bits_ok a.set a.n w1 (by omega))) ?_
  refine Lq.run 2 rfl ?_
  refine Lq.bool fun b13 hg13 => ?_
  cases b13
  ·
   refine Lq.pass rfl rfl rfl ?_
   refine Lq.pass rfl rfl rfl ?_
   refine Lq.pass rfl rfl rfl ?_
   refine Lq.pass rfl rfl rfl ?_
   refine Lq.pass rfl rfl rfl ?_
   refine Lq.pass rfl rfl rfl ?_
   refine Lq.pass rfl rfl rfl ?_
   refine Lq.pass rfl rfl rfl ?_
   refine Lq.run 2 rfl ?_
   refine Lq.nil ?_
   refine Kt.sel [2] [_] rfl ?_
   refine Wk.ret (Kt.end1 rfl rfl fun w' hw => ?_)
   exact ⟨ret_b (by first | (simp [validB, *]; done) | (simp [validB, *]; omega)), hw.below⟩
  ·
   refine Lq.op rfl rfl rfl (OpQ.fieldAddr rfl Tryz.runUnderlying24 rfl Tryz.sizeOf9 rfl rfl) ?_
   refine Lq.op rfl rfl rfl (OpQ.loadOwn 0 rfl Tryz.isAgg9 rfl rfl rfl) ?_
   refine Lq.op rfl rfl rfl (OpQ.fieldAddr rfl Tryz.runUnderlying24 rfl Tryz.sizeOf3 rfl rfl) ?_
   refine Lq.op rfl rfl rfl (OpQ.loadOwn 0 rfl Tryz.isAgg3 rfl rfl rfl) ?_
   refine Lq.op rfl rfl rfl (OpQ.fieldAddr rfl Tryz.runUnderlying24 rfl Tryz.sizeOf3 rfl rfl) ?_
   refine Lq.op rfl rfl rfl (OpQ.loadOwn 0 rfl Tryz.isAgg3 rfl rfl rfl) ?_
   refine Lq.op rfl rfl rfl (OpQ.mul rfl rfl rfl (by omega) (by omega)) ?_
   refine Lq.op (v := bo_ (bitsB a.rel (a.n * a.n))) rfl rfl rfl (OpQ.call rfl Tryz.call41 rfl Own.stable (fun w1 hw1 => l1Bits_ok a.rel (a.n * a.n) w1 (by omega))) ?_
   refine Lq.run 2 rfl ?_
   refine Lq.nil ?_
   refine Kt.sel [2] [_] rfl ?_
   refine Wk.ret (Kt.end1 rfl rfl fun w' hw => ?_)
   exact ⟨ret_b (by first | (simp [validB, *]; done) | (simp [validB, *]; omega)), hw.below⟩
set_option maxHeartbeats 400000 in
/-- spec.l1Set -/
theorem l1Set_ok (a : St) (x : Int) (w : World) (ha : a.Fine) (hx : a.El x) :
    Calls Tryz.prog 55 [vS a, i6_ x].toArray w fun en w' => en = .returned (.bool (a.inSet x)) ∧ Below w.heap.size w w' := by
 refine fnStart (n := 10) (e := [(0, vS a), (1, i6_ x)]) Tryz.func55 rfl rfl rfl rfl Ends.both ?_
 have hs := ha.set
 obtain ⟨h0, h1⟩ := hx
 refine Wk.seq ?_
 refine Wk.region ?_
 refine Ll.box (v := vS a) rfl rfl rfl rfl rfl fun p2 hp2 => ?_
 show Ll _ _ (Own _ _ [_]) _ _ ((2, pt_ p2) :: _) _ _ _
 refine Ll.run 1 rfl ?_
 refine Ll.nil ?_
 refine Kt.sel [1, 2] [_, _] rfl ?_
 refine Wk.seq ?_
 refine Wk.regionQ ?_
 refine Lq.op rfl rfl rfl (OpQ.fieldAddr rfl Tryz.runUnderlying24 rfl Tryz.sizeOf9 rfl rfl) ?_
 refine Lq.op rfl rfl rfl (OpQ.loadOwn 0 rfl Tryz.isAgg9 rfl rfl rfl) ?_
 refine Lq.run 1 rfl ?_
 refine Lq.op (v := .int .u8 (((a.set.getD ((x).toNat) 0).toNat : Int))) rfl rfl rfl (OpQ.indexStr rfl Tryz.runUnderlying9 rfl rfl (by omega) (by omega)) ?_
 refine Lq.run 2 rfl ?_
 refine Lq.nil ?_
 refine Kt.sel [4] [_] rfl ?_
 refine Wk.ret (Kt.end1 rfl rfl fun w' hw => ?_)
 exact ⟨ret_b (by first | rfl | (simp_all; done) | (simp_all; omega)), hw.below⟩
set_option maxHeartbeats 400000 in
/-- spec.l1Rel -/
theorem l1Rel_ok (a : St) (x y : Int) (w : World) (ha : a.Fine) (hx : a.El x) (hy : a.El y) :
    Calls Tryz.prog 56 [vS a, i6_ x, i6_ y].toArray w fun en w' => en = .returned (.bool (a.inRel x y)) ∧ Below w.heap.size w w' := by
 refine fnStart (n := 17) (e := [(0, vS a), (1, i6_ x), (2, i6_ y)]) Tryz.func56 rfl rfl rfl rfl Ends.both ?_
 obtain ⟨k0, k1, k2, k3, k4⟩ := ha.relLt hx hy
 refine Wk.seq ?_
 refine Wk.region ?_
 refine Ll.box (v := vS a) rfl rfl rfl rfl rfl fun p3 hp3 => ?_
 show Ll _ _ (Own _ _ [_]) _ _ ((3, pt_ p3) :: _) _ _ _
 refine Ll.run 1 rfl ?_
 refine Ll.nil ?_
 refine Kt.sel [1, 2, 3] [_, _, _] rfl ?_
 refine Wk.seq ?_
 refine Wk.regionQ ?_
 refine Lq.op rfl rfl rfl (OpQ.fieldAddr rfl Tryz.runUnderlying24 rfl Tryz.sizeOf9 rfl rfl) ?_
 refine Lq.op rfl rfl rfl (OpQ.loadOwn 0 rfl Tryz.isAgg9 rfl rfl rfl) ?_
 refine Lq.run 1 rfl ?_
 refine Lq.op rfl rfl rfl (OpQ.fieldAddr rfl Tryz.runUnderlying24 rfl Tryz.sizeOf3 rfl rfl) ?_
 refine Lq.op rfl rfl rfl (OpQ.loadOwn 0 rfl Tryz.isAgg3 rfl rfl rfl) ?_
 refine Lq.op rfl rfl rfl (OpQ.mul rfl rfl rfl (by omega) (by omega)) ?_
 refine Lq.run 1 rfl ?_
 refine Lq.op rfl rfl rfl (OpQ.add rfl rfl rfl (by omega) (by omega)) ?_
 refine Lq.op (v := .int .u8 (((a.rel.getD (((x * a.n) + y).toNat) 0).toNat : Int))) rfl rfl rfl (OpQ.indexStr rfl Tryz.runUnderlying9 rfl rfl (by omega) (by omega)) ?_
 refine Lq.run 2 rfl ?_
 refine Lq.nil ?_
 refine Kt.sel [6] [_] rfl ?_
 refine Wk.ret (Kt.end1 rfl rfl fun w' hw => ?_)
 exact ⟨ret_b (by first | rfl | (simp_all; done) | (simp_all; omega)), hw.below⟩
set_option maxHeartbeats 400000 in
/-- impl.areBits -/
theorem areBits_ok (s : List UInt8) (n : Int) (w : World) (hs : s.length ≤ 1048576) :
    Calls Tryz.prog 35 [str s, i6_ n].toArray w fun en w' => en = .returned (.bool (bitsB s n)) ∧ Below w.heap.size w w' := by
 refine fnStart (n := 14) (e := [(0, str s), (1, i6_ n)]) Tryz.func35 rfl rfl rfl rfl Ends.both ?_
 refine Wk.seq ?_
 refine Wk.regionQ ?_
 refine Lq.run 1 rfl ?_
 refine Lq.nil ?_
 refine Kt.sel [0, 1] [_, _] rfl ?_
 refine Wk.seq ?_
 refine Wk.regionQ ?_
 refine Lq.run 1 rfl ?_
 refine Lq.op (v := i6_ ((s.length : Int))) rfl rfl rfl (OpQ.lenStr rfl Tryz.runUnderlying9 rfl) ?_
 refine Lq.run 3 rfl ?_
 refine Lq.bool fun b9 hg9 => ?_
 cases b9
 ·
  replace hg9 := of_decide_eq_false hg9
  refine Lq.pass rfl rfl rfl ?_
  refine Lq.pass rfl rfl rfl ?_
  refine Lq.pass rfl rfl rfl ?_
  refine Lq.run 2 rfl ?_
  refine Lq.nil ?_
  refine Kt.sel [4] [_] rfl ?_
  refine Wk.ret (Kt.end1 rfl rfl fun w' hw => ?_)
  exact ⟨ret_b (by unfold bitsB; simp [*]), hw.below⟩
 ·
  replace hg9 := of_decide_eq_true hg9
  refine Lq.run 1 rfl ?_
  refine Lq.op (v := str (Lib.trimS s [48, 49])) rfl rfl rfl (OpQ.call rfl Tryz.call59 rfl Own.stable (fun w1 hw1 => trim_ok s w1 (by omega))) ?_
  refine Lq.op rfl rfl rfl (OpQ.seql rfl rfl rfl) ?_
  refine Lq.run 2 rfl ?_
  refine Lq.nil ?_
  refine Kt.sel [4] [_] rfl ?_
  refine Wk.ret (Kt.end1 rfl rfl fun w' hw => ?_)
  exact ⟨ret_b (by unfold bitsB; rw [trim_nil]; simp [*]), hw.below⟩
set_option maxHeartbeats 400000 in
/-- impl.isStructure -/
theorem isStructure_ok (a : St) (w : World) (ha : a.Small) :
    Calls Tryz.prog 12 [vS a].toArray w fun en w' => en = .returned (.bool (validB a)) ∧ Below w.heap.size w w' := by
 refine fnStart (n := 28) (e := [(0, vS a)]) Tryz.func12 rfl rfl rfl rfl Ends.both ?_
 have h1 := ha.set
 have h2 := ha.rel
 refine Wk.seq ?_
 refine Wk.region ?_
 refine Ll.box (v := vS a) rfl rfl rfl rfl rfl fun p1 hp1 => ?_
 show Ll _ _ (Own _ _ [_]) _ _ ((1, pt_ p1) :: _) _ _ _
 refine Ll.run 1 rfl ?_
 refine Ll.nil ?_
 refine Kt.sel [1] [_] rfl ?_
 refine Wk.seq ?_
 refine Wk.regionQ ?_
 refine Lq.op rfl rfl rfl (OpQ.fieldAddr rfl Tryz.runUnderlying24 rfl Tryz.sizeOf3 rfl rfl) ?_
 refine Lq.op rfl rfl rfl (OpQ.loadOwn 0 rfl Tryz.isAgg3 rfl rfl rfl) ?_
 refine Lq.run 2 rfl ?_
 refine Lq.bool fun b6 hg6 => ?_
 cases b6
 ·
  replace hg6 := of_decide_eq_false hg6
  refine Lq.pass rfl rfl rfl ?_
  refine Lq.pass rfl rfl rfl ?_
  refine Lq.pass rfl rfl rfl ?_
  refine Lq.run 2 rfl ?_
  refine Lq.pass rfl rfl rfl ?_
  refine Lq.pass rfl rfl rfl ?_
  refine Lq.pass rfl rfl rfl ?_
  refine Lq.pass rfl rfl rfl ?_
  refine Lq.pass rfl rfl rfl ?_
  refine Lq.run 2 rfl ?_
  refine Lq.pass rfl rfl rfl ?_
  refine Lq.pass rfl rfl rfl ?_
  refine Lq.pass rfl rfl rfl ?_
  refine Lq.pass rfl rfl rfl ?_
  refine Lq.pass rfl rfl rfl ?_
  refine Lq.pass rfl rfl rfl ?_
  refine Lq.pass rfl rfl rfl ?_
  refine Lq.pass rfl rfl rfl ?_
  refine Lq.run 2 rfl ?_
  refine Lq.nil ?_
  refine Kt.sel [2] [_] rfl ?_
  refine Wk.ret (Kt.end1 rfl rfl fun w' hw => ?_)
  exact ⟨ret_b (by first | (simp [validB, inB, *]; done) | (simp [validB, inB, *]; omega)), hw.below⟩
 ·
  replace hg6 := of_decide_eq_true hg6
  refine Lq.op rfl rfl rfl (OpQ.fieldAddr rfl Tryz.runUnderlying24 rfl Tryz.sizeOf3 rfl rfl) ?_
  refine Lq.op rfl rfl rfl (OpQ.loadOwn 0 rfl Tryz.isAgg3 rfl rfl rfl) ?_
  refine Lq.run 3 rfl ?_
  refine Lq.bool fun b11 hg11 => ?_
  cases b11
  ·
   replace hg11 := of_decide_eq_false hg11
   refine Lq.pass rfl rfl rfl ?_
   refine Lq.pass rfl rfl rfl ?_
   refine Lq.pass rfl rfl rfl ?_
   refine Lq.pass rfl rfl rfl ?_
   refine Lq.pass rfl rfl rfl ?_
   refine Lq.run 2 rfl ?_
   refine Lq.pass rfl rfl rfl ?_
   refine Lq.pass rfl rfl rfl ?_
   refine Lq.pass rfl rfl rfl ?_
   refine Lq.pass rfl rfl rfl ?_
   refine Lq.pass rfl rfl rfl ?_
   refine Lq.pass rfl rfl rfl ?_
   refine Lq.pass rfl rfl rfl ?_
   refine Lq.pass rfl rfl rfl ?_
   refine Lq.run 2 rfl ?_
   refine Lq.nil ?_
   refine Kt.sel [2] [_] rfl ?_
   refine Wk.ret (Kt.end1 rfl rfl fun w' hw => ?_)
   exact ⟨ret_b (by first | (simp [validB, inB, *]; done) | (simp [validB, inB, *]; omega)), hw.below⟩
  ·
   replace hg11 := of_decide_eq_true hg11
   have hq := sq_le hg6 hg11
   refine Lq.op rfl rfl rfl (OpQ.fieldAddr rfl Tryz.runUnderlying24 rfl Tryz.sizeOf9 rfl rfl) ?_
   refine Lq.op rfl rfl rfl (OpQ.loadOwn 0 rfl Tryz.isAgg9 rfl rfl rfl) ?_
   refine Lq.op rfl rfl rfl (OpQ.fieldAddr rfl Tryz.runUnderlying24 rfl Tryz.sizeOf3 rfl rfl) ?_
   refine Lq.op rfl rfl rfl (OpQ.loadOwn 0 rfl Tryz.isAgg3 rfl rfl rfl) ?_
   refine Lq.op (v := bo_ (bitsB a.set a.n)) rfl rfl rfl (OpQ.call rfl Tryz.call35 rfl Own.stable (fun w1 hw1 => areBits_ok a.set a.n w1 (by omega))) ?_
   refine Lq.run 2 rfl ?_
   refine Lq.bool fun b18 hg18 => ?_
   cases b18
   ·
    refine Lq.pass rfl rfl rfl ?_
    refine Lq.pass rfl rfl rfl ?_
    refine Lq.pass rfl rfl rfl ?_
    refine Lq.pass rfl rfl rfl ?_
    refine Lq.pass rfl rfl rfl ?_
    refine Lq.pass rfl rfl rfl ?_
    refine Lq.pass rfl rfl rfl ?_
    refine Lq.pass rfl rfl rfl ?_
    refine Lq.run 2 rfl ?_
    refine Lq.nil ?_
    refine Kt.sel [2] [_] rfl ?_
    refine Wk.ret (Kt.end1 rfl rfl fun w' hw => ?_)
    exact ⟨ret_b (by first | (simp [validB, inB, *]; done) | (simp [validB, inB, *]; omega)), hw.below⟩
   ·
    refine Lq.op rfl rfl rfl (OpQ.fieldAddr rfl Tryz.runUnderlying24 rfl Tryz.sizeOf9 rfl rfl) ?_
    refine Lq.op rfl rfl rfl (OpQ.loadOwn 0 rfl Tryz.isAgg9 rfl rfl rfl) ?_
    refine Lq.op rfl rfl rfl (OpQ.fieldAddr rfl Tryz.runUnderlying24 rfl Tryz.sizeOf3 rfl rfl) ?_
    refine Lq.op rfl rfl rfl (OpQ.loadOwn 0 rfl Tryz.isAgg3 rfl rfl rfl) ?_
    refine Lq.op rfl rfl rfl (OpQ.fieldAddr rfl Tryz.runUnderlying24 rfl Tryz.sizeOf3 rfl rfl) ?_
    refine Lq.op rfl rfl rfl (OpQ.loadOwn 0 rfl Tryz.isAgg3 rfl rfl rfl) ?_
    refine Lq.op rfl rfl rfl (OpQ.mul rfl rfl rfl (by omega) (by omega)) ?_
    refine Lq.op (v := bo_ (bitsB a.rel (a.n * a.n))) rfl rfl rfl (OpQ.call rfl Tryz.call35 rfl Own.stable (fun w1 hw1 => areBits_ok a.rel (a.n * a.n) w1 (by omega))) ?_
    refine Lq.run 2 rfl ?_
    refine Lq.nil ?_
    refine Kt.sel [2] [_] rfl ?_
    refine Wk.ret (Kt.end1 rfl rfl fun w' hw => ?_)
    exact ⟨ret_b (by first | (simp [validB, inB, *]; done) | (simp [validB, inB, *]; omega)), hw.below⟩
set_option maxHeartbeats 400000 in
/-- impl.Structure.inSet -/
theorem inSet_ok (a : St) (x : Int) (w : World) (ha : a.Fine) (hx : a.El x) :
    Calls Tryz.prog 74 [vS a, i6_ x].toArray w fun en w' => en = .returned (.bool (a.inSet x)) ∧ Below w.heap.size w w' := by
 refine fnStart (n := 10) (e := [(0, vS a), (1, i6_ x)]) Tryz.func74 rfl rfl rfl rfl Ends.both ?_
 have hs := ha.set
 obtain ⟨h0, h1⟩ := hx
 refine Wk.seq ?_
 refine Wk.region ?_
 refine Ll.box (v := vS a) rfl rfl rfl rfl rfl fun p2 hp2 => ?_
 show Ll _ _ (Own _ _ [_]) _ _ ((2, pt_ p2) :: _) _ _ _
 refine Ll.run 1 rfl ?_
 refine Ll.nil ?_
 refine Kt.sel [1, 2] [_, _] rfl ?_
 refine Wk.seq ?_
 refine Wk.regionQ ?_
 refine Lq.op rfl rfl rfl (OpQ.fieldAddr rfl Tryz.runUnderlying24 rfl Tryz.sizeOf9 rfl rfl) ?_
 refine Lq.op rfl rfl rfl (OpQ.loadOwn 0 rfl Tryz.isAgg9 rfl rfl rfl) ?_
 refine Lq.run 1 rfl ?_
 refine Lq.op (v := .int .u8 (((a.set.getD ((x).toNat) 0).toNat : Int))) rfl rfl rfl (OpQ.indexStr rfl Tryz.runUnderlying9 rfl rfl (by omega) (by omega)) ?_
 refine Lq.run 2 rfl ?_
 refine Lq.nil ?_
 refine Kt.sel [4] [_] rfl ?_
 refine Wk.ret (Kt.end1 rfl rfl fun w' hw => ?_)
 exact ⟨ret_b (by first | rfl | (simp_all; done) | (simp_all; omega)), hw.below⟩
set_option maxHeartbeats 400000 in
/-- impl.Structure.inRel -/
theorem inRel_ok (a : St) (x y : Int) (w : World) (ha : a.Fine) (hx : a.El x) (hy : a.El y) :
    Calls Tryz.prog 75 [vS a, i6_ x, i6_ y].toArray w fun en w' => en = .returned (.bool (a.inRel x y)) ∧ Below w.heap.size w w' := by
 refine fnStart (n := 17) (e := [(0, vS a), (1, i6_ x), (2, i6_ y)]) Tryz.func75 rfl rfl rfl rfl Ends.both ?_
 obtain ⟨k0, k1, k2, k3, k4⟩ := ha.relLt hx hy
 refine Wk.seq ?_
 refine Wk.region ?_
 refine Ll.box (v := vS a) rfl rfl rfl rfl rfl fun p3 hp3 => ?_
 show Ll _ _ (Own _ _ [_]) _ _ ((3, pt_ p3) :: _) _ _ _
 refine Ll.run 1 rfl ?_
 refine Ll.nil ?_
 refine Kt.sel [1, 2, 3] [_, _, _] rfl ?_
 refine Wk.seq ?_
 refine Wk.regionQ ?_
 refine Lq.op rfl rfl rfl (OpQ.fieldAddr rfl Tryz.runUnderlying24 rfl Tryz.sizeOf9 rfl rfl) ?_
 refine Lq.op rfl rfl rfl (OpQ.loadOwn 0 rfl Tryz.isAgg9 rfl rfl rfl) ?_
 refine Lq.run 1 rfl ?_
 refine Lq.op rfl rfl rfl (OpQ.fieldAddr rfl Tryz.runUnderlying24 rfl Tryz.sizeOf3 rfl rfl) ?_
 refine Lq.op rfl rfl rfl (OpQ.loadOwn 0 rfl Tryz.isAgg3 rfl rfl rfl) ?_
 refine Lq.op rfl rfl rfl (OpQ.mul rfl rfl rfl (by omega) (by omega)) ?_
 refine Lq.run 1 rfl ?_
 refine Lq.op rfl rfl rfl (OpQ.add rfl rfl rfl (by omega) (by omega)) ?_
 refine Lq.op (v := .int .u8 (((a.rel.getD (((x * a.n) + y).toNat) 0).toNat : Int))) rfl rfl rfl (OpQ.indexStr rfl Tryz.runUnderlying9 rfl rfl (by omega) (by omega)) ?_
 refine Lq.run 2 rfl ?_
 refine Lq.nil ?_
 refine Kt.sel [6] [_] rfl ?_
 refine Wk.ret (Kt.end1 rfl rfl fun w' hw => ?_)
 exact ⟨ret_b (by first | rfl | (simp_all; done) | (simp_all; omega)), hw.below⟩
set_option maxHeartbeats 400000 in
/-- slices.IndexFunc[[]int,int] -/
theorem indexFunc_ok (va : Value) (xs : List Int) (w : World) (hva : Ints w va xs) (hs : xs.length ≤ 140737488355328) (F : FuncId) (caps : Array Value) (q : Int → Bool) (hF : ∀ args w, (callFunc F args).run Tryz.prog w = .ok (.enter F args) w) (hq : ∀ w1, Below w.heap.size w w1 → ∀ x, Calls Tryz.prog F (#[.int .i64 x] ++ caps) w1 fun en w' => en = .returned (.bool (q x)) ∧ Below w1.heap.size w1 w') :
    Calls Tryz.prog 93 [va, .func (.func F) #[] caps].toArray w fun en w' => en = .returned (.int .i64 (idxI xs q)) ∧ Below w.heap.size w w' := by
 refine fnStart (n := 19) (e := [(0, va), (1, .func (.func F) #[] caps)]) Tryz.func93 rfl rfl rfl rfl Ends.both ?_
 refine Wk.seq ?_
 refine Wk.regionQ ?_
 refine Lq.run 1 rfl ?_
 refine Lq.nil ?_
 refine Kt.sel [0, 1] [_, _] rfl ?_
 refine Wk.seq ?_
 refine Wk.seq ?_
 refine Wk.regionQ ?_
 refine Lq.run 1 rfl ?_
 refine Lq.op (v := i6_ ((xs.length : Int))) rfl rfl rfl (OpQ.lenRow rfl Tryz.runUnderlying28 rfl (ints_length _) (fun w1 hw1 => Row.own hva hw1)) ?_
 refine Lq.run 1 rfl ?_
 refine Lq.nil ?_
 refine Kt.sel [0, 1, 7, 8] [_, _, _, _] rfl ?_
 refine Wk.block ?_
 refine Wk.loop (σ := Nat) (fun k => k ≤ xs.length ∧ ∀ i : Nat, i < k → q (xs.getD i 0) = false) (fun k => [(0, va), (1, .func (.func F) #[] caps), (7, i6_ ((xs.length : Int))), (8, i6_ ((k : Int)))]) (fun k => Own w.heap.size w []) (fun k => xs.length - k) (0) ⟨by omega, fun i hi => absurd hi (by omega)⟩ (Sub.sel [0, 1, 7, 8] rfl) (fun _ h => h) ?_
 rintro k ⟨hk, hall⟩
 refine Wk.seq ?_
 refine Wk.regionQ ?_
 refine Lq.run 1 rfl ?_
 refine Lq.nil ?_
 refine Kt.sel [0, 1, 7, 8, 9] [_, _, _, _, _] rfl ?_
 refine Wk.seq ?_
 refine Wk.cond (b := decide (((k : Int)) < ((xs.length : Int)))) rfl (fun h9 => ?_) (fun h9 => ?_)
 ·
  replace h9 := of_decide_eq_true h9
  refine Wk.skip ?_
  refine Kt.sel [0, 1, 7, 8] [_, _, _, _] rfl ?_
  refine Wk.seq ?_
  refine Wk.block ?_
  refine Wk.seq ?_
  refine Wk.regionQ ?_
  refine Lq.run 2 rfl ?_
  refine Lq.nil ?_
  refine Kt.sel [0, 1, 5, 7, 8] [_, _, _, _, _] rfl ?_
  refine Wk.seq ?_
  refine Wk.regionQ ?_
  refine Lq.run 3 rfl ?_
  refine Lq.op (v := .pointer (some (sAt va ((k : Int))))) rfl rfl rfl (OpQ.atRow rfl Tryz.runUnderlying28 Tryz.sizeOf3 rfl rfl (by omega) (by rw [ints_length]; omega) (fun w1 hw1 => Row.own hva hw1)) ?_
  refine Lq.op (v := i6_ (xs.getD (((k : Int)).toNat) 0)) rfl rfl rfl (OpQ.load1 rfl Tryz.isAgg3 rfl (fun w1 hw1 => Ints.cell (Row.own hva hw1) (by omega) (by omega))) ?_
  refine Lq.op (v := bo_ (q (xs.getD (((k : Int)).toNat) 0))) rfl rfl rfl (OpQ.callFn rfl rfl hF rfl Own.stable (fun w1 hw1 => hq w1 hw1.below (xs.getD (((k : Int)).toNat) 0))) ?_
  refine Lq.nil ?_
  refine Kt.sel [0, 1, 5, 7, 8, 16] [_, _, _, _, _, _] rfl ?_
  refine Wk.cond (b := q (xs.getD (((k : Int)).toNat) 0)) rfl (fun h16 => ?_) (fun h16 => ?_)
  ·
   refine Wk.seq ?_
   refine Wk.regionQ ?_
   refine Lq.run 2 rfl ?_
   refine Lq.nil ?_
   refine Kt.sel [4] [_] rfl ?_
   refine Wk.ret (Kt.end1 rfl rfl fun w' hw => ?_)
   exact ⟨ret_i (idxI_at (by omega) hall (by simpa using h16)).symm, hw.below⟩
  ·
   refine Wk.skip ?_
   refine Kt.sel [0, 1, 7, 8] [_, _, _, _] rfl ?_
   refine Wk.regionQ ?_
   refine Lq.op rfl rfl rfl (OpQ.add rfl rfl rfl (by omega) (by omega)) ?_
   refine Lq.run 1 rfl ?_
   refine Lq.nil ?_
   refine Kt.again (k + 1) ⟨by omega, fun i hi => (Nat.lt_succ_iff_lt_or_eq.1 hi).elim (hall i) (fun e => by subst e; simpa using h16)⟩ (by omega) (Sub.sel [0, 1, 7, 8] rfl) (fun _ h => h)
 ·
  replace h9 := of_decide_eq_false h9
  refine Wk.exit rfl ?_
  refine Kt.sel [] [] rfl ?_
  refine Wk.seq ?_
  refine Wk.regionQ ?_
  refine Lq.run 1 rfl ?_
  refine Lq.nil ?_
  refine Kt.sel [4] [_] rfl ?_
  refine Wk.ret (Kt.end1 rfl rfl fun w' hw => ?_)
  exact ⟨ret_i (idxI_none (fun i hi => hall i (by omega))).symm, hw.below⟩
set_option maxHeartbeats 400000 in
/-- slices.ContainsFunc[[]int,int] -/
theorem containsFunc_ok (va : Value) (xs : List Int) (w : World) (hva : Ints w va xs) (hs : xs.length ≤ 140737488355328) (F : FuncId) (caps : Array Value) (q : Int → Bool) (hF : ∀ args w, (callFunc F args).run Tryz.prog w = .ok (.enter F args) w) (hq : ∀ w1, Below w.heap.size w w1 → ∀ x, Calls Tryz.prog F (#[.int .i64 x] ++ caps) w1 fun en w' => en = .returned (.bool (q x)) ∧ Below w1.heap.size w1 w') :
    Calls Tryz.prog 83 [va, .func (.func F) #[] caps].toArray w fun en w' => en = .returned (.bool (xs.any q)) ∧ Below w.heap.size w w' := by
 refine fnStart (n := 9) (e := [(0, va), (1, .func (.func F) #[] caps)]) Tryz.func83 rfl rfl rfl rfl Ends.both ?_
 refine Wk.seq ?_
 refine Wk.regionQ ?_
 refine Lq.run 1 rfl ?_
 refine Lq.nil ?_
 refine Kt.sel [0, 1] [_, _] rfl ?_
 refine Wk.seq ?_
 refine Wk.regionQ ?_
 refine Lq.run 2 rfl ?_
 refine Lq.op (v := i6_ (idxI xs q)) rfl rfl rfl (OpQ.call rfl Tryz.call93 rfl Own.stable (fun w1 hw1 => indexFunc_ok va xs w1 (Row.own hva hw1) hs F caps q hF (fun w2 hb x => hq w2 (hw1.below.trans (hb.mono hw1.base)) x))) ?_
 refine Lq.run 2 rfl ?_
 refine Lq.nil ?_
 refine Kt.sel [4] [_] rfl ?_
 refine Wk.ret (Kt.end1 rfl rfl fun w' hw => ?_)
 exact ⟨ret_b (idxI_any xs q), hw.below⟩
set_option maxHeartbeats 400000 in
/-- impl.stillSame -/
theorem stillSame_ok (a b : St) (xs ys : List Int) (va vb : Value) (x y : Int) (w : World) (ha : a.Fine) (hb : b.Fine) (hva : Ints w va xs) (hvb : Ints w vb ys) (hA : a.Els xs) (hB : b.Els ys) (hlen : xs.length = ys.length) (hsmall : xs.length ≤ 1000000) (hx : a.El x) (hy : b.El y) :
    Calls Tryz.prog 61 [vS a, va, vS b, vb, i6_ x, i6_ y].toArray w fun en w' => en = .returned (.bool (stillB a xs b ys x y)) ∧ Below w.heap.size w w' := by
 refine fnStart (n := 75) (e := [(0, vS a), (1, va), (2, vS b), (3, vb), (4, i6_ x), (5, i6_ y)]) Tryz.func61 rfl rfl rfl rfl Ends.both ?_
 have hT := stillB_true (a := a) (b := b) (x := x) (y := y) hlen
 refine Wk.seq ?_
 refine Wk.region ?_
 refine Ll.box (v := vS a) rfl rfl rfl rfl rfl fun p6 hp6 => ?_
 show Ll _ _ (Own _ _ [_]) _ _ ((6, pt_ p6) :: _) _ _ _
 refine Ll.box (v := vS b) rfl rfl rfl rfl rfl fun p8 hp8 => ?_
 show Ll _ _ (Own _ _ [_, _]) _ _ ((8, pt_ p8) :: _) _ _ _
 refine Ll.run 1 rfl ?_
 refine Ll.nil ?_
 refine Kt.sel [1, 3, 4, 5, 6, 8] [_, _, _, _, _, _] rfl ?_
 refine Wk.seq ?_
 refine Wk.seq ?_
 refine Wk.regionD Base.mixed (fun _ h => h.drawn) (by kernel_rfl) ?_
 refine Lq.op rfl rfl rfl (OpQ.loadBox (cs := #[i6_ a.n, str a.set, str a.rel]) 1 rfl Tryz.isAgg24 rfl rfl Tryz.sizeOf24) ?_
 refine Lq.run 1 rfl ?_
 refine Lq.op (v := bo_ (a.inSet x)) rfl rfl rfl (OpQ.call rfl Tryz.call74 rfl Own.stable (fun w1 hw1 => inSet_ok a x w1 ha (by first | assumption | exact St.Els.at (by assumption) (by omega) (by omega)))) ?_
 refine Lq.op rfl rfl rfl (OpQ.loadBox (cs := #[i6_ b.n, str b.set, str b.rel]) 0 rfl Tryz.isAgg24 rfl rfl Tryz.sizeOf24) ?_
 refine Lq.run 1 rfl ?_
 refine Lq.op (v := bo_ (b.inSet y)) rfl rfl rfl (OpQ.call rfl Tryz.call74 rfl Own.stable (fun w1 hw1 => inSet_ok b y w1 hb (by first | assumption | exact St.Els.at (by assumption) (by omega) (by omega)))) ?_
 refine Lq.op rfl rfl rfl (OpQ.bne rfl Tryz.runUnderlying4 rfl rfl) ?_
 refine Lq.run 1 rfl ?_
 refine Lq.bool fun b23 hg23 => ?_
 cases b23
 ·
  refine Lq.op rfl rfl rfl (OpQ.loadBox (cs := #[i6_ a.n, str a.set, str a.rel]) 1 rfl Tryz.isAgg24 rfl rfl Tryz.sizeOf24) ?_
  refine Lq.run 2 rfl ?_
  refine Lq.op (v := bo_ (a.inRel x x)) rfl rfl rfl (OpQ.call rfl Tryz.call75 rfl Own.stable (fun w1 hw1 => inRel_ok a x x w1 ha (by first | assumption | exact St.Els.at (by assumption) (by omega) (by omega)) (by first | assumption | exact St.Els.at (by assumption) (by omega) (by omega)))) ?_
  refine Lq.op rfl rfl rfl (OpQ.loadBox (cs := #[i6_ b.n, str b.set, str b.rel]) 0 rfl Tryz.isAgg24 rfl rfl Tryz.sizeOf24) ?_
  refine Lq.run 2 rfl ?_
  refine Lq.op (v := bo_ (b.inRel y y)) rfl rfl rfl (OpQ.call rfl Tryz.call75 rfl Own.stable (fun w1 hw1 => inRel_ok b y y w1 hb (by first | assumption | exact St.Els.at (by assumption) (by omega) (by omega)) (by first | assumption | exact St.Els.at (by assumption) (by omega) (by omega)))) ?_
  refine Lq.op rfl rfl rfl (OpQ.bne rfl Tryz.runUnderlying4 rfl rfl) ?_
  refine Lq.run 1 rfl ?_
  refine Lq.nil ?_
  refine Kt.sel [1, 3, 4, 5, 6, 8, 33] [_, _, _, _, _, _, _] rfl ?_
  refine Wk.cond (b := (a.inRel x x) != (b.inRel y y)) rfl (fun h33 => ?_) (fun h33 => ?_)
  ·
   refine Wk.seq ?_
   refine Wk.regionQ ?_
   refine Lq.run 1 rfl ?_
   refine Lq.nil ?_
   refine Kt.sel [12] [_] rfl ?_
   refine Wk.ret (Kt.end1 rfl rfl fun w' hw => ?_)
   have hf : stillB a xs b ys x y = false := by
    cases hs : stillB a xs b ys x y with
    | false => rfl
    | true => obtain ⟨e1, e2, e3⟩ := hT.1 hs; simp_all
   exact ⟨by rw [hf], hw.below⟩
  ·
   refine Wk.skip ?_
   refine Kt.sel [1, 3, 4, 5, 6, 8] [_, _, _, _, _, _] rfl ?_
   refine Wk.seq ?_
   refine Wk.seq ?_
   refine Wk.regionQ ?_
   refine Lq.run 1 rfl ?_
   refine Lq.op (v := i6_ ((xs.length : Int))) rfl rfl rfl (OpQ.lenRow rfl Tryz.runUnderlying28 rfl (ints_length _) (fun w1 hw1 => Row.own hva hw1)) ?_
   refine Lq.run 1 rfl ?_
   refine Lq.nil ?_
   refine Kt.sel [3, 4, 5, 6, 8, 34, 35, 36] [_, _, _, _, _, _, _, _] rfl ?_
   refine Wk.block ?_
   refine Wk.loop (σ := Nat) (fun k => k ≤ xs.length ∧ ∀ i : Nat, i < k → pairOk a b x y (xs.getD i 0) (ys.getD i 0) = true) (fun k => [(3, vb), (4, i6_ x), (5, i6_ y), (6, pt_ p6), (8, pt_ p8), (34, va), (35, i6_ ((xs.length : Int))), (36, i6_ ((k : Int)))]) (fun k => Own w.heap.size w [bk_ p8 #[i6_ b.n, str b.set, str b.rel] 24, bk_ p6 #[i6_ a.n, str a.set, str a.rel] 24]) (fun k => xs.length - k) (0) ⟨by omega, fun i hi => absurd hi (by omega)⟩ (Sub.sel [3, 4, 5, 6, 8, 34, 35, 36] rfl) (fun _ h => h) ?_
   rintro k ⟨hk, hall⟩
   refine Wk.seq ?_
   refine Wk.regionQ ?_
   refine Lq.run 1 rfl ?_
   refine Lq.nil ?_
   refine Kt.sel [3, 4, 5, 6, 8, 34, 35, 36, 37] [_, _, _, _, _, _, _, _, _] rfl ?_
   refine Wk.seq ?_
   refine Wk.cond (b := decide (((k : Int)) < ((xs.length : Int)))) rfl (fun h37 => ?_) (fun h37 => ?_)
   ·
    replace h37 := of_decide_eq_true h37
    refine Wk.skip ?_
    refine Kt.sel [3, 4, 5, 6, 8, 34, 35, 36] [_, _, _, _, _, _, _, _] rfl ?_
    refine Wk.seq ?_
    refine Wk.block ?_
    refine Wk.seq ?_
    refine Wk.regionQ ?_
    refine Lq.run 1 rfl ?_
    refine Lq.op (v := .pointer (some (sAt va ((k : Int))))) rfl rfl rfl (OpQ.atRow rfl Tryz.runUnderlying28 Tryz.sizeOf3 rfl rfl (by omega) (by rw [ints_length]; omega) (fun w1 hw1 => Row.own hva hw1)) ?_
    refine Lq.op (v := i6_ (xs.getD (((k : Int)).toNat) 0)) rfl rfl rfl (OpQ.load1 rfl Tryz.isAgg3 rfl (fun w1 hw1 => Ints.cell (Row.own hva hw1) (by omega) (by omega))) ?_
    refine Lq.run 2 rfl ?_
    refine Lq.nil ?_
    refine Kt.sel [3, 4, 5, 6, 8, 13, 14, 34, 35, 36] [_, _, _, _, _, _, _, _, _, _] rfl ?_
    refine Wk.seq ?_
    refine Wk.regionQ ?_
    refine Lq.run 2 rfl ?_
    refine Lq.op (v := .pointer (some (sAt vb ((k : Int))))) rfl rfl rfl (OpQ.atRow rfl Tryz.runUnderlying28 Tryz.sizeOf3 rfl rfl (by omega) (by rw [ints_length]; omega) (fun w1 hw1 => Row.own hvb hw1)) ?_
    refine Lq.op (v := i6_ (ys.getD (((k : Int)).toNat) 0)) rfl rfl rfl (OpQ.load1 rfl Tryz.isAgg3 rfl (fun w1 hw1 => Ints.cell (Row.own hvb hw1) (by omega) (by omega))) ?_
    refine Lq.run 1 rfl ?_
    refine Lq.nil ?_
    refine Kt.sel [3, 4, 5, 6, 8, 14, 15, 34, 35, 36] [_, _, _, _, _, _, _, _, _, _] rfl ?_
    refine Wk.seq ?_
    refine Wk.regionD Base.mixed (fun _ h => h.drawn) (by kernel_rfl) ?_
    refine Lq.run 6 rfl ?_
    refine Lq.op rfl rfl rfl (OpQ.bne rfl Tryz.runUnderlying4 rfl rfl) ?_
    refine Lq.run 1 rfl ?_
    refine Lq.bool fun b52 hg52 => ?_
    cases b52
    ·
     refine Lq.op rfl rfl rfl (OpQ.loadBox (cs := #[i6_ a.n, str a.set, str a.rel]) 1 rfl Tryz.isAgg24 rfl rfl Tryz.sizeOf24) ?_
     refine Lq.run 2 rfl ?_
     refine Lq.op (v := bo_ (a.inRel (xs.getD (((k : Int)).toNat) 0) x)) rfl rfl rfl (OpQ.call rfl Tryz.call75 rfl Own.stable (fun w1 hw1 => inRel_ok a (xs.getD (((k : Int)).toNat) 0) x w1 ha (by first | assumption | exact St.Els.at (by assumption) (by omega) (by omega)) (by first | assumption | exact St.Els.at (by assumption) (by omega) (by omega)))) ?_
     refine Lq.op rfl rfl rfl (OpQ.loadBox (cs := #[i6_ b.n, str b.set, str b.rel]) 0 rfl Tryz.isAgg24 rfl rfl Tryz.sizeOf24) ?_
     refine Lq.run 2 rfl ?_
     refine Lq.op (v := bo_ (b.inRel (ys.getD (((k : Int)).toNat) 0) y)) rfl rfl rfl (OpQ.call rfl Tryz.call75 rfl Own.stable (fun w1 hw1 => inRel_ok b (ys.getD (((k : Int)).toNat) 0) y w1 hb (by first | assumption | exact St.Els.at (by assumption) (by omega) (by omega)) (by first | assumption | exact St.Els.at (by assumption) (by omega) (by omega)))) ?_
     refine Lq.op rfl rfl rfl (OpQ.bne rfl Tryz.runUnderlying4 rfl rfl) ?_
     refine Lq.run 2 rfl ?_
     refine Lq.bool fun b63 hg63 => ?_
     cases b63
     ·
      refine Lq.op rfl rfl rfl (OpQ.loadBox (cs := #[i6_ a.n, str a.set, str a.rel]) 1 rfl Tryz.isAgg24 rfl rfl Tryz.sizeOf24) ?_
      refine Lq.run 2 rfl ?_
      refine Lq.op (v := bo_ (a.inRel x (xs.getD (((k : Int)).toNat) 0))) rfl rfl rfl (OpQ.call rfl Tryz.call75 rfl Own.stable (fun w1 hw1 => inRel_ok a x (xs.getD (((k : Int)).toNat) 0) w1 ha (by first | assumption | exact St.Els.at (by assumption) (by omega) (by omega)) (by first | assumption | exact St.Els.at (by assumption) (by omega) (by omega)))) ?_
      refine Lq.op rfl rfl rfl (OpQ.loadBox (cs := #[i6_ b.n, str b.set, str b.rel]) 0 rfl Tryz.isAgg24 rfl rfl Tryz.sizeOf24) ?_
      refine Lq.run 2 rfl ?_
      refine Lq.op (v := bo_ (b.inRel y (ys.getD (((k : Int)).toNat) 0))) rfl rfl rfl (OpQ.call rfl Tryz.call75 rfl Own.stable (fun w1 hw1 => inRel_ok b y (ys.getD (((k : Int)).toNat) 0) w1 hb (by first | assumption | exact St.Els.at (by assumption) (by omega) (by omega)) (by first | assumption | exact St.Els.at (by assumption) (by omega) (by omega)))) ?_
      refine Lq.op rfl rfl rfl (OpQ.bne rfl Tryz.runUnderlying4 rfl rfl) ?_
      refine Lq.run 1 rfl ?_
      refine Lq.nil ?_
      refine Kt.sel [3, 4, 5, 6, 8, 34, 35, 36, 73] [_, _, _, _, _, _, _, _, _] rfl ?_
      refine Wk.cond (b := (a.inRel x (xs.getD (((k : Int)).toNat) 0)) != (b.inRel y (ys.getD (((k : Int)).toNat) 0))) rfl (fun h73 => ?_) (fun h73 => ?_)
      ·
       refine Wk.seq ?_
       refine Wk.regionQ ?_
       refine Lq.run 1 rfl ?_
       refine Lq.nil ?_
       refine Kt.sel [12] [_] rfl ?_
       refine Wk.ret (Kt.end1 rfl rfl fun w' hw => ?_)
       have hf : stillB a xs b ys x y = false := by
        cases hs : stillB a xs b ys x y with
        | false => rfl
        | true =>
         obtain ⟨e1, e2, e3⟩ := hT.1 hs
         obtain ⟨e4, e5, e6⟩ := pairOk_true.1 (e3 k (by omega))
         simp only [Int.toNat_natCast] at *
         simp_all
       exact ⟨by rw [hf], hw.below⟩
      ·
       refine Wk.skip ?_
       refine Kt.sel [3, 4, 5, 6, 8, 34, 35, 36] [_, _, _, _, _, _, _, _] rfl ?_
       refine Wk.regionQ ?_
       refine Lq.op rfl rfl rfl (OpQ.add rfl rfl rfl (by omega) (by omega)) ?_
       refine Lq.run 1 rfl ?_
       refine Lq.nil ?_
       refine Kt.again (k + 1) ⟨by omega, fun i hi => (Nat.lt_succ_iff_lt_or_eq.1 hi).elim (hall i) (fun e => by subst e; exact pairOk_true.2 ⟨by simpa using hg52, by simpa using hg63, by simpa using h73⟩)⟩ (by omega) (Sub.sel [3, 4, 5, 6, 8, 34, 35, 36] rfl) (fun _ h => h)
     ·
      refine Lq.pass rfl rfl rfl ?_
      refine Lq.pass rfl rfl rfl ?_
      refine Lq.pass rfl rfl rfl ?_
      refine Lq.pass rfl rfl rfl ?_
      refine Lq.pass rfl rfl rfl ?_
      refine Lq.pass rfl rfl rfl ?_
      refine Lq.pass rfl rfl rfl ?_
      refine Lq.pass rfl rfl rfl ?_
      refine Lq.pass rfl rfl rfl ?_
      refine Lq.run 1 rfl ?_
      refine Lq.nil ?_
      refine Kt.sel [3, 4, 5, 6, 8, 34, 35, 36, 73] [_, _, _, _, _, _, _, _, _] rfl ?_
      refine Wk.condT rfl ?_
      refine Wk.seq ?_
      refine Wk.regionQ ?_
      refine Lq.run 1 rfl ?_
      refine Lq.nil ?_
      refine Kt.sel [12] [_] rfl ?_
      refine Wk.ret (Kt.end1 rfl rfl fun w' hw => ?_)
      have hf : stillB a xs b ys x y = false := by
       cases hs : stillB a xs b ys x y with
       | false => rfl
       | true =>
        obtain ⟨e1, e2, e3⟩ := hT.1 hs
        obtain ⟨e4, e5, e6⟩ := pairOk_true.1 (e3 k (by omega))
        simp only [Int.toNat_natCast] at *
        simp_all
      exact ⟨by rw [hf], hw.below⟩
    ·
     refine Lq.pass rfl rfl rfl ?_
     refine Lq.pass rfl rfl rfl ?_
     refine Lq.pass rfl rfl rfl ?_
     refine Lq.pass rfl rfl rfl ?_
     refine Lq.pass rfl rfl rfl ?_
     refine Lq.pass rfl rfl rfl ?_
     refine Lq.pass rfl rfl rfl ?_
     refine Lq.pass rfl rfl rfl ?_
     refine Lq.pass rfl rfl rfl ?_
     refine Lq.run 2 rfl ?_
     refine Lq.pass rfl rfl rfl ?_
     refine Lq.pass rfl rfl rfl ?_
     refine Lq.pass rfl rfl rfl ?_
     refine Lq.pass rfl rfl rfl ?_
     refine Lq.pass rfl rfl rfl ?_
     refine Lq.pass rfl rfl rfl ?_
     refine Lq.pass rfl rfl rfl ?_
     refine Lq.pass rfl rfl rfl ?_
     refine Lq.pass rfl rfl rfl ?_
     refine Lq.run 1 rfl ?_
     refine Lq.nil ?_
     refine Kt.sel [3, 4, 5, 6, 8, 34, 35, 36, 73] [_, _, _, _, _, _, _, _, _] rfl ?_
     refine Wk.condT rfl ?_
     refine Wk.seq ?_
     refine Wk.regionQ ?_
     refine Lq.run 1 rfl ?_
     refine Lq.nil ?_
     refine Kt.sel [12] [_] rfl ?_
     refine Wk.ret (Kt.end1 rfl rfl fun w' hw => ?_)
     have hf : stillB a xs b ys x y = false := by
      cases hs : stillB a xs b ys x y with
      | false => rfl
      | true =>
       obtain ⟨e1, e2, e3⟩ := hT.1 hs
       obtain ⟨e4, e5, e6⟩ := pairOk_true.1 (e3 k (by omega))
       simp only [Int.toNat_natCast] at *
       simp_all
     exact ⟨by rw [hf], hw.below⟩
   ·
    replace h37 := of_decide_eq_false h37
    refine Wk.exit rfl ?_
    refine Kt.sel [] [] rfl ?_
    refine Wk.seq ?_
    refine Wk.regionQ ?_
    refine Lq.run 1 rfl ?_
    refine Lq.nil ?_
    refine Kt.sel [12] [_] rfl ?_
    refine Wk.ret (Kt.end1 rfl rfl fun w' hw => ?_)
    exact ⟨by rw [hT.2 ⟨bne_false ‹_›, bne_false ‹_›, fun i hi => hall i (by omega)⟩], hw.below⟩
 ·
  refine Lq.pass rfl rfl rfl ?_
  refine Lq.pass rfl rfl rfl ?_
  refine Lq.pass rfl rfl rfl ?_
  refine Lq.pass rfl rfl rfl ?_
  refine Lq.pass rfl rfl rfl ?_
  refine Lq.pass rfl rfl rfl ?_
  refine Lq.pass rfl rfl rfl ?_
  refine Lq.pass rfl rfl rfl ?_
  refine Lq.pass rfl rfl rfl ?_
  refine Lq.run 1 rfl ?_
  refine Lq.nil ?_
  refine Kt.sel [1, 3, 4, 5, 6, 8, 33] [_, _, _, _, _, _, _] rfl ?_
  refine Wk.condT rfl ?_
  refine Wk.seq ?_
  refine Wk.regionQ ?_
  refine Lq.run 1 rfl ?_
  refine Lq.nil ?_
  refine Kt.sel [12] [_] rfl ?_
  refine Wk.ret (Kt.end1 rfl rfl fun w' hw => ?_)
  have hf : stillB a xs b ys x y = false := by
   cases hs : stillB a xs b ys x y with
   | false => rfl
   | true => obtain ⟨e1, e2, e3⟩ := hT.1 hs; simp_all
  exact ⟨by rw [hf], hw.below⟩
set_option maxHeartbeats 400000 in
/-- impl.sameWay -/
theorem sameWay_ok (a b : St) (xs ys : List Int) (va vb : Value) (w : World) (ha : a.Fine) (hb : b.Fine) (hva : Ints w va xs) (hvb : Ints w vb ys) (hA : a.Els xs) (hB : b.Els ys) (hlen : xs.length = ys.length) (hsmall : xs.length ≤ 1000000) :
    Calls Tryz.prog 38 [vS a, va, vS b, vb].toArray w fun en w' => en = .returned (.bool (sameB a xs b ys)) ∧ Below w.heap.size w w' := by
 refine fnStart (n := 34) (e := [(0, vS a), (1, va), (2, vS b), (3, vb)]) Tryz.func38 rfl rfl rfl rfl Ends.both ?_
 refine Wk.seq ?_
 refine Wk.region ?_
 refine Ll.box (v := vS a) rfl rfl rfl rfl rfl fun p4 hp4 => ?_
 show Ll _ _ (Own _ _ [_]) _ _ ((4, pt_ p4) :: _) _ _ _
 refine Ll.box (v := vS b) rfl rfl rfl rfl rfl fun p6 hp6 => ?_
 show Ll _ _ (Own _ _ [_, _]) _ _ ((6, pt_ p6) :: _) _ _ _
 refine Ll.run 1 rfl ?_
 refine Ll.nil ?_
 refine Kt.sel [1, 3, 4, 6] [_, _, _, _] rfl ?_
 refine Wk.seq ?_
 refine Wk.seq ?_
 refine Wk.regionQ ?_
 refine Lq.run 1 rfl ?_
 refine Lq.op (v := i6_ ((xs.length : Int))) rfl rfl rfl (OpQ.lenRow rfl Tryz.runUnderlying28 rfl (ints_length _) (fun w1 hw1 => Row.own hva hw1)) ?_
 refine Lq.run 1 rfl ?_
 refine Lq.nil ?_
 refine Kt.sel [1, 3, 4, 6, 11, 12] [_, _, _, _, _, _] rfl ?_
 refine Wk.block ?_
 refine Wk.loop (σ := Nat) (fun k => k ≤ xs.length ∧ ∀ i : Nat, i < k → stillAt a xs b ys i = true) (fun k => [(1, va), (3, vb), (4, pt_ p4), (6, pt_ p6), (11, i6_ ((xs.length : Int))), (12, i6_ ((k : Int)))]) (fun k => Own w.heap.size w [bk_ p6 #[i6_ b.n, str b.set, str b.rel] 24, bk_ p4 #[i6_ a.n, str a.set, str a.rel] 24]) (fun k => xs.length - k) (0) ⟨by omega, fun i hi => absurd hi (by omega)⟩ (Sub.sel [1, 3, 4, 6, 11, 12] rfl) (fun _ h => h) ?_
 rintro k ⟨hk, hall⟩
 refine Wk.seq ?_
 refine Wk.regionQ ?_
 refine Lq.run 1 rfl ?_
 refine Lq.nil ?_
 refine Kt.sel [1, 3, 4, 6, 11, 12, 13] [_, _, _, _, _, _, _] rfl ?_
 refine Wk.seq ?_
 refine Wk.cond (b := decide (((k : Int)) < ((xs.length : Int)))) rfl (fun h13 => ?_) (fun h13 => ?_)
 ·
  replace h13 := of_decide_eq_true h13
  refine Wk.skip ?_
  refine Kt.sel [1, 3, 4, 6, 11, 12] [_, _, _, _, _, _] rfl ?_
  refine Wk.seq ?_
  refine Wk.block ?_
  refine Wk.seq ?_
  refine Wk.regionQ ?_
  refine Lq.run 2 rfl ?_
  refine Lq.nil ?_
  refine Kt.sel [1, 3, 4, 6, 9, 11, 12] [_, _, _, _, _, _, _] rfl ?_
  refine Wk.seq ?_
  refine Wk.regionD Base.mixed (fun _ h => h.drawn) (by kernel_rfl) ?_
  refine Lq.op rfl rfl rfl (OpQ.loadBox (cs := #[i6_ a.n, str a.set, str a.rel]) 1 rfl Tryz.isAgg24 rfl rfl Tryz.sizeOf24) ?_
  refine Lq.run 2 rfl ?_
  refine Lq.op (v := sTake va k) rfl rfl rfl (OpQ.takeRow (i := (k : Int)) rfl Tryz.runUnderlying28 Tryz.sizeOf3 rfl rfl (by omega) (by rw [ints_length]; omega) (fun w1 hw1 => Row.own hva hw1)) ?_
  refine Lq.op rfl rfl rfl (OpQ.loadBox (cs := #[i6_ b.n, str b.set, str b.rel]) 0 rfl Tryz.isAgg24 rfl rfl Tryz.sizeOf24) ?_
  refine Lq.run 2 rfl ?_
  refine Lq.op (v := sTake vb k) rfl rfl rfl (OpQ.takeRow (i := (k : Int)) rfl Tryz.runUnderlying28 Tryz.sizeOf3 rfl rfl (by omega) (by rw [ints_length]; omega) (fun w1 hw1 => Row.own hvb hw1)) ?_
  refine Lq.run 2 rfl ?_
  refine Lq.op (v := .pointer (some (sAt va ((k : Int))))) rfl rfl rfl (OpQ.atRow rfl Tryz.runUnderlying28 Tryz.sizeOf3 rfl rfl (by omega) (by rw [ints_length]; omega) (fun w1 hw1 => Row.own hva hw1)) ?_
  refine Lq.op (v := i6_ (xs.getD (((k : Int)).toNat) 0)) rfl rfl rfl (OpQ.load1 rfl Tryz.isAgg3 rfl (fun w1 hw1 => Ints.cell (Row.own hva hw1) (by omega) (by omega))) ?_
  refine Lq.run 2 rfl ?_
  refine Lq.op (v := .pointer (some (sAt vb ((k : Int))))) rfl rfl rfl (OpQ.atRow rfl Tryz.runUnderlying28 Tryz.sizeOf3 rfl rfl (by omega) (by rw [ints_length]; omega) (fun w1 hw1 => Row.own hvb hw1)) ?_
  refine Lq.op (v := i6_ (ys.getD (((k : Int)).toNat) 0)) rfl rfl rfl (OpQ.load1 rfl Tryz.isAgg3 rfl (fun w1 hw1 => Ints.cell (Row.own hvb hw1) (by omega) (by omega))) ?_
  refine Lq.op (v := bo_ (stillB a (xs.take k) b (ys.take k) (xs.getD (((k : Int)).toNat) 0) (ys.getD (((k : Int)).toNat) 0))) rfl rfl rfl (OpQ.call rfl Tryz.call61 rfl Own.stable (fun w1 hw1 => stillSame_ok a b (xs.take k) (ys.take k) (sTake va k) (sTake vb k) (xs.getD (((k : Int)).toNat) 0) (ys.getD (((k : Int)).toNat) 0) w1 (ha) (hb) ((Ints.take (Row.own hva hw1) k (by omega))) ((Ints.take (Row.own hvb hw1) k (by omega))) ((hA.take _)) ((hB.take _)) ((by first | (simp; done) | (simp; omega) | omega)) ((by first | (simp; done) | (simp; omega) | omega)) ((by first | assumption | exact St.Els.at (by assumption) (by omega) (by omega))) ((by first | assumption | exact St.Els.at (by assumption) (by omega) (by omega))))) ?_
  refine Lq.run 1 rfl ?_
  refine Lq.nil ?_
  refine Kt.sel [1, 3, 4, 6, 11, 12, 32] [_, _, _, _, _, _, _] rfl ?_
  refine Wk.cond (b := !(stillB a (xs.take k) b (ys.take k) (xs.getD (((k : Int)).toNat) 0) (ys.getD (((k : Int)).toNat) 0))) rfl (fun h32 => ?_) (fun h32 => ?_)
  ·
   replace h32 := not_true h32
   refine Wk.seq ?_
   refine Wk.regionQ ?_
   refine Lq.run 1 rfl ?_
   refine Lq.nil ?_
   refine Kt.sel [8] [_] rfl ?_
   refine Wk.ret (Kt.end1 rfl rfl fun w' hw => ?_)
   exact ⟨ret_b (sameB_false (k := k) (by omega) (by simpa [stillAt] using h32)).symm, hw.below⟩
  ·
   replace h32 := not_false h32
   refine Wk.skip ?_
   refine Kt.sel [1, 3, 4, 6, 11, 12] [_, _, _, _, _, _] rfl ?_
   refine Wk.regionQ ?_
   refine Lq.op rfl rfl rfl (OpQ.add rfl rfl rfl (by omega) (by omega)) ?_
   refine Lq.run 1 rfl ?_
   refine Lq.nil ?_
   refine Kt.again (k + 1) ⟨by omega, fun i hi => (Nat.lt_succ_iff_lt_or_eq.1 hi).elim (hall i) (fun e => by subst e; simpa [stillAt] using h32)⟩ (by omega) (Sub.sel [1, 3, 4, 6, 11, 12] rfl) (fun _ h => h)
 ·
  replace h13 := of_decide_eq_false h13
  refine Wk.exit rfl ?_
  refine Kt.sel [] [] rfl ?_
  refine Wk.seq ?_
  refine Wk.regionQ ?_
  refine Lq.run 1 rfl ?_
  refine Lq.nil ?_
  refine Kt.sel [8] [_] rfl ?_
  refine Wk.ret (Kt.end1 rfl rfl fun w' hw => ?_)
  exact ⟨ret_b (sameB_true (k := k) (by omega) hall).symm, hw.below⟩
end Go.Proofs.YtjcoijejhachhaaGreatDoor
namespace Go.Proofs.YtjcoijejhachhaaGreatDoor
open Go.RowKit Go.Wk
set_option linter.unusedSimpArgs false
set_option maxHeartbeats 400000 in
/-- spec.l1Bit|d -/
theorem bitD_ok (b : Bool) (w : World) :
    Calls Tryz.prog 54 [bo_ b].toArray w fun en w' => en = .returned (str (if b then [49] else [48])) ∧ Below w.heap.size w w' := by
 refine fnStart (n := 4) (e := [(0, bo_ b)]) Tryz.func54 rfl rfl rfl rfl Ends.both ?_
 refine Wk.seq ?_
 refine Wk.regionQ ?_
 refine Lq.op (v := str ([])) rfl rfl rfl (OpQ.assign rfl rfl) ?_
 refine Lq.nil ?_
 refine Kt.sel [0] [_] rfl ?_
 refine Wk.seq ?_
 refine Wk.seq ?_
 refine Wk.regionQ ?_
 refine Lq.run 1 rfl ?_
 refine Lq.nil ?_
 refine Kt.sel [3] [_] rfl ?_
 refine Wk.cond (b := b) rfl (fun h3 => ?_) (fun h3 => ?_)
 ·
  refine Wk.seq ?_
  refine Wk.regionQ ?_
  refine Lq.op (v := str ([49])) rfl rfl rfl (OpQ.assign rfl rfl) ?_
  refine Lq.nil ?_
  refine Kt.sel [2] [_] rfl ?_
  refine Wk.ret (Kt.end1 rfl rfl fun w' hw => ?_)
  exact ⟨by rw [‹b = _›]; rfl, hw.below⟩
 ·
  refine Wk.skip ?_
  refine Kt.sel [] [] rfl ?_
  refine Wk.seq ?_
  refine Wk.regionQ ?_
  refine Lq.op (v := str ([48])) rfl rfl rfl (OpQ.assign rfl rfl) ?_
  refine Lq.nil ?_
  refine Kt.sel [2] [_] rfl ?_
  refine Wk.ret (Kt.end1 rfl rfl fun w' hw => ?_)
  exact ⟨by rw [‹b = _›]; rfl, hw.below⟩
set_option maxHeartbeats 400000 in
/-- (*spec.l15Rd).pick -/
theorem pick_ok (B : Nat) (w0 : World) (hs : List (Nat × Obj)) (rp p : Nat) (bv : Value) (L : List Int) (n : Int) (w : World) (hb : ∀ w, Own B w0 hs w → Row w bv (u8s L)) (hL8 : Bytes8 L) (hL : L.length ≤ 2000) (hp : p ≤ 1000000) (hw : Own B w0 ((rp, .cells #[bv, .int .i64 (p : Int)] 59 (0, 0)) :: hs) w) :
    Calls Tryz.prog 33 [pt_ rp, i6_ n].toArray w fun en w' => ∃ k : Int, ∃ p' : Nat, en = .returned (i6_ k) ∧ (0 ≤ k ∧ (1 ≤ n → k < n) ∧ p' = p + 1) ∧ Own B w0 (((rp, .cells #[bv, .int .i64 (p' : Int)] 59 (0, 0)) :: hs)) w' := by
 refine fnStartC (Own B w0 ((rp, .cells #[bv, .int .i64 (p : Int)] 59 (0, 0)) :: hs)) (n := 99) (e := [(0, pt_ rp), (1, i6_ n)]) Tryz.func33 rfl rfl rfl rfl Ends.both hw ?_
 refine Wk.seq ?_
 refine Wk.regionQ ?_
 refine Lq.run 1 rfl ?_
 refine Lq.nil ?_
 refine Kt.sel [0, 1] [_, _] rfl ?_
 refine Wk.seq ?_
 refine Wk.region ?_
 refine Ll.run 2 rfl ?_
 refine Ll.op (v := pt_ rp) rfl rfl rfl (OpQ.nilCheck rfl rfl) ?_
 refine Ll.op rfl rfl rfl (OpQ.fieldAddr rfl Tryz.runUnderlying59 rfl Tryz.sizeOf3 rfl rfl) ?_
 refine Ll.op rfl rfl rfl (OpQ.loadOwn 0 rfl Tryz.isAgg3 rfl rfl rfl) ?_
 refine Ll.op rfl rfl rfl (OpQ.add rfl rfl rfl (by omega) (by omega)) ?_
 refine Ll.op (v := pt_ rp) rfl rfl rfl (OpQ.nilCheck rfl rfl) ?_
 refine Ll.op rfl rfl rfl (OpQ.fieldAddr rfl Tryz.runUnderlying59 rfl Tryz.sizeOf3 rfl rfl) ?_
 refine Ll.store1 (v := i6_ (((p : Int)) + (1 : Int))) (hs' := (bk_ rp #[bv, i6_ (((p : Int)) + (1 : Int))] 59 :: hs)) 0 rfl rfl rfl rfl rfl rfl Tryz.sizeOf3 rfl (by simp) rfl ?_
 refine Ll.nil ?_
 refine Kt.sel [0, 1] [_, _] rfl ?_
 refine Wk.seq ?_
 refine Wk.seq ?_
 refine Wk.regionQ ?_
 refine Lq.run 3 rfl ?_
 refine Lq.bool fun b17 hg17 => ?_
 cases b17
 ·
  replace hg17 := of_decide_eq_false hg17
  refine Lq.run 1 rfl ?_
  refine Lq.op (v := pt_ rp) rfl rfl rfl (OpQ.nilCheck rfl rfl) ?_
  refine Lq.op rfl rfl rfl (OpQ.fieldAddr rfl Tryz.runUnderlying59 rfl Tryz.sizeOf22 rfl rfl) ?_
  refine Lq.op rfl rfl rfl (OpQ.loadOwn 0 rfl Tryz.isAgg22 rfl rfl rfl) ?_
  refine Lq.op (v := i6_ ((L.length : Int))) rfl rfl rfl (OpQ.lenRow rfl Tryz.runUnderlying22 rfl (u8s_length _) (fun w1 hw1 => hb _ (Own.drop (f := [_]) hw1))) ?_
  refine Lq.run 2 rfl ?_
  refine Lq.nil ?_
  refine Kt.sel [0, 1, 24] [_, _, _] rfl ?_
  refine Wk.cond (b := decide (((L.length : Int)) = (0 : Int))) rfl (fun h24 => ?_) (fun h24 => ?_)
  ·
   replace h24 := of_decide_eq_true h24
   refine Wk.seq ?_
   refine Wk.regionQ ?_
   refine Lq.run 1 rfl ?_
   refine Lq.nil ?_
   refine Kt.sel [4] [_] rfl ?_
   refine Wk.ret (Kt.end1 rfl rfl fun w' hw => ?_)
   exact ⟨0, p + 1, rfl, ⟨Int.le_refl 0, fun _ => by omega, rfl⟩, hw⟩
  ·
   replace h24 := of_decide_eq_false h24
   have hlp : 0 < L.length := by omega
   refine Wk.skip ?_
   refine Kt.sel [0, 1] [_, _] rfl ?_
   refine Wk.seq ?_
   refine Wk.regionQ ?_
   refine Lq.run 1 rfl ?_
   refine Lq.op (v := pt_ rp) rfl rfl rfl (OpQ.nilCheck rfl rfl) ?_
   refine Lq.op rfl rfl rfl (OpQ.fieldAddr rfl Tryz.runUnderlying59 rfl Tryz.sizeOf3 rfl rfl) ?_
   refine Lq.op rfl rfl rfl (OpQ.loadOwn 0 rfl Tryz.isAgg3 rfl rfl rfl) ?_
   refine Lq.op (v := i6_ ((p : Int))) rfl rfl rfl (OpQ.cast (by congr 1; omega) (OpQ.sub rfl rfl rfl (by omega) (by omega))) ?_
   refine Lq.run 1 rfl ?_
   refine Lq.nil ?_
   refine Kt.sel [0, 1, 5] [_, _, _] rfl ?_
   refine Wk.seq ?_
   refine Wk.seq ?_
   refine Wk.regionQ ?_
   refine Lq.run 2 rfl ?_
   refine Lq.op (v := pt_ rp) rfl rfl rfl (OpQ.nilCheck rfl rfl) ?_
   refine Lq.op rfl rfl rfl (OpQ.fieldAddr rfl Tryz.runUnderlying59 rfl Tryz.sizeOf22 rfl rfl) ?_
   refine Lq.op rfl rfl rfl (OpQ.loadOwn 0 rfl Tryz.isAgg22 rfl rfl rfl) ?_
   refine Lq.op (v := i6_ ((L.length : Int))) rfl rfl rfl (OpQ.lenRow rfl Tryz.runUnderlying22 rfl (u8s_length _) (fun w1 hw1 => hb _ (Own.drop (f := [_]) hw1))) ?_
   refine Lq.run 1 rfl ?_
   refine Lq.nil ?_
   refine Kt.sel [0, 1, 5, 36] [_, _, _, _] rfl ?_
   refine Wk.cond (b := decide (((p : Int)) < ((L.length : Int)))) rfl (fun h36 => ?_) (fun h36 => ?_)
   ·
    replace h36 := of_decide_eq_true h36
    have hb0 := hL8.at (i := ((p : Int)).toNat) (by omega)
    refine Wk.seq ?_
    refine Wk.regionQ ?_
    refine Lq.run 1 rfl ?_
    refine Lq.op (v := pt_ rp) rfl rfl rfl (OpQ.nilCheck rfl rfl) ?_
    refine Lq.op rfl rfl rfl (OpQ.fieldAddr rfl Tryz.runUnderlying59 rfl Tryz.sizeOf22 rfl rfl) ?_
    refine Lq.op rfl rfl rfl (OpQ.loadOwn 0 rfl Tryz.isAgg22 rfl rfl rfl) ?_
    refine Lq.run 1 rfl ?_
    refine Lq.op (v := .pointer (some (sAt bv ((p : Int))))) rfl rfl rfl (OpQ.atRow rfl Tryz.runUnderlying22 Tryz.sizeOf5 rfl rfl (by omega) (by rw [u8s_length]; omega) (fun w1 hw1 => hb _ (Own.drop (f := [_]) hw1))) ?_
    refine Lq.op (v := .int .u8 (L.getD (((p : Int)).toNat) 0)) rfl rfl rfl (OpQ.load1 rfl Tryz.isAgg5 rfl (fun w1 hw1 => u8s_cell (hb _ (Own.drop (f := [_]) hw1)) (by omega) (by omega))) ?_
    refine Lq.op (v := i6_ (L.getD (((p : Int)).toNat) 0)) rfl rfl rfl (OpQ.convInt .i64 rfl Tryz.underlying5 Tryz.underlying3 rfl (IntWalk.i64_in _ (by omega))) ?_
    refine Lq.run 1 rfl ?_
    refine Lq.op (v := i6_ ((L.getD (((p : Int)).toNat) 0) % n)) rfl rfl rfl (OpQ.rem rfl rfl rfl (by omega) (by omega)) ?_
    refine Lq.run 1 rfl ?_
    refine Lq.nil ?_
    refine Kt.sel [4] [_] rfl ?_
    refine Wk.ret (Kt.end1 rfl rfl fun w' hw => ?_)
    exact ⟨_, p + 1, rfl, ⟨Int.emod_nonneg _ (by omega), fun _ => Int.emod_lt_of_pos _ (by omega), rfl⟩, hw⟩
   ·
    replace h36 := of_decide_eq_false h36
    have hm1 := Int.emod_nonneg (p : Int) (b := (L.length : Int)) (by omega)
    have hm2 := Int.emod_lt_of_pos (p : Int) (b := (L.length : Int)) (by omega)
    have hm3 := Int.emod_nonneg ((p : Int) * (7 : Int) + (3 : Int)) (b := (L.length : Int)) (by omega)
    have hm4 := Int.emod_lt_of_pos ((p : Int) * (7 : Int) + (3 : Int)) (b := (L.length : Int)) (by omega)
    have hd1 := Int.ediv_nonneg (a := (p : Int)) (b := (L.length : Int)) (by omega) (by omega)
    have hd2 := Int.ediv_le_self (L.length : Int) (show (0 : Int) ≤ (p : Int) by omega)
    have hb1 := hL8.at (i := ((p : Int) % (L.length : Int)).toNat) (by omega)
    have hb2 := hL8.at (i := (((p : Int) * (7 : Int) + (3 : Int)) % (L.length : Int)).toNat) (by omega)
    refine Wk.skip ?_
    refine Kt.sel [0, 1, 5] [_, _, _] rfl ?_
    refine Wk.seq ?_
    refine Wk.regionD Base.mixed (fun _ h => h.drawn) (by kernel_rfl) ?_
    refine Lq.run 1 rfl ?_
    refine Lq.op (v := pt_ rp) rfl rfl rfl (OpQ.nilCheck rfl rfl) ?_
    refine Lq.op rfl rfl rfl (OpQ.fieldAddr rfl Tryz.runUnderlying59 rfl Tryz.sizeOf22 rfl rfl) ?_
    refine Lq.op rfl rfl rfl (OpQ.loadOwn 0 rfl Tryz.isAgg22 rfl rfl rfl) ?_
    refine Lq.run 2 rfl ?_
    refine Lq.op (v := pt_ rp) rfl rfl rfl (OpQ.nilCheck rfl rfl) ?_
    refine Lq.op rfl rfl rfl (OpQ.fieldAddr rfl Tryz.runUnderlying59 rfl Tryz.sizeOf22 rfl rfl) ?_
    refine Lq.op rfl rfl rfl (OpQ.loadOwn 0 rfl Tryz.isAgg22 rfl rfl rfl) ?_
    refine Lq.op (v := i6_ ((L.length : Int))) rfl rfl rfl (OpQ.lenRow rfl Tryz.runUnderlying22 rfl (u8s_length _) (fun w1 hw1 => hb _ (Own.drop (f := [_]) hw1))) ?_
    refine Lq.op (v := i6_ (((p : Int)) % ((L.length : Int)))) rfl rfl rfl (OpQ.rem rfl rfl rfl (by omega) (by omega)) ?_
    refine Lq.op (v := .pointer (some (sAt bv (((p : Int)) % ((L.length : Int)))))) rfl rfl rfl (OpQ.atRow rfl Tryz.runUnderlying22 Tryz.sizeOf5 rfl rfl (by omega) (by rw [u8s_length]; omega) (fun w1 hw1 => hb _ (Own.drop (f := [_]) hw1))) ?_
    refine Lq.op (v := .int .u8 (L.getD ((((p : Int)) % ((L.length : Int))).toNat) 0)) rfl rfl rfl (OpQ.load1 rfl Tryz.isAgg5 rfl (fun w1 hw1 => u8s_cell (hb _ (Own.drop (f := [_]) hw1)) (by omega) (by omega))) ?_
    refine Lq.op (v := i6_ (L.getD ((((p : Int)) % ((L.length : Int))).toNat) 0)) rfl rfl rfl (OpQ.convInt .i64 rfl Tryz.underlying5 Tryz.underlying3 rfl (IntWalk.i64_in _ (by omega))) ?_
    refine Lq.op rfl rfl rfl (OpQ.mul rfl rfl rfl (by omega) (by omega)) ?_
    refine Lq.run 1 rfl ?_
    refine Lq.op (v := pt_ rp) rfl rfl rfl (OpQ.nilCheck rfl rfl) ?_
    refine Lq.op rfl rfl rfl (OpQ.fieldAddr rfl Tryz.runUnderlying59 rfl Tryz.sizeOf22 rfl rfl) ?_
    refine Lq.op rfl rfl rfl (OpQ.loadOwn 0 rfl Tryz.isAgg22 rfl rfl rfl) ?_
    refine Lq.run 1 rfl ?_
    refine Lq.op rfl rfl rfl (OpQ.mul rfl rfl rfl (by omega) (by omega)) ?_
    refine Lq.op rfl rfl rfl (OpQ.add rfl rfl rfl (by omega) (by omega)) ?_
    refine Lq.run 1 rfl ?_
    refine Lq.op (v := pt_ rp) rfl rfl rfl (OpQ.nilCheck rfl rfl) ?_
    refine Lq.op rfl rfl rfl (OpQ.fieldAddr rfl Tryz.runUnderlying59 rfl Tryz.sizeOf22 rfl rfl) ?_
    refine Lq.op rfl rfl rfl (OpQ.loadOwn 0 rfl Tryz.isAgg22 rfl rfl rfl) ?_
    refine Lq.op (v := i6_ ((L.length : Int))) rfl rfl rfl (OpQ.lenRow rfl Tryz.runUnderlying22 rfl (u8s_length _) (fun w1 hw1 => hb _ (Own.drop (f := [_]) hw1))) ?_
    refine Lq.op (v := i6_ (((((p : Int)) * (7 : Int)) + (3 : Int)) % ((L.length : Int)))) rfl rfl rfl (OpQ.rem rfl rfl rfl (by omega) (by omega)) ?_
    refine Lq.op (v := .pointer (some (sAt bv (((((p : Int)) * (7 : Int)) + (3 : Int)) % ((L.length : Int)))))) rfl rfl rfl (OpQ.atRow rfl Tryz.runUnderlying22 Tryz.sizeOf5 rfl rfl (by omega) (by rw [u8s_length]; omega) (fun w1 hw1 => hb _ (Own.drop (f := [_]) hw1))) ?_
    refine Lq.op (v := .int .u8 (L.getD ((((((p : Int)) * (7 : Int)) + (3 : Int)) % ((L.length : Int))).toNat) 0)) rfl rfl rfl (OpQ.load1 rfl Tryz.isAgg5 rfl (fun w1 hw1 => u8s_cell (hb _ (Own.drop (f := [_]) hw1)) (by omega) (by omega))) ?_
    refine Lq.op (v := i6_ (L.getD ((((((p : Int)) * (7 : Int)) + (3 : Int)) % ((L.length : Int))).toNat) 0)) rfl rfl rfl (OpQ.convInt .i64 rfl Tryz.underlying5 Tryz.underlying3 rfl (IntWalk.i64_in _ (by omega))) ?_
    refine Lq.op rfl rfl rfl (OpQ.mul rfl rfl rfl (by omega) (by omega)) ?_
    refine Lq.op rfl rfl rfl (OpQ.add rfl rfl rfl (by omega) (by omega)) ?_
    refine Lq.run 1 rfl ?_
    refine Lq.op rfl rfl rfl (OpQ.mul rfl rfl rfl (by omega) (by omega)) ?_
    refine Lq.op rfl rfl rfl (OpQ.add rfl rfl rfl (by omega) (by omega)) ?_
    refine Lq.run 2 rfl ?_
    refine Lq.op (v := pt_ rp) rfl rfl rfl (OpQ.nilCheck rfl rfl) ?_
    refine Lq.op rfl rfl rfl (OpQ.fieldAddr rfl Tryz.runUnderlying59 rfl Tryz.sizeOf22 rfl rfl) ?_
    refine Lq.op rfl rfl rfl (OpQ.loadOwn 0 rfl Tryz.isAgg22 rfl rfl rfl) ?_
    refine Lq.op (v := i6_ ((L.length : Int))) rfl rfl rfl (OpQ.lenRow rfl Tryz.runUnderlying22 rfl (u8s_length _) (fun w1 hw1 => hb _ (Own.drop (f := [_]) hw1))) ?_
    refine Lq.op (v := i6_ (((p : Int)) / ((L.length : Int)))) rfl rfl rfl (OpQ.quo rfl rfl rfl (by omega) (by omega) (by omega)) ?_
    refine Lq.op rfl rfl rfl (OpQ.mul rfl rfl rfl (by omega) (by omega)) ?_
    refine Lq.op rfl rfl rfl (OpQ.add rfl rfl rfl (by omega) (by omega)) ?_
    refine Lq.run 1 rfl ?_
    refine Lq.nil ?_
    refine Kt.sel [1, 6] [_, _] rfl ?_
    refine Wk.seq ?_
    refine Wk.regionQ ?_
    refine Lq.run 2 rfl ?_
    refine Lq.op (v := i6_ ((((((L.getD ((((p : Int)) % ((L.length : Int))).toNat) 0) * (131 : Int)) + ((L.getD ((((((p : Int)) * (7 : Int)) + (3 : Int)) % ((L.length : Int))).toNat) 0) * (1117 : Int))) + (((p : Int)) * (29 : Int))) + ((((p : Int)) / ((L.length : Int))) * (53 : Int))) / (64 : Int))) rfl rfl rfl (OpQ.quo rfl rfl rfl (by omega) (by omega) (by decide)) ?_
    refine Lq.op (v := i6_ (bits .xor .i64 (((((L.getD ((((p : Int)) % ((L.length : Int))).toNat) 0) * (131 : Int)) + ((L.getD ((((((p : Int)) * (7 : Int)) + (3 : Int)) % ((L.length : Int))).toNat) 0) * (1117 : Int))) + (((p : Int)) * (29 : Int))) + ((((p : Int)) / ((L.length : Int))) * (53 : Int))) ((((((L.getD ((((p : Int)) % ((L.length : Int))).toNat) 0) * (131 : Int)) + ((L.getD ((((((p : Int)) * (7 : Int)) + (3 : Int)) % ((L.length : Int))).toNat) 0) * (1117 : Int))) + (((p : Int)) * (29 : Int))) + ((((p : Int)) / ((L.length : Int))) * (53 : Int))) / (64 : Int)))) rfl rfl rfl (OpQ.xor rfl rfl rfl) ?_
    refine Lq.run 1 rfl ?_
    refine Lq.nil ?_
    refine Kt.sel [1, 6] [_, _] rfl ?_
    refine Wk.seq ?_
    refine Wk.regionQ ?_
    have hx0 : 0 ≤ bits .xor .i64 (((((L.getD ((((p : Int)) % ((L.length : Int))).toNat) 0) * (131 : Int)) + ((L.getD ((((((p : Int)) * (7 : Int)) + (3 : Int)) % ((L.length : Int))).toNat) 0) * (1117 : Int))) + (((p : Int)) * (29 : Int))) + ((((p : Int)) / ((L.length : Int))) * (53 : Int))) ((((((L.getD ((((p : Int)) % ((L.length : Int))).toNat) 0) * (131 : Int)) + ((L.getD ((((((p : Int)) * (7 : Int)) + (3 : Int)) % ((L.length : Int))).toNat) 0) * (1117 : Int))) + (((p : Int)) * (29 : Int))) + ((((p : Int)) / ((L.length : Int))) * (53 : Int))) / (64 : Int)) := xor_pos (by omega) (by omega) (Int.ediv_nonneg (by omega) (by decide)) (by omega)
    refine Lq.run 2 rfl ?_
    refine Lq.op (v := i6_ ((bits .xor .i64 (((((L.getD ((((p : Int)) % ((L.length : Int))).toNat) 0) * (131 : Int)) + ((L.getD ((((((p : Int)) * (7 : Int)) + (3 : Int)) % ((L.length : Int))).toNat) 0) * (1117 : Int))) + (((p : Int)) * (29 : Int))) + ((((p : Int)) / ((L.length : Int))) * (53 : Int))) ((((((L.getD ((((p : Int)) % ((L.length : Int))).toNat) 0) * (131 : Int)) + ((L.getD ((((((p : Int)) * (7 : Int)) + (3 : Int)) % ((L.length : Int))).toNat) 0) * (1117 : Int))) + (((p : Int)) * (29 : Int))) + ((((p : Int)) / ((L.length : Int))) * (53 : Int))) / (64 : Int))) % n)) rfl rfl rfl (OpQ.rem rfl rfl rfl hx0 (by omega)) ?_
    refine Lq.run 1 rfl ?_
    refine Lq.nil ?_
    refine Kt.sel [4] [_] rfl ?_
    refine Wk.ret (Kt.end1 rfl rfl fun w' hw => ?_)
    exact ⟨_, p + 1, rfl, ⟨Int.emod_nonneg _ (by omega), fun _ => Int.emod_lt_of_pos _ (by omega), rfl⟩, hw⟩
 ·
  replace hg17 := of_decide_eq_true hg17
  refine Lq.pass rfl rfl rfl ?_
  refine Lq.pass rfl rfl rfl ?_
  refine Lq.pass rfl rfl rfl ?_
  refine Lq.pass rfl rfl rfl ?_
  refine Lq.pass rfl rfl rfl ?_
  refine Lq.pass rfl rfl rfl ?_
  refine Lq.run 1 rfl ?_
  refine Lq.nil ?_
  refine Kt.sel [0, 1, 24] [_, _, _] rfl ?_
  refine Wk.condT rfl ?_
  refine Wk.seq ?_
  refine Wk.regionQ ?_
  refine Lq.run 1 rfl ?_
  refine Lq.nil ?_
  refine Kt.sel [4] [_] rfl ?_
  refine Wk.ret (Kt.end1 rfl rfl fun w' hw => ?_)
  exact ⟨0, p + 1, rfl, ⟨Int.le_refl 0, fun _ => by omega, rfl⟩, hw⟩
set_option maxHeartbeats 400000 in
/-- (*spec.l15Rd).num -/
theorem num_ok (B : Nat) (w0 : World) (hs : List (Nat × Obj)) (rp p : Nat) (bv : Value) (L : List Int) (va : Value) (xs : List Int) (w : World) (hb : ∀ w, Own B w0 hs w → Row w bv (u8s L)) (hL8 : Bytes8 L) (hL : L.length ≤ 2000) (hva : ∀ w, Own B w0 hs w → Ints w va xs) (hne : 0 < xs.length) (hp : p ≤ 1000000) (hw : Own B w0 ((rp, .cells #[bv, .int .i64 (p : Int)] 59 (0, 0)) :: hs) w) :
    Calls Tryz.prog 11 [pt_ rp, va].toArray w fun en w' => ∃ v : Int, ∃ p' : Nat, en = .returned (i6_ v) ∧ (v ∈ xs ∧ p' = p + 1) ∧ Own B w0 (((rp, .cells #[bv, .int .i64 (p' : Int)] 59 (0, 0)) :: hs)) w' := by
 refine fnStartC (Own B w0 ((rp, .cells #[bv, .int .i64 (p : Int)] 59 (0, 0)) :: hs)) (n := 12) (e := [(0, pt_ rp), (1, va)]) Tryz.func11 rfl rfl rfl rfl Ends.both hw ?_
 refine Wk.seq ?_
 refine Wk.regionQ ?_
 refine Lq.run 1 rfl ?_
 refine Lq.nil ?_
 refine Kt.sel [0, 1] [_, _] rfl ?_
 refine Wk.seq ?_
 refine Wk.region ?_
 refine Ll.run 3 rfl ?_
 refine Ll.op (v := i6_ ((xs.length : Int))) rfl rfl rfl (OpQ.lenRow rfl Tryz.runUnderlying28 rfl (ints_length _) (fun w1 hw1 => hva _ (Own.drop (f := [_]) hw1))) ?_
 refine Ll.callRd (rp := rp) (RT := 59) (p := p) (bv := bv) (hs := hs) (ok := fun (k : Int) p' => 0 ≤ k ∧ (1 ≤ ((xs.length : Int)) → k < ((xs.length : Int))) ∧ p' = p + 1) (v := fun (k : Int) => i6_ k) (new := fun (k : Int) => []) (xs := [.tmp 6, .tmp 8]) (vs := [pt_ rp, i6_ ((xs.length : Int))]) ([] : List (Nat × Obj)) rfl rfl rfl rfl Tryz.call33 rfl (fun w1 hw1 => (pick_ok B w0 (([] : List (Nat × Obj)) ++ hs) rp p bv L ((xs.length : Int)) w1 (fun w2 hw2 => hb w2 (Own.drop (f := ([] : List (Nat × Obj))) hw2)) hL8 hL (by omega) hw1).mono fun en w' ⟨k', p', h1, h2, h3⟩ => ⟨k', p', h1, h2, h3⟩) fun k9 p_9 hKp_9 => ?_
 show Ll _ _ (Own _ _ (_ :: hs)) _ _ ((9, i6_ k9) :: _) _ _ _
 obtain ⟨h0k9, h1k9, hep_9⟩ := hKp_9
 try have hltk9 := h1k9 (by first | omega | (split <;> omega) | decide)
 refine Ll.op (v := .pointer (some (sAt va k9))) rfl rfl rfl (OpQ.atRow rfl Tryz.runUnderlying28 Tryz.sizeOf3 rfl rfl (by omega) (by rw [ints_length]; omega) (fun w1 hw1 => hva _ (Own.drop (f := [_]) hw1))) ?_
 refine Ll.op (v := i6_ (xs.getD ((k9).toNat) 0)) rfl rfl rfl (OpQ.load1 rfl Tryz.isAgg3 rfl (fun w1 hw1 => Ints.cell (hva _ (Own.drop (f := [_]) hw1)) (by omega) (by omega))) ?_
 refine Ll.run 1 rfl ?_
 refine Ll.nil ?_
 refine Kt.sel [4] [_] rfl ?_
 refine Wk.ret (Kt.end1 rfl rfl fun w' hw => ?_)
 exact ⟨_, p_9, rfl, ⟨by rw [getD_at (by omega)]; exact List.getElem_mem _, hep_9⟩, hw⟩
set_option maxHeartbeats 400000 in
/-- (*spec.l15Rd).of -/
theorem of_ok (B : Nat) (w0 : World) (hs : List (Nat × Obj)) (rp p : Nat) (bv : Value) (L : List Int) (va : Value) (xs : List (List UInt8)) (w : World) (hb : ∀ w, Own B w0 hs w → Row w bv (u8s L)) (hL8 : Bytes8 L) (hL : L.length ≤ 2000) (hva : ∀ w, Own B w0 hs w → Strs w va xs) (hne : 0 < xs.length) (hp : p ≤ 1000000) (hw : Own B w0 ((rp, .cells #[bv, .int .i64 (p : Int)] 59 (0, 0)) :: hs) w) :
    Calls Tryz.prog 57 [pt_ rp, va].toArray w fun en w' => ∃ v : List UInt8, ∃ p' : Nat, en = .returned (str v) ∧ (v ∈ xs ∧ p' = p + 1) ∧ Own B w0 (((rp, .cells #[bv, .int .i64 (p' : Int)] 59 (0, 0)) :: hs)) w' := by
 refine fnStartC (Own B w0 ((rp, .cells #[bv, .int .i64 (p : Int)] 59 (0, 0)) :: hs)) (n := 12) (e := [(0, pt_ rp), (1, va)]) Tryz.func57 rfl rfl rfl rfl Ends.both hw ?_
 refine Wk.seq ?_
 refine Wk.regionQ ?_
 refine Lq.op (v := str ([])) rfl rfl rfl (OpQ.assign rfl rfl) ?_
 refine Lq.nil ?_
 refine Kt.sel [0, 1] [_, _] rfl ?_
 refine Wk.seq ?_
 refine Wk.region ?_
 refine Ll.run 3 rfl ?_
 refine Ll.op (v := i6_ ((xs.length : Int))) rfl rfl rfl (OpQ.lenRow rfl Tryz.runUnderlying78 rfl (strs_length _) (fun w1 hw1 => hva _ (Own.drop (f := [_]) hw1))) ?_
 refine Ll.callRd (rp := rp) (RT := 59) (p := p) (bv := bv) (hs := hs) (ok := fun (k : Int) p' => 0 ≤ k ∧ (1 ≤ ((xs.length : Int)) → k < ((xs.length : Int))) ∧ p' = p + 1) (v := fun (k : Int) => i6_ k) (new := fun (k : Int) => []) (xs := [.tmp 6, .tmp 8]) (vs := [pt_ rp, i6_ ((xs.length : Int))]) ([] : List (Nat × Obj)) rfl rfl rfl rfl Tryz.call33 rfl (fun w1 hw1 => (pick_ok B w0 (([] : List (Nat × Obj)) ++ hs) rp p bv L ((xs.length : Int)) w1 (fun w2 hw2 => hb w2 (Own.drop (f := ([] : List (Nat × Obj))) hw2)) hL8 hL (by omega) hw1).mono fun en w' ⟨k', p', h1, h2, h3⟩ => ⟨k', p', h1, h2, h3⟩) fun k9 p_9 hKp_9 => ?_
 show Ll _ _ (Own _ _ (_ :: hs)) _ _ ((9, i6_ k9) :: _) _ _ _
 obtain ⟨h0k9, h1k9, hep_9⟩ := hKp_9
 try have hltk9 := h1k9 (by first | omega | (split <;> omega) | decide)
 refine Ll.op (v := .pointer (some (sAt va k9))) rfl rfl rfl (OpQ.atRow rfl Tryz.runUnderlying78 Tryz.sizeOf9 rfl rfl (by omega) (by rw [strs_length]; omega) (fun w1 hw1 => hva _ (Own.drop (f := [_]) hw1))) ?_
 refine Ll.op (v := str (xs.getD ((k9).toNat) [])) rfl rfl rfl (OpQ.load1 rfl Tryz.isAgg9 rfl (fun w1 hw1 => Strs.cell (hva _ (Own.drop (f := [_]) hw1)) (by omega) (by omega))) ?_
 refine Ll.run 1 rfl ?_
 refine Ll.nil ?_
 refine Kt.sel [4] [_] rfl ?_
 refine Wk.ret (Kt.end1 rfl rfl fun w' hw => ?_)
 exact ⟨_, p_9, rfl, ⟨by rw [getD_at (by omega)]; exact List.getElem_mem _, hep_9⟩, hw⟩
set_option maxHeartbeats 400000 in
/-- spec.l15Many -/
theorem many_ok (s : List UInt8) (w : World) (n : Int) (hn0 : 0 ≤ n) (hn : n ≤ 100) (hs1 : s.length = 1) :
    Calls Tryz.prog 58 [str s, i6_ n].toArray w fun en w' => ∃ t : List UInt8, en = .returned (str t) ∧ (t.length ≤ 40000) ∧ Below w.heap.size w w' := by
 refine fnStart (n := 20) (e := [(0, str s), (1, i6_ n)]) Tryz.func58 rfl rfl rfl rfl Ends.both ?_
 refine Wk.seq ?_
 refine Wk.regionQ ?_
 refine Lq.op (v := str ([])) rfl rfl rfl (OpQ.assign rfl rfl) ?_
 refine Lq.nil ?_
 refine Kt.sel [0, 1] [_, _] rfl ?_
 refine Wk.seq ?_
 refine Wk.regionQ ?_
 refine Lq.op (v := str ([])) rfl rfl rfl (OpQ.assign rfl rfl) ?_
 refine Lq.nil ?_
 refine Kt.sel [0, 1, 5] [_, _, _] rfl ?_
 refine Wk.seq ?_
 refine Wk.block ?_
 refine Wk.loop (σ := Nat × List UInt8 × List UInt8 × Int) (fun ⟨i, t, u, m⟩ => (0 ≤ m ∧ m ≤ 100) ∧ m.toNat * 2 ^ i ≤ 100 ∧ u.length = 2 ^ i ∧ t.length ≤ 2 ^ i ∧ i ≤ 7) (fun ⟨i, t, u, m⟩ => [(0, str u), (1, i6_ m), (5, str t)]) (fun ⟨i, t, u, m⟩ => Own w.heap.size w []) (fun ⟨i, t, u, m⟩ => m.toNat) ((0, [], s, n)) ⟨by omega, by omega, hs1, by simp, by omega⟩ (Sub.sel [0, 1, 5] rfl) (fun _ h => h) ?_
 rintro ⟨i, t, u, m⟩ ⟨⟨hm0, hm9⟩, hm1, hu, ht, hi⟩
 dsimp only
 refine Wk.seq ?_
 refine Wk.seq ?_
 refine Wk.regionQ ?_
 refine Lq.run 2 rfl ?_
 refine Lq.nil ?_
 refine Kt.sel [0, 1, 5, 7] [_, _, _, _] rfl ?_
 refine Wk.cond (b := decide ((0 : Int) < m)) rfl (fun h7 => ?_) (fun h7 => ?_)
 ·
  replace h7 := of_decide_eq_true h7
  have h128 : 2 ^ i ≤ 128 := Nat.le_trans (Nat.pow_le_pow_right (by decide) hi) (by decide)
  refine Wk.skip ?_
  refine Kt.sel [0, 1, 5] [_, _, _] rfl ?_
  refine Wk.block ?_
  refine Wk.seq ?_
  refine Wk.seq ?_
  refine Wk.regionQ ?_
  refine Lq.run 1 rfl ?_
  refine Lq.op (v := i6_ (m % (2 : Int))) rfl rfl rfl (OpQ.rem rfl rfl rfl (by omega) (by decide)) ?_
  refine Lq.run 1 rfl ?_
  refine Lq.nil ?_
  refine Kt.sel [0, 1, 5, 10] [_, _, _, _] rfl ?_
  refine Wk.cond (b := decide ((m % (2 : Int)) = (1 : Int))) rfl (fun h10 => ?_) (fun h10 => ?_)
  ·
   replace h10 := of_decide_eq_true h10
   refine Wk.regionQ ?_
   refine Lq.run 2 rfl ?_
   refine Lq.op rfl rfl rfl (OpQ.sadd rfl rfl rfl (by first | omega | (simp only [List.length_append, List.length_cons, List.length_nil]; omega))) ?_
   refine Lq.run 1 rfl ?_
   refine Lq.nil ?_
   refine Kt.sel [0, 1, 5] [_, _, _] rfl ?_
   refine Wk.seq ?_
   refine Wk.regionQ ?_
   refine Lq.run 2 rfl ?_
   refine Lq.op rfl rfl rfl (OpQ.sadd rfl rfl rfl (by first | omega | (simp only [List.length_append, List.length_cons, List.length_nil]; omega))) ?_
   refine Lq.run 1 rfl ?_
   refine Lq.nil ?_
   refine Kt.sel [0, 1, 5] [_, _, _] rfl ?_
   refine Wk.regionQ ?_
   refine Lq.run 1 rfl ?_
   refine Lq.op (v := i6_ (m / (2 : Int))) rfl rfl rfl (OpQ.quo rfl rfl rfl (by omega) (by omega) (by decide)) ?_
   refine Lq.run 1 rfl ?_
   refine Lq.nil ?_
   refine Kt.again ((i + 1, t ++ u, u ++ u, m / (2 : Int))) ⟨by dsimp only; omega, many_half hm0 hm1, by rw [List.length_append, hu, Nat.pow_succ]; omega, by dsimp only; (try rw [List.length_append]); rw [Nat.pow_succ]; omega, many_more hm1 (by omega)⟩ (by dsimp only; omega) (Sub.sel [0, 1, 5] rfl) (fun _ h => h)
  ·
   replace h10 := of_decide_eq_false h10
   refine Wk.skip ?_
   refine Kt.sel [0, 1, 5] [_, _, _] rfl ?_
   refine Wk.seq ?_
   refine Wk.regionQ ?_
   refine Lq.run 2 rfl ?_
   refine Lq.op rfl rfl rfl (OpQ.sadd rfl rfl rfl (by first | omega | (simp only [List.length_append, List.length_cons, List.length_nil]; omega))) ?_
   refine Lq.run 1 rfl ?_
   refine Lq.nil ?_
   refine Kt.sel [0, 1, 5] [_, _, _] rfl ?_
   refine Wk.regionQ ?_
   refine Lq.run 1 rfl ?_
   refine Lq.op (v := i6_ (m / (2 : Int))) rfl rfl rfl (OpQ.quo rfl rfl rfl (by omega) (by omega) (by decide)) ?_
   refine Lq.run 1 rfl ?_
   refine Lq.nil ?_
   refine Kt.again ((i + 1, t, u ++ u, m / (2 : Int))) ⟨by dsimp only; omega, many_half hm0 hm1, by rw [List.length_append, hu, Nat.pow_succ]; omega, by dsimp only; (try rw [List.length_append]); rw [Nat.pow_succ]; omega, many_more hm1 (by omega)⟩ (by dsimp only; omega) (Sub.sel [0, 1, 5] rfl) (fun _ h => h)
 ·
  replace h7 := of_decide_eq_false h7
  refine Wk.exit rfl ?_
  refine Kt.sel [5] [_] rfl ?_
  refine Wk.seq ?_
  refine Wk.regionQ ?_
  refine Lq.run 2 rfl ?_
  refine Lq.nil ?_
  refine Kt.sel [4] [_] rfl ?_
  refine Wk.ret (Kt.end1 rfl rfl fun w' hw => ?_)
  exact ⟨t, rfl, Nat.le_trans ht (Nat.le_trans (Nat.pow_le_pow_right (by decide) hi) (by decide)), hw.below⟩
end Go.Proofs.YtjcoijejhachhaaGreatDoor
namespace Go.Proofs.YtjcoijejhachhaaGreatDoor
open Go.RowKit Go.Wk
set_option linter.unusedSimpArgs false
set_option maxHeartbeats 400000 in
/-- impl.bitOf -/
theorem bitOf_ok (b : Bool) (w : World) :
    Calls Tryz.prog 49 [bo_ b].toArray w fun en w' => en = .returned (str (if b then [49] else [48])) ∧ Below w.heap.size w w' := by
 refine fnStart (n := 4) (e := [(0, bo_ b)]) Tryz.func49 rfl rfl rfl rfl Ends.both ?_
 refine Wk.seq ?_
 refine Wk.regionQ ?_
 refine Lq.op (v := str ([])) rfl rfl rfl (OpQ.assign rfl rfl) ?_
 refine Lq.nil ?_
 refine Kt.sel [0] [_] rfl ?_
 refine Wk.seq ?_
 refine Wk.seq ?_
 refine Wk.regionQ ?_
 refine Lq.run 1 rfl ?_
 refine Lq.nil ?_
 refine Kt.sel [3] [_] rfl ?_
 refine Wk.cond (b := b) rfl (fun h3 => ?_) (fun h3 => ?_)
 ·
  refine Wk.seq ?_
  refine Wk.regionQ ?_
  refine Lq.op (v := str ([49])) rfl rfl rfl (OpQ.assign rfl rfl) ?_
  refine Lq.nil ?_
  refine Kt.sel [2] [_] rfl ?_
  refine Wk.ret (Kt.end1 rfl rfl fun w' hw => ?_)
  exact ⟨by rw [‹b = _›]; rfl, hw.below⟩
 ·
  refine Wk.skip ?_
  refine Kt.sel [] [] rfl ?_
  refine Wk.seq ?_
  refine Wk.regionQ ?_
  refine Lq.op (v := str ([48])) rfl rfl rfl (OpQ.assign rfl rfl) ?_
  refine Lq.nil ?_
  refine Kt.sel [2] [_] rfl ?_
  refine Wk.ret (Kt.end1 rfl rfl fun w' hw => ?_)
  exact ⟨by rw [‹b = _›]; rfl, hw.below⟩
set_option maxHeartbeats 400000 in
/-- impl.nameOf -/
theorem nameOf_ok (i : Nat) (w : World) (hi : i < 4) :
    Calls Tryz.prog 73 [i6_ ((i : Int))].toArray w fun en w' => en = .returned (str (nameS i)) ∧ Below w.heap.size w w' := by
 refine fnStart (n := 7) (e := [(0, i6_ ((i : Int)))]) Tryz.func73 rfl rfl rfl rfl Ends.both ?_
 refine Wk.seq ?_
 refine Wk.regionQ ?_
 refine Lq.op (v := str ([])) rfl rfl rfl (OpQ.assign rfl rfl) ?_
 refine Lq.nil ?_
 refine Kt.sel [0] [_] rfl ?_
 refine Wk.seq ?_
 refine Wk.regionQ ?_
 refine Lq.run 2 rfl ?_
 refine Lq.op rfl rfl rfl (OpQ.add rfl rfl rfl (by omega) (by omega)) ?_
 refine Lq.op (v := str (nameS i)) rfl rfl rfl (OpQ.cast (congrArg str (slice_name i)) (OpQ.sliceStr rfl Tryz.underlying9 rfl rfl rfl (by omega) (by omega) (by first | omega | (simp; omega)))) ?_
 refine Lq.run 1 rfl ?_
 refine Lq.nil ?_
 refine Kt.sel [2] [_] rfl ?_
 refine Wk.ret (Kt.end1 rfl rfl fun w' hw => ?_)
 exact ⟨ret_s (by first | rfl | (simp_all; done) | (simp_all; omega)), hw.below⟩
set_option maxHeartbeats 400000 in
/-- impl.factsOf$1 -/
theorem tell_ok (B : Nat) (w0 : World) (p7 p6 p2 : Nat) (a2 : Array Value) (s : Boxed) (F : List (List UInt8)) (H : List Bool) (f : List UInt8) (b : Bool) (w : World) (hs : s.Ok B F H) (hF : F.length ≤ 1000) (hH : H.length ≤ 1000) (hw : Own B w0 [bk_ p7 #[sl_ s.q2 ((H : List Bool).length) s.c2] 42, bk_ p6 #[sl_ s.q1 ((F : List (List UInt8)).length) s.c1] 78, bk_ s.q2 s.u2 4, bk_ s.q1 s.u1 9, bk_ p2 a2 24] w) :
    Calls Tryz.prog 72 [str f, bo_ b, pt_ p6, pt_ p7].toArray w fun en w' => en = .returned (.tuple #[]) ∧ ∃ t : Boxed, t.Ok B (F ++ [f]) (H ++ [b]) ∧ Own B w0 [bk_ p7 #[sl_ t.q2 ((H ++ [b] : List Bool).length) t.c2] 42, bk_ p6 #[sl_ t.q1 ((F ++ [f] : List (List UInt8)).length) t.c1] 78, bk_ t.q2 t.u2 4, bk_ t.q1 t.u1 9, bk_ p2 a2 24] w' := by
 refine fnStartC (Own B w0 [bk_ p7 #[sl_ s.q2 ((H : List Bool).length) s.c2] 42, bk_ p6 #[sl_ s.q1 ((F : List (List UInt8)).length) s.c1] 78, bk_ s.q2 s.u2 4, bk_ s.q1 s.u1 9, bk_ p2 a2 24]) (n := 14) (e := [(0, str f), (1, bo_ b), (2, pt_ p6), (3, pt_ p7)]) Tryz.func72 rfl rfl rfl rfl Ends.both hw ?_
 refine Wk.seq ?_
 refine Wk.region ?_
 refine Ll.op rfl rfl rfl (OpQ.loadOwn 1 rfl Tryz.isAgg78 rfl rfl rfl) ?_
 refine Ll.run 1 rfl ?_
 refine Ll.slice (xs := [.tmp 7]) (vs := [str f]) Base.elem78 rfl rfl rfl rfl rfl rfl (by decide) rfl fun p8 hp8 => ?_
 refine Ll.appendStrs (xs := F) (ys := ([f] : List (List UInt8))) Base.elem78 4 rfl rfl rfl rfl rfl rfl rfl hs.s1 hs.l1 (by simpa using hs.t1) (fun w1 hw1 => (Own.row hw1 (i := 0) rfl (n := 1) (cap := 1) (vs := strs ([f] : List (List UInt8))) rfl rfl (by decide))) ((F ++ (([f] : List (List UInt8)))).length) (by first | (simp; done) | (simp; omega)) (by first | (simp; done) | (simp; omega) | omega) fun p9 cap9 cur9 hp9 hcp9 hlp9 htp9 => ?_
 show Ll _ _ (Own _ _ [_, _, _, _, _, _]) _ _ ((9, sl_ p9 (((F ++ (([f] : List (List UInt8)))).length)) cap9) :: _) _ _ _
 refine Ll.store1 (v := sl_ p9 (((F ++ (([f] : List (List UInt8)))).length)) cap9) (hs' := [_, _, bk_ p6 #[sl_ p9 (((F ++ (([f] : List (List UInt8)))).length)) cap9] 78, _, _, _]) 2 rfl rfl rfl rfl rfl rfl Tryz.sizeOf78 rfl (by simp) rfl ?_
 refine Ll.nil ?_
 refine Kt.sel [1, 3] [_, _] rfl ?_
 refine Wk.region ?_
 refine Ll.op rfl rfl rfl (OpQ.loadOwn 1 rfl Tryz.isAgg42 rfl rfl rfl) ?_
 refine Ll.run 1 rfl ?_
 refine Ll.slice (xs := [.tmp 11]) (vs := [bo_ b]) Base.elem42 rfl rfl rfl rfl rfl rfl (by decide) rfl fun p12 hp12 => ?_
 refine Ll.appendBools (xs := H) (ys := ([b] : List Bool)) Base.elem42 4 rfl rfl rfl rfl rfl rfl rfl hs.s2 hs.l2 (by simpa using hs.t2) (fun w1 hw1 => (Own.row hw1 (i := 0) rfl (n := 1) (cap := 1) (vs := bools ([b] : List Bool)) rfl rfl (by decide))) ((H ++ (([b] : List Bool))).length) (by first | (simp; done) | (simp; omega)) (by first | (simp; done) | (simp; omega) | omega) fun p13 cap13 cur13 hp13 hcp13 hlp13 htp13 => ?_
 show Ll _ _ (Own _ _ [_, _, _, _, _, _, _]) _ _ ((13, sl_ p13 (((H ++ (([b] : List Bool))).length)) cap13) :: _) _ _ _
 refine Ll.store1 (v := sl_ p13 (((H ++ (([b] : List Bool))).length)) cap13) (hs' := [_, _, bk_ p7 #[sl_ p13 (((H ++ (([b] : List Bool))).length)) cap13] 42, _, _, _, _]) 2 rfl rfl rfl rfl rfl rfl Tryz.sizeOf42 rfl (by simp) rfl ?_
 refine Ll.nil ?_
 refine (Kt.end0 rfl fun w' hw => ?_)
 exact ⟨rfl, ⟨p9, cap9, cur9, p13, cap13, cur13⟩, ⟨hp9, hcp9, by simpa using hlp9, by simpa using htp9, hp13, hcp13, by simpa using hlp13, by simpa using htp13⟩, by simpa using hw.tail.tail⟩
set_option maxHeartbeats 400000 in
/-- impl.factsOf -/
theorem factsOf_ok (a : St) (va : Value) (xs : List Int) (w : World) (ha : a.Fine) (hva : Ints w va xs) (hA : a.Els xs) (hl4 : xs.length ≤ 4) :
    Calls Tryz.prog 48 [vS a, va].toArray w fun en w' => ∃ v, en = .returned v ∧ Below w.heap.size w w' ∧ NewRows w.heap.size 9 4 w' v ((factsL a xs xs.length).map Prod.fst).length (strs ((factsL a xs xs.length).map Prod.fst)) ((factsL a xs xs.length).map Prod.snd).length (bools ((factsL a xs xs.length).map Prod.snd)) := by
 refine fnStart (n := 92) (e := [(0, vS a), (1, va)]) Tryz.func48 rfl rfl rfl rfl Ends.both ?_
 refine Wk.seq ?_
 refine Wk.region ?_
 refine Ll.box (v := vS a) rfl rfl rfl rfl rfl fun p2 hp2 => ?_
 show Ll _ _ (Own _ _ [_]) _ _ ((2, pt_ p2) :: _) _ _ _
 refine Ll.run 2 rfl ?_
 refine Ll.nil ?_
 refine Kt.sel [1, 2] [_, _] rfl ?_
 refine Wk.seq ?_
 refine Wk.region ?_
 refine Ll.slice (xs := []) (vs := []) Base.elem78 rfl rfl rfl rfl rfl rfl (by decide) rfl fun p15 hp15 => ?_
 refine Ll.slice (xs := []) (vs := []) Base.elem42 rfl rfl rfl rfl rfl rfl (by decide) rfl fun p16 hp16 => ?_
 refine Ll.alloc rfl rfl rfl rfl Tryz.zeroValue78 fun p6 hp6 => ?_
 show Ll _ _ (Own _ _ [bk_ p6 #[.slice none 0 0] 78, _, _, _]) _ _ ((6, pt_ p6) :: _) _ _ _
 refine Ll.alloc rfl rfl rfl rfl Tryz.zeroValue42 fun p7 hp7 => ?_
 show Ll _ _ (Own _ _ [bk_ p7 #[.slice none 0 0] 42, _, _, _, _]) _ _ ((7, pt_ p7) :: _) _ _ _
 refine Ll.store1 (v := sl_ p15 0 0) (hs' := [_, bk_ p6 #[sl_ p15 0 0] 78, _, _, _]) 1 rfl rfl rfl rfl rfl rfl Tryz.sizeOf78 rfl (by simp) rfl ?_
 refine Ll.store1 (v := sl_ p16 0 0) (hs' := [bk_ p7 #[sl_ p16 0 0] 42, _, _, _, _]) 0 rfl rfl rfl rfl rfl rfl Tryz.sizeOf42 rfl (by simp) rfl ?_
 refine Ll.nil ?_
 refine Kt.sel [1, 2, 6, 7] [_, _, _, _] rfl ?_
 refine Wk.seq ?_
 refine Wk.regionQ ?_
 refine Lq.op (v := .func (.func 72) #[] #[pt_ p6, pt_ p7]) rfl rfl rfl (OpQ.func' (cap := [.tmp 6, .tmp 7]) rfl rfl) ?_
 refine Lq.run 1 rfl ?_
 refine Lq.nil ?_
 refine Kt.sel [1, 2, 6, 7, 8] [_, _, _, _, _] rfl ?_
 refine Wk.seq ?_
 refine Wk.seq ?_
 refine Wk.regionQ ?_
 refine Lq.run 1 rfl ?_
 refine Lq.op (v := i6_ ((xs.length : Int))) rfl rfl rfl (OpQ.lenRow rfl Tryz.runUnderlying28 rfl (ints_length _) (fun w1 hw1 => Row.own hva hw1)) ?_
 refine Lq.run 1 rfl ?_
 refine Lq.nil ?_
 refine Kt.sel [1, 2, 6, 7, 8, 18, 19, 20] [_, _, _, _, _, _, _, _] rfl ?_
 refine Wk.block ?_
 refine Wk.loop (σ := Nat × Boxed) (fun ⟨k, s⟩ => k ≤ xs.length ∧ s.Ok w.heap.size ((factsL a xs k).map Prod.fst) ((factsL a xs k).map Prod.snd)) (fun ⟨k, s⟩ => [(1, va), (2, pt_ p2), (6, pt_ p6), (7, pt_ p7), (8, .func (.func 72) #[] #[pt_ p6, pt_ p7]), (18, va), (19, i6_ ((xs.length : Int))), (20, i6_ ((k : Int)))]) (fun ⟨k, s⟩ => Own w.heap.size w [bk_ p7 #[sl_ s.q2 (((factsL a xs k).map Prod.snd : List Bool).length) s.c2] 42, bk_ p6 #[sl_ s.q1 (((factsL a xs k).map Prod.fst : List (List UInt8)).length) s.c1] 78, bk_ s.q2 s.u2 4, bk_ s.q1 s.u1 9, bk_ p2 #[i6_ a.n, str a.set, str a.rel] 24]) (fun ⟨k, s⟩ => xs.length - k) ((0, ⟨p15, 0, #[], p16, 0, #[]⟩)) ⟨by omega, ⟨hp15, rfl, by simp [factsL], rfl, hp16, rfl, by simp [factsL], rfl⟩⟩ (Sub.sel [1, 2, 6, 7, 8, 18, 19, 20] rfl) (fun _ h => h) ?_
 rintro ⟨k, s⟩ ⟨hk, hs⟩
 dsimp only
 refine Wk.seq ?_
 refine Wk.regionQ ?_
 refine Lq.run 1 rfl ?_
 refine Lq.nil ?_
 refine Kt.sel [1, 2, 6, 7, 8, 18, 19, 20, 21] [_, _, _, _, _, _, _, _, _] rfl ?_
 refine Wk.seq ?_
 refine Wk.cond (b := decide (((k : Int)) < ((xs.length : Int)))) rfl (fun h21 => ?_) (fun h21 => ?_)
 ·
  replace h21 := of_decide_eq_true h21
  have hk4 : k < 4 := by omega
  have hfl := factsL_length a xs k (by omega)
  have hnk := nameS_length hk4
  refine Wk.skip ?_
  refine Kt.sel [1, 2, 6, 7, 8, 18, 19, 20] [_, _, _, _, _, _, _, _] rfl ?_
  refine Wk.seq ?_
  refine Wk.block ?_
  refine Wk.seq ?_
  refine Wk.regionQ ?_
  refine Lq.run 1 rfl ?_
  refine Lq.op (v := .pointer (some (sAt va ((k : Int))))) rfl rfl rfl (OpQ.atRow rfl Tryz.runUnderlying28 Tryz.sizeOf3 rfl rfl (by omega) (by rw [ints_length]; omega) (fun w1 hw1 => Row.own hva hw1)) ?_
  refine Lq.op (v := i6_ (xs.getD (((k : Int)).toNat) 0)) rfl rfl rfl (OpQ.load1 rfl Tryz.isAgg3 rfl (fun w1 hw1 => Ints.cell (Row.own hva hw1) (by omega) (by omega))) ?_
  refine Lq.run 2 rfl ?_
  refine Lq.nil ?_
  refine Kt.sel [1, 2, 6, 7, 8, 9, 10, 18, 19, 20] [_, _, _, _, _, _, _, _, _, _] rfl ?_
  refine Wk.seq ?_
  refine Wk.regionQ ?_
  refine Lq.op (v := str ([63])) rfl rfl rfl (OpQ.assign rfl rfl) ?_
  refine Lq.nil ?_
  refine Kt.sel [1, 2, 6, 7, 8, 9, 10, 11, 18, 19, 20] [_, _, _, _, _, _, _, _, _, _, _] rfl ?_
  refine Wk.seq ?_
  refine Wk.seq ?_
  refine Wk.regionQ ?_
  refine Lq.run 2 rfl ?_
  refine Lq.nil ?_
  refine Kt.sel [1, 2, 6, 7, 8, 9, 10, 11, 18, 19, 20, 26] [_, _, _, _, _, _, _, _, _, _, _, _] rfl ?_
  refine Wk.cond (b := decide (((k : Int)) < (4 : Int))) rfl (fun h26 => ?_) (fun h26 => ?_)
  ·
   replace h26 := of_decide_eq_true h26
   refine Wk.regionQ ?_
   refine Lq.run 1 rfl ?_
   refine Lq.op (v := str (nameS k)) rfl rfl rfl (OpQ.call rfl Tryz.call73 rfl Own.stable (fun w1 hw1 => nameOf_ok k w1 (by omega))) ?_
   refine Lq.run 1 rfl ?_
   refine Lq.nil ?_
   refine Kt.sel [1, 2, 6, 7, 8, 9, 10, 11, 18, 19, 20] [_, _, _, _, _, _, _, _, _, _, _] rfl ?_
   refine Wk.seq ?_
   refine Wk.region ?_
   refine Ll.run 2 rfl ?_
   refine Ll.op rfl rfl rfl (OpQ.sadd rfl rfl rfl (by first | omega | (simp only [List.length_append, List.length_cons, List.length_nil]; omega))) ?_
   refine Ll.op rfl rfl rfl (OpQ.loadBox (cs := #[i6_ a.n, str a.set, str a.rel]) 4 rfl Tryz.isAgg24 rfl rfl Tryz.sizeOf24) ?_
   refine Ll.run 1 rfl ?_
   refine Ll.op (v := bo_ (a.inSet (xs.getD (((k : Int)).toNat) 0))) rfl rfl rfl (OpQ.call rfl Tryz.call74 rfl Own.stable (fun w1 hw1 => inSet_ok a (xs.getD (((k : Int)).toNat) 0) w1 ha (by first | assumption | exact St.Els.at (by assumption) (by omega) (by omega)))) ?_
   refine Ll.callFnTo (v := .tuple #[]) (xs := [.tmp 31, .tmp 34]) (vs := [str (([80]) ++ (nameS k)), bo_ (a.inSet (xs.getD (((k : Int)).toNat) 0))]) (ok := fun t : Boxed => t.Ok w.heap.size (((factsL a xs k).map Prod.fst) ++ [([80]) ++ (nameS k)]) (((factsL a xs k).map Prod.snd) ++ [a.inSet (xs.getD (((k : Int)).toNat) 0)])) (hs' := fun t : Boxed => [bk_ p7 #[sl_ t.q2 ((((factsL a xs k).map Prod.snd) ++ [a.inSet (xs.getD (((k : Int)).toNat) 0)] : List Bool).length) t.c2] 42, bk_ p6 #[sl_ t.q1 ((((factsL a xs k).map Prod.fst) ++ [([80]) ++ (nameS k)] : List (List UInt8)).length) t.c1] 78, bk_ t.q2 t.u2 4, bk_ t.q1 t.u1 9, bk_ p2 #[i6_ a.n, str a.set, str a.rel] 24]) rfl rfl rfl rfl rfl Tryz.call72 rfl (fun w1 hw1 => tell_ok _ _ _ _ _ _ s ((factsL a xs k).map Prod.fst) ((factsL a xs k).map Prod.snd) (([80]) ++ (nameS k)) (a.inSet (xs.getD (((k : Int)).toNat) 0)) w1 hs (by first | (simp; done) | (simp; omega)) (by first | (simp; done) | (simp; omega)) hw1) fun s35 hs35 => ?_
   show Ll _ _ (Own _ _ [_, _, _, _, _]) _ _ _ _ _ _
   refine Ll.nil ?_
   refine Kt.sel [1, 2, 6, 7, 8, 9, 10, 11, 18, 19, 20] [_, _, _, _, _, _, _, _, _, _, _] rfl ?_
   refine Wk.seq ?_
   refine Wk.region ?_
   refine Ll.run 2 rfl ?_
   refine Ll.op rfl rfl rfl (OpQ.sadd rfl rfl rfl (by first | omega | (simp only [List.length_append, List.length_cons, List.length_nil]; omega))) ?_
   refine Ll.run 1 rfl ?_
   refine Ll.op rfl rfl rfl (OpQ.sadd rfl rfl rfl (by first | omega | (simp only [List.length_append, List.length_cons, List.length_nil]; omega))) ?_
   refine Ll.op rfl rfl rfl (OpQ.loadBox (cs := #[i6_ a.n, str a.set, str a.rel]) 4 rfl Tryz.isAgg24 rfl rfl Tryz.sizeOf24) ?_
   refine Ll.run 2 rfl ?_
   refine Ll.op (v := bo_ (a.inRel (xs.getD (((k : Int)).toNat) 0) (xs.getD (((k : Int)).toNat) 0))) rfl rfl rfl (OpQ.call rfl Tryz.call75 rfl Own.stable (fun w1 hw1 => inRel_ok a (xs.getD (((k : Int)).toNat) 0) (xs.getD (((k : Int)).toNat) 0) w1 ha (by first | assumption | exact St.Els.at (by assumption) (by omega) (by omega)) (by first | assumption | exact St.Els.at (by assumption) (by omega) (by omega)))) ?_
   refine Ll.callFnTo (v := .tuple #[]) (xs := [.tmp 40, .tmp 44]) (vs := [str ((([69]) ++ (nameS k)) ++ (nameS k)), bo_ (a.inRel (xs.getD (((k : Int)).toNat) 0) (xs.getD (((k : Int)).toNat) 0))]) (ok := fun t : Boxed => t.Ok w.heap.size ((((factsL a xs k).map Prod.fst) ++ [([80]) ++ (nameS k)]) ++ [(([69]) ++ (nameS k)) ++ (nameS k)]) ((((factsL a xs k).map Prod.snd) ++ [a.inSet (xs.getD (((k : Int)).toNat) 0)]) ++ [a.inRel (xs.getD (((k : Int)).toNat) 0) (xs.getD (((k : Int)).toNat) 0)])) (hs' := fun t : Boxed => [bk_ p7 #[sl_ t.q2 (((((factsL a xs k).map Prod.snd) ++ [a.inSet (xs.getD (((k : Int)).toNat) 0)]) ++ [a.inRel (xs.getD (((k : Int)).toNat) 0) (xs.getD (((k : Int)).toNat) 0)] : List Bool).length) t.c2] 42, bk_ p6 #[sl_ t.q1 (((((factsL a xs k).map Prod.fst) ++ [([80]) ++ (nameS k)]) ++ [(([69]) ++ (nameS k)) ++ (nameS k)] : List (List UInt8)).length) t.c1] 78, bk_ t.q2 t.u2 4, bk_ t.q1 t.u1 9, bk_ p2 #[i6_ a.n, str a.set, str a.rel] 24]) rfl rfl rfl rfl rfl Tryz.call72 rfl (fun w1 hw1 => tell_ok _ _ _ _ _ _ s35 (((factsL a xs k).map Prod.fst) ++ [([80]) ++ (nameS k)]) (((factsL a xs k).map Prod.snd) ++ [a.inSet (xs.getD (((k : Int)).toNat) 0)]) ((([69]) ++ (nameS k)) ++ (nameS k)) (a.inRel (xs.getD (((k : Int)).toNat) 0) (xs.getD (((k : Int)).toNat) 0)) w1 hs35 (by first | (simp; done) | (simp; omega)) (by first | (simp; done) | (simp; omega)) hw1) fun s45 hs45 => ?_
   show Ll _ _ (Own _ _ [_, _, _, _, _]) _ _ _ _ _ _
   refine Ll.nil ?_
   refine Kt.sel [1, 2, 6, 7, 8, 9, 10, 11, 18, 19, 20] [_, _, _, _, _, _, _, _, _, _, _] rfl ?_
   refine Wk.seq ?_
   refine Wk.regionQ ?_
   refine Lq.run 2 rfl ?_
   refine Lq.op (v := sTake va k) rfl rfl rfl (OpQ.takeRow (i := (k : Int)) rfl Tryz.runUnderlying28 Tryz.sizeOf3 rfl rfl (by omega) (by rw [ints_length]; omega) (fun w1 hw1 => Row.own hva hw1)) ?_
   refine Lq.op (v := i6_ ((k : Int))) rfl rfl rfl (OpQ.lenRow rfl Tryz.runUnderlying28 rfl (by rw [ints_length, List.length_take]; omega) (fun w1 hw1 => Ints.take (Row.own hva hw1) k (by omega))) ?_
   refine Lq.run 1 rfl ?_
   refine Lq.nil ?_
   refine Kt.sel [1, 2, 6, 7, 8, 10, 11, 18, 19, 20, 48, 49, 50] [_, _, _, _, _, _, _, _, _, _, _, _, _] rfl ?_
   refine Wk.block ?_
   refine Wk.loop (σ := Nat × Boxed) (fun ⟨j, t⟩ => j ≤ k ∧ t.Ok w.heap.size ((factsL a xs k ++ (headL a xs k ++ moreL a xs k j)).map Prod.fst) ((factsL a xs k ++ (headL a xs k ++ moreL a xs k j)).map Prod.snd)) (fun ⟨j, t⟩ => [(1, va), (2, pt_ p2), (6, pt_ p6), (7, pt_ p7), (8, .func (.func 72) #[] #[pt_ p6, pt_ p7]), (10, i6_ (xs.getD (((k : Int)).toNat) 0)), (11, str (nameS k)), (18, va), (19, i6_ ((xs.length : Int))), (20, i6_ ((k : Int))), (48, sTake va k), (49, i6_ ((k : Int))), (50, i6_ ((j : Int)))]) (fun ⟨j, t⟩ => Own w.heap.size w [bk_ p7 #[sl_ t.q2 (((factsL a xs k ++ (headL a xs k ++ moreL a xs k j)).map Prod.snd : List Bool).length) t.c2] 42, bk_ p6 #[sl_ t.q1 (((factsL a xs k ++ (headL a xs k ++ moreL a xs k j)).map Prod.fst : List (List UInt8)).length) t.c1] 78, bk_ t.q2 t.u2 4, bk_ t.q1 t.u1 9, bk_ p2 #[i6_ a.n, str a.set, str a.rel] 24]) (fun ⟨j, t⟩ => k - j) ((0, s45)) ⟨by omega, by rw [tell_head1, tell_head2]; exact hs45⟩ (Sub.sel [1, 2, 6, 7, 8, 10, 11, 18, 19, 20, 48, 49, 50] rfl) (fun _ h => by dsimp only; rw [tell_head1, tell_head2]; exact h) ?_
   rintro ⟨j, t⟩ ⟨hj, ht⟩
   dsimp only
   refine Wk.seq ?_
   refine Wk.regionQ ?_
   refine Lq.run 1 rfl ?_
   refine Lq.nil ?_
   refine Kt.sel [1, 2, 6, 7, 8, 10, 11, 18, 19, 20, 48, 49, 50, 51] [_, _, _, _, _, _, _, _, _, _, _, _, _, _] rfl ?_
   refine Wk.seq ?_
   refine Wk.cond (b := decide (((j : Int)) < ((k : Int)))) rfl (fun h51 => ?_) (fun h51 => ?_)
   ·
    replace h51 := of_decide_eq_true h51
    have hlk : (xs.take k).length = k := by rw [List.length_take]; omega
    have hjk : j < k := by omega
    have hnj := nameS_length (show j < 4 by omega)
    refine Wk.skip ?_
    refine Kt.sel [1, 2, 6, 7, 8, 10, 11, 18, 19, 20, 48, 49, 50] [_, _, _, _, _, _, _, _, _, _, _, _, _] rfl ?_
    refine Wk.seq ?_
    refine Wk.block ?_
    refine Wk.seq ?_
    refine Wk.regionQ ?_
    refine Lq.run 1 rfl ?_
    refine Lq.op (v := .pointer (some (sAt (sTake va k) ((j : Int))))) rfl rfl rfl (OpQ.atRow rfl Tryz.runUnderlying28 Tryz.sizeOf3 rfl rfl (by omega) (by rw [ints_length, List.length_take]; omega) (fun w1 hw1 => Ints.take (Row.own hva hw1) k (by omega))) ?_
    refine Lq.op (v := i6_ (xs.getD ((j : Int)).toNat 0)) rfl rfl rfl (OpQ.cast (by rw [Int.toNat_natCast, take_getD hjk]) (OpQ.load1 rfl Tryz.isAgg3 rfl (fun w1 hw1 => Ints.cell (Ints.take (Row.own hva hw1) k (by omega)) (by omega) (by omega)))) ?_
    refine Lq.run 2 rfl ?_
    refine Lq.nil ?_
    refine Kt.sel [1, 2, 6, 7, 8, 10, 11, 12, 13, 18, 19, 20, 48, 49, 50] [_, _, _, _, _, _, _, _, _, _, _, _, _, _, _] rfl ?_
    refine Wk.seq ?_
    refine Wk.regionQ ?_
    refine Lq.op (v := str ([63])) rfl rfl rfl (OpQ.assign rfl rfl) ?_
    refine Lq.nil ?_
    refine Kt.sel [1, 2, 6, 7, 8, 10, 11, 12, 13, 14, 18, 19, 20, 48, 49, 50] [_, _, _, _, _, _, _, _, _, _, _, _, _, _, _, _] rfl ?_
    refine Wk.seq ?_
    refine Wk.seq ?_
    refine Wk.regionQ ?_
    refine Lq.run 2 rfl ?_
    refine Lq.nil ?_
    refine Kt.sel [1, 2, 6, 7, 8, 10, 11, 12, 13, 14, 18, 19, 20, 48, 49, 50, 56] [_, _, _, _, _, _, _, _, _, _, _, _, _, _, _, _, _] rfl ?_
    refine Wk.cond (b := decide (((j : Int)) < (4 : Int))) rfl (fun h56 => ?_) (fun h56 => ?_)
    ·
     replace h56 := of_decide_eq_true h56
     refine Wk.regionQ ?_
     refine Lq.run 1 rfl ?_
     refine Lq.op (v := str (nameS j)) rfl rfl rfl (OpQ.call rfl Tryz.call73 rfl Own.stable (fun w1 hw1 => nameOf_ok j w1 (by omega))) ?_
     refine Lq.run 1 rfl ?_
     refine Lq.nil ?_
     refine Kt.sel [1, 2, 6, 7, 8, 10, 11, 13, 14, 18, 19, 20, 48, 49, 50] [_, _, _, _, _, _, _, _, _, _, _, _, _, _, _] rfl ?_
     refine Wk.seq ?_
     refine Wk.region ?_
     refine Ll.run 2 rfl ?_
     refine Ll.op rfl rfl rfl (OpQ.sadd rfl rfl rfl (by first | omega | (simp only [List.length_append, List.length_cons, List.length_nil]; omega))) ?_
     refine Ll.run 1 rfl ?_
     refine Ll.op rfl rfl rfl (OpQ.sadd rfl rfl rfl (by first | omega | (simp only [List.length_append, List.length_cons, List.length_nil]; omega))) ?_
     refine Ll.run 3 rfl ?_
     refine Ll.callFnTo (v := .tuple #[]) (xs := [.tmp 63, .tmp 66]) (vs := [str ((([61]) ++ (nameS j)) ++ (nameS k)), bo_ (decide ((xs.getD (((k : Int)).toNat) 0) = (xs.getD ((j : Int)).toNat 0)))]) (ok := fun t : Boxed => t.Ok w.heap.size (((factsL a xs k ++ (headL a xs k ++ moreL a xs k j)).map Prod.fst) ++ [(([61]) ++ (nameS j)) ++ (nameS k)]) (((factsL a xs k ++ (headL a xs k ++ moreL a xs k j)).map Prod.snd) ++ [decide ((xs.getD (((k : Int)).toNat) 0) = (xs.getD ((j : Int)).toNat 0))])) (hs' := fun t : Boxed => [bk_ p7 #[sl_ t.q2 ((((factsL a xs k ++ (headL a xs k ++ moreL a xs k j)).map Prod.snd) ++ [decide ((xs.getD (((k : Int)).toNat) 0) = (xs.getD ((j : Int)).toNat 0))] : List Bool).length) t.c2] 42, bk_ p6 #[sl_ t.q1 ((((factsL a xs k ++ (headL a xs k ++ moreL a xs k j)).map Prod.fst) ++ [(([61]) ++ (nameS j)) ++ (nameS k)] : List (List UInt8)).length) t.c1] 78, bk_ t.q2 t.u2 4, bk_ t.q1 t.u1 9, bk_ p2 #[i6_ a.n, str a.set, str a.rel] 24]) rfl rfl rfl rfl rfl Tryz.call72 rfl (fun w1 hw1 => tell_ok _ _ _ _ _ _ t ((factsL a xs k ++ (headL a xs k ++ moreL a xs k j)).map Prod.fst) ((factsL a xs k ++ (headL a xs k ++ moreL a xs k j)).map Prod.snd) ((([61]) ++ (nameS j)) ++ (nameS k)) (decide ((xs.getD (((k : Int)).toNat) 0) = (xs.getD ((j : Int)).toNat 0))) w1 ht (by first | (simp; done) | (simp; omega)) (by first | (simp; done) | (simp; omega)) hw1) fun s67 hs67 => ?_
     show Ll _ _ (Own _ _ [_, _, _, _, _]) _ _ _ _ _ _
     refine Ll.nil ?_
     refine Kt.sel [1, 2, 6, 7, 8, 10, 11, 13, 14, 18, 19, 20, 48, 49, 50] [_, _, _, _, _, _, _, _, _, _, _, _, _, _, _] rfl ?_
     refine Wk.seq ?_
     refine Wk.region ?_
     refine Ll.run 2 rfl ?_
     refine Ll.op rfl rfl rfl (OpQ.sadd rfl rfl rfl (by first | omega | (simp only [List.length_append, List.length_cons, List.length_nil]; omega))) ?_
     refine Ll.run 1 rfl ?_
     refine Ll.op rfl rfl rfl (OpQ.sadd rfl rfl rfl (by first | omega | (simp only [List.length_append, List.length_cons, List.length_nil]; omega))) ?_
     refine Ll.op rfl rfl rfl (OpQ.loadBox (cs := #[i6_ a.n, str a.set, str a.rel]) 4 rfl Tryz.isAgg24 rfl rfl Tryz.sizeOf24) ?_
     refine Ll.run 2 rfl ?_
     refine Ll.op (v := bo_ (a.inRel (xs.getD ((j : Int)).toNat 0) (xs.getD (((k : Int)).toNat) 0))) rfl rfl rfl (OpQ.call rfl Tryz.call75 rfl Own.stable (fun w1 hw1 => inRel_ok a (xs.getD ((j : Int)).toNat 0) (xs.getD (((k : Int)).toNat) 0) w1 ha (by first | assumption | exact St.Els.at (by assumption) (by omega) (by omega)) (by first | assumption | exact St.Els.at (by assumption) (by omega) (by omega)))) ?_
     refine Ll.callFnTo (v := .tuple #[]) (xs := [.tmp 72, .tmp 76]) (vs := [str ((([69]) ++ (nameS j)) ++ (nameS k)), bo_ (a.inRel (xs.getD ((j : Int)).toNat 0) (xs.getD (((k : Int)).toNat) 0))]) (ok := fun t : Boxed => t.Ok w.heap.size ((((factsL a xs k ++ (headL a xs k ++ moreL a xs k j)).map Prod.fst) ++ [(([61]) ++ (nameS j)) ++ (nameS k)]) ++ [(([69]) ++ (nameS j)) ++ (nameS k)]) ((((factsL a xs k ++ (headL a xs k ++ moreL a xs k j)).map Prod.snd) ++ [decide ((xs.getD (((k : Int)).toNat) 0) = (xs.getD ((j : Int)).toNat 0))]) ++ [a.inRel (xs.getD ((j : Int)).toNat 0) (xs.getD (((k : Int)).toNat) 0)])) (hs' := fun t : Boxed => [bk_ p7 #[sl_ t.q2 (((((factsL a xs k ++ (headL a xs k ++ moreL a xs k j)).map Prod.snd) ++ [decide ((xs.getD (((k : Int)).toNat) 0) = (xs.getD ((j : Int)).toNat 0))]) ++ [a.inRel (xs.getD ((j : Int)).toNat 0) (xs.getD (((k : Int)).toNat) 0)] : List Bool).length) t.c2] 42, bk_ p6 #[sl_ t.q1 (((((factsL a xs k ++ (headL a xs k ++ moreL a xs k j)).map Prod.fst) ++ [(([61]) ++ (nameS j)) ++ (nameS k)]) ++ [(([69]) ++ (nameS j)) ++ (nameS k)] : List (List UInt8)).length) t.c1] 78, bk_ t.q2 t.u2 4, bk_ t.q1 t.u1 9, bk_ p2 #[i6_ a.n, str a.set, str a.rel] 24]) rfl rfl rfl rfl rfl Tryz.call72 rfl (fun w1 hw1 => tell_ok _ _ _ _ _ _ s67 (((factsL a xs k ++ (headL a xs k ++ moreL a xs k j)).map Prod.fst) ++ [(([61]) ++ (nameS j)) ++ (nameS k)]) (((factsL a xs k ++ (headL a xs k ++ moreL a xs k j)).map Prod.snd) ++ [decide ((xs.getD (((k : Int)).toNat) 0) = (xs.getD ((j : Int)).toNat 0))]) ((([69]) ++ (nameS j)) ++ (nameS k)) (a.inRel (xs.getD ((j : Int)).toNat 0) (xs.getD (((k : Int)).toNat) 0)) w1 hs67 (by first | (simp; done) | (simp; omega)) (by first | (simp; done) | (simp; omega)) hw1) fun s77 hs77 => ?_
     show Ll _ _ (Own _ _ [_, _, _, _, _]) _ _ _ _ _ _
     refine Ll.nil ?_
     refine Kt.sel [1, 2, 6, 7, 8, 10, 11, 13, 14, 18, 19, 20, 48, 49, 50] [_, _, _, _, _, _, _, _, _, _, _, _, _, _, _] rfl ?_
     refine Wk.region ?_
     refine Ll.run 2 rfl ?_
     refine Ll.op rfl rfl rfl (OpQ.sadd rfl rfl rfl (by first | omega | (simp only [List.length_append, List.length_cons, List.length_nil]; omega))) ?_
     refine Ll.run 1 rfl ?_
     refine Ll.op rfl rfl rfl (OpQ.sadd rfl rfl rfl (by first | omega | (simp only [List.length_append, List.length_cons, List.length_nil]; omega))) ?_
     refine Ll.op rfl rfl rfl (OpQ.loadBox (cs := #[i6_ a.n, str a.set, str a.rel]) 4 rfl Tryz.isAgg24 rfl rfl Tryz.sizeOf24) ?_
     refine Ll.run 2 rfl ?_
     refine Ll.op (v := bo_ (a.inRel (xs.getD (((k : Int)).toNat) 0) (xs.getD ((j : Int)).toNat 0))) rfl rfl rfl (OpQ.call rfl Tryz.call75 rfl Own.stable (fun w1 hw1 => inRel_ok a (xs.getD (((k : Int)).toNat) 0) (xs.getD ((j : Int)).toNat 0) w1 ha (by first | assumption | exact St.Els.at (by assumption) (by omega) (by omega)) (by first | assumption | exact St.Els.at (by assumption) (by omega) (by omega)))) ?_
     refine Ll.callFnTo (v := .tuple #[]) (xs := [.tmp 82, .tmp 86]) (vs := [str ((([69]) ++ (nameS k)) ++ (nameS j)), bo_ (a.inRel (xs.getD (((k : Int)).toNat) 0) (xs.getD ((j : Int)).toNat 0))]) (ok := fun t : Boxed => t.Ok w.heap.size (((((factsL a xs k ++ (headL a xs k ++ moreL a xs k j)).map Prod.fst) ++ [(([61]) ++ (nameS j)) ++ (nameS k)]) ++ [(([69]) ++ (nameS j)) ++ (nameS k)]) ++ [(([69]) ++ (nameS k)) ++ (nameS j)]) (((((factsL a xs k ++ (headL a xs k ++ moreL a xs k j)).map Prod.snd) ++ [decide ((xs.getD (((k : Int)).toNat) 0) = (xs.getD ((j : Int)).toNat 0))]) ++ [a.inRel (xs.getD ((j : Int)).toNat 0) (xs.getD (((k : Int)).toNat) 0)]) ++ [a.inRel (xs.getD (((k : Int)).toNat) 0) (xs.getD ((j : Int)).toNat 0)])) (hs' := fun t : Boxed => [bk_ p7 #[sl_ t.q2 ((((((factsL a xs k ++ (headL a xs k ++ moreL a xs k j)).map Prod.snd) ++ [decide ((xs.getD (((k : Int)).toNat) 0) = (xs.getD ((j : Int)).toNat 0))]) ++ [a.inRel (xs.getD ((j : Int)).toNat 0) (xs.getD (((k : Int)).toNat) 0)]) ++ [a.inRel (xs.getD (((k : Int)).toNat) 0) (xs.getD ((j : Int)).toNat 0)] : List Bool).length) t.c2] 42, bk_ p6 #[sl_ t.q1 ((((((factsL a xs k ++ (headL a xs k ++ moreL a xs k j)).map Prod.fst) ++ [(([61]) ++ (nameS j)) ++ (nameS k)]) ++ [(([69]) ++ (nameS j)) ++ (nameS k)]) ++ [(([69]) ++ (nameS k)) ++ (nameS j)] : List (List UInt8)).length) t.c1] 78, bk_ t.q2 t.u2 4, bk_ t.q1 t.u1 9, bk_ p2 #[i6_ a.n, str a.set, str a.rel] 24]) rfl rfl rfl rfl rfl Tryz.call72 rfl (fun w1 hw1 => tell_ok _ _ _ _ _ _ s77 ((((factsL a xs k ++ (headL a xs k ++ moreL a xs k j)).map Prod.fst) ++ [(([61]) ++ (nameS j)) ++ (nameS k)]) ++ [(([69]) ++ (nameS j)) ++ (nameS k)]) ((((factsL a xs k ++ (headL a xs k ++ moreL a xs k j)).map Prod.snd) ++ [decide ((xs.getD (((k : Int)).toNat) 0) = (xs.getD ((j : Int)).toNat 0))]) ++ [a.inRel (xs.getD ((j : Int)).toNat 0) (xs.getD (((k : Int)).toNat) 0)]) ((([69]) ++ (nameS k)) ++ (nameS j)) (a.inRel (xs.getD (((k : Int)).toNat) 0) (xs.getD ((j : Int)).toNat 0)) w1 hs77 (by first | (simp; done) | (simp; omega)) (by first | (simp; done) | (simp; omega)) hw1) fun s87 hs87 => ?_
     show Ll _ _ (Own _ _ [_, _, _, _, _]) _ _ _ _ _ _
     refine Ll.nil ?_
     refine Kt.sel [1, 2, 6, 7, 8, 10, 11, 18, 19, 20, 48, 49, 50] [_, _, _, _, _, _, _, _, _, _, _, _, _] rfl ?_
     refine Wk.regionQ ?_
     refine Lq.op rfl rfl rfl (OpQ.add rfl rfl rfl (by omega) (by omega)) ?_
     refine Lq.run 1 rfl ?_
     refine Lq.nil ?_
     refine Kt.again ((j + 1, s87)) ⟨by omega, by rw [tell_step1, tell_step2]; exact hs87⟩ (by omega) (Sub.sel [1, 2, 6, 7, 8, 10, 11, 18, 19, 20, 48, 49, 50] rfl) (fun _ h => by dsimp only; rw [tell_step1, tell_step2]; exact h)
    ·
     replace h56 := of_decide_eq_false h56
     omega
   ·
    replace h51 := of_decide_eq_false h51
    refine Wk.exit rfl ?_
    refine Kt.sel [1, 2, 6, 7, 8, 18, 19, 20] [_, _, _, _, _, _, _, _] rfl ?_
    refine Wk.regionQ ?_
    refine Lq.op rfl rfl rfl (OpQ.add rfl rfl rfl (by omega) (by omega)) ?_
    refine Lq.run 1 rfl ?_
    refine Lq.nil ?_
    refine Kt.again ((k + 1, t)) ⟨by omega, by rw [facts_end1 (j := j) (by omega), facts_end2 (j := j) (by omega)]; exact ht⟩ (by omega) (Sub.sel [1, 2, 6, 7, 8, 18, 19, 20] rfl) (fun _ h => by dsimp only; rw [facts_end1 (j := j) (by omega), facts_end2 (j := j) (by omega)]; exact h)
  ·
   replace h26 := of_decide_eq_false h26
   omega
 ·
  replace h21 := of_decide_eq_false h21
  refine Wk.exit rfl ?_
  refine Kt.sel [6, 7] [_, _] rfl ?_
  refine Wk.seq ?_
  refine Wk.regionD Base.mixed (fun _ h => h.drawn) (by kernel_rfl) ?_
  refine Lq.op rfl rfl rfl (OpQ.loadOwn 1 rfl Tryz.isAgg78 rfl rfl rfl) ?_
  refine Lq.op rfl rfl rfl (OpQ.loadOwn 0 rfl Tryz.isAgg42 rfl rfl rfl) ?_
  refine Lq.run 2 rfl ?_
  refine Lq.nil ?_
  refine Kt.sel [4, 5] [_, _] rfl ?_
  refine Wk.ret (Kt.end2 rfl rfl rfl fun w' hw => ?_)
  obtain rfl : k = xs.length := by omega
  exact ⟨_, rfl, hw.below, hw.newRows (i := 3) (j := 2) rfl rfl (by decide) hs.s1 hs.l1 hs.t1 hs.s2 hs.l2 hs.t2⟩
set_option maxHeartbeats 400000 in
/-- impl.atomsOf -/
theorem atomsOf_ok (a : St) (va : Value) (xs : List Int) (w : World) (ha : a.Fine) (hva : Ints w va xs) (hA : a.Els xs) (hl4 : xs.length ≤ 4) :
    Calls Tryz.prog 30 [vS a, va].toArray w fun en w' => en = .returned (str (atomsT (factsL a xs xs.length))) ∧ Below w.heap.size w w' := by
 refine fnStart (n := 28) (e := [(0, vS a), (1, va)]) Tryz.func30 rfl rfl rfl rfl Ends.both ?_
 have hfl := factsL_length a xs xs.length hl4
 refine Wk.seq ?_
 refine Wk.region ?_
 refine Ll.box (v := vS a) rfl rfl rfl rfl rfl fun p2 hp2 => ?_
 show Ll _ _ (Own _ _ [_]) _ _ ((2, pt_ p2) :: _) _ _ _
 refine Ll.op (v := str ([])) rfl rfl rfl (OpQ.assign rfl rfl) ?_
 refine Ll.nil ?_
 refine Kt.sel [1, 2] [_, _] rfl ?_
 refine Wk.seq ?_
 refine Wk.region ?_
 refine Ll.op rfl rfl rfl (OpQ.loadBox (cs := #[i6_ a.n, str a.set, str a.rel]) 0 rfl Tryz.isAgg24 rfl rfl Tryz.sizeOf24) ?_
 refine Ll.run 1 rfl ?_
 refine Ll.callRows (xs := [.tmp 11, .tmp 12]) (m1 := ((factsL a xs xs.length).map Prod.fst).length) (vs1 := strs ((factsL a xs xs.length).map Prod.fst)) (el1 := 9) (m2 := ((factsL a xs xs.length).map Prod.snd).length) (vs2 := bools ((factsL a xs xs.length).map Prod.snd)) (el2 := 4) rfl rfl rfl rfl Tryz.call48 rfl (fun w1 hw1 => factsOf_ok a va xs w1 ha (Row.own hva hw1) hA hl4) fun p13a cap13a cur13a p13b cap13b cur13b hp13a hcp13a hlp13a htp13a hp13b hcp13b hlp13b htp13b => ?_
 refine Ll.run 1 rfl ?_
 refine Ll.op (v := sl_ p13a (((factsL a xs xs.length).map Prod.fst).length) cap13a) rfl rfl rfl (OpQ.extract rfl rfl rfl) ?_
 refine Ll.op (v := sl_ p13b (((factsL a xs xs.length).map Prod.snd).length) cap13b) rfl rfl rfl (OpQ.extract rfl rfl rfl) ?_
 refine Ll.run 2 rfl ?_
 refine Ll.nil ?_
 refine Kt.sel [6] [_] rfl ?_
 refine Wk.seq ?_
 refine Wk.regionQ ?_
 refine Lq.op (v := str ([])) rfl rfl rfl (OpQ.assign rfl rfl) ?_
 refine Lq.nil ?_
 refine Kt.sel [6, 7] [_, _] rfl ?_
 refine Wk.seq ?_
 refine Wk.seq ?_
 refine Wk.regionQ ?_
 refine Lq.run 1 rfl ?_
 refine Lq.op rfl rfl rfl (OpQ.lenS rfl Tryz.runUnderlying42 rfl) ?_
 refine Lq.run 1 rfl ?_
 refine Lq.nil ?_
 refine Kt.sel [7, 16, 17, 18] [_, _, _, _] rfl ?_
 refine Wk.block ?_
 refine Wk.loop (σ := Nat) (fun j => j ≤ (factsL a xs xs.length).length) (fun j => [(7, str (atomsT ((factsL a xs xs.length).take j))), (16, sl_ p13b (((factsL a xs xs.length).map Prod.snd).length) cap13b), (17, i6_ ((((factsL a xs xs.length).map Prod.snd).length : Int))), (18, i6_ ((j : Int)))]) (fun j => Own w.heap.size w [bk_ p13a cur13a 9, bk_ p13b cur13b 4, bk_ p2 #[i6_ a.n, str a.set, str a.rel] 24]) (fun j => (factsL a xs xs.length).length - j) (0) (by omega) (Sub.cons rfl (Sub.sel [16, 17, 18] rfl)) (fun _ h => h) ?_
 rintro j hj
 refine Wk.seq ?_
 refine Wk.regionQ ?_
 refine Lq.run 1 rfl ?_
 refine Lq.nil ?_
 refine Kt.sel [7, 16, 17, 18, 19] [_, _, _, _, _] rfl ?_
 refine Wk.seq ?_
 refine Wk.cond (b := decide (((j : Int)) < ((((factsL a xs xs.length).map Prod.snd).length : Int)))) rfl (fun h19 => ?_) (fun h19 => ?_)
 ·
  replace h19 := of_decide_eq_true h19
  have hj2 : j < (factsL a xs xs.length).length := by rw [List.length_map] at h19; omega
  refine Wk.skip ?_
  refine Kt.sel [7, 16, 17, 18] [_, _, _, _] rfl ?_
  refine Wk.seq ?_
  refine Wk.block ?_
  refine Wk.seq ?_
  refine Wk.regionQ ?_
  refine Lq.op (v := pf_ p13b (((j : Int)).toNat)) rfl rfl rfl (OpQ.cast (by rw [Nat.zero_add]) (OpQ.indexAddr1 (i := (j : Int)) rfl Tryz.runUnderlying42 Tryz.sizeOf4 rfl rfl (by omega) (by omega))) ?_
  refine Lq.op (v := bo_ (((factsL a xs xs.length).map Prod.snd).getD (((j : Int)).toNat) false)) rfl rfl rfl (OpQ.loadAt 1 rfl Tryz.isAgg4 rfl rfl (cur_at (by simpa using htp13b) (bools_at (c := (factsL a xs xs.length).map Prod.snd) (off := ((j : Int)).toNat) (by first | (simp; done) | (simp; omega) | omega)))) ?_
  refine Lq.run 1 rfl ?_
  refine Lq.nil ?_
  refine Kt.sel [7, 9, 16, 17, 18] [_, _, _, _, _] rfl ?_
  refine Wk.regionQ ?_
  refine Lq.run 2 rfl ?_
  refine Lq.op (v := str ((if ((factsL a xs xs.length).map Prod.snd).getD (((j : Int)).toNat) false then [49] else [48]))) rfl rfl rfl (OpQ.call rfl Tryz.call49 rfl Own.stable (fun w1 hw1 => bitOf_ok (((factsL a xs xs.length).map Prod.snd).getD (((j : Int)).toNat) false) w1 )) ?_
  refine Lq.op rfl rfl rfl (OpQ.sadd rfl rfl rfl (by rw [bit_len]; simp; omega)) ?_
  refine Lq.run 1 rfl ?_
  refine Lq.nil ?_
  refine Kt.sel [7, 16, 17, 18] [_, _, _, _] rfl ?_
  refine Wk.regionQ ?_
  refine Lq.op rfl rfl rfl (OpQ.add rfl rfl rfl (by omega) (by omega)) ?_
  refine Lq.run 1 rfl ?_
  refine Lq.nil ?_
  refine Kt.again (j + 1) (by omega) (by omega) (Sub.cons (by rw [atoms_step2 hj2]; rfl) (Sub.sel [16, 17, 18] rfl)) (fun _ h => h)
 ·
  replace h19 := of_decide_eq_false h19
  refine Wk.exit rfl ?_
  refine Kt.sel [7] [_] rfl ?_
  refine Wk.seq ?_
  refine Wk.regionQ ?_
  refine Lq.run 2 rfl ?_
  refine Lq.nil ?_
  refine Kt.sel [4] [_] rfl ?_
  refine Wk.ret (Kt.end1 rfl rfl fun w' hw => ?_)
  exact ⟨ret_s (by rw [List.take_of_length_le (by rw [List.length_map] at h19; omega)]), hw.below⟩
set_option maxHeartbeats 400000 in
/-- impl.listsOf -/
theorem listsOf_ok (B : Nat) (w0 : World) (hs : List (Nat × Obj)) (N W : Int) (w : World) (hN0 : 0 ≤ N) (hN8 : N ≤ 8) (hW0 : 0 ≤ W) (hW3 : W ≤ 3) (hw : Own B w0 hs w) :
    Calls Tryz.prog 29 [i6_ N, i6_ W].toArray w fun en w' => ∃ (g cap : Nat) (cur : Array Value) (rr : List RR), en = .returned (.slice (some ⟨g, 0, none⟩) rr.length cap) ∧ (RowsOk rr cur cap ∧ rr.map RR.xs = listsL N.toNat W.toNat) ∧ Own B w0 ((g, .cells cur 28 (0, 0)) :: (rowsB 3 rr ++ hs)) w' := by
 refine fnStartC (Own B w0 hs) (n := 40) (e := [(0, i6_ N), (1, i6_ W)]) Tryz.func29 rfl rfl rfl rfl Ends.both hw ?_
 refine Wk.seq ?_
 refine Wk.regionQ ?_
 refine Lq.run 1 rfl ?_
 refine Lq.nil ?_
 refine Kt.sel [0, 1] [_, _] rfl ?_
 refine Wk.seq ?_
 refine Wk.region ?_
 refine Ll.slice (xs := []) (vs := []) Base.elem28 rfl rfl rfl rfl rfl rfl (by decide) rfl fun p10 hp10 => ?_
 refine Ll.slice (xs := [.tmp 10]) (vs := [sl_ p10 0 0]) Base.elem48 rfl rfl rfl rfl rfl rfl (by decide) rfl fun p11 hp11 => ?_
 refine Ll.run 1 rfl ?_
 refine Ll.nil ?_
 refine Kt.sel [0, 1, 5] [_, _, _] rfl ?_
 refine Wk.seq ?_
 refine Wk.seq ?_
 refine Wk.regionQ ?_
 refine Lq.run 2 rfl ?_
 refine Lq.nil ?_
 refine Kt.sel [0, 5, 12, 13] [_, _, _, _] rfl ?_
 refine Wk.block ?_
 refine Wk.loop (σ := Nat × Nat × Nat × Array Value × List RR) (fun ⟨r, gO, cO, uO, rr⟩ => r ≤ W.toNat ∧ RowsOk rr uO cO ∧ rr.map RR.xs = listsL N.toNat r) (fun ⟨r, gO, cO, uO, rr⟩ => [(0, i6_ N), (5, sl_ gO rr.length cO), (12, i6_ W), (13, i6_ ((r : Int)))]) (fun ⟨r, gO, cO, uO, rr⟩ => Own B w0 (bk_ gO uO 28 :: ((rowsB 3 rr ++ hs)))) (fun ⟨r, gO, cO, uO, rr⟩ => W.toNat - r) ((0, p11, 1, _, [⟨p10, 0, #[], []⟩])) ⟨by omega, RowsOk.one p10, rfl⟩ (Sub.sel [0, 5, 12, 13] rfl) (fun _ h => h) ?_
 rintro ⟨r, gO, cO, uO, rr⟩ ⟨hr, hR, hXr⟩
 dsimp only
 have hrl : rr.length = N.toNat ^ r := by rw [← listsL_length N.toNat r, ← hXr, List.length_map]
 have h512 := pow8 (size := N.toNat) (w := r) (by omega) (by omega)
 refine Wk.seq ?_
 refine Wk.regionQ ?_
 refine Lq.run 1 rfl ?_
 refine Lq.nil ?_
 refine Kt.sel [0, 5, 12, 13, 14] [_, _, _, _, _] rfl ?_
 refine Wk.seq ?_
 refine Wk.cond (b := decide (((r : Int)) < W)) rfl (fun h14 => ?_) (fun h14 => ?_)
 ·
  replace h14 := of_decide_eq_true h14
  refine Wk.skip ?_
  refine Kt.sel [0, 5, 12, 13] [_, _, _, _] rfl ?_
  refine Wk.seq ?_
  refine Wk.block ?_
  refine Wk.seq ?_
  refine Wk.region ?_
  refine Ll.slice (xs := []) (vs := []) Base.elem48 rfl rfl rfl rfl rfl rfl (by decide) rfl fun p15 hp15 => ?_
  refine Ll.run 1 rfl ?_
  refine Ll.nil ?_
  refine Kt.sel [0, 5, 6, 12, 13] [_, _, _, _, _] rfl ?_
  refine Wk.seq ?_
  refine Wk.seq ?_
  refine Wk.regionQ ?_
  refine Lq.run 1 rfl ?_
  refine Lq.op rfl rfl rfl (OpQ.lenS rfl Tryz.runUnderlying48 rfl) ?_
  refine Lq.run 1 rfl ?_
  refine Lq.nil ?_
  refine Kt.sel [0, 6, 12, 13, 16, 17, 18] [_, _, _, _, _, _, _] rfl ?_
  refine Wk.block ?_
  refine Wk.loop (σ := Nat × Nat × Nat × Array Value × List RR) (fun ⟨i, gN, cN, uN, nn⟩ => i ≤ rr.length ∧ RowsOk nn uN cN ∧ nn.map RR.xs = nextL N.toNat ((listsL N.toNat r).take i)) (fun ⟨i, gN, cN, uN, nn⟩ => [(0, i6_ N), (6, sl_ gN nn.length cN), (12, i6_ W), (13, i6_ ((r : Int))), (16, sl_ gO rr.length cO), (17, i6_ ((rr.length : Int))), (18, i6_ ((i : Int)))]) (fun ⟨i, gN, cN, uN, nn⟩ => Own B w0 (bk_ gN uN 28 :: bk_ gO uO 28 :: ((rowsB 3 nn ++ (rowsB 3 rr ++ hs))))) (fun ⟨i, gN, cN, uN, nn⟩ => rr.length - i) ((0, p15, 0, #[], [])) ⟨by omega, RowsOk.nil, rfl⟩ (Sub.sel [0, 6, 12, 13, 16, 17, 18] rfl) (fun _ h => h) ?_
  rintro ⟨i, gN, cN, uN, nn⟩ ⟨hi, hN, hX⟩
  dsimp only
  refine Wk.seq ?_
  refine Wk.regionQ ?_
  refine Lq.run 1 rfl ?_
  refine Lq.nil ?_
  refine Kt.sel [0, 6, 12, 13, 16, 17, 18, 19] [_, _, _, _, _, _, _, _] rfl ?_
  refine Wk.seq ?_
  refine Wk.cond (b := decide (((i : Int)) < ((rr.length : Int)))) rfl (fun h19 => ?_) (fun h19 => ?_)
  ·
   replace h19 := of_decide_eq_true h19
   refine Wk.skip ?_
   refine Kt.sel [0, 6, 12, 13, 16, 17, 18] [_, _, _, _, _, _, _] rfl ?_
   refine Wk.seq ?_
   refine Wk.block ?_
   refine Wk.seq ?_
   refine Wk.regionQ ?_
   refine Lq.op (v := pf_ gO i) rfl rfl rfl (OpQ.cast (v' := pf_ gO i) (by simp) (OpQ.indexAddr1 (i := (i : Int)) rfl Tryz.runUnderlying48 Tryz.sizeOf28 rfl rfl (by omega) (by omega))) ?_
   refine Lq.op (v := rv (rr.getD i rd)) rfl rfl rfl (OpQ.loadAt (v := rv (rr.getD i rd)) 1 rfl Tryz.isAgg28 rfl rfl (by have := rvs_at (rr := rr) (i := i) (by omega); rw [← hR.vals, List.getElem?_take, if_pos (by omega)] at this; simpa using this)) ?_
   refine Lq.run 1 rfl ?_
   refine Lq.nil ?_
   refine Kt.sel [0, 6, 8, 12, 13, 16, 17, 18] [_, _, _, _, _, _, _, _] rfl ?_
   refine Wk.seq ?_
   refine Wk.regionQ ?_
   refine Lq.run 2 rfl ?_
   refine Lq.nil ?_
   refine Kt.sel [0, 6, 8, 12, 13, 16, 17, 18, 22, 23] [_, _, _, _, _, _, _, _, _, _] rfl ?_
   refine Wk.block ?_
   refine Wk.loop (σ := Nat × Nat × Nat × Array Value × List RR) (fun ⟨k, gM, cM, uM, nm⟩ => k ≤ N.toNat ∧ RowsOk nm uM cM ∧ nm.map RR.xs = nextTo N.toNat (listsL N.toNat r) i k) (fun ⟨k, gM, cM, uM, nm⟩ => [(0, i6_ N), (6, sl_ gM nm.length cM), (8, rv (rr.getD i rd)), (12, i6_ W), (13, i6_ ((r : Int))), (16, sl_ gO rr.length cO), (17, i6_ ((rr.length : Int))), (18, i6_ ((i : Int))), (22, i6_ N), (23, i6_ ((k : Int)))]) (fun ⟨k, gM, cM, uM, nm⟩ => Own B w0 (bk_ gM uM 28 :: bk_ gO uO 28 :: ((rowsB 3 nm ++ (rowsB 3 rr ++ hs))))) (fun ⟨k, gM, cM, uM, nm⟩ => N.toNat - k) ((0, gN, cN, uN, nn)) ⟨by omega, hN, by rw [nextTo_zero]; exact hX⟩ (Sub.sel [0, 6, 8, 12, 13, 16, 17, 18, 22, 23] rfl) (fun _ h => h) ?_
   rintro ⟨k, gM, cM, uM, nm⟩ ⟨hk, hN, hXm⟩
   dsimp only
   have hxl := xs_len hXr (i := i)
   have hnl := next_len hXm (by rw [listsL_length]; omega) (by omega) (by omega)
   refine Wk.seq ?_
   refine Wk.regionQ ?_
   refine Lq.run 1 rfl ?_
   refine Lq.nil ?_
   refine Kt.sel [0, 6, 8, 12, 13, 16, 17, 18, 22, 23, 24] [_, _, _, _, _, _, _, _, _, _, _] rfl ?_
   refine Wk.seq ?_
   refine Wk.cond (b := decide (((k : Int)) < N)) rfl (fun h24 => ?_) (fun h24 => ?_)
   ·
    replace h24 := of_decide_eq_true h24
    have hkn : k < N.toNat := by omega
    refine Wk.skip ?_
    refine Kt.sel [0, 6, 8, 12, 13, 16, 17, 18, 22, 23] [_, _, _, _, _, _, _, _, _, _] rfl ?_
    refine Wk.seq ?_
    refine Wk.block ?_
    refine Wk.seq ?_
    refine Wk.regionQ ?_
    refine Lq.run 2 rfl ?_
    refine Lq.nil ?_
    refine Kt.sel [0, 6, 8, 9, 12, 13, 16, 17, 18, 22, 23] [_, _, _, _, _, _, _, _, _, _, _] rfl ?_
    refine Wk.region ?_
    refine Ll.run 1 rfl ?_
    refine Ll.slice (xs := []) (vs := []) Base.elem28 rfl rfl rfl rfl rfl rfl (by decide) rfl fun p27 hp27 => ?_
    refine Ll.run 1 rfl ?_
    refine Ll.appendInts (xs := []) (ys := (rr.getD i rd).xs) Base.elem28 0 rfl rfl rfl rfl rfl rfl rfl rfl (by decide) rfl (fun w1 hw1 => (Own.ofRows (Own.drop (f := bk_ p27 #[] 3 :: bk_ gM uM 28 :: bk_ gO uO 28 :: (rowsB 3 nm)) hw1) hR.ok (i := i) (by omega))) (((rr.getD i rd).xs).length) (by first | (simp; done) | (simp; omega)) (by first | (simp; done) | (simp; omega) | omega) fun p29 cap29 cur29 hp29 hcp29 hlp29 htp29 => ?_
    show Ll _ _ (Own _ _ (_ :: _ :: _ :: ((rowsB 3 nm ++ (rowsB 3 rr ++ hs))))) _ _ ((29, sl_ p29 ((((rr.getD i rd).xs).length)) cap29) :: _) _ _ _
    refine Ll.run 1 rfl ?_
    refine Ll.slice (xs := [.tmp 30]) (vs := [i6_ ((k : Int))]) Base.elem28 rfl rfl rfl rfl rfl rfl (by decide) rfl fun p31 hp31 => ?_
    refine Ll.appendInts (xs := (rr.getD i rd).xs) (ys := [(k : Int)]) Base.elem28 1 rfl rfl rfl rfl rfl rfl rfl hcp29 hlp29 (by simpa using htp29) (fun w1 hw1 => (Own.row hw1 (i := 0) rfl (n := 1) (cap := 1) (vs := ints [(k : Int)]) rfl rfl (by decide))) ((((rr.getD i rd).xs) ++ ([(k : Int)])).length) (by first | (simp; done) | (simp; omega)) (by rw [List.length_append, List.length_singleton]; omega) fun p32 cap32 cur32 hp32 hcp32 hlp32 htp32 => ?_
    show Ll _ _ (Own _ _ (_ :: _ :: _ :: _ :: ((rowsB 3 nm ++ (rowsB 3 rr ++ hs))))) _ _ ((32, sl_ p32 (((((rr.getD i rd).xs) ++ ([(k : Int)])).length)) cap32) :: _) _ _ _
    refine Ll.slice (xs := [.tmp 32]) (vs := [sl_ p32 (((((rr.getD i rd).xs) ++ ([(k : Int)])).length)) cap32]) Base.elem48 rfl rfl rfl rfl rfl rfl (by decide) rfl fun p33 hp33 => ?_
    refine Ll.append Base.elem48 3 [sl_ p32 (((((rr.getD i rd).xs) ++ ([(k : Int)])).length)) cap32] rfl rfl rfl rfl rfl rfl rfl hN.size hN.len rfl (fun h => by cases h) (fun w1 hw1 ad had j u hj => by injection had with had; subst had; rw [Addr.add_lit, Nat.zero_add, hw1.cell (i := 0) rfl]; simpa using hj) (by simp [Value.oneCell']) (by omega) fun gq capq curq hgq hcgq hlgq htgq => ?_
    show Ll _ _ (Own _ _ (_ :: _ :: _ :: _ :: _ :: ((rowsB 3 nm ++ (rowsB 3 rr ++ hs))))) _ _ ((34, sl_ gq ((nm.length + 1)) capq) :: _) _ _ _
    refine Ll.run 1 rfl ?_
    refine Ll.nil ?_
    refine Kt.sel [0, 6, 8, 12, 13, 16, 17, 18, 22, 23] [_, _, _, _, _, _, _, _, _, _] rfl ?_
    refine Wk.regionQ ?_
    refine Lq.op rfl rfl rfl (OpQ.add rfl rfl rfl (by omega) (by omega)) ?_
    refine Lq.run 1 rfl ?_
    refine Lq.nil ?_
    refine Kt.again ((k + 1, gq, capq, curq, nm ++ [(RR.mk p32 cap32 cur32 ((rr.getD i rd).xs ++ [(k : Int)]))])) ⟨by omega, hN.add (r := (RR.mk p32 cap32 cur32 ((rr.getD i rd).xs ++ [(k : Int)]))) ⟨hcp32, hlp32, by simpa using htp32⟩ hcgq hlgq htgq, by rw [List.map_append, hXm, nextTo_step, ← hXr, map_xs (by omega)]; rfl⟩ (by omega) (Sub.cons rfl (Sub.cons (by rw [List.length_append]; rfl) (Sub.sel [8, 12, 13, 16, 17, 18, 22, 23] rfl))) (fun _ h => rows_more (cap := cap32) (xs := (rr.getD i rd).xs ++ [(k : Int)]) (f := [_, _]) (h.sub (List.Sublist.cons _ (List.Sublist.cons _ (List.Sublist.cons_cons _ (List.Sublist.cons_cons _ (List.Sublist.cons_cons _ (List.Sublist.refl _))))))))
   ·
    replace h24 := of_decide_eq_false h24
    refine Wk.exit rfl ?_
    refine Kt.sel [0, 6, 12, 13, 16, 17, 18] [_, _, _, _, _, _, _] rfl ?_
    refine Wk.regionQ ?_
    refine Lq.op rfl rfl rfl (OpQ.add rfl rfl rfl (by omega) (by omega)) ?_
    refine Lq.run 1 rfl ?_
    refine Lq.nil ?_
    refine Kt.again ((i + 1, gM, cM, uM, nm)) ⟨by omega, hN, by rw [hXm, show k = N.toNat from by omega, nextTo_end (by rw [listsL_length]; omega)]⟩ (by omega) (Sub.sel [0, 6, 12, 13, 16, 17, 18] rfl) (fun _ h => h)
  ·
   replace h19 := of_decide_eq_false h19
   have hend : nextL N.toNat ((listsL N.toNat r).take i) = nextL N.toNat (listsL N.toNat r) := by rw [List.take_of_length_le (by rw [listsL_length]; omega)]
   refine Wk.exit rfl ?_
   refine Kt.sel [0, 6, 12, 13] [_, _, _, _] rfl ?_
   refine Wk.regionQ ?_
   refine Lq.run 2 rfl ?_
   refine Lq.nil ?_
   refine Kt.sel [0, 5, 12, 13] [_, _, _, _] rfl ?_
   refine Wk.regionQ ?_
   refine Lq.op rfl rfl rfl (OpQ.add rfl rfl rfl (by omega) (by omega)) ?_
   refine Lq.run 1 rfl ?_
   refine Lq.nil ?_
   refine Kt.again ((r + 1, gN, cN, uN, nn)) ⟨by omega, hN, by rw [hX, hend]; rfl⟩ (by omega) (Sub.sel [0, 5, 12, 13] rfl) (fun _ h => rows_forget h)
 ·
  replace h14 := of_decide_eq_false h14
  refine Wk.exit rfl ?_
  refine Kt.sel [5] [_] rfl ?_
  refine Wk.seq ?_
  refine Wk.regionQ ?_
  refine Lq.run 2 rfl ?_
  refine Lq.nil ?_
  refine Kt.sel [4] [_] rfl ?_
  refine Wk.ret (Kt.end1 rfl rfl fun w' hw => ?_)
  obtain rfl : r = W.toNat := by omega
  exact ⟨_, _, _, rr, rfl, ⟨hR, hXr⟩, hw⟩
set_option maxHeartbeats 400000 in
/-- impl.CountKinds -/
theorem iKinds_ok (a : St) (W : Int) (w : World) (hsa : a.Small) :
    Calls Tryz.prog 8 [vS a, i6_ W].toArray w fun en w' => en = .returned (.int .i64 (kindsI a W)) ∧ Below w.heap.size w w' := by
 refine fnStart (n := 36) (e := [(0, vS a), (1, i6_ W)]) Tryz.func8 rfl rfl rfl rfl Ends.both ?_
 refine Wk.seq ?_
 refine Wk.region ?_
 refine Ll.box (v := vS a) rfl rfl rfl rfl rfl fun p2 hp2 => ?_
 show Ll _ _ (Own _ _ [_]) _ _ ((2, pt_ p2) :: _) _ _ _
 refine Ll.run 1 rfl ?_
 refine Ll.nil ?_
 refine Kt.sel [1, 2] [_, _] rfl ?_
 refine Wk.seq ?_
 refine Wk.seq ?_
 refine Wk.regionQ ?_
 refine Lq.op rfl rfl rfl (OpQ.loadBox (cs := #[i6_ a.n, str a.set, str a.rel]) 0 rfl Tryz.isAgg24 rfl rfl Tryz.sizeOf24) ?_
 refine Lq.op (v := bo_ (validB a)) rfl rfl rfl (OpQ.call rfl Tryz.call12 rfl Own.stable (fun w1 hw1 => isStructure_ok a w1 hsa)) ?_
 refine Lq.run 2 rfl ?_
 refine Lq.bool fun b11 hg11 => ?_
 cases b11
 ·
  replace hg11 := not_false hg11
  refine Lq.run 4 rfl ?_
  refine Lq.bool fun b15 hg15 => ?_
  cases b15
  ·
   replace hg15 := of_decide_eq_false hg15
   refine Lq.run 3 rfl ?_
   refine Lq.nil ?_
   refine Kt.sel [1, 2, 18] [_, _, _] rfl ?_
   refine Wk.cond (b := decide ((3 : Int) < W)) rfl (fun h18 => ?_) (fun h18 => ?_)
   ·
    replace h18 := of_decide_eq_true h18
    refine Wk.seq ?_
    refine Wk.regionQ ?_
    refine Lq.run 1 rfl ?_
    refine Lq.nil ?_
    refine Kt.sel [4] [_] rfl ?_
    refine Wk.ret (Kt.end1 rfl rfl fun w' hw => ?_)
    exact ⟨ret_i (by unfold kindsI; first | (rw [if_neg (by unfold inB; first | (simp_all; done) | (simp_all; omega))]; done) | (rw [if_pos (by unfold inB; simp [hV, h0, h3]), List.take_of_length_le (by rw [kindsL_length]; omega)])), hw.below⟩
   ·
    replace h18 := of_decide_eq_false h18
    have hV : validB a = true := by simp_all
    have ha := validB_fine hV
    have hm8 := ha.hi
    have hm1 := ha.lo
    have h0 : 0 ≤ W := by omega
    have h3 : W ≤ 3 := by omega
    have h512 := pow8 (size := a.n.toNat) (w := W.toNat) (by omega) (by omega)
    refine Wk.skip ?_
    refine Kt.sel [1, 2] [_, _] rfl ?_
    refine Wk.seq ?_
    refine Wk.region ?_
    refine Ll.makeMap rfl rfl rfl rfl fun p19 hp19 => ?_
    refine Ll.run 1 rfl ?_
    refine Ll.nil ?_
    refine Kt.sel [1, 2, 5] [_, _, _] rfl ?_
    refine Wk.seq ?_
    refine Wk.seq ?_
    refine Wk.region ?_
    refine Ll.op rfl rfl rfl (OpQ.fieldAddr rfl Tryz.runUnderlying24 rfl Tryz.sizeOf3 rfl rfl) ?_
    refine Ll.op rfl rfl rfl (OpQ.loadOwn 1 rfl Tryz.isAgg3 rfl rfl rfl) ?_
    refine Ll.run 1 rfl ?_
    refine Ll.callGet (σ := Nat × Nat × Array Value × List RR) (ok := fun (g, c', u, rr) => RowsOk rr u c' ∧ rr.map RR.xs = listsL (a.n).toNat (W).toNat) (v := fun (g, c', u, rr) => .slice (some ⟨g, 0, none⟩) rr.length c') (xs := [.tmp 21, .tmp 22]) (vs := [i6_ a.n, i6_ W]) (hs' := fun (g, c', u, rr) => [(p19, mapO ([])), bk_ p2 #[i6_ a.n, str a.set, str a.rel] 24] ++ ((g, .cells u 28 (0, 0)) :: (rowsB 3 rr ++ []))) rfl rfl rfl rfl Tryz.call29 rfl (fun w1 hw1 => (listsOf_ok _ _ _ a.n W w1 (by omega) hm8 h0 h3 hw1).mono fun en w' ⟨g, c', u, rr, h1, h2, h3⟩ => ⟨(g, c', u, rr), h1, h2, h3.perm (rows_behind _ _ _)⟩) fun ⟨gL, cL, uL, rrL⟩ ⟨hL, hLX⟩ => ?_
    show Ll _ _ (Own _ _ (_ :: _ :: _ :: ((rowsB 3 rrL ++ [])))) _ _ ((23, sl_ gL rrL.length cL) :: _) _ _ _
    refine Ll.op rfl rfl rfl (OpQ.lenS rfl Tryz.runUnderlying48 rfl) ?_
    refine Ll.run 1 rfl ?_
    refine Ll.nil ?_
    refine Kt.sel [2, 5, 23, 24, 25] [_, _, _, _, _] rfl ?_
    refine Wk.block ?_
    refine Wk.loop (σ := Nat) (fun k => k ≤ rrL.length) (fun k => [(2, pt_ p2), (5, .map (some p19)), (23, sl_ gL rrL.length cL), (24, i6_ ((rrL.length : Int))), (25, i6_ ((k : Int)))]) (fun k => Own w.heap.size w ((p19, mapO ((dedup ((kindsL a W.toNat).take k)))) :: bk_ p2 #[i6_ a.n, str a.set, str a.rel] 24 :: bk_ gL uL 28 :: ((rowsB 3 rrL ++ [])))) (fun k => rrL.length - k) (0) (by omega) (Sub.sel [2, 5, 23, 24, 25] rfl) (fun _ h => h) ?_
    rintro k hk
    refine Wk.seq ?_
    refine Wk.regionQ ?_
    refine Lq.run 1 rfl ?_
    refine Lq.nil ?_
    refine Kt.sel [2, 5, 23, 24, 25, 26] [_, _, _, _, _, _] rfl ?_
    refine Wk.seq ?_
    refine Wk.cond (b := decide (((k : Int)) < ((rrL.length : Int)))) rfl (fun h26 => ?_) (fun h26 => ?_)
    ·
     replace h26 := of_decide_eq_true h26
     have hkr : k < rrL.length := by omega
     have hrl : rrL.length = a.n.toNat ^ W.toNat := by rw [← listsL_length a.n.toNat W.toNat, ← hLX, List.length_map]
     have hkp : k < a.n.toNat ^ W.toNat := by omega
     have hkl : k < (kindsL a W.toNat).length := by rw [kindsL_length]; exact hkp
     have hxp := rows_point (by omega) hLX hkr
     have hA : a.Els (rrL.getD k rd).xs := by rw [hxp]; exact point_els ha _ _
     have hl4 : (rrL.getD k rd).xs.length ≤ 4 := by rw [hxp, pointL_length]; omega
     refine Wk.skip ?_
     refine Kt.sel [2, 5, 23, 24, 25] [_, _, _, _, _] rfl ?_
     refine Wk.seq ?_
     refine Wk.block ?_
     refine Wk.seq ?_
     refine Wk.regionQ ?_
     refine Lq.op (v := pf_ gL k) rfl rfl rfl (OpQ.cast (v' := pf_ gL k) (by simp) (OpQ.indexAddr1 (i := (k : Int)) rfl Tryz.runUnderlying48 Tryz.sizeOf28 rfl rfl (by omega) (by omega))) ?_
     refine Lq.op (v := rv (rrL.getD k rd)) rfl rfl rfl (OpQ.loadAt (v := rv (rrL.getD k rd)) 2 rfl Tryz.isAgg28 rfl rfl (by have := rvs_at (rr := rrL) (i := k) (by omega); rw [← hL.vals, List.getElem?_take, if_pos (by omega)] at this; simpa using this)) ?_
     refine Lq.run 1 rfl ?_
     refine Lq.nil ?_
     refine Kt.sel [2, 5, 7, 23, 24, 25] [_, _, _, _, _, _] rfl ?_
     refine Wk.region ?_
     refine Ll.run 1 rfl ?_
     refine Ll.op rfl rfl rfl (OpQ.loadBox (cs := #[i6_ a.n, str a.set, str a.rel]) 1 rfl Tryz.isAgg24 rfl rfl Tryz.sizeOf24) ?_
     refine Ll.run 1 rfl ?_
     refine Ll.op (v := str ((kindsL a W.toNat).getD k [])) rfl rfl rfl (OpQ.cast (by rw [kinds_at ha hkp, ← hxp]) (OpQ.call rfl Tryz.call30 rfl Own.stable (fun w1 hw1 => atomsOf_ok a (rv (rrL.getD k rd)) ((rrL.getD k rd).xs) w1 ha (Own.ofRows (Own.drop (f := [(p19, mapO ((dedup ((kindsL a W.toNat).take k)))), bk_ p2 #[i6_ a.n, str a.set, str a.rel] 24, bk_ gL uL 28]) hw1) hL.ok (i := k) (by omega)) hA hl4))) ?_
     refine Ll.mapSet 0 rfl rfl rfl Tryz.underlying55 Tryz.underlying9 rfl rfl rfl rfl ?_
     show Ll _ _ (Own _ _ (_ :: _ :: _ :: ((rowsB 3 rrL ++ [])))) _ _ _ _ _ _
     refine Ll.nil ?_
     refine Kt.sel [2, 5, 23, 24, 25] [_, _, _, _, _] rfl ?_
     refine Wk.regionQ ?_
     refine Lq.op rfl rfl rfl (OpQ.add rfl rfl rfl (by omega) (by omega)) ?_
     refine Lq.run 1 rfl ?_
     refine Lq.nil ?_
     refine Kt.again (k + 1) (by omega) (by omega) (Sub.sel [2, 5, 23, 24, 25] rfl) (fun _ h => by rw [dedup_step hkl]; exact h)
    ·
     replace h26 := of_decide_eq_false h26
     have hrl : rrL.length = a.n.toNat ^ W.toNat := by rw [← listsL_length a.n.toNat W.toNat, ← hLX, List.length_map]
     refine Wk.exit rfl ?_
     refine Kt.sel [5] [_] rfl ?_
     refine Wk.seq ?_
     refine Wk.regionQ ?_
     refine Lq.run 1 rfl ?_
     refine Lq.op (v := i6_ ((((dedup ((kindsL a W.toNat).take k))).length : Int))) rfl rfl rfl (OpQ.lenMap 0 rfl Tryz.underlying55 rfl rfl) ?_
     refine Lq.run 1 rfl ?_
     refine Lq.nil ?_
     refine Kt.sel [4] [_] rfl ?_
     refine Wk.ret (Kt.end1 rfl rfl fun w' hw => ?_)
     exact ⟨ret_i (by unfold kindsI; first | (rw [if_neg (by unfold inB; first | (simp_all; done) | (simp_all; omega))]; done) | (rw [if_pos (by unfold inB; simp [hV, h0, h3]), List.take_of_length_le (by rw [kindsL_length]; omega)])), hw.below⟩
  ·
   replace hg15 := of_decide_eq_true hg15
   refine Lq.pass rfl rfl rfl ?_
   refine Lq.pass rfl rfl rfl ?_
   refine Lq.run 1 rfl ?_
   refine Lq.nil ?_
   refine Kt.sel [1, 2, 18] [_, _, _] rfl ?_
   refine Wk.condT rfl ?_
   refine Wk.seq ?_
   refine Wk.regionQ ?_
   refine Lq.run 1 rfl ?_
   refine Lq.nil ?_
   refine Kt.sel [4] [_] rfl ?_
   refine Wk.ret (Kt.end1 rfl rfl fun w' hw => ?_)
   exact ⟨ret_i (by unfold kindsI; first | (rw [if_neg (by unfold inB; first | (simp_all; done) | (simp_all; omega))]; done) | (rw [if_pos (by unfold inB; simp [hV, h0, h3]), List.take_of_length_le (by rw [kindsL_length]; omega)])), hw.below⟩
 ·
  replace hg11 := not_true hg11
  refine Lq.pass rfl rfl rfl ?_
  refine Lq.pass rfl rfl rfl ?_
  refine Lq.run 2 rfl ?_
  refine Lq.pass rfl rfl rfl ?_
  refine Lq.pass rfl rfl rfl ?_
  refine Lq.run 1 rfl ?_
  refine Lq.nil ?_
  refine Kt.sel [1, 2, 18] [_, _, _] rfl ?_
  refine Wk.condT rfl ?_
  refine Wk.seq ?_
  refine Wk.regionQ ?_
  refine Lq.run 1 rfl ?_
  refine Lq.nil ?_
  refine Kt.sel [4] [_] rfl ?_
  refine Wk.ret (Kt.end1 rfl rfl fun w' hw => ?_)
  exact ⟨ret_i (by unfold kindsI; first | (rw [if_neg (by unfold inB; first | (simp_all; done) | (simp_all; omega))]; done) | (rw [if_pos (by unfold inB; simp [hV, h0, h3]), List.take_of_length_le (by rw [kindsL_length]; omega)])), hw.below⟩
end Go.Proofs.YtjcoijejhachhaaGreatDoor
namespace Go.Proofs.YtjcoijejhachhaaGreatDoor
open Go.RowKit Go.Wk
set_option linter.unusedSimpArgs false
set_option maxHeartbeats 400000 in
/-- spec.l5Atoms -/
theorem l5Atoms_ok (a : St) (va : Value) (xs : List Int) (w : World) (ha : a.Fine) (hva : Ints w va xs) (hA : a.Els xs) (hl7 : xs.length ≤ 7) :
    Calls Tryz.prog 87 [vS a, va].toArray w fun en w' => en = .returned (str (atomBits a xs)) ∧ Below w.heap.size w w' := by
 refine fnStart (n := 65) (e := [(0, vS a), (1, va)]) Tryz.func87 rfl rfl rfl rfl Ends.both ?_
 refine Wk.seq ?_
 refine Wk.region ?_
 refine Ll.box (v := vS a) rfl rfl rfl rfl rfl fun p2 hp2 => ?_
 show Ll _ _ (Own _ _ [_]) _ _ ((2, pt_ p2) :: _) _ _ _
 refine Ll.op (v := str ([])) rfl rfl rfl (OpQ.assign rfl rfl) ?_
 refine Ll.nil ?_
 refine Kt.sel [1, 2] [_, _] rfl ?_
 refine Wk.seq ?_
 refine Wk.regionQ ?_
 refine Lq.op (v := str ([])) rfl rfl rfl (OpQ.assign rfl rfl) ?_
 refine Lq.nil ?_
 refine Kt.sel [1, 2, 5] [_, _, _] rfl ?_
 refine Wk.seq ?_
 refine Wk.seq ?_
 refine Wk.regionQ ?_
 refine Lq.run 1 rfl ?_
 refine Lq.nil ?_
 refine Kt.sel [1, 2, 5, 6] [_, _, _, _] rfl ?_
 refine Wk.block ?_
 refine Wk.loop (σ := Nat) (fun k => k ≤ xs.length) (fun k => [(1, va), (2, pt_ p2), (5, str (bitsTo a xs k)), (6, i6_ ((k : Int)))]) (fun k => Own w.heap.size w [bk_ p2 #[i6_ a.n, str a.set, str a.rel] 24]) (fun k => xs.length - k) (0) (by omega) (Sub.cons rfl (Sub.cons rfl (Sub.cons rfl (Sub.sel [6] rfl)))) (fun _ h => h) ?_
 rintro k hk
 refine Wk.seq ?_
 refine Wk.seq ?_
 refine Wk.regionQ ?_
 refine Lq.run 2 rfl ?_
 refine Lq.op (v := i6_ ((xs.length : Int))) rfl rfl rfl (OpQ.lenRow rfl Tryz.runUnderlying28 rfl (ints_length _) (fun w1 hw1 => Row.own hva hw1)) ?_
 refine Lq.run 1 rfl ?_
 refine Lq.nil ?_
 refine Kt.sel [1, 2, 5, 6, 11] [_, _, _, _, _] rfl ?_
 refine Wk.cond (b := decide (((k : Int)) < ((xs.length : Int)))) rfl (fun h11 => ?_) (fun h11 => ?_)
 ·
  replace h11 := of_decide_eq_true h11
  have hb := bits_small (a := a) (xs := xs) (i := k) (by omega)
  refine Wk.skip ?_
  refine Kt.sel [1, 2, 5, 6] [_, _, _, _] rfl ?_
  refine Wk.seq ?_
  refine Wk.block ?_
  refine Wk.seq ?_
  refine Wk.regionD Base.mixed (fun _ h => h.drawn) (by kernel_rfl) ?_
  refine Lq.run 1 rfl ?_
  refine Lq.op rfl rfl rfl (OpQ.loadBox (cs := #[i6_ a.n, str a.set, str a.rel]) 0 rfl Tryz.isAgg24 rfl rfl Tryz.sizeOf24) ?_
  refine Lq.run 2 rfl ?_
  refine Lq.op (v := .pointer (some (sAt va ((k : Int))))) rfl rfl rfl (OpQ.atRow rfl Tryz.runUnderlying28 Tryz.sizeOf3 rfl rfl (by omega) (by rw [ints_length]; omega) (fun w1 hw1 => Row.own hva hw1)) ?_
  refine Lq.op (v := i6_ (xs.getD (((k : Int)).toNat) 0)) rfl rfl rfl (OpQ.load1 rfl Tryz.isAgg3 rfl (fun w1 hw1 => Ints.cell (Row.own hva hw1) (by omega) (by omega))) ?_
  refine Lq.op (v := bo_ (a.inSet (xs.getD (((k : Int)).toNat) 0))) rfl rfl rfl (OpQ.call rfl Tryz.call55 rfl Own.stable (fun w1 hw1 => l1Set_ok a (xs.getD (((k : Int)).toNat) 0) w1 ha (by first | assumption | exact St.Els.at (by assumption) (by omega) (by omega)))) ?_
  refine Lq.op (v := str ((if a.inSet (xs.getD (((k : Int)).toNat) 0) then [49] else [48]))) rfl rfl rfl (OpQ.call rfl Tryz.call54 rfl Own.stable (fun w1 hw1 => bitD_ok (a.inSet (xs.getD (((k : Int)).toNat) 0)) w1 )) ?_
  refine Lq.op rfl rfl rfl (OpQ.sadd rfl rfl rfl (by simp only [List.length_append, pairBits_length, bit_len, bitS_length, List.length_cons, List.length_nil]; omega)) ?_
  refine Lq.run 1 rfl ?_
  refine Lq.nil ?_
  refine Kt.sel [1, 2, 5, 6] [_, _, _, _] rfl ?_
  refine Wk.seq ?_
  refine Wk.regionQ ?_
  refine Lq.run 1 rfl ?_
  refine Lq.nil ?_
  refine Kt.sel [1, 2, 5, 6, 7] [_, _, _, _, _] rfl ?_
  refine Wk.block ?_
  refine Wk.loop (σ := Nat) (fun j => j ≤ k + 1) (fun j => [(1, va), (2, pt_ p2), (5, str ((bitsTo a xs k ++ bitS (a.inSet (xs.getD k 0))) ++ pairBits a xs k j)), (6, i6_ ((k : Int))), (7, i6_ ((j : Int)))]) (fun j => Own w.heap.size w [bk_ p2 #[i6_ a.n, str a.set, str a.rel] 24]) (fun j => k + 1 - j) (0) (by omega) (Sub.cons rfl (Sub.cons rfl (Sub.cons (by simp [pairBits, List.lookup]; rfl) (Sub.sel [6, 7] rfl)))) (fun _ h => h) ?_
  rintro j hj
  refine Wk.seq ?_
  refine Wk.seq ?_
  refine Wk.regionQ ?_
  refine Lq.run 3 rfl ?_
  refine Lq.nil ?_
  refine Kt.sel [1, 2, 5, 6, 7, 25] [_, _, _, _, _, _] rfl ?_
  refine Wk.cond (b := decide (((j : Int)) ≤ ((k : Int)))) rfl (fun h25 => ?_) (fun h25 => ?_)
  ·
   replace h25 := of_decide_eq_true h25
   refine Wk.skip ?_
   refine Kt.sel [1, 2, 5, 6, 7] [_, _, _, _, _] rfl ?_
   refine Wk.seq ?_
   refine Wk.block ?_
   refine Wk.regionD Base.mixed (fun _ h => h.drawn) (by kernel_rfl) ?_
   refine Lq.run 3 rfl ?_
   refine Lq.op (v := .pointer (some (sAt va ((k : Int))))) rfl rfl rfl (OpQ.atRow rfl Tryz.runUnderlying28 Tryz.sizeOf3 rfl rfl (by omega) (by rw [ints_length]; omega) (fun w1 hw1 => Row.own hva hw1)) ?_
   refine Lq.op (v := i6_ (xs.getD (((k : Int)).toNat) 0)) rfl rfl rfl (OpQ.load1 rfl Tryz.isAgg3 rfl (fun w1 hw1 => Ints.cell (Row.own hva hw1) (by omega) (by omega))) ?_
   refine Lq.run 2 rfl ?_
   refine Lq.op (v := .pointer (some (sAt va ((j : Int))))) rfl rfl rfl (OpQ.atRow rfl Tryz.runUnderlying28 Tryz.sizeOf3 rfl rfl (by omega) (by rw [ints_length]; omega) (fun w1 hw1 => Row.own hva hw1)) ?_
   refine Lq.op (v := i6_ (xs.getD (((j : Int)).toNat) 0)) rfl rfl rfl (OpQ.load1 rfl Tryz.isAgg3 rfl (fun w1 hw1 => Ints.cell (Row.own hva hw1) (by omega) (by omega))) ?_
   refine Lq.run 1 rfl ?_
   refine Lq.op (v := str ((if decide ((xs.getD (((k : Int)).toNat) 0) = (xs.getD (((j : Int)).toNat) 0)) then [49] else [48]))) rfl rfl rfl (OpQ.call rfl Tryz.call54 rfl Own.stable (fun w1 hw1 => bitD_ok (decide ((xs.getD (((k : Int)).toNat) 0) = (xs.getD (((j : Int)).toNat) 0))) w1 )) ?_
   refine Lq.op rfl rfl rfl (OpQ.sadd rfl rfl rfl (by simp only [List.length_append, pairBits_length, bit_len, bitS_length, List.length_cons, List.length_nil]; omega)) ?_
   refine Lq.op rfl rfl rfl (OpQ.loadBox (cs := #[i6_ a.n, str a.set, str a.rel]) 0 rfl Tryz.isAgg24 rfl rfl Tryz.sizeOf24) ?_
   refine Lq.run 2 rfl ?_
   refine Lq.op (v := .pointer (some (sAt va ((k : Int))))) rfl rfl rfl (OpQ.atRow rfl Tryz.runUnderlying28 Tryz.sizeOf3 rfl rfl (by omega) (by rw [ints_length]; omega) (fun w1 hw1 => Row.own hva hw1)) ?_
   refine Lq.op (v := i6_ (xs.getD (((k : Int)).toNat) 0)) rfl rfl rfl (OpQ.load1 rfl Tryz.isAgg3 rfl (fun w1 hw1 => Ints.cell (Row.own hva hw1) (by omega) (by omega))) ?_
   refine Lq.run 2 rfl ?_
   refine Lq.op (v := .pointer (some (sAt va ((j : Int))))) rfl rfl rfl (OpQ.atRow rfl Tryz.runUnderlying28 Tryz.sizeOf3 rfl rfl (by omega) (by rw [ints_length]; omega) (fun w1 hw1 => Row.own hva hw1)) ?_
   refine Lq.op (v := i6_ (xs.getD (((j : Int)).toNat) 0)) rfl rfl rfl (OpQ.load1 rfl Tryz.isAgg3 rfl (fun w1 hw1 => Ints.cell (Row.own hva hw1) (by omega) (by omega))) ?_
   refine Lq.op (v := bo_ (a.inRel (xs.getD (((k : Int)).toNat) 0) (xs.getD (((j : Int)).toNat) 0))) rfl rfl rfl (OpQ.call rfl Tryz.call56 rfl Own.stable (fun w1 hw1 => l1Rel_ok a (xs.getD (((k : Int)).toNat) 0) (xs.getD (((j : Int)).toNat) 0) w1 ha (by first | assumption | exact St.Els.at (by assumption) (by omega) (by omega)) (by first | assumption | exact St.Els.at (by assumption) (by omega) (by omega)))) ?_
   refine Lq.op (v := str ((if a.inRel (xs.getD (((k : Int)).toNat) 0) (xs.getD (((j : Int)).toNat) 0) then [49] else [48]))) rfl rfl rfl (OpQ.call rfl Tryz.call54 rfl Own.stable (fun w1 hw1 => bitD_ok (a.inRel (xs.getD (((k : Int)).toNat) 0) (xs.getD (((j : Int)).toNat) 0)) w1 )) ?_
   refine Lq.op rfl rfl rfl (OpQ.sadd rfl rfl rfl (by simp only [List.length_append, pairBits_length, bit_len, bitS_length, List.length_cons, List.length_nil]; omega)) ?_
   refine Lq.op rfl rfl rfl (OpQ.loadBox (cs := #[i6_ a.n, str a.set, str a.rel]) 0 rfl Tryz.isAgg24 rfl rfl Tryz.sizeOf24) ?_
   refine Lq.run 2 rfl ?_
   refine Lq.op (v := .pointer (some (sAt va ((j : Int))))) rfl rfl rfl (OpQ.atRow rfl Tryz.runUnderlying28 Tryz.sizeOf3 rfl rfl (by omega) (by rw [ints_length]; omega) (fun w1 hw1 => Row.own hva hw1)) ?_
   refine Lq.op (v := i6_ (xs.getD (((j : Int)).toNat) 0)) rfl rfl rfl (OpQ.load1 rfl Tryz.isAgg3 rfl (fun w1 hw1 => Ints.cell (Row.own hva hw1) (by omega) (by omega))) ?_
   refine Lq.run 2 rfl ?_
   refine Lq.op (v := .pointer (some (sAt va ((k : Int))))) rfl rfl rfl (OpQ.atRow rfl Tryz.runUnderlying28 Tryz.sizeOf3 rfl rfl (by omega) (by rw [ints_length]; omega) (fun w1 hw1 => Row.own hva hw1)) ?_
   refine Lq.op (v := i6_ (xs.getD (((k : Int)).toNat) 0)) rfl rfl rfl (OpQ.load1 rfl Tryz.isAgg3 rfl (fun w1 hw1 => Ints.cell (Row.own hva hw1) (by omega) (by omega))) ?_
   refine Lq.op (v := bo_ (a.inRel (xs.getD (((j : Int)).toNat) 0) (xs.getD (((k : Int)).toNat) 0))) rfl rfl rfl (OpQ.call rfl Tryz.call56 rfl Own.stable (fun w1 hw1 => l1Rel_ok a (xs.getD (((j : Int)).toNat) 0) (xs.getD (((k : Int)).toNat) 0) w1 ha (by first | assumption | exact St.Els.at (by assumption) (by omega) (by omega)) (by first | assumption | exact St.Els.at (by assumption) (by omega) (by omega)))) ?_
   refine Lq.op (v := str ((if a.inRel (xs.getD (((j : Int)).toNat) 0) (xs.getD (((k : Int)).toNat) 0) then [49] else [48]))) rfl rfl rfl (OpQ.call rfl Tryz.call54 rfl Own.stable (fun w1 hw1 => bitD_ok (a.inRel (xs.getD (((j : Int)).toNat) 0) (xs.getD (((k : Int)).toNat) 0)) w1 )) ?_
   refine Lq.op rfl rfl rfl (OpQ.sadd rfl rfl rfl (by simp only [List.length_append, pairBits_length, bit_len, bitS_length, List.length_cons, List.length_nil]; omega)) ?_
   refine Lq.run 1 rfl ?_
   refine Lq.nil ?_
   refine Kt.sel [1, 2, 5, 6, 7] [_, _, _, _, _] rfl ?_
   refine Wk.regionQ ?_
   refine Lq.run 1 rfl ?_
   refine Lq.op rfl rfl rfl (OpQ.add rfl rfl rfl (by omega) (by omega)) ?_
   refine Lq.run 1 rfl ?_
   refine Lq.nil ?_
   refine Kt.again (j + 1) (by omega) (by omega) (Sub.cons rfl (Sub.cons rfl (Sub.cons (by rw [pair_step]; rfl) (Sub.sel [6, 7] rfl)))) (fun _ h => h)
  ·
   replace h25 := of_decide_eq_false h25
   refine Wk.exit rfl ?_
   refine Kt.sel [1, 2, 5, 6] [_, _, _, _] rfl ?_
   refine Wk.regionQ ?_
   refine Lq.run 1 rfl ?_
   refine Lq.op rfl rfl rfl (OpQ.add rfl rfl rfl (by omega) (by omega)) ?_
   refine Lq.run 1 rfl ?_
   refine Lq.nil ?_
   refine Kt.again (k + 1) (by omega) (by omega) (Sub.cons rfl (Sub.cons rfl (Sub.cons (by rw [show j = k + 1 from by omega]; rfl) (Sub.sel [6] rfl)))) (fun _ h => h)
 ·
  replace h11 := of_decide_eq_false h11
  refine Wk.exit rfl ?_
  refine Kt.sel [5] [_] rfl ?_
  refine Wk.seq ?_
  refine Wk.regionQ ?_
  refine Lq.run 2 rfl ?_
  refine Lq.nil ?_
  refine Kt.sel [4] [_] rfl ?_
  refine Wk.ret (Kt.end1 rfl rfl fun w' hw => ?_)
  exact ⟨ret_s (by rw [show k = xs.length from by omega]; rfl), hw.below⟩
end Go.Proofs.YtjcoijejhachhaaGreatDoor
