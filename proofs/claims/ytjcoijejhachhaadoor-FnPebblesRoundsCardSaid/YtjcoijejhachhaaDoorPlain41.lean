/-
  PEBBLE GAMES: the list of levels, its end. No program in sight.
-/
import Derived.Test.YtjcoijejhachhaaDoorCore4
import Derived.Test.YtjcoijejhachhaaDoorPlain31
import Derived.Test.YtjcoijejhachhaaDoorPlain40
namespace Go.Wk
open Go.RowKit
/-- levels of numbers: so many, the kinds grow up to some level -/
structure Levs (k M : Nat) (a b : St) (A B : List (List Int)) (m g : Nat) : Prop where
  la : A.length = m + 1
  lb : B.length = m + 1
  lev : ∃ Ks : Nat → Nat, (∀ i : Nat, i ≤ m → Ks i ≤ 1458 ∧ LevP i k a b (A.getD i []) (B.getD i []) (Ks i)) ∧ (4 < M → ∀ i : Nat, i < g → Ks i < Ks (i + 1))
theorem levs_zero {k M K : Nat} {a b : St} {Ra Rb : List Int} (h : LevP 0 k a b Ra Rb K) (hK : K ≤ 1458) : Levs k M a b [Ra] [Rb] 0 0 :=
  ⟨rfl, rfl, fun _ => K, fun i hi => by obtain rfl : i = 0 := by omega
                                        exact ⟨hK, h⟩, fun _ i hi => absurd hi (by omega)⟩
theorem getA1 {α : Type} {l : List α} {x d : α} {i : Nat} (h : i < l.length) : (l ++ [x]).getD i d = l.getD i d := by
  rw [List.getD_eq_getElem?_getD, List.getElem?_append_left h, ← List.getD_eq_getElem?_getD]
theorem getA2 {α : Type} {l : List α} {x d : α} {i : Nat} (h : i = l.length) : (l ++ [x]).getD i d = x := by
  rw [List.getD_eq_getElem?_getD, List.getElem?_append_right (by omega), h, Nat.sub_self]; rfl
theorem levs_more {k M n K : Nat} {a b : St} {A B : List (List Int)} {Ra Rb : List Int} (h : Levs k M a b A B n n) (h' : LevP (n + 1) k a b Ra Rb K) (hK : K ≤ 1458) : Levs k M a b (A ++ [Ra]) (B ++ [Rb]) (n + 1) n := by
  obtain ⟨hA, hB, Ks, h1, h2⟩ := h
  refine ⟨by rw [List.length_append, hA]; rfl, by rw [List.length_append, hB]; rfl, fun i => if i = n + 1 then K else Ks i, fun i hi => ?_, fun hM i hi => ?_⟩
  · by_cases e : i = n + 1
    · subst e
      rw [getA2 (by omega), getA2 (by omega)]
      simp only [if_pos]
      exact ⟨hK, h'⟩
    · rw [getA1 (by omega), getA1 (by omega)]
      simp only [if_neg e]
      exact h1 i (by omega)
  · have e1 : ¬ i = n + 1 := by omega
    have e2 : ¬ i + 1 = n + 1 := by omega
    simp only [if_neg e1, if_neg e2]
    exact h2 hM i hi
theorem Levs.at {k M m g : Nat} {a b : St} {A B : List (List Int)} (h : Levs k M a b A B m g) {i : Nat} (hi : i ≤ m) : ∃ K, K ≤ 1458 ∧ LevP i k a b (A.getD i []) (B.getD i []) K := by
  obtain ⟨_, _, Ks, h1, _⟩ := h
  exact ⟨Ks i, h1 i hi⟩
theorem levs_go {k M n : Nat} {a b : St} {A B : List (List Int)} (h : Levs k M a b A B (n + 1) n) (hd : 4 < M → ¬ kindsP (A.getD n [] ++ B.getD n []) = kindsP (A.getD (n + 1) [] ++ B.getD (n + 1) [])) : Levs k M a b A B (n + 1) (n + 1) := by
  obtain ⟨hA, hB, Ks, h1, h2⟩ := h
  refine ⟨hA, hB, Ks, h1, fun hM i hi => ?_⟩
  rcases Nat.lt_or_ge i n with h3 | h3
  · exact h2 hM i h3
  · obtain rfl : i = n := by omega
    have l1 := (h1 i (by omega)).2
    have l2 := (h1 (i + 1) (by omega)).2
    have h4 := hd hM
    rw [kinds_lev l1, kinds_lev l2] at h4
    have := lev_le l1 l2
    omega
theorem levs_stop {k M n g : Nat} {a b : St} {A B : List (List Int)} (h : Levs k M a b A B (n + 1) g) (hd : kindsP (A.getD n [] ++ B.getD n []) = kindsP (A.getD (n + 1) [] ++ B.getD (n + 1) [])) : Still n k a b := by
  obtain ⟨hA, hB, Ks, h1, h2⟩ := h
  have l1 := (h1 n (by omega)).2
  have l2 := (h1 (n + 1) (by omega)).2
  rw [kinds_lev l1, kinds_lev l2] at hd
  have e : Ks n = Ks (n + 1) := by omega
  rw [← e] at l2
  exact still_of l1 l2
/-- how the levels end -/
def LevEnds (k M : Nat) (a b : St) (m : Nat) : Prop := m = M ∨ 4 < M ∧ 1 ≤ m ∧ Still (m - 1) k a b
theorem levs_grown {k M m g : Nat} {a b : St} {A B : List (List Int)} (h : Levs k M a b A B m g) (hM : 4 < M) (hg : g ≤ m) : g ≤ 1458 := by
  obtain ⟨_, _, Ks, h1, h2⟩ := h
  have key : ∀ i : Nat, i ≤ g → i ≤ Ks i := fun i => by
    induction i with
    | zero => intro _; exact Nat.zero_le _
    | succ i ih =>
      intro hi
      have := h2 hM i (by omega)
      have := ih (by omega)
      omega
  have h3 := (h1 g hg).1
  have := key g (Nat.le_refl _)
  omega
open Classical in
/-- who wins so many turns, or forever -/
noncomputable def pWinB (M : Nat) (a : St) (xs : List Int) (b : St) (ys : List Int) : Bool := if M ≤ 4 then decide (pW M a xs b ys) else decide (pF a xs b ys)
theorem levs_end {k M m : Nat} {a b : St} {A B : List (List Int)} (h : Levs k M a b A B m (m - 1)) (he : LevEnds k M a b m) (hM : M ≤ 4 ∨ M = 2000) {xs ys : List Int} (hx : Peb a.n.toNat k xs) (hy : Peb b.n.toNat k ys) :
    decide (numP a.n.toNat (A.getD m []) xs = numP b.n.toNat (B.getD m []) ys) = pWinB M a xs b ys := by
  obtain ⟨K, hK, hl⟩ := h.at (Nat.le_refl m)
  have hg := hl.good.ab xs ys hx hy
  unfold pWinB
  by_cases h4 : M ≤ 4
  · rw [if_pos h4]
    rcases he with e | ⟨h5, _⟩
    · subst e
      exact decide_eq_decide.2 hg
    · omega
  · rw [if_neg h4]
    refine decide_eq_decide.2 (hg.trans ?_)
    rcases he with e | ⟨_, h6, h7⟩
    · have := levs_grown h (by omega) (by omega)
      omega
    · have hs := h7.next
      rw [Nat.sub_add_cancel h6] at hs
      exact hs.forever hx hy
theorem rows_more2 {B : Nat} {w0 w : World} {I : TypeId} {rr ss : List RR} {x y : RR} {f hs : List (Nat × Obj)} (h : Own B w0 (f ++ ((x.g, .cells x.cur I (0, 0)) :: (y.g, .cells y.cur I (0, 0)) :: (rowsB I rr ++ (rowsB I ss ++ hs)))) w) : Own B w0 (f ++ (rowsB I (rr ++ [x]) ++ (rowsB I (ss ++ [y]) ++ hs))) w := by
  refine h.perm (List.Perm.append_left f ?_)
  unfold rowsB
  rw [List.map_append, List.map_append, List.append_assoc, List.append_assoc]
  refine List.Perm.trans ?_ (perm_back [(x.g, Obj.cells x.cur I (0, 0))] (rr.map (fun r => (r.g, Obj.cells r.cur I (0, 0)))) _)
  refine List.Perm.cons _ ?_
  have h1 := perm_back [(y.g, Obj.cells y.cur I (0, 0))] (rr.map (fun r => (r.g, Obj.cells r.cur I (0, 0)))) (ss.map (fun r => (r.g, Obj.cells r.cur I (0, 0))) ++ hs)
  refine h1.trans (List.Perm.append_left _ ?_)
  exact perm_back [(y.g, Obj.cells y.cur I (0, 0))] (ss.map (fun r => (r.g, Obj.cells r.cur I (0, 0)))) hs
theorem RR.ofInts {R : List Int} (g n : Nat) (h : R.length = n) : RR.Ok ⟨g, n, (ints R).toArray, R⟩ := by
  refine ⟨by rw [Nat.mul_one]; show (ints R).length = n; rw [ints_length, h], by show R.length ≤ n; omega, ?_⟩
  show (ints R).take R.length = ints R
  exact List.take_of_length_le (by rw [ints_length]; exact Nat.le_refl _)
end Go.Wk
namespace Go.Wk
open Go.RowKit
theorem xs_at {rr : List RR} {i : Nat} : (rr.map RR.xs).getD i [] = (rr.getD i rd).xs := by
  rw [List.getD_eq_getElem?_getD, List.getElem?_map, List.getD_eq_getElem?_getD]
  cases rr[i]? <;> rfl
theorem RowsOk.addI {rr : List RR} {u u' : Array Value} {c c' g n : Nat} {R : List Int} (h : RowsOk rr u c) (hR : R.length = n) (hs : u'.size = c' * 1) (hl : rr.length + 1 ≤ c') (hv : u'.toList.take ((rr.length + 1) * 1) = u.toList.take (rr.length * 1) ++ [.slice (some ⟨g, 0, none⟩) n n]) : RowsOk (rr ++ [⟨g, n, (ints R).toArray, R⟩]) u' c' :=
  h.add (RR.ofInts g n hR) hs hl (by rw [hv]; subst hR; rfl)
theorem RowsOk.oneI {R : List Int} {g n : Nat} (hR : R.length = n) : RowsOk [⟨g, n, (ints R).toArray, R⟩] #[.slice (some ⟨g, 0, none⟩) n n] 1 :=
  ⟨rfl, Nat.le_refl 1, by subst hR; rfl, fun r hr => by rw [List.mem_singleton.1 hr]; exact RR.ofInts g n hR⟩
theorem RowsOk.cell {rr : List RR} {u : Array Value} {c i : Nat} (h : RowsOk rr u c) (hi : i < rr.length) : u.toList[i]? = some (rv (rr.getD i rd)) := by
  have := rvs_at hi
  rw [← h.vals, List.getElem?_take, if_pos hi] at this
  exact this
theorem RowsOk.old {rr : List RR} {x : RR} {u : Array Value} {c i : Nat} (h : RowsOk (rr ++ [x]) u c) (hi : i < rr.length) : u.toList[i]? = some (rv (rr.getD i rd)) := by
  have := h.cell (i := i) (by rw [List.length_append]; omega)
  rwa [getA1 hi] at this
theorem RowsOk.newI {rr : List RR} {g n : Nat} {R : List Int} {u : Array Value} {c i : Nat} (h : RowsOk (rr ++ [⟨g, n, (ints R).toArray, R⟩]) u c) (hR : R.length = n) (hi : i = rr.length) : u.toList[i]? = some (.slice (some ⟨g, 0, none⟩) n n) := by
  have := h.cell (i := i) (by rw [List.length_append]; show i < rr.length + 1; omega)
  rw [getA2 hi] at this
  rw [this]; subst hR; rfl
end Go.Wk
namespace Go.Wk
open Go.RowKit
theorem Levs.less {k M m g g' : Nat} {a b : St} {A B : List (List Int)} (h : Levs k M a b A B m g) (hg : g' ≤ g) : Levs k M a b A B m g' := by
  obtain ⟨hA, hB, Ks, h1, h2⟩ := h
  exact ⟨hA, hB, Ks, h1, fun hM i hi => h2 hM i (by omega)⟩
end Go.Wk
namespace Go.Wk
open Go.RowKit
theorem LevP.sm {n k K : Nat} {a b : St} {Ra Rb : List Int} (h : LevP n k a b Ra Rb K) (hK : K ≤ 1000000) : ∀ i : Nat, i < (Ra ++ Rb).length → 0 ≤ (Ra ++ Rb).getD i 0 ∧ (Ra ++ Rb).getD i 0 < 1000000 := fun i hi => by
  rw [List.getD_eq_getElem?_getD]
  rcases Nat.lt_or_ge i Ra.length with h1 | h1
  · rw [List.getElem?_append_left h1, ← List.getD_eq_getElem?_getD]; exact h.ma hK i
  · rw [List.getElem?_append_right h1, ← List.getD_eq_getElem?_getD]; exact h.mb hK _
end Go.Wk
namespace Go.Wk
open Go.RowKit
theorem ready_peb {a b : St} {xs ys : List Int} (h : readyB a xs b ys = true) : validB a = true ∧ validB b = true ∧ 1 ≤ xs.length ∧ xs.length ≤ 3 ∧ xs.length = ys.length ∧ Peb a.n.toNat xs.length xs ∧ Peb b.n.toNat xs.length ys := by
  obtain ⟨Pa, Pb, hl, _⟩ := readyB_true h
  unfold readyB at h
  simp only [Bool.and_eq_true, decide_eq_true_eq] at h
  have ea := peb_el h.1.1.1
  have eb := peb_el h.1.1.2
  have la := Pa.fine.lo
  have lb := Pb.fine.lo
  refine ⟨Pa.valid, Pb.valid, Pa.lo, Pa.hi, hl, ⟨rfl, fun x hx => ?_⟩, ⟨hl.symm, fun x hx => ?_⟩⟩
  · have := ea x hx; have := Pa.top x hx; omega
  · have := eb x hx; have := Pb.top x hx; omega
theorem rows_behind2 (f : List (Nat × Obj)) (x y : Nat × Obj) (r s : List (Nat × Obj)) : (x :: y :: (r ++ (s ++ f))).Perm (f ++ (x :: y :: (r ++ (s ++ [])))) := by
  have := List.perm_append_comm (l₁ := x :: y :: (r ++ s)) (l₂ := f)
  rw [List.append_nil]
  rw [← List.append_assoc]
  exact this
noncomputable def pebWinB (a : St) (xs : List Int) (b : St) (ys : List Int) (t : Int) : Bool := readyB a xs b ys && inB t 0 4 && pWinB t.toNat a xs b ys
noncomputable def pebEverB (a : St) (xs : List Int) (b : St) (ys : List Int) : Bool := readyB a xs b ys && pWinB 2000 a xs b ys
end Go.Wk
