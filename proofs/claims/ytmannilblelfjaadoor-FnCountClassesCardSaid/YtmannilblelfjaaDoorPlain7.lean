/-
  THE FACTS OF A LIST OF ELEMENTS, as texts: their names, their signs, the atoms. No program in sight.
-/
import Derived.Test.YtmannilblelfjaaDoorPlain6
import Derived.Laws.Slices
import Derived.Laws.Strings2
namespace Go.Wk
open Go.RowKit

def nameS (i : Nat) : List UInt8 := (([97, 98, 99, 100] : List UInt8).drop i).take 1
def moreL (a : St) (xs : List Int) (i : Nat) : Nat → List (List UInt8 × Bool)
  | 0 => []
  | k + 1 => moreL a xs i k ++ [([61] ++ nameS k ++ nameS i, decide (xs.getD k 0 = xs.getD i 0)), ([69] ++ nameS k ++ nameS i, a.inRel (xs.getD k 0) (xs.getD i 0)), ([69] ++ nameS i ++ nameS k, a.inRel (xs.getD i 0) (xs.getD k 0))]
def headL (a : St) (xs : List Int) (i : Nat) : List (List UInt8 × Bool) := [([80] ++ nameS i, a.inSet (xs.getD i 0)), ([69] ++ nameS i ++ nameS i, a.inRel (xs.getD i 0) (xs.getD i 0))]
def factL (a : St) (xs : List Int) (i : Nat) : List (List UInt8 × Bool) := headL a xs i ++ moreL a xs i i
def factsL (a : St) (xs : List Int) : Nat → List (List UInt8 × Bool)
  | 0 => []
  | i + 1 => factsL a xs i ++ factL a xs i
def signS (b : Bool) (f : List UInt8) : List UInt8 := if b then f else [33] ++ f
def signed (f : List UInt8 × Bool) : List UInt8 := signS f.2 f.1
def bitS (b : Bool) : List UInt8 := if b then [49] else [48]
def atomsT (l : List (List UInt8 × Bool)) : List UInt8 := l.flatMap fun f => bitS f.2
@[simp] theorem moreL_length (a : St) (xs : List Int) (i : Nat) : ∀ k, (moreL a xs i k).length = 3 * k
  | 0 => rfl
  | k + 1 => by simp [moreL, moreL_length a xs i k]; omega
@[simp] theorem headL_length (a : St) (xs : List Int) (i : Nat) : (headL a xs i).length = 2 := rfl
@[simp] theorem factL_length (a : St) (xs : List Int) (i : Nat) : (factL a xs i).length = 2 + 3 * i := by simp [factL, headL]; omega
theorem factsL_length (a : St) (xs : List Int) : ∀ i, i ≤ 4 → (factsL a xs i).length ≤ 26
  | 0, _ => by simp [factsL]
  | 1, _ => by simp [factsL]
  | 2, _ => by simp [factsL]
  | 3, _ => by simp [factsL]
  | 4, _ => by simp [factsL]
  | i + 5, h => by omega
theorem atomsT_append (x y : List (List UInt8 × Bool)) : atomsT (x ++ y) = atomsT x ++ atomsT y := by simp [atomsT]
@[simp] theorem atomsT_length (l : List (List UInt8 × Bool)) : (atomsT l).length = l.length := by
  induction l with
  | nil => rfl
  | cons f l ih =>
    unfold atomsT at *
    rw [List.flatMap_cons, List.length_append, ih, List.length_cons]
    unfold bitS
    split <;> simp <;> omega
theorem nameS_length {i : Nat} (h : i < 4) : (nameS i).length = 1 := by
  match i, h with
  | 0, _ => rfl
  | 1, _ => rfl
  | 2, _ => rfl
  | 3, _ => rfl
/-- a fact is a text that does not begin with a sign -/
def Plainly (f : List UInt8 × Bool) : Prop := ∃ c t, f.1 = c :: t ∧ c ≠ 33
theorem plainly_head {a : St} {xs : List Int} {i : Nat} : ∀ f ∈ headL a xs i, Plainly f := by
  intro f hf
  simp only [headL, List.mem_cons, List.not_mem_nil, or_false] at hf
  rcases hf with rfl | rfl
  · exact ⟨80, _, rfl, by decide⟩
  · exact ⟨69, _, rfl, by decide⟩
theorem plainly_more {a : St} {xs : List Int} {i : Nat} : ∀ k, ∀ f ∈ moreL a xs i k, Plainly f
  | 0 => by simp [moreL]
  | k + 1 => by
    intro f hf
    simp only [moreL, List.mem_append, List.mem_cons, List.not_mem_nil, or_false] at hf
    rcases hf with hf | rfl | rfl | rfl
    · exact plainly_more k f hf
    · exact ⟨61, _, rfl, by decide⟩
    · exact ⟨69, _, rfl, by decide⟩
    · exact ⟨69, _, rfl, by decide⟩
theorem plainly_fact {a : St} {xs : List Int} {i : Nat} : ∀ f ∈ factL a xs i, Plainly f := by
  intro f hf
  rcases List.mem_append.1 hf with h | h
  · exact plainly_head f h
  · exact plainly_more i f h
theorem signed_head {f : List UInt8 × Bool} (h : Plainly f) : 1 ≤ (signed f).length ∧ (decide (((signed f).getD 0 0).toNat = 33) = !f.2) := by
  obtain ⟨c, t, h1, h2⟩ := h
  obtain ⟨s, b⟩ := f
  simp only at h1
  subst h1
  cases b
  · simp [signed, signS]
  · simp only [signed, signS, if_true, List.length_cons, List.getD_cons_zero, Bool.not_true, decide_eq_false_iff_not]
    exact ⟨by omega, fun h => h2 (UInt8.toNat_inj.1 (by simpa using h))⟩
theorem pick_at {hs : List (Nat × Obj)} : ∀ (f : List Nat) (hs' : List (Nat × Obj)), f.mapM (fun j => hs[j]?) = some hs' → ∀ (i : Nat) (x : Nat × Obj), hs'[i]? = some x → ∃ j, f[i]? = some j ∧ hs[j]? = some x
  | [], hs', h, i, x, hi => by simp at h; subst h; simp at hi
  | j :: f, hs', h, i, x, hi => by
    simp only [List.mapM_cons, Option.bind_eq_bind, Option.bind_eq_some_iff, Option.pure_def, Option.some.injEq] at h
    obtain ⟨y, hy, r, hr, rfl⟩ := h
    cases i with
    | zero => simp at hi; subst hi; exact ⟨j, rfl, hy⟩
    | succ i => obtain ⟨k, h1, h2⟩ := pick_at f r hr i x (by simpa using hi); exact ⟨k, by simpa using h1, h2⟩
theorem Own.pick {B : Nat} {w0 w : World} {hs hs' : List (Nat × Obj)} (h : Own B w0 hs w) (f : List Nat) (hf : f.mapM (fun j => hs[j]?) = some hs') (hn : f.Nodup) : Own B w0 hs' w := by
  refine ⟨h.below, h.base, fun i p o hi => ?_, fun i j p o q u hi hj hij => ?_⟩
  · obtain ⟨k, _, hk⟩ := pick_at f hs' hf i _ hi
    exact h.has k p o hk
  · obtain ⟨k, h1, hk⟩ := pick_at f hs' hf i _ hi
    obtain ⟨m, h2, hm⟩ := pick_at f hs' hf j _ hj
    refine h.apart k m p o q u hk hm fun e => hij ?_
    subst e
    obtain ⟨l1, e1⟩ := List.getElem?_eq_some_iff.1 h1
    obtain ⟨l2, e2⟩ := List.getElem?_eq_some_iff.1 h2
    rcases Nat.lt_trichotomy i j with hlt | heq | hlt
    · exact absurd (e1.trans e2.symm) (List.pairwise_iff_getElem.1 hn i j l1 l2 hlt)
    · exact heq
    · exact absurd (e2.trans e1.symm) (List.pairwise_iff_getElem.1 hn j i l2 l1 hlt)
theorem Wk.regionS {P : Program} {n id : Nat} {S C : World → Prop} {N R : Act → World → Prop} {X : List (Nat × (Act → World → Prop))} {e : Env} {ops : Array Oper} (L : List (Nat × Bool)) (hm : P.follows .mixedOrders = true) (hd : ∀ w, C w → C { w with drawn := w.drawn + 1 }) (hB : orderOk ops L = true) (h : Ld P n S C ops L e N R X) :
    Wk P n C (.region id ops true) N R X e := by
  unfold Wk
  unfold Ld at h
  intro a w hf hc
  refine wp_region_order (S := S) hm hB (fun c a w h => h) (h a _ hf (hd w hc))
section
variable {P : Program} {n : Nat} {C : World → Prop} {e : Env} {o : Oper}
theorem OpQ.sliceStr {t : TypeId} {x y z : Operand} {l : List UInt8} {i j : Int} (h : o.op = .slice t x (some y) (some z) none) (hu : P.underlying t = some .string) (hx : opd e x = some (str l)) (hy : opd e y = some (.int .i64 i)) (hz : opd e z = some (.int .i64 j))
    (h0 : 0 ≤ i) (h1 : i ≤ j) (h2 : j ≤ l.length) : OpQ P n C e o (str ((l.drop i.toNat).take (j.toNat - i.toNat))) := OpQ.val fun a hf w => by
  unfold execOp; rw [h]; simp only [hf.opd hx, hf.opd hy, hf.opd hz, Option.map_some, Option.map_none]
  have h3 : j ≤ ((⟨⟨l⟩⟩ : ByteArray).size : Int) := h2
  have h4 : ((⟨⟨l⟩⟩ : ByteArray).extract i.toNat j.toNat) = ⟨⟨(l.drop i.toNat).take (j.toNat - i.toNat)⟩⟩ := by
    apply ByteArray.ext
    apply Array.ext'
    rw [ByteArray.data_extract, Array.toList_extract]
  simp only [Sem.run_bind, Result.andThen, run_sliceAt_string _ _ _ _ _ _ hu, str, run_slice_string w t ⟨⟨l⟩⟩ .i64 .i64 i j hu h0 h1 h3, Sem.run_pure, h4]
end
theorem bit_len (b : Bool) : (if b = true then ([49] : List UInt8) else [48]).length = 1 := by cases b <;> rfl
theorem slice_name (i : Nat) : (([97, 98, 99, 100] : List UInt8).drop ((i : Int)).toNat).take (((i : Int) + 1).toNat - ((i : Int)).toNat) = nameS i := by
  unfold nameS; congr 1; omega
theorem more_take {a : St} {xs : List Int} {i n : Nat} (h : i < n) : ∀ k, k ≤ i → moreL a (xs.take n) i k = moreL a xs i k
  | 0, _ => rfl
  | k + 1, hk => by rw [moreL, moreL, more_take h k (by omega), take_getD (by omega), take_getD h]
theorem fact_take {a : St} {xs : List Int} {i n : Nat} (h : i < n) : factL a (xs.take n) i = factL a xs i := by
  unfold factL headL
  rw [more_take h i (Nat.le_refl _), take_getD h]
theorem more_step (a : St) (xs : List Int) (m k : Nat) : (headL a xs m ++ moreL a xs m (k + 1)).map signed = (headL a xs m ++ moreL a xs m k).map signed ++
    [signS (decide (xs.getD k 0 = xs.getD m 0)) ([61] ++ nameS k ++ nameS m), signS (a.inRel (xs.getD k 0) (xs.getD m 0)) ([69] ++ nameS k ++ nameS m), signS (a.inRel (xs.getD m 0) (xs.getD k 0)) ([69] ++ nameS m ++ nameS k)] := by
  rw [moreL, ← List.append_assoc, List.map_append]
  rfl
theorem map_getD {α β : Type} (f : α → β) (d : α) (d' : β) {l : List α} {j : Nat} (h : j < l.length) : (l.map f).getD j d' = f (l.getD j d) := by
  simp [List.getD_eq_getElem?_getD, h]
theorem getD_at {α : Type} {l : List α} {j : Nat} {d : α} (hj : j < l.length) : l.getD j d = l[j] := by rw [List.getD_eq_getElem?_getD, List.getElem?_eq_getElem hj]; rfl
theorem atoms_step {l : List (List UInt8 × Bool)} {j : Nat} (hj : j < l.length) (hp : ∀ f ∈ l, Plainly f) : atomsT (l.take (j + 1)) = atomsT (l.take j) ++ (if !decide (((((l.map signed).getD j []).getD 0 0).toNat : Int) = 33) then [49] else [48]) := by
  rw [List.take_succ_eq_append_getElem hj, atomsT_append]
  congr 1
  have h1 := (signed_head (hp _ (List.getElem_mem hj))).2
  rw [map_getD signed ([], false) [] hj, getD_at hj]
  have h2 : decide (((((signed l[j]).getD 0 0).toNat : Nat) : Int) = 33) = !l[j].2 := by
    rw [← h1]; congr 1; exact propext (by omega)
  rw [h2, Bool.not_not]
  simp [atomsT, bitS]
theorem sign_len {l : List (List UInt8 × Bool)} {j : Nat} (hj : j < l.length) (hp : ∀ f ∈ l, Plainly f) : 0 < ((l.map signed).getD j []).length := by
  rw [map_getD signed ([], false) [] hj, getD_at hj]
  exact (signed_head (hp _ (List.getElem_mem hj))).1
theorem facts_done {a : St} {xs : List Int} {k j : Nat} (h : (factL a xs k).length ≤ j) : atomsT (factsL a xs (k + 1)) = atomsT (factsL a xs k) ++ atomsT ((factL a xs k).take j) := by
  rw [factsL, atomsT_append, List.take_of_length_le h]
def atomsOut (a : St) (xs : List Int) : List UInt8 := if listB a xs then atomsT (factsL a xs xs.length) else []
theorem atomsOut_no {a : St} {xs : List Int} (h : listB a xs = false) : atomsOut a xs = [] := by unfold atomsOut; rw [h]; rfl
theorem atomsOut_yes {a : St} {xs : List Int} (h : listB a xs = true) : atomsOut a xs = atomsT (factsL a xs xs.length) := by unfold atomsOut; rw [h]; rfl
end Go.Wk
