/-
  PEBBLES: when they are ready, the atoms of elements as bits, and that equal bits say: in the same way. No program in sight.
-/
import Derived.Test.YtjcoijejhachhaaDoorCore1
import Derived.Lib.SliceRun
import Derived.Laws.IdiomStrings
import Derived.Laws.Tables
import Derived.Great.BuildSlice
import Derived.IntWalk
namespace Go.Wk
open Go.RowKit

/-- the bits of the pairs of element i with the first k -/
def pairBits (a : St) (xs : List Int) (i : Nat) : Nat → List UInt8
  | 0 => []
  | k + 1 => ((pairBits a xs i k ++ bitS (decide (xs.getD i 0 = xs.getD k 0))) ++ bitS (a.inRel (xs.getD i 0) (xs.getD k 0))) ++ bitS (a.inRel (xs.getD k 0) (xs.getD i 0))
def bitsTo (a : St) (xs : List Int) : Nat → List UInt8
  | 0 => []
  | i + 1 => (bitsTo a xs i ++ bitS (a.inSet (xs.getD i 0))) ++ pairBits a xs i (i + 1)
def atomBits (a : St) (xs : List Int) : List UInt8 := bitsTo a xs xs.length
@[simp] theorem bitS_length (b : Bool) : (bitS b).length = 1 := by cases b <;> rfl
theorem bitS_inj {b c : Bool} : bitS b = bitS c ↔ b = c := by cases b <;> cases c <;> simp [bitS]
@[simp] theorem pairBits_length (a : St) (xs : List Int) (i : Nat) : ∀ k, (pairBits a xs i k).length = 3 * k
  | 0 => rfl
  | k + 1 => by simp [pairBits, pairBits_length a xs i k]; omega
theorem bitsTo_length (a : St) (xs : List Int) (b : St) (ys : List Int) : ∀ i, (bitsTo a xs i).length = (bitsTo b ys i).length
  | 0 => rfl
  | i + 1 => by simp [bitsTo, bitsTo_length a xs b ys i]
theorem bitsTo_le (a : St) (xs : List Int) : ∀ i, (bitsTo a xs i).length ≤ i * (3 * i + 4)
  | 0 => by simp [bitsTo]
  | i + 1 => by
    have h := bitsTo_le a xs i
    have h2 : i * (3 * i + 4) ≤ i * (3 * (i + 1) + 4) := Nat.mul_le_mul_left _ (by omega)
    simp only [bitsTo, List.length_append, bitS_length, pairBits_length, Nat.add_mul i 1, Nat.one_mul]
    omega
theorem pairBits_eq {a b : St} {xs ys : List Int} {i : Nat} : ∀ k, pairBits a xs i k = pairBits b ys i k ↔ ∀ j : Nat, j < k → pairOk a b (xs.getD i 0) (ys.getD i 0) (xs.getD j 0) (ys.getD j 0) = true
  | 0 => by simp [pairBits]
  | k + 1 => by
    have ih := pairBits_eq (a := a) (b := b) (xs := xs) (ys := ys) (i := i) k
    constructor
    · intro h j hj
      simp only [pairBits] at h
      obtain ⟨h1, h2⟩ := List.append_inj h (by simp)
      obtain ⟨h3, h4⟩ := List.append_inj h1 (by simp)
      obtain ⟨h5, h6⟩ := List.append_inj h3 (by simp)
      rcases Nat.lt_or_ge j k with hjk | hjk
      · exact ih.1 h5 j hjk
      · obtain rfl : j = k := by omega
        refine pairOk_true.2 ⟨?_, bitS_inj.1 h2, bitS_inj.1 h4⟩
        have := bitS_inj.1 h6
        rw [decide_eq_decide] at this ⊢
        exact ⟨fun e => (this.1 e.symm).symm, fun e => (this.2 e.symm).symm⟩
    · intro h
      obtain ⟨e1, e2, e3⟩ := pairOk_true.1 (h k (by omega))
      have e4 : decide (xs.getD i 0 = xs.getD k 0) = decide (ys.getD i 0 = ys.getD k 0) := by
        rw [decide_eq_decide] at e1 ⊢
        exact ⟨fun e => (e1.1 e.symm).symm, fun e => (e1.2 e.symm).symm⟩
      simp only [pairBits]
      rw [ih.2 (fun j hj => h j (by omega)), e2, e3, e4]
theorem bitsTo_eq {a b : St} {xs ys : List Int} (hl : xs.length = ys.length) : ∀ i, i ≤ xs.length → (bitsTo a xs i = bitsTo b ys i ↔ ∀ j : Nat, j < i → stillAt a xs b ys j = true)
  | 0, _ => by simp [bitsTo]
  | i + 1, hi => by
    have ih := bitsTo_eq (a := a) (b := b) hl i (by omega)
    have hf : stillAt a xs b ys i = true ↔ a.inSet (xs.getD i 0) = b.inSet (ys.getD i 0) ∧ ∀ k : Nat, k ≤ i → pairOk a b (xs.getD i 0) (ys.getD i 0) (xs.getD k 0) (ys.getD k 0) = true := by
      have h1 := fits_true (a := a) (b := b) (xs := xs.take (i + 1)) (ys := ys.take (i + 1)) (m := i) (by simp; omega) (by simp; omega)
      rw [stillAt_take (by omega), take_getD (by omega), take_getD (by omega)] at h1
      rw [h1]
      refine and_congr_right fun _ => ⟨fun h k hk => ?_, fun h k hk => ?_⟩
      · have := h k hk; rwa [take_getD (by omega), take_getD (by omega)] at this
      · rw [take_getD (by omega), take_getD (by omega)]; exact h k hk
    constructor
    · intro h j hj
      simp only [bitsTo] at h
      obtain ⟨h1, h2⟩ := List.append_inj h (by simp [bitsTo_length a xs b ys i])
      obtain ⟨h3, h4⟩ := List.append_inj h1 (bitsTo_length a xs b ys i)
      rcases Nat.lt_or_ge j i with hji | hji
      · exact ih.1 h3 j hji
      · obtain rfl : j = i := by omega
        exact hf.2 ⟨bitS_inj.1 h4, fun k hk => (pairBits_eq (j + 1)).1 h2 k (by omega)⟩
    · intro h
      obtain ⟨e1, e2⟩ := hf.1 (h i (by omega))
      simp only [bitsTo]
      rw [ih.2 (fun j hj => h j (by omega)), e1, (pairBits_eq (a := a) (b := b) (xs := xs) (ys := ys) (i := i) (i + 1)).2 (fun k hk => e2 k (by omega))]
/-- EQUAL BITS: IN THE SAME WAY. -/
theorem atomBits_same {a b : St} {xs ys : List Int} (hl : xs.length = ys.length) : (atomBits a xs == atomBits b ys) = sameB a xs b ys := by
  rw [Bool.eq_iff_iff, beq_iff_eq]
  unfold atomBits
  rw [← hl, bitsTo_eq hl _ (Nat.le_refl _)]
  unfold sameB
  rw [List.all_eq_true]
  exact ⟨fun h i hi => h i (List.mem_range.1 hi), fun h i hi => h i (List.mem_range.2 hi)⟩
/-! ### pebbles -/
def pebB (a : St) (xs : List Int) : Bool := validB a && inB xs.length 1 3 && xs.all fun x => inB x (-1) (a.n - 1)
def signsB (xs ys : List Int) : Bool := (List.range xs.length).all fun i => decide (xs.getD i 0 < 0) == decide (ys.getD i 0 < 0)
def readyB (a : St) (xs : List Int) (b : St) (ys : List Int) : Bool := pebB a xs && pebB b ys && decide ((xs.length : Int) = ys.length) && signsB xs ys
def signT (xs : List Int) : Nat → List UInt8
  | 0 => []
  | i + 1 => signT xs i ++ (if xs.getD i 0 < 0 then [45] else [43])
def placed (xs : List Int) : Nat → List Int
  | 0 => []
  | i + 1 => if xs.getD i 0 < 0 then placed xs i else placed xs i ++ [xs.getD i 0]
@[simp] theorem placed_zero (xs : List Int) : placed xs 0 = [] := rfl
theorem signsB_true {xs ys : List Int} (h : signsB xs ys = true) : ∀ i : Nat, i < xs.length → (xs.getD i 0 < 0 ↔ ys.getD i 0 < 0) := fun i hi => by
  have := List.all_eq_true.1 h i (List.mem_range.2 hi)
  simpa using this
theorem signT_eq {xs ys : List Int} : ∀ n, (∀ i : Nat, i < n → (xs.getD i 0 < 0 ↔ ys.getD i 0 < 0)) → signT xs n = signT ys n
  | 0, _ => rfl
  | n + 1, h => by
    rw [signT, signT, signT_eq n (fun i hi => h i (by omega))]
    congr 1
    simp only [h n (by omega)]
theorem placed_len {xs ys : List Int} : ∀ n, (∀ i : Nat, i < n → (xs.getD i 0 < 0 ↔ ys.getD i 0 < 0)) → (placed xs n).length = (placed ys n).length
  | 0, _ => rfl
  | n + 1, h => by
    have ih := placed_len n (fun i hi => h i (by omega))
    have := h n (by omega)
    rw [placed, placed]
    split <;> split <;> first | omega | (simp [ih]; done) | (exact ih) | skip
    all_goals (exfalso; omega)
theorem placed_le (xs : List Int) : ∀ n, (placed xs n).length ≤ n
  | 0 => by simp [placed]
  | n + 1 => by
    have := placed_le xs n
    rw [placed]; split
    · omega
    · simp; omega
theorem placed_mem {xs : List Int} : ∀ n, n ≤ xs.length → ∀ x ∈ placed xs n, x ∈ xs ∧ 0 ≤ x
  | 0, _ => by simp [placed]
  | n + 1, h => by
    intro x hx
    rw [placed] at hx
    split at hx
    · exact placed_mem n (by omega) x hx
    · rcases List.mem_append.1 hx with h1 | h1
      · exact placed_mem n (by omega) x h1
      · rename_i hneg
        rw [List.mem_singleton.1 h1, getD_at (by omega)]
        rw [getD_at (by omega)] at hneg
        exact ⟨List.getElem_mem _, by omega⟩
theorem bits_small {a : St} {xs : List Int} {i : Nat} (h : i ≤ 7) : (bitsTo a xs i).length ≤ 175 :=
  Nat.le_trans (bitsTo_le a xs i) (Nat.mul_le_mul h (show 3 * i + 4 ≤ 25 by omega))
theorem pair_step (a : St) (xs : List Int) (i k : Nat) (B : List UInt8) : B ++ pairBits a xs i (k + 1) =
    (((B ++ pairBits a xs i k) ++ bitS (decide (xs.getD i 0 = xs.getD k 0))) ++ bitS (a.inRel (xs.getD i 0) (xs.getD k 0))) ++ bitS (a.inRel (xs.getD k 0) (xs.getD i 0)) := by
  simp [pairBits, List.append_assoc]
theorem peb_no {a : St} {xs : List Int} {i : Nat} (hi : i < xs.length) (h : inB (xs.getD i 0) (-1) (pred64 a.n) = false) : pebB a xs = false := by
  unfold pebB
  cases hv : validB a with
  | false => rfl
  | true =>
    have hf := validB_fine hv
    have : pred64 a.n = a.n - 1 := by unfold pred64; rw [if_neg (by have := hf.lo; omega)]
    rw [this] at h
    rw [all_not (q := fun x => inB x (-1) (a.n - 1)) hi h]; simp
theorem peb_yes {a : St} {xs : List Int} (h : ∀ i : Nat, i < xs.length → inB (xs.getD i 0) (-1) (pred64 a.n) = true) : pebB a xs = (validB a && inB xs.length 1 3) := by
  unfold pebB
  cases hv : validB a with
  | false => rfl
  | true =>
    have hf := validB_fine hv
    have : pred64 a.n = a.n - 1 := by unfold pred64; rw [if_neg (by have := hf.lo; omega)]
    rw [this] at h
    rw [all_some (q := fun x => inB x (-1) (a.n - 1)) h]; simp
theorem signs_yes {xs ys : List Int} {k : Nat} (hk : xs.length ≤ k) (h : ∀ i : Nat, i < k → (decide (xs.getD i 0 < 0) == decide (ys.getD i 0 < 0)) = true) : signsB xs ys = true := by
  unfold signsB
  rw [List.all_eq_true]
  intro i hi
  exact h i (by have := List.mem_range.1 hi; omega)
theorem signs_no {xs ys : List Int} {k : Nat} (hk : k < xs.length) (h : (decide (xs.getD k 0 < 0) == decide (ys.getD k 0 < 0)) = false) : signsB xs ys = false := by
  unfold signsB
  rw [List.all_eq_false]
  exact ⟨k, List.mem_range.2 hk, by simp only [h]; exact Bool.false_ne_true⟩
theorem beq_of_bne {x y : Bool} (h : (x != y) = false) : (x == y) = true := by simpa using h
theorem beq_of_bneT {x y : Bool} (h : (x != y) = true) : (x == y) = false := by simpa using h
theorem signT_neg {xs : List Int} {k : Nat} (h : xs.getD k 0 < 0) : signT xs (k + 1) = signT xs k ++ [45] := by rw [signT, if_pos h]
theorem signT_pos {xs : List Int} {k : Nat} (h : ¬ xs.getD k 0 < 0) : signT xs (k + 1) = signT xs k ++ [43] := by rw [signT, if_neg h]
theorem placed_neg {xs : List Int} {k : Nat} (h : xs.getD k 0 < 0) : placed xs (k + 1) = placed xs k := by rw [placed, if_pos h]
theorem placed_pos {xs : List Int} {k : Nat} (h : ¬ xs.getD k 0 < 0) : placed xs (k + 1) = placed xs k ++ [xs.getD k 0] := by rw [placed, if_neg h]
@[simp] theorem signT_length (xs : List Int) : ∀ n, (signT xs n).length = n
  | 0 => rfl
  | n + 1 => by rw [signT, List.length_append, signT_length xs n]; split <;> rfl
theorem placed_els {a : St} {xs : List Int} {n : Nat} (hn : n ≤ xs.length) (h : ∀ x ∈ xs, x < a.n) : a.Els (placed xs n) := fun x hx => by
  obtain ⟨h1, h2⟩ := placed_mem n hn x hx
  exact ⟨h2, h x h1⟩
structure Pebbles (a : St) (xs : List Int) : Prop where
  valid : validB a = true
  fine : a.Fine
  top : ∀ x ∈ xs, x < a.n
  lo : 1 ≤ xs.length
  hi : xs.length ≤ 3
theorem pebB_true {a : St} {xs : List Int} (h : pebB a xs = true) : Pebbles a xs := by
  unfold pebB inB at h
  simp only [Bool.and_eq_true, decide_eq_true_eq] at h
  refine ⟨h.1.1, validB_fine h.1.1, fun x hx => ?_, by omega, by omega⟩
  have := List.all_eq_true.1 h.2 x hx
  simp only [Bool.and_eq_true, decide_eq_true_eq] at this
  omega
theorem readyB_true {a b : St} {xs ys : List Int} (h : readyB a xs b ys = true) : Pebbles a xs ∧ Pebbles b ys ∧ xs.length = ys.length ∧ signsB xs ys = true := by
  unfold readyB at h
  simp only [Bool.and_eq_true, decide_eq_true_eq] at h
  exact ⟨pebB_true h.1.1.1, pebB_true h.1.1.2, by have := h.1.2; omega, h.2⟩
def fitB (a : St) (xs : List Int) (b : St) (ys : List Int) : Bool := readyB a xs b ys && sameB a (placed xs xs.length) b (placed ys ys.length)
/-- equal atoms of pebbles that are ready: those that lie are in the same way -/
theorem pebAtoms_same {a b : St} {xs ys : List Int} (h : readyB a xs b ys = true) :
    ((signT xs xs.length ++ atomBits a (placed xs xs.length)) == (signT ys ys.length ++ atomBits b (placed ys ys.length))) = sameB a (placed xs xs.length) b (placed ys ys.length) := by
  obtain ⟨_, _, hl, hs⟩ := readyB_true h
  have hsg := signsB_true hs
  have e1 : signT xs xs.length = signT ys ys.length := by rw [← hl]; exact signT_eq _ hsg
  have e2 : (placed xs xs.length).length = (placed ys ys.length).length := by rw [← hl]; exact placed_len _ hsg
  rw [← atomBits_same e2, e1, Bool.eq_iff_iff, beq_iff_eq, beq_iff_eq, List.append_right_inj]
theorem pel_neg {a : St} {x : Int} (h : x < -1) : true = !inB x (-1) (a.n - 1) := by
  unfold inB; rw [show decide (-1 ≤ x) = false from decide_eq_false (by omega)]; rfl
theorem pel_geq {a : St} {x : Int} (h : ¬ x < -1) : decide (a.n ≤ x) = !inB x (-1) (a.n - 1) := by
  unfold inB; rw [show decide (-1 ≤ x) = true from decide_eq_true (by omega), Bool.true_and, ← decide_not]
  congr 1; exact propext (by omega)
def pebL (a : St) (xs : List Int) : Bool := (decide (1 ≤ (xs.length : Int)) && decide ((xs.length : Int) ≤ 3)) && xs.all fun x => inB x (-1) (a.n - 1)
theorem pebB_eq (a : St) (xs : List Int) : pebB a xs = (validB a && pebL a xs) := by unfold pebB pebL inB; rw [Bool.and_assoc]
theorem not_any_pel (a : St) (xs : List Int) : (!(xs.any fun x => !inB x (-1) (a.n - 1))) = xs.all fun x => inB x (-1) (a.n - 1) := by rw [List.all_eq_not_any_not]
end Go.Wk
/-
  CLEARING THE TAIL of a row of the call's own; slices from a place on. No program in sight.
-/
namespace Go.Wk
open Go.RowKit

section
variable {P : Program} {n : Nat} {B : Nat} {w0 : World} {hs : List (Nat × Obj)} {N R : Act → World → Prop} {X : List (Nat × (Act → World → Prop))} {e : Env} {ops : Array Oper} {l : List Oper} {o : Oper} {C : World → Prop}
theorem Own.setCells {p : Nat} {T : TypeId} {fr : Nat × Nat} {i : Nat} : ∀ (zs : List Value) (off : Nat) (cs : Array Value) (hs : List (Nat × Obj)) (w : World), Own B w0 hs w → hs[i]? = some (p, .cells cs T fr) →
    ∃ cs' : Array Value, cs'.size = cs.size ∧ cs'.toList.take off = cs.toList.take off ∧ Own B w0 (hs.set i (p, .cells cs' T fr)) (w.setCells p off zs)
  | [], off, cs, hs, w, h, hi => by
    refine ⟨cs, rfl, rfl, ?_⟩
    have hlt : i < hs.length := by
      rcases Nat.lt_or_ge i hs.length with h1 | h1
      · exact h1
      · rw [List.getElem?_eq_none h1] at hi; cases hi
    have e1 : hs.set i (p, .cells cs T fr) = hs := by
      rw [List.getElem?_eq_getElem hlt] at hi
      injection hi with hi
      rw [← hi, List.set_getElem_self]
    rw [e1]; exact h
  | z :: zs, off, cs, hs, w, h, hi => by
    have hlt : i < hs.length := by
      rcases Nat.lt_or_ge i hs.length with h1 | h1
      · exact h1
      · rw [List.getElem?_eq_none h1] at hi; cases hi
    have h1 := h.set hi off z
    obtain ⟨cs', h2, h3, h4⟩ := Own.setCells zs (off + 1) (cs.setIfInBounds off z) _ _ h1 (by rw [List.getElem?_set_self hlt])
    refine ⟨cs', by rw [h2, Array.size_setIfInBounds], ?_, by rw [List.set_set] at h4; exact h4⟩
    have h5 := congrArg (List.take off) h3
    rw [List.take_take, List.take_take, Nat.min_eq_left (by omega), Array.toList_setIfInBounds, List.take_set_of_le (Nat.le_refl _)] at h5
    exact h5
theorem Ll.turnV {v : Value} (hdst : o.dst = none) (hg : wantE ops e o.guard = some true)
    (k : ∀ a w, Fits n a e → C w → ∃ w', (execOp a.eval o).run P w = .ok (.value v) w' ∧ (∀ a', Fits n a' e → wpList P ops (post N R X) l a' w')) : Ll P n C ops (o :: l) e N R X := by
  unfold Ll
  exact fun a w hf hc => wpList_step fun K hK => by
    rw [if_pos (wantE_spec hf hg)]
    obtain ⟨w', h1, h2⟩ := k a w hf hc
    unfold Oper.wp
    rw [h1]
    exact hK _ _ (by rw [hdst]; exact h2 _ hf)
/-- 'clear' of the tail of a row of the call's own -/
theorem Ll.clearTail {t el : TypeId} {x : Operand} {g off m c : Nat} {cur : Array Value} {z : Value} (i : Nat) (hdst : o.dst = none) (hg : wantE ops e o.guard = some true) (h : o.op = .call ⟨.builtin .clear, #[x], #[t]⟩)
    (ht : P.underlying t = some (.slice el)) (hv : ∀ w, (zeroValue el).run P w = .ok z w) (hz : z.cells = #[z]) (h1 : z.oneCell' = true) (hx : opd e x = some (.slice (some ⟨g, off, none⟩) m c)) (hi : hs[i]? = some (g, .cells cur el (0, 0))) (hm : 0 < m) (hb : off + m ≤ cur.size)
    (k : ∀ cur' : Array Value, cur'.size = cur.size → cur'.toList.take off = cur.toList.take off → Ll P n (Own B w0 (hs.set i (g, .cells cur' el (0, 0)))) ops l e N R X) : Ll P n (Own B w0 hs) ops (o :: l) e N R X :=
  Ll.turnV (v := .tuple #[]) hdst hg fun a w hF hw => by
    obtain ⟨cur', h2, h3, h4⟩ := Own.setCells (B := B) (w0 := w0) (List.replicate m z) off cur hs w hw hi
    refine ⟨w.setCells g off (List.replicate m z), ?_, fun a' ha => ?_⟩
    · unfold execOp; rw [h]
      simp only [resolve, invoke, BigFrame.builtin_clear, List.map_toArray, List.map_cons, List.map_nil, hF.opd hx, Sem.run_bind, Sem.run_pure, Result.andThen]
      rw [Lib.run_clear_slice w t el _ z ht hv hz h1 g off m c hm (fun j hj => by rw [hw.cell hi, Array.getElem?_eq_getElem (by omega)]; rfl) (fun j hj => ?_)]
      have hh := (hw.has i g _ hi).2
      simp [World.frozen?, hh]
    · have := k cur' h2 h3
      unfold Ll at this
      exact this a' _ ha h4
theorem OpQ.takeS {t el : TypeId} {x y : Operand} {g len cap : Nat} {i : Int} {k : IntKind} (h : o.op = .slice t x none (some y) none) {sz : Nat} (hu : ∀ w, (underlying t).run P w = .ok (.slice el) w) (hz : ∀ w, (sizeOf el).run P w = .ok sz w) (hx : opd e x = some (.slice (some ⟨g, 0, none⟩) len cap)) (hy : opd e y = some (.int k i))
    (h0 : 0 ≤ i) (h1 : i ≤ cap) : OpQ P n C e o (.slice (some ⟨g, 0, none⟩) i.toNat cap) := OpQ.val fun a hF w => by
  unfold execOp; rw [h]; simp only [hF.opd hx, Option.map_some, Option.map_none, hF.opd hy]
  have hi : 0 ≤ i ∧ i ≤ (cap : Int) := ⟨h0, h1⟩
  simp only [Instr.sliceAt, Instr.slice, Instr.sliceBounds, Instr.sliceBound, asIntOf, Sem.run_bind, Sem.run_pure, hu, hz, Result.andThen, if_pos hi]
  have : (if cap = 0 then some (⟨g, 0, none⟩ : Addr) else (some (⟨g, 0, none⟩ : Addr)).map (·.add (0 * sz))) = some ⟨g, 0, none⟩ := by
    split
    · rfl
    · simp [Addr.add]
  simp only [this, Nat.sub_zero]
/-- a slice of a row of the call's own, from a place on -/
theorem OpQ.dropS {t el : TypeId} {x y : Operand} {g len cap : Nat} {i : Int} {k : IntKind} (h : o.op = .slice t x (some y) none none) (hu : ∀ w, (underlying t).run P w = .ok (.slice el) w) (hz : ∀ w, (sizeOf el).run P w = .ok 1 w) (hx : opd e x = some (.slice (some ⟨g, 0, none⟩) len cap)) (hy : opd e y = some (.int k i))
    (h0 : 0 ≤ i) (h1 : i ≤ len) (h3 : i < cap) : OpQ P n C e o (.slice (some ⟨g, i.toNat, none⟩) (len - i.toNat) (cap - i.toNat)) := OpQ.val fun a hF w => by
  unfold execOp; rw [h]; simp only [hF.opd hx, Option.map_some, Option.map_none, hF.opd hy]
  have hi : 0 ≤ i ∧ i ≤ (len : Int) := ⟨h0, h1⟩
  simp only [Instr.sliceAt, Instr.slice, Instr.sliceBounds, Instr.sliceBound, asIntOf, Sem.run_bind, Sem.run_pure, hu, hz, Result.andThen, if_pos hi]
  rw [if_neg (by omega)]
  simp only [Option.map_some, Nat.mul_one]
  unfold Addr.add
  split
  · rename_i h4; rw [h4]
  · simp
end
theorem set_takeI {cur : Array Value} {n off : Nat} {xs : List Int} {x : Int} (ht : cur.toList.take n = ints xs) : (cur.setIfInBounds off (.int .i64 x)).toList.take n = ints (xs.set off x) := by
  rw [Array.toList_setIfInBounds, List.take_set, ht]
  simp [ints, List.map_set]
/-- what DeleteFunc holds when it has looked at the first j: those that stay, then whatever, then those not yet looked at -/
structure Swept (xs M : List Int) (j : Nat) : Prop where
  jl : j ≤ xs.length
  lt : (placed xs j).length < j
  len : M.length = xs.length
  head : M.take (placed xs j).length = placed xs j
  tail : M.drop j = xs.drop j
theorem Swept.at {xs M : List Int} {j : Nat} (h : Swept xs M j) : M.getD j 0 = xs.getD j 0 := by
  have h1 := congrArg (fun l : List Int => l.getD 0 0) h.tail
  simpa [List.getD_eq_getElem?_getD, List.getElem?_drop] using h1
theorem Swept.skip {xs M : List Int} {j : Nat} (h : Swept xs M j) (hj : j < xs.length) (hn : xs.getD j 0 < 0) : Swept xs M (j + 1) := by
  have e := placed_neg hn
  refine ⟨by omega, by rw [e]; have := h.lt; omega, h.len, by rw [e]; exact h.head, ?_⟩
  have := congrArg (List.drop 1) h.tail
  rwa [List.drop_drop, List.drop_drop] at this
theorem Swept.keep {xs M : List Int} {j : Nat} (h : Swept xs M j) (hj : j < xs.length) (hn : ¬ xs.getD j 0 < 0) : Swept xs (M.set (placed xs j).length (xs.getD j 0)) (j + 1) := by
  have e := placed_pos hn
  have hl := h.lt
  have hM := h.len
  refine ⟨by omega, by rw [e, List.length_append]; simp; omega, by rw [List.length_set]; exact h.len, ?_, ?_⟩
  · have hlt : (placed xs j).length < (M.set (placed xs j).length (xs.getD j 0)).length := by rw [List.length_set]; omega
    rw [e, List.length_append, List.length_singleton, List.take_succ_eq_append_getElem hlt, List.take_set_of_le (Nat.le_refl _), h.head, List.getElem_set_self]
  · rw [List.drop_set_of_lt (by omega)]
    have := congrArg (List.drop 1) h.tail
    rwa [List.drop_drop, List.drop_drop] at this
theorem placed_first {xs : List Int} : ∀ n, (∀ i : Nat, i < n → ¬ xs.getD i 0 < 0) → n ≤ xs.length → placed xs n = xs.take n
  | 0, _, _ => by simp [placed]
  | n + 1, h, hn => by
    rw [placed_pos (h n (by omega)), placed_first n (fun i hi => h i (by omega)) (by omega), List.take_succ_eq_append_getElem (by omega), getD_at (by omega)]
theorem swept_start {xs : List Int} {k : Nat} (hk : k < xs.length) (h : ∀ i : Nat, i < k → ¬ xs.getD i 0 < 0) (hn : xs.getD k 0 < 0) : Swept xs xs (k + 1) ∧ (placed xs (k + 1)).length = k := by
  have e := placed_first k h (by omega)
  have e2 := placed_neg hn
  have hl : (xs.take k).length = k := by rw [List.length_take]; omega
  exact ⟨⟨by omega, by rw [e2, e, hl]; omega, rfl, by rw [e2, e, hl], rfl⟩, by rw [e2, e, hl]⟩
theorem ints_at2 {c : List Int} {off : Nat} (h : off < c.length) : (ints c)[off]? = some (.int .i64 (c.getD off 0)) := by
  simp [ints, List.getD_eq_getElem?_getD, h]
def negB (x : Int) : Bool := decide (x < 0)
theorem idx_neg {xs : List Int} (h : ¬ idxI xs negB = -1) : ∃ k : Nat, idxI xs negB = k ∧ k < xs.length ∧ (∀ i : Nat, i < k → ¬ xs.getD i 0 < 0) ∧ xs.getD k 0 < 0 := by
  unfold idxI at h ⊢
  cases ha : xs.any negB with
  | false => rw [ha] at h; exact absurd rfl h
  | true =>
    have hlt : xs.findIdx negB < xs.length := List.findIdx_lt_length_of_exists (by simpa using ha)
    refine ⟨xs.findIdx negB, rfl, hlt, fun i hi => ?_, ?_⟩
    · have := List.not_of_lt_findIdx hi
      rw [getD_at (by omega)]
      simpa [negB] using this
    · have := List.findIdx_getElem (w := hlt)
      rw [getD_at hlt]
      simpa [negB] using this
theorem idx_none {xs : List Int} (h : idxI xs negB = -1) : placed xs xs.length = xs := by
  have hall : ∀ i : Nat, i < xs.length → ¬ xs.getD i 0 < 0 := fun i hi hn => by
    unfold idxI at h
    have : xs.any negB = true := List.any_eq_true.2 ⟨xs[i], List.getElem_mem hi, by rw [getD_at hi] at hn; simpa [negB] using hn⟩
    rw [this] at h
    simp only [if_true] at h
    omega
  rw [placed_first _ hall (Nat.le_refl _), List.take_length]
section
variable {P : Program} {n : Nat} {B : Nat} {w0 : World} {hs : List (Nat × Obj)} {N R : Act → World → Prop} {X : List (Nat × (Act → World → Prop))} {e : Env} {ops : Array Oper} {l : List Oper} {o : Oper}
theorem Ll.callTo {σ : Type} {ok : σ → Prop} {hs' : σ → List (Nat × Obj)} {d : Nat} {f : FuncId} {xs : List Operand} {ts : Array TypeId} {vs : List Value} {v : Value} (hd : Nat.blt d n = true) (hdst : o.dst = some d) (hg : wantE ops e o.guard = some true) (h : o.op = .call ⟨.value (.func f), xs.toArray, ts⟩)
    (hcf : ∀ args w, (callFunc f args).run P w = .ok (.enter f args) w) (hx : opds e xs = some vs)
    (hc : ∀ w, Own B w0 hs w → Calls P f vs.toArray w fun en w' => ∃ s, en = .returned v ∧ ok s ∧ Own B w0 (hs' s) w')
    (k : ∀ s, ok s → Ll P n (Own B w0 (hs' s)) ops l ((d, v) :: e) N R X) : Ll P n (Own B w0 hs) ops (o :: l) e N R X :=
  Ll.call hd hdst hg h hcf hx fun w hw => (hc w hw).mono fun en w' ⟨s, h1, h2, h3⟩ => ⟨v, h1, fun a' ha => by
    have := k s h2
    unfold Ll at this
    exact this a' w' ha h3⟩
theorem Ll.callFnRow {d f el size m : Nat} {c : Operand} {captured : Array Value} {xs : List Operand} {ts : Array TypeId} {us vs : List Value} (hd : Nat.blt d n = true) (hdst : o.dst = some d) (hg : wantE ops e o.guard = some true) (h : o.op = .call ⟨.value c, xs.toArray, ts⟩)
    (hcl : opd e c = some (.func (.func f) #[] captured)) (hcf : ∀ args w, (callFunc f args).run P w = .ok (.enter f args) w) (hx : opds e xs = some us)
    (hc : ∀ w, Own B w0 hs w → Calls P f (us.toArray ++ captured) w fun en w' => ∃ v, en = .returned v ∧ Below w.heap.size w w' ∧ NewRow w.heap.size el size w' v m vs)
    (k : ∀ g cap cur, B ≤ g → cur.size = cap * size → m ≤ cap → cur.toList.take (m * size) = vs → Ll P n (Own B w0 ((g, .cells cur el (0, 0)) :: hs)) ops l ((d, .slice (some ⟨g, 0, none⟩) m cap) :: e) N R X) : Ll P n (Own B w0 hs) ops (o :: l) e N R X :=
  Ll.callFn hd hdst hg h hcl hcf hx fun w hw => (hc w hw).mono fun en w' ⟨v, h1, h2, g, cap, cur, h3, h4, h5, h6, h7, h8⟩ => ⟨v, h1, fun a' ha => by
    subst h3
    have := k g cap cur (Nat.le_trans hw.base h4) h6 h7 h8
    unfold Ll at this
    exact this a' w' ha (hw.learn h2 h4 h5)⟩
end
end Go.Wk
/-
  THE GAME OF TWO PLAYERS: who wins, as the program plays it; that numbers of descriptions are equal exactly if the second player wins. No program in sight.
-/
namespace Go.Wk
open Go.RowKit

def rep (g : St → List Int → St → List Int → Bool) (a : St) (xs : List Int) (b : St) (ys : List Int) (x : Int) : Option Nat :=
  if sameB a xs b ys then (List.range b.n.toNat).find? (fun y => stillB a xs b ys x y && g a (xs ++ [x]) b (ys ++ [(y : Int)])) else none
def goB : Nat → St → List Int → St → List Int → Bool
  | 0, _, _, _, _ => true
  | n + 1, a, xs, b, ys => (List.range a.n.toNat).all (fun x => (rep (goB n) a xs b ys x).isSome) && (List.range b.n.toNat).all (fun y => (rep (goB n) b ys a xs y).isSome)
def winB (n : Nat) (a : St) (xs : List Int) (b : St) (ys : List Int) : Bool := sameB a xs b ys && goB n a xs b ys
def winP : Nat → St → List Int → St → List Int → Prop
  | 0, a, xs, b, ys => sameB a xs b ys = true
  | n + 1, a, xs, b, ys => sameB a xs b ys = true ∧ (∀ x : Nat, x < a.n.toNat → ∃ y : Nat, y < b.n.toNat ∧ winP n a (xs ++ [(x : Int)]) b (ys ++ [(y : Int)])) ∧
      (∀ y : Nat, y < b.n.toNat → ∃ x : Nat, x < a.n.toNat ∧ winP n a (xs ++ [(x : Int)]) b (ys ++ [(y : Int)]))
section
variable {a b : St} {xs ys : List Int}
theorem sameB_comm (hl : xs.length = ys.length) : sameB a xs b ys = sameB b ys a xs := by
  rw [← atomBits_same hl, ← atomBits_same hl.symm, Bool.eq_iff_iff, beq_iff_eq, beq_iff_eq]; exact eq_comm
theorem same_more {x y : Int} (hl : xs.length = ys.length) : sameB a (xs ++ [x]) b (ys ++ [y]) = (sameB a xs b ys && stillB a xs b ys x y) := by
  have key : ∀ i, i < xs.length → stillAt a (xs ++ [x]) b (ys ++ [y]) i = stillAt a xs b ys i := fun i hi => by
    have h := stillAt_take (a := a) (b := b) (xs := xs ++ [x]) (ys := ys ++ [y]) hi
    rw [List.take_left' rfl, List.take_left' hl.symm] at h
    exact h.symm
  unfold sameB
  rw [List.length_append, List.length_singleton, List.range_succ, List.all_append]
  congr 1
  · rw [Bool.eq_iff_iff, List.all_eq_true, List.all_eq_true]
    exact ⟨fun h i hi => by rw [← key i (List.mem_range.1 hi)]; exact h i hi, fun h i hi => by rw [key i (List.mem_range.1 hi)]; exact h i hi⟩
  · simp [still_more hl]
theorem winP_same : ∀ n, winP n a xs b ys → sameB a xs b ys = true
  | 0, h => h
  | _ + 1, h => h.1
end
theorem winP_comm : ∀ (n : Nat) (a : St) (xs : List Int) (b : St) (ys : List Int), xs.length = ys.length → winP n a xs b ys → winP n b ys a xs
  | 0, a, xs, b, ys, hl, h => by
    have h' : sameB a xs b ys = true := h
    rw [sameB_comm hl] at h'; exact h'
  | n + 1, a, xs, b, ys, hl, h => by
    obtain ⟨h1, h2, h3⟩ := h
    refine ⟨by rw [← sameB_comm hl]; exact h1, fun y hy => ?_, fun x hx => ?_⟩
    · obtain ⟨x, hx, hw⟩ := h3 y hy; exact ⟨x, hx, winP_comm n _ _ _ _ (by simp [hl]) hw⟩
    · obtain ⟨y, hy, hw⟩ := h2 x hx; exact ⟨y, hy, winP_comm n _ _ _ _ (by simp [hl]) hw⟩
theorem rep_some {g : St → List Int → St → List Int → Bool} {a b : St} {xs ys : List Int} {x : Int} (hl : xs.length = ys.length) :
    (rep g a xs b ys x).isSome = true ↔ ∃ y : Nat, y < b.n.toNat ∧ (sameB a (xs ++ [x]) b (ys ++ [(y : Int)]) && g a (xs ++ [x]) b (ys ++ [(y : Int)])) = true := by
  unfold rep
  cases hs : sameB a xs b ys with
  | false => simp [same_more hl, hs]
  | true => simp [same_more hl, hs]
theorem win_iff : ∀ (n : Nat) (a : St) (xs : List Int) (b : St) (ys : List Int), xs.length = ys.length → (winB n a xs b ys = true ↔ winP n a xs b ys)
  | 0, _, _, _, _, _ => by simp [winB, goB, winP]
  | n + 1, a, xs, b, ys, hl => by
    have ih := win_iff n
    unfold winB at ih ⊢
    rw [Bool.and_eq_true, goB, Bool.and_eq_true, List.all_eq_true, List.all_eq_true]
    show _ ∧ _ ∧ _ ↔ _ ∧ _ ∧ _
    refine and_congr_right fun _ => and_congr ?_ ?_
    · refine ⟨fun h x hx => ?_, fun h x hx => ?_⟩
      · obtain ⟨y, hy, hw⟩ := (rep_some hl).1 (h x (List.mem_range.2 hx))
        exact ⟨y, hy, (ih _ _ _ _ (by simp [hl])).1 hw⟩
      · obtain ⟨y, hy, hw⟩ := h x (List.mem_range.1 hx)
        exact (rep_some hl).2 ⟨y, hy, (ih _ _ _ _ (by simp [hl])).2 hw⟩
    · refine ⟨fun h y hy => ?_, fun h y hy => ?_⟩
      · obtain ⟨x, hx, hw⟩ := (rep_some hl.symm).1 (h y (List.mem_range.2 hy))
        exact ⟨x, hx, winP_comm _ _ _ _ _ (by simp [hl]) ((ih _ _ _ _ (by simp [hl])).1 hw)⟩
      · obtain ⟨x, hx, hw⟩ := h y (List.mem_range.1 hy)
        exact (rep_some hl.symm).2 ⟨x, hx, (ih _ _ _ _ (by simp [hl])).2 (winP_comm _ _ _ _ _ (by simp [hl]) hw)⟩
/-- fewer rounds are won, too -/
theorem winP_less : ∀ (n : Nat) (a : St) (xs : List Int) (b : St) (ys : List Int), winP (n + 1) a xs b ys → winP n a xs b ys
  | 0, _, _, _, _, h => h.1
  | n + 1, _, _, _, _, h => ⟨h.1, fun x hx => (h.2.1 x hx).elim fun y hy => ⟨y, hy.1, winP_less n _ _ _ _ hy.2⟩, fun y hy => (h.2.2 y hy).elim fun x hx => ⟨x, hx.1, winP_less n _ _ _ _ hx.2⟩⟩
/-! ### decimal digits -/
def decS (n : Nat) : List UInt8 := if n ≤ 9 then [UInt8.ofNat (48 + n)] else decS (n / 10) ++ [UInt8.ofNat (48 + n % 10)]
termination_by n
decreasing_by omega
def valS (l : List UInt8) : Nat := l.foldl (fun v c => v * 10 + (c.toNat - 48)) 0
theorem toNat_dig {k : Nat} (h : k ≤ 9) : (UInt8.ofNat (48 + k)).toNat = 48 + k := by
  rw [UInt8.toNat_ofNat']; omega
theorem valS_dec (n : Nat) : valS (decS n) = n := by
  induction n using Nat.strongRecOn with
  | _ n ih =>
    rw [decS]
    split
    · simp only [valS, List.foldl_cons, List.foldl_nil]; rw [toNat_dig (by omega)]; omega
    · rename_i h
      have := ih (n / 10) (by omega)
      simp only [valS] at this ⊢
      rw [List.foldl_append, this, List.foldl_cons, List.foldl_nil, toNat_dig (by omega)]; omega
theorem decS_inj {n m : Nat} (h : decS n = decS m) : n = m := by rw [← valS_dec n, h, valS_dec]
theorem decS_dig (n : Nat) : ∀ c ∈ decS n, c ≠ 44 ∧ c ≠ 58 := by
  induction n using Nat.strongRecOn with
  | _ n ih =>
    have key : ∀ k, k ≤ 9 → UInt8.ofNat (48 + k) ≠ 44 ∧ UInt8.ofNat (48 + k) ≠ 58 := fun k hk => by
      constructor <;> intro h <;> have h2 := congrArg UInt8.toNat h <;> rw [toNat_dig hk] at h2 <;> simp at h2 <;> omega
    rw [decS]
    split
    · intro c hc; rw [List.mem_singleton.1 hc]; exact key _ (by omega)
    · intro c hc
      rcases List.mem_append.1 hc with h | h
      · exact ih _ (by omega) c h
      · rw [List.mem_singleton.1 h]; exact key _ (by omega)
theorem decS_len (n : Nat) : ∀ k, n < 10 ^ k → 0 < k → (decS n).length ≤ k := by
  induction n using Nat.strongRecOn with
  | _ n ih =>
    intro k hk h0
    rw [decS]
    split
    · simp; omega
    · cases k with
      | zero => omega
      | succ k =>
        rw [List.length_append, List.length_singleton]
        rw [Nat.pow_succ] at hk
        have hk0 : 0 < k := by
          rcases Nat.eq_zero_or_pos k with h | h
          · subst h; simp at hk; omega
          · exact h
        have := ih (n / 10) (by omega) k (by omega) hk0
        omega
def commas (L : List Int) : List UInt8 := L.flatMap fun m => [44] ++ decS m.toNat
theorem cut {c : UInt8} {u v r s : List UInt8} (hu : ∀ x ∈ u, x ≠ c) (hv : ∀ x ∈ v, x ≠ c) (hr : r = [] ∨ ∃ t, r = c :: t) (hs : s = [] ∨ ∃ t, s = c :: t) (h : u ++ r = v ++ s) : u = v ∧ r = s := by
  have key : ∀ (u r : List UInt8), (∀ x ∈ u, x ≠ c) → (r = [] ∨ ∃ t, r = c :: t) → (u ++ r).takeWhile (fun x => decide (x ≠ c)) = u := fun u r hu hr => by
    rw [List.takeWhile_append_of_pos (fun x hx => by simpa using hu x hx)]
    rcases hr with rfl | ⟨t, rfl⟩ <;> simp
  have e1 : u = v := by rw [← key u r hu hr, h, key v s hv hs]
  subst e1
  exact ⟨rfl, List.append_cancel_left h⟩
theorem commas_head (L : List Int) : commas L = [] ∨ ∃ t, commas L = 44 :: t := by
  cases L with
  | nil => exact .inl rfl
  | cons m L => exact .inr ⟨_, rfl⟩
theorem commas_inj : ∀ {L M : List Int}, (∀ m ∈ L, 0 ≤ m) → (∀ m ∈ M, 0 ≤ m) → commas L = commas M → L = M
  | [], [], _, _, _ => rfl
  | [], m :: M, _, _, h => by simp [commas] at h
  | m :: L, [], _, _, h => by simp [commas] at h
  | m :: L, k :: M, hL, hM, h => by
    have h1 : decS m.toNat ++ commas L = decS k.toNat ++ commas M := by
      have : ([44] ++ decS m.toNat) ++ commas L = ([44] ++ decS k.toNat) ++ commas M := h
      simpa using this
    obtain ⟨h2, h3⟩ := cut (fun x hx => (decS_dig _ x hx).1) (fun x hx => (decS_dig _ x hx).1) (commas_head L) (commas_head M) h1
    have h4 := decS_inj h2
    have := hL m (by simp)
    have := hM k (by simp)
    rw [commas_inj (fun x hx => hL x (by simp [hx])) (fun x hx => hM x (by simp [hx])) h3, show m = k from by omega]
/-! ### what a number means -/
def descr (n : Nat) (bits : List UInt8) (L : List Int) : List UInt8 := (decS n ++ [58]) ++ (bits ++ commas L)
def Means (T : List (List UInt8)) : Nat → St → List Int → Nat → Prop
  | 0, a, xs, i => T[i]? = some (descr 0 (atomBits a xs) [])
  | n + 1, a, xs, i => ∃ L : List Int, L.Pairwise (· < ·) ∧ (∀ x : Nat, x < a.n.toNat → ∃ k : Nat, (k : Int) ∈ L ∧ Means T n a (xs ++ [(x : Int)]) k) ∧
      (∀ m ∈ L, ∃ k x : Nat, m = k ∧ x < a.n.toNat ∧ Means T n a (xs ++ [(x : Int)]) k) ∧ T[i]? = some (descr (n + 1) (atomBits a xs) L)
theorem prefix_get {T T' : List (List UInt8)} (h : T <+: T') {i : Nat} {s : List UInt8} (hi : T[i]? = some s) : T'[i]? = some s := by
  obtain ⟨U, rfl⟩ := h
  have : i < T.length := by
    rcases Nat.lt_or_ge i T.length with h | h
    · exact h
    · rw [List.getElem?_eq_none h] at hi; cases hi
  rw [List.getElem?_append_left this]; exact hi
theorem Means.mono {T T' : List (List UInt8)} (h : T <+: T') : ∀ (n : Nat) (a : St) (xs : List Int) (i : Nat), Means T n a xs i → Means T' n a xs i
  | 0, _, _, _, hm => prefix_get h hm
  | n + 1, a, xs, i, ⟨L, h1, h2, h3, h4⟩ => ⟨L, h1, fun x hx => (h2 x hx).elim fun k hk => ⟨k, hk.1, Means.mono h n _ _ _ hk.2⟩, fun m hm => by
      obtain ⟨k, x, e, hx, hk⟩ := h3 m hm; exact ⟨k, x, e, hx, Means.mono h n _ _ _ hk⟩, prefix_get h h4⟩
theorem sorted_ext : ∀ {l m : List Int}, l.Pairwise (· < ·) → m.Pairwise (· < ·) → (∀ x, x ∈ l ↔ x ∈ m) → l = m
  | [], [], _, _, _ => rfl
  | [], y :: m, _, _, h => absurd ((h y).2 (by simp)) (by simp)
  | x :: l, [], _, _, h => absurd ((h x).1 (by simp)) (by simp)
  | x :: l, y :: m, hl, hm, h => by
    obtain ⟨l1, l2⟩ := List.pairwise_cons.1 hl
    obtain ⟨m1, m2⟩ := List.pairwise_cons.1 hm
    have e : x = y := by
      rcases List.mem_cons.1 ((h x).1 (by simp)) with h1 | h1
      · exact h1
      · rcases List.mem_cons.1 ((h y).2 (by simp)) with h2 | h2
        · exact h2.symm
        · have := m1 x h1; have := l1 y h2; omega
    subst e
    rw [sorted_ext l2 m2 fun z => ?_]
    constructor
    · intro hz
      rcases List.mem_cons.1 ((h z).1 (by simp [hz])) with h1 | h1
      · subst h1; have := l1 z hz; omega
      · exact h1
    · intro hz
      rcases List.mem_cons.1 ((h z).2 (by simp [hz])) with h1 | h1
      · subst h1; have := m1 z hz; omega
      · exact h1
theorem descr_inj {n : Nat} {u v : List UInt8} {L M : List Int} (hl : u.length = v.length) (hL : ∀ m ∈ L, 0 ≤ m) (hM : ∀ m ∈ M, 0 ≤ m) (h : descr n u L = descr n v M) : u = v ∧ L = M := by
  unfold descr at h
  obtain ⟨h1, h2⟩ := List.append_inj (List.append_cancel_left h) hl
  exact ⟨h1, commas_inj hL hM h2⟩
/-- EQUAL NUMBERS: THE SECOND PLAYER WINS. -/
theorem means_win {T : List (List UInt8)} (hT : T.Nodup) : ∀ (n : Nat) (a : St) (xs : List Int) (b : St) (ys : List Int) (i j : Nat), xs.length = ys.length → Means T n a xs i → Means T n b ys j → (i = j ↔ winP n a xs b ys)
  | 0, a, xs, b, ys, i, j, hl, hi, hj => by
    have hi' : T[i]? = some (descr 0 (atomBits a xs) []) := hi
    have hj' : T[j]? = some (descr 0 (atomBits b ys) []) := hj
    show i = j ↔ sameB a xs b ys = true
    rw [← atomBits_same hl, beq_iff_eq]
    constructor
    · rintro rfl
      rw [hi'] at hj'
      exact (descr_inj (by unfold atomBits; rw [← hl]; exact bitsTo_length a xs b ys _) (by simp) (by simp) (Option.some.inj hj')).1
    · intro h
      rw [h] at hi'
      refine (List.getElem?_inj ?_ hT).1 (hi'.trans hj'.symm)
      rcases Nat.lt_or_ge i T.length with h | h
      · exact h
      · rw [List.getElem?_eq_none h] at hi'; cases hi'
  | n + 1, a, xs, b, ys, i, j, hl, ⟨L, sL, L1, L2, hi⟩, ⟨M, sM, M1, M2, hj⟩ => by
    have ih := means_win hT n
    have pos : ∀ {a : St} {xs : List Int} {L : List Int}, (∀ m ∈ L, ∃ k x : Nat, m = k ∧ x < a.n.toNat ∧ Means T n a (xs ++ [(x : Int)]) k) → ∀ m ∈ L, 0 ≤ m := fun h m hm => by
      obtain ⟨k, x, e, _⟩ := h m hm; omega
    show i = j ↔ sameB a xs b ys = true ∧ _ ∧ _
    rw [← atomBits_same hl, beq_iff_eq]
    constructor
    · rintro rfl
      rw [hi] at hj
      obtain ⟨e1, e2⟩ := descr_inj (by unfold atomBits; rw [← hl]; exact bitsTo_length a xs b ys _) (pos L2) (pos M2) (Option.some.inj hj)
      subst e2
      refine ⟨e1, fun x hx => ?_, fun y hy => ?_⟩
      · obtain ⟨k, hk, hm⟩ := L1 x hx
        obtain ⟨k', y, e, hy, hm'⟩ := M2 _ hk
        obtain rfl : k = k' := by omega
        exact ⟨y, hy, (ih _ _ _ _ _ _ (by simp [hl]) hm hm').1 rfl⟩
      · obtain ⟨k, hk, hm⟩ := M1 y hy
        obtain ⟨k', x, e, hx, hm'⟩ := L2 _ hk
        obtain rfl : k = k' := by omega
        exact ⟨x, hx, (ih _ _ _ _ _ _ (by simp [hl]) hm' hm).1 rfl⟩
    · rintro ⟨e1, h2, h3⟩
      have e2 : L = M := sorted_ext sL sM fun m => by
        constructor
        · intro hm
          obtain ⟨k, x, e, hx, hk⟩ := L2 m hm
          obtain ⟨y, hy, hw⟩ := h2 x hx
          obtain ⟨k', hk', hm'⟩ := M1 y hy
          rw [e, (ih _ _ _ _ _ _ (by simp [hl]) hk hm').2 hw]; exact hk'
        · intro hm
          obtain ⟨k, y, e, hy, hk⟩ := M2 m hm
          obtain ⟨x, hx, hw⟩ := h3 y hy
          obtain ⟨k', hk', hm'⟩ := L1 x hx
          rw [e, ← (ih _ _ _ _ _ _ (by simp [hl]) hm' hk).2 hw]; exact hk'
      rw [e1, e2] at hi
      refine (List.getElem?_inj ?_ hT).1 (hi.trans hj.symm)
      rcases Nat.lt_or_ge i T.length with h | h
      · exact h
      · rw [List.getElem?_eq_none h] at hi; cases hi
/-! ### a number put into a sorted list, once -/
def insS : List Int → Int → List Int
  | [], n => [n]
  | x :: l, n => if x = n then x :: l else if n < x then n :: x :: l else x :: insS l n
theorem mem_insS {m n : Int} : ∀ {l : List Int}, m ∈ insS l n ↔ m = n ∨ m ∈ l
  | [] => by simp [insS]
  | x :: l => by
    unfold insS
    split
    · rename_i h; subst h; simp
    · split
      · simp
      · rw [List.mem_cons, mem_insS, List.mem_cons]; constructor <;> rintro (h | h | h) <;> simp [h]
theorem sorted_insS {n : Int} : ∀ {l : List Int}, l.Pairwise (· < ·) → (insS l n).Pairwise (· < ·)
  | [], _ => by simp [insS]
  | x :: l, h => by
    obtain ⟨h1, h2⟩ := List.pairwise_cons.1 h
    unfold insS
    split
    · exact h
    · split
      · rename_i h3
        exact List.pairwise_cons.2 ⟨fun y hy => by rcases List.mem_cons.1 hy with rfl | hy; exact h3; have := h1 y hy; omega, h⟩
      · exact List.pairwise_cons.2 ⟨fun y hy => by rcases mem_insS.1 hy with rfl | hy; omega; exact h1 y hy, sorted_insS h2⟩
theorem insS_length {n : Int} : ∀ {l : List Int}, (insS l n).length ≤ l.length + 1
  | [] => by simp [insS]
  | x :: l => by
    have := insS_length (n := n) (l := l)
    unfold insS
    split
    · simp
    · split
      · simp
      · simp; omega
theorem insS_at {n : Int} : ∀ {l : List Int} {i : Nat}, i < l.length → (∀ j : Nat, j < i → ¬ l.getD j 0 = n ∧ ¬ n < l.getD j 0) → l.getD i 0 = n → insS l n = l
  | [], i, hi, _, _ => by simp at hi
  | x :: l, 0, hi, _, h => by simp at h; simp [insS, h]
  | x :: l, i + 1, hi, hall, h => by
    have h0 := hall 0 (by omega)
    simp at h0
    unfold insS
    rw [if_neg h0.1, if_neg (by omega), insS_at (i := i) (by simpa using hi) (fun j hj => by simpa using hall (j + 1) (by omega)) (by simpa using h)]
theorem insS_mid {n : Int} : ∀ {l : List Int} {i : Nat}, i < l.length → (∀ j : Nat, j < i → ¬ l.getD j 0 = n ∧ ¬ n < l.getD j 0) → n < l.getD i 0 → insS l n = (l.take i ++ [n]) ++ l.drop i
  | [], i, hi, _, _ => by simp at hi
  | x :: l, 0, hi, _, h => by simp at h; simp [insS, h]; omega
  | x :: l, i + 1, hi, hall, h => by
    have h0 := hall 0 (by omega)
    simp at h0
    unfold insS
    rw [if_neg h0.1, if_neg (by omega), insS_mid (i := i) (by simpa using hi) (fun j hj => by simpa using hall (j + 1) (by omega)) (by simpa using h)]
    simp
theorem insS_end {n : Int} : ∀ {l : List Int}, (∀ j : Nat, j < l.length → ¬ l.getD j 0 = n ∧ ¬ n < l.getD j 0) → insS l n = l ++ [n]
  | [], _ => rfl
  | x :: l, hall => by
    have h0 := hall 0 (by simp)
    simp at h0
    unfold insS
    rw [if_neg h0.1, if_neg (by omega), insS_end (l := l) (fun j hj => by simpa using hall (j + 1) (by simpa using hj))]
    simp
/-! ### entries of a table -/
def hashS (s : List UInt8) : Nat := s.foldl (fun k c => (k * 31 + c.toNat) % 997) 0
theorem hash_step {s : List UInt8} {i : Nat} (h : i < s.length) : hashS (s.take (i + 1)) = (hashS (s.take i) * 31 + (s.getD i 0).toNat) % 997 := by
  rw [List.take_add_one, List.getElem?_eq_getElem h]
  simp only [hashS, Option.toList, List.foldl_append, List.foldl_cons, List.foldl_nil]
  rw [getD_at h]
theorem hash_lt (s : List UInt8) : hashS s < 997 := by
  rcases s.eq_nil_or_concat with rfl | ⟨t, c, rfl⟩
  · simp [hashS]
  · simp only [hashS, List.concat_eq_append, List.foldl_append, List.foldl_cons, List.foldl_nil]; omega
def ents (T : List (List UInt8)) (k : Nat) : List (List UInt8 × Nat) := T.zipIdx.filter fun e => decide (hashS e.1 = k)
theorem ents_add (T : List (List UInt8)) (s : List UInt8) (k : Nat) : ents (T ++ [s]) k = ents T k ++ (if hashS s = k then [(s, T.length)] else []) := by
  unfold ents
  rw [List.zipIdx_append, List.filter_append]
  congr 1
  simp only [List.zipIdx_singleton, List.filter_cons, List.filter_nil, Nat.zero_add, decide_eq_true_eq]
theorem ents_mem {T : List (List UInt8)} {k : Nat} {e : List UInt8 × Nat} (h : e ∈ ents T k) : T[e.2]? = some e.1 := by
  have := (List.mem_filter.1 h).1
  exact List.mem_zipIdx_iff_getElem?.1 this
theorem ents_not {T : List (List UInt8)} {s : List UInt8} (h : ∀ e ∈ ents T (hashS s), e.1 ≠ s) : s ∉ T := fun hs => by
  obtain ⟨i, hi⟩ := List.mem_iff_getElem?.1 hs
  exact h (s, i) (List.mem_filter.2 ⟨List.mem_zipIdx_iff_getElem?.2 hi, by simp⟩) rfl
theorem ents_le (T : List (List UInt8)) (k : Nat) : (ents T k).length ≤ T.length := by
  unfold ents
  exact Nat.le_trans (List.length_filter_le _ _) (by simp)
def entC (e : List UInt8 × Nat) : List Value := [str e.1, .int .i64 e.2]
def flatE (es : List (List UInt8 × Nat)) : List Value := es.flatMap entC
end Go.Wk
/-
  BLOCKS IN ANY ORDER, an append to nothing, quotients and remainders, bytes and texts, a table of descriptions. No program in sight.
-/
namespace Go.Wk
open Go.RowKit

section
variable {P : Program} {n : Nat} {C : World → Prop} {B : Nat} {w0 : World} {hs hs' : List (Nat × Obj)} {N R : Act → World → Prop} {X : List (Nat × (Act → World → Prop))} {e : Env} {ops : Array Oper} {l : List Oper} {o : Oper}
theorem Own.nodup {w : World} (h : Own B w0 hs w) : (hs.map Prod.fst).Nodup := by
  rw [List.Nodup, List.pairwise_iff_getElem]
  intro i j hi hj hij
  rw [List.getElem_map, List.getElem_map]
  rw [List.length_map] at hi hj
  exact h.apart i j _ _ _ _ (List.getElem?_eq_getElem hi) (List.getElem?_eq_getElem hj) (by omega)
theorem Own.of_mem {w : World} (hb : Below B w0 w) (hB : B ≤ w.heap.size) (h : ∀ x ∈ hs, B ≤ x.1 ∧ w.heap[x.1]? = some x.2) (hn : (hs.map Prod.fst).Nodup) : Own B w0 hs w := by
  refine ⟨hb, hB, fun i p o hi => h (p, o) (List.mem_of_getElem? hi), fun i j p o q u hi hj hij hpq => ?_⟩
  obtain ⟨li, ei⟩ := List.getElem?_eq_some_iff.1 hi
  obtain ⟨lj, ej⟩ := List.getElem?_eq_some_iff.1 hj
  have hn' := List.pairwise_iff_getElem.1 hn
  rcases Nat.lt_trichotomy i j with h1 | h1 | h1
  · have := hn' i j (by simpa using li) (by simpa using lj) h1
    rw [List.getElem_map, List.getElem_map, ei, ej] at this
    exact this hpq
  · exact hij h1
  · have := hn' j i (by simpa using lj) (by simpa using li) h1
    rw [List.getElem_map, List.getElem_map, ei, ej] at this
    exact this hpq.symm
theorem Own.mem {w : World} (h : Own B w0 hs w) {x : Nat × Obj} (hx : x ∈ hs) : B ≤ x.1 ∧ w.heap[x.1]? = some x.2 := by
  obtain ⟨i, hi⟩ := List.mem_iff_getElem?.1 hx
  exact h.has i x.1 x.2 hi
theorem Own.perm {w : World} (h : Own B w0 hs w) (p : hs.Perm hs') : Own B w0 hs' w :=
  Own.of_mem h.below h.base (fun _ hx => h.mem (p.mem_iff.2 hx)) ((p.map Prod.fst).nodup_iff.1 h.nodup)
theorem Own.drop {w : World} {f : List (Nat × Obj)} (h : Own B w0 (f ++ hs) w) : Own B w0 hs w :=
  Own.of_mem h.below h.base (fun _ hx => h.mem (List.mem_append_right f hx)) (List.Pairwise.sublist ((List.sublist_append_right f hs).map Prod.fst) h.nodup)
/-- blocks go behind others -/
theorem perm_back (f g r : List (Nat × Obj)) : (f ++ (g ++ r)).Perm (g ++ (f ++ r)) := by
  rw [← List.append_assoc, ← List.append_assoc]
  exact List.Perm.append_right r List.perm_append_comm
/-- append to nothing -/
theorem Ll.appendNil {t el size d : Nat} {x y : Operand} {src : Option Addr} {m c : Nat} (E : Elem P t el size) (news : List Value) (hd : Nat.blt d n = true) (hdst : o.dst = some d) (hg : wantE ops e o.guard = some true)
    (h : o.op = .call ⟨.builtin .append, #[x, y], #[t, t]⟩) (hx : opd e x = some (.slice none 0 0)) (hy : opd e y = some (.slice src m c)) (hm : 0 < m) (hsrc : src ≠ none)
    (hl : news.length = m * size) (hnews : ∀ w, Own B w0 hs w → ∀ ad, src = some ad → ∀ j u, news[j]? = some u → w.cell? (ad.add j) = some u) (hb : m ≤ 2199023255552)
    (k : ∀ g' cap' cur', B ≤ g' → cur'.size = cap' * size → m ≤ cap' → cur'.toList.take (m * size) = news →
      Ll P n (Own B w0 ((g', .cells cur' el (0, 0)) :: hs)) ops l ((d, .slice (some ⟨g', 0, none⟩) m cap') :: e) N R X) : Ll P n (Own B w0 hs) ops (o :: l) e N R X :=
  Ll.turn hd hdst hg fun a w hF hw => by
    obtain ⟨ti, z, hinfo, hz, rfl, hby, hzs, h0⟩ := E.info
    cases src with
    | none => exact absurd rfl hsrc
    | some ad =>
      have h63' : ¬ (9223372036854775807 < (m : Int)) := by omega
      have h48' : ¬ (281474976710656 < Builtin.nextslicecap m 0 * ti.bytes) := by have := nextcap (need := m) (old := 0) (by omega) hby hb; omega
      have hc := run_firstCells_some (P := P) w.drew ti.size m ad m c news hl (by simpa using hnews w hw ad rfl)
      have h00 : (Builtin.firstCells ti.size 0 (.slice none 0 0)).run P w.drew = .ok #[] w.drew := by simp [Builtin.firstCells]
      have hr : (Builtin.append_ #[t, t] o.type #[.slice none 0 0, .slice (some ad) m c]).run P w = .ok (.slice (some ⟨w.heap.size, 0, none⟩) m (grownCap w m 0 el))
          (w.drew.alloc (.cells (news.toArray ++ Builtin.zeroCells z.cells (grownCap w m 0 el - m)) el)) := by
        simp [Builtin.append_, run_underlying E.slice, sizeOf, typeInfo, zeroValue, hinfo, hz, Builtin.lenOf, h63', h48', Question.forced, hc, h00, newRow, grownCap]
        exact fun h => absurd h (by omega)
      have hge := grownCap_ge w m 0 el
      refine ⟨.slice (some ⟨w.heap.size, 0, none⟩) m (grownCap w m 0 el), w.drew.alloc (.cells (news.toArray ++ Builtin.zeroCells z.cells (grownCap w m 0 el - m)) el (0, 0)), ?_, fun a' ha => ?_⟩
      · unfold execOp; rw [h]
        simp only [resolve, invoke, BigFrame.builtin_append, List.map_toArray, List.map_cons, List.map_nil, hF.opd hx, hF.opd hy, Sem.run_bind, Sem.run_pure, Result.andThen, hr]
      · have := k w.heap.size (grownCap w m 0 el) (news.toArray ++ Builtin.zeroCells z.cells (grownCap w m 0 el - m)) hw.base (by
          simp only [Array.size_append, List.size_toArray, size_zeroCells, hzs, hl, ← Nat.add_mul]; congr 1; omega) hge (by
          rw [Array.toList_append]; exact List.take_left' hl)
        unfold Ll at this
        exact this a' _ ha (hw.drew.alloc _)
/-! ### quotients, remainders, conversions -/
theorem OpQ.quo {t t' : TypeId} {x y : Operand} {i j : Int} (h : o.op = .binOp .quo t x y t') (hx : opd e x = some (.int .i64 i)) (hy : opd e y = some (.int .i64 j)) (h0 : 0 ≤ i) (h1 : i < 9223372036854775808) (hj : 0 < j) : OpQ P n C e o (.int .i64 (i / j)) := OpQ.val fun a hf w => by
  have hq : 0 ≤ i / j := Int.ediv_nonneg h0 (by omega)
  have hq2 : i / j ≤ i := Int.ediv_le_self _ h0
  unfold execOp; rw [h]; simp only [hf.opd hx, hf.opd hy]
  simp only [go_sem, Op.intDiv, if_neg (show ¬ j = 0 by omega), Sem.run_bind, Sem.run_pure, Result.andThen, Int.tdiv_eq_ediv_of_nonneg h0]
  rw [IntWalk.i64_in _ (by omega)]
theorem OpQ.rem {t t' : TypeId} {x y : Operand} {i j : Int} (h : o.op = .binOp .rem t x y t') (hx : opd e x = some (.int .i64 i)) (hy : opd e y = some (.int .i64 j)) (h0 : 0 ≤ i) (hj : 0 < j) : OpQ P n C e o (.int .i64 (i % j)) := OpQ.val fun a hf w => by
  unfold execOp; rw [h]; simp only [hf.opd hx, hf.opd hy]
  simp only [go_sem, Op.intDiv, if_neg (show ¬ j = 0 by omega), Sem.run_bind, Sem.run_pure, Result.andThen, Int.tmod_eq_emod_of_nonneg h0]
theorem OpQ.convInt {src dst : TypeId} {x : Operand} {k : IntKind} {i j : Int} (kd : IntKind) (h : o.op = .convert src dst x) {ds : TypeDesc} (hs : P.underlying src = some ds) (hd : P.underlying dst = some (.int kd)) (hx : opd e x = some (.int k i)) (hw : kd.wrap i = j) :
    OpQ P n C e o (.int kd j) := OpQ.val fun a hf w => by
  have hk : P.intKind dst = kd := by unfold Program.intKind; rw [hd]
  unfold execOp; rw [h]; simp only [hf.opd hx, Sem.run_bind]
  rw [run_convert_int (P := P) w src dst k i (by rw [hs]; rfl) (by rw [hk]; exact hd), hk, hw]
  rfl
theorem OpQ.byteStr {src dst el p : Nat} {x : Operand} {b : UInt8} {v : Int} {T : TypeId} (i : Nat) (h : o.op = .convert src dst x) (hs : P.underlying src = some (.slice el)) (he : P.underlying el = some (.int .u8)) (hd : P.underlying dst = some .string)
    (hx : opd e x = some (.slice (some ⟨p, 0, none⟩) 1 1)) (hi : hs'[i]? = some (p, .cells #[.int .u8 v] T (0, 0))) (hv : v = (b.toNat : Int)) : OpQ P n (Own B w0 hs') e o (str [b]) := by
  unfold OpQ
  intro a hF w hw
  subst hv
  unfold Oper.quietAt execOp; rw [h]; simp only [hF.opd hx, Sem.run_bind]
  have hb := run_convert_bytes_back (P := P) w src dst el ⟨p, 0, none⟩ 1 [b] hs he hd (fun j hj => by
    obtain rfl : j = 0 := by simpa using hj
    rw [Addr.add_zero', hw.cell hi]; rfl)
  simp only [List.length_singleton] at hb
  rw [hb]
  exact ⟨rfl, rfl⟩
theorem OpQ.build {t : TypeId} {xs : List Operand} {vs : List Value} {cells : Array Value} (h : o.op = .build t (idx 0 xs).toArray) (hx : opds e xs = some vs) (hb : P.built t (idx 0 vs) = some cells) : OpQ P n C e o (.agg cells) := OpQ.val fun a hF w => by
  have hmap : List.map (fun x => (x.1, a.eval x.2)) (idx 0 xs) = idx 0 vs := by
    rw [← opds_spec hF xs vs hx]
    exact idx_map a.eval 0 xs
  unfold execOp; rw [h]
  simp only [List.map_toArray, hmap, Sem.run_bind]
  rw [run_build w t _ cells hb]
  rfl
theorem fill2 (arr : Array Value) (h : arr.size = 2) {u v : Value} : Instr.fill (fun i => some (i * 2, 2)) arr [(0, .agg #[u, v])] = some #[u, v] := by
  obtain ⟨l⟩ := arr
  match l, h with
  | [x, y], _ => rfl
/-- a slice of one struct of two cells -/
theorem Ll.slice2 {t el d : Nat} {x : Operand} {u v : Value} (E : Elem P t el 2) (hd : Nat.blt d n = true) (hdst : o.dst = some d) (hg : wantE ops e o.guard = some true)
    (h : o.op = .buildSlice t 1 #[(0, x)]) (hx : opd e x = some (.agg #[u, v]))
    (kk : ∀ g, B ≤ g → Ll P n (Own B w0 ((g, .cells #[u, v] el (0, 0)) :: hs)) ops l ((d, .slice (some ⟨g, 0, none⟩) 1 1) :: e) N R X) : Ll P n (Own B w0 hs) ops (o :: l) e N R X :=
  Ll.turn hd hdst hg fun a w hF hw => by
    obtain ⟨ti, z, hinfo, hz, hsz, hby, hzs, h0⟩ := E.info
    refine ⟨_, w.alloc (.cells #[u, v] el (0, 0)), ?_, fun a' ha => by
      have := kk _ hw.base
      unfold Ll at this
      exact this a' _ ha (hw.alloc _)⟩
    have := run_buildSlice (P := P) w t el 1 #[(0, .agg #[u, v])] #[u, v] ti z E.slice hinfo hz (by rw [hsz]; decide) (by rw [hsz]; decide) (by rw [hsz]; exact fill2 _ (by simp))
    unfold execOp; rw [h]
    simp only [List.map_toArray, List.map_cons, List.map_nil, hF.opd hx, Sem.run_bind]
    rw [this]
    rfl
/-- a call that turns the blocks of the call's own; its value hangs on the letter, too -/
theorem Ll.callGet {σ : Type} {ok : σ → Prop} {hs' : σ → List (Nat × Obj)} {v : σ → Value} {d : Nat} {f : FuncId} {xs : List Operand} {ts : Array TypeId} {vs : List Value} (hd : Nat.blt d n = true) (hdst : o.dst = some d) (hg : wantE ops e o.guard = some true) (h : o.op = .call ⟨.value (.func f), xs.toArray, ts⟩)
    (hcf : ∀ args w, (callFunc f args).run P w = .ok (.enter f args) w) (hx : opds e xs = some vs)
    (hc : ∀ w, Own B w0 hs w → Calls P f vs.toArray w fun en w' => ∃ s, en = .returned (v s) ∧ ok s ∧ Own B w0 (hs' s) w')
    (k : ∀ s, ok s → Ll P n (Own B w0 (hs' s)) ops l ((d, v s) :: e) N R X) : Ll P n (Own B w0 hs) ops (o :: l) e N R X :=
  Ll.call hd hdst hg h hcf hx fun w hw => (hc w hw).mono fun en w' ⟨s, h1, h2, h3⟩ => ⟨v s, h1, fun a' ha => by
    have := k s h2
    unfold Ll at this
    exact this a' w' ha h3⟩
end
/-! ### the table -/
abbrev Bkt := Option (Nat × Nat × Nat × Array Value)
def bktV : Bkt → Value
  | none => .slice none 0 0
  | some (g, m, cap, _) => .slice (some ⟨g, 0, none⟩) m cap
def bktB (E : TypeId) : Bkt → Option (Nat × Obj)
  | none => none
  | some (g, _, _, cur) => some (g, .cells cur E (0, 0))
def blks (E : TypeId) (bs : List Bkt) : List (Nat × Obj) := bs.filterMap (bktB E)
theorem blks_put {E : TypeId} {g m cap : Nat} {cur : Array Value} : ∀ {bs : List Bkt} {k : Nat}, k < bs.length → (blks E (bs.set k (some (g, m, cap, cur)))).Perm ((g, .cells cur E (0, 0)) :: blks E (bs.set k none))
  | [], k, h => by simp at h
  | b :: bs, 0, _ => by simp only [List.set_cons_zero, blks, List.filterMap_cons, bktB]; exact List.Perm.refl _
  | b :: bs, k + 1, h => by
    have ih := blks_put (E := E) (g := g) (m := m) (cap := cap) (cur := cur) (bs := bs) (k := k) (by simpa using h)
    simp only [List.set_cons_succ, blks, List.filterMap_cons] at ih ⊢
    cases bktB E b with
    | none => exact ih
    | some z => exact (ih.cons z).trans (List.Perm.swap _ _ _)
theorem blks_take {E : TypeId} {g m cap : Nat} {cur : Array Value} {bs : List Bkt} {k : Nat} (hk : k < bs.length) (h : bs.getD k none = some (g, m, cap, cur)) : (blks E bs).Perm ((g, .cells cur E (0, 0)) :: blks E (bs.set k none)) := by
  have := blks_put (E := E) (g := g) (m := m) (cap := cap) (cur := cur) hk
  rw [getD_at hk] at h
  rwa [← h, List.set_getElem_self] at this
theorem blks_none {bs : List Bkt} {k : Nat} (hk : k < bs.length) (h : bs.getD k none = none) : bs.set k none = bs := by
  rw [getD_at hk] at h
  rw [← h, List.set_getElem_self]
structure TabOk (bs : List Bkt) (T : List (List UInt8)) : Prop where
  len : bs.length = 997
  nodup : T.Nodup
  no : ∀ k, k < 997 → bs.getD k none = none → ents T k = []
  yes : ∀ k, k < 997 → ∀ g m cap cur, bs.getD k none = some (g, m, cap, cur) → m = (ents T k).length ∧ cur.size = cap * 2 ∧ m ≤ cap ∧ cur.toList.take (m * 2) = flatE (ents T k)
theorem TabOk.new : TabOk (List.replicate 997 none) [] := by
  refine ⟨List.length_replicate, List.nodup_nil, fun k hk h => rfl, fun k hk g m cap cur h => ?_⟩
  have hl : k < (List.replicate 997 (none : Bkt)).length := by rw [List.length_replicate]; exact hk
  rw [getD_at hl, List.getElem_replicate] at h; cases h
theorem flatE_add (es : List (List UInt8 × Nat)) (x : List UInt8 × Nat) : flatE (es ++ [x]) = flatE es ++ entC x := by simp [flatE]
theorem flatE_length (es : List (List UInt8 × Nat)) : (flatE es).length = es.length * 2 := by
  induction es with
  | nil => rfl
  | cons x es ih => simp only [flatE, List.flatMap_cons, List.length_append, List.length_cons] at ih ⊢; simp only [ih, entC, List.length_cons, List.length_nil]; omega
theorem flatE_at : ∀ {es : List (List UInt8 × Nat)} {j : Nat}, j < es.length → (flatE es)[j * 2]? = some (str (es.getD j ([], 0)).1) ∧ (flatE es)[j * 2 + 1]? = some (.int .i64 ((es.getD j ([], 0)).2 : Int))
  | [], j, h => by simp at h
  | x :: es, 0, _ => ⟨rfl, rfl⟩
  | x :: es, j + 1, h => by
    have ih := flatE_at (es := es) (j := j) (by simpa using h)
    have e1 : (j + 1) * 2 = (j * 2) + 1 + 1 := by omega
    simp only [flatE, List.flatMap_cons, entC, List.cons_append, List.nil_append] at ih ⊢
    rw [e1]
    simpa using ih
theorem TabOk.add {bs : List Bkt} {T : List (List UInt8)} (h : TabOk bs T) {s : List UInt8} (hs : s ∉ T) {g m cap : Nat} {cur : Array Value} (hm : m = (ents T (hashS s)).length + 1) (hc : cur.size = cap * 2) (hle : m ≤ cap)
    (ht : cur.toList.take (m * 2) = flatE (ents T (hashS s)) ++ entC (s, T.length)) : TabOk (bs.set (hashS s) (some (g, m, cap, cur))) (T ++ [s]) := by
  have hk := hash_lt s
  have hl := h.len
  refine ⟨by simp [hl], ?_, fun k hk' hn => ?_, fun k hk' g' m' cap' cur' hy => ?_⟩
  · rw [List.nodup_append]
    exact ⟨h.nodup, by simp, fun x hx y hy e => hs (by rw [List.mem_singleton.1 hy] at e; exact e ▸ hx)⟩
  · rw [List.getD_eq_getElem?_getD, List.getElem?_set] at hn
    split at hn
    · rw [if_pos (by omega)] at hn; cases hn
    · rename_i hne
      rw [ents_add, if_neg hne, List.append_nil]
      exact h.no k hk' (by rw [List.getD_eq_getElem?_getD]; exact hn)
  · rw [List.getD_eq_getElem?_getD, List.getElem?_set] at hy
    split at hy
    · rename_i he
      subst he
      rw [if_pos (by omega)] at hy
      simp only [Option.getD_some, Option.some.injEq, Prod.mk.injEq] at hy
      obtain ⟨rfl, rfl, rfl, rfl⟩ := hy
      rw [ents_add, if_pos rfl]
      exact ⟨by rw [hm]; simp, hc, hle, by rw [ht, flatE_add]⟩
    · rename_i hne
      rw [ents_add, if_neg hne, List.append_nil]
      exact h.yes k hk' _ _ _ _ (by rw [List.getD_eq_getElem?_getD]; exact hy)
theorem bkt_at {bs : List Bkt} {b : Bkt} {k : Nat} (h : k < bs.length) (hb : bs.getD k none = b) : (bs.map bktV)[k]? = some (bktV b) := by
  rw [List.getElem?_map, List.getElem?_eq_getElem h, ← hb, getD_at h]; rfl
theorem ent_at {cur : Array Value} {m j : Nat} {es : List (List UInt8 × Nat)} (ht : cur.toList.take (m * 2) = flatE es) (hm : m = es.length) (hj : j < m) :
    cur.toList[j * 2]? = some (str (es.getD j ([], 0)).1) ∧ cur.toList[j * 2 + 1]? = some (.int .i64 ((es.getD j ([], 0)).2 : Int)) := by
  have h := flatE_at (es := es) (j := j) (by omega)
  rw [← ht, List.getElem?_take, List.getElem?_take, if_pos (by omega), if_pos (by omega)] at h
  exact h
theorem set_bkt {bs : List Bkt} {k : Nat} {b : Bkt} : (bs.map bktV).toArray.setIfInBounds k (bktV b) = ((bs.set k b).map bktV).toArray := by
  rw [List.setIfInBounds_toArray, List.map_set]
theorem new_bkts : List.replicate 997 (Value.slice none 0 0) = (List.replicate 997 (none : Bkt)).map bktV := by rw [List.map_replicate]; rfl
end Go.Wk
/-
  REPLIES, step by step. No program in sight.
-/
namespace Go.Wk
open Go.RowKit

theorem els_more {a : St} {xs : List Int} {x : Int} (h : a.Els xs) (hx : a.El x) : a.Els (xs ++ [x]) := fun y hy => by
  rcases List.mem_append.1 hy with h1 | h1
  · exact h y h1
  · rw [List.mem_singleton.1 h1]; exact hx
theorem find_at {f : Nat → Bool} {k : Nat} : ∀ {n : Nat}, k < n → (∀ i, i < k → f i = false) → f k = true → (List.range n).find? f = some k
  | n, hk, hall, h => by
    rw [List.find?_range_eq_some]
    exact ⟨h, List.mem_range.2 hk, fun j hj => by simp [hall j hj]⟩
theorem rep_law {g : St → List Int → St → List Int → Bool} {a b : St} {xs ys : List Int} {x : Int} :
    (sameB a xs b ys = false → rep g a xs b ys x = none) ∧
    (sameB a xs b ys = true → ∀ k : Nat, k < b.n.toNat → (∀ i : Nat, i < k → (stillB a xs b ys x i && g a (xs ++ [x]) b (ys ++ [(i : Int)])) = false) → (stillB a xs b ys x k && g a (xs ++ [x]) b (ys ++ [(k : Int)])) = true → rep g a xs b ys x = some k) ∧
    ((∀ i : Nat, i < b.n.toNat → (stillB a xs b ys x i && g a (xs ++ [x]) b (ys ++ [(i : Int)])) = false) → rep g a xs b ys x = none) := by
  refine ⟨fun h => by unfold rep; rw [h]; rfl, fun h k hk hall hy => ?_, fun h => ?_⟩
  · unfold rep; rw [h, if_pos rfl]; exact find_at (f := fun y : Nat => stillB a xs b ys x y && g a (xs ++ [x]) b (ys ++ [(y : Int)])) hk hall hy
  · unfold rep
    split
    · rw [List.find?_eq_none]; intro i hi; rw [h i (List.mem_range.1 hi)]; simp
    · rfl
theorem go_no1 {n : Nat} {a b : St} {xs ys : List Int} {x : Nat} (hx : x < a.n.toNat) (h : (rep (goB n) a xs b ys x).isSome = false) : goB (n + 1) a xs b ys = false := by
  rw [goB, Bool.and_eq_false_iff]
  exact .inl (List.all_eq_false.2 ⟨x, List.mem_range.2 hx, by rw [h]; simp⟩)
theorem go_no2 {n : Nat} {a b : St} {xs ys : List Int} {y : Nat} (hy : y < b.n.toNat) (h : (rep (goB n) b ys a xs y).isSome = false) : goB (n + 1) a xs b ys = false := by
  rw [goB, Bool.and_eq_false_iff]
  exact .inr (List.all_eq_false.2 ⟨y, List.mem_range.2 hy, by rw [h]; simp⟩)
theorem go_yes {n : Nat} {a b : St} {xs ys : List Int} (h1 : ∀ i : Nat, i < a.n.toNat → (rep (goB n) a xs b ys i).isSome = true) (h2 : ∀ i : Nat, i < b.n.toNat → (rep (goB n) b ys a xs i).isSome = true) : goB (n + 1) a xs b ys = true := by
  rw [goB, Bool.and_eq_true, List.all_eq_true, List.all_eq_true]
  exact ⟨fun i hi => h1 i (List.mem_range.1 hi), fun i hi => h2 i (List.mem_range.1 hi)⟩
def gameB (a : St) (xs : List Int) (b : St) (ys : List Int) (r : Int) : Bool := listsB a xs b ys && inB r 0 3
def secB (a : St) (xs : List Int) (b : St) (ys : List Int) (r : Int) : Bool := gameB a xs b ys r && winB r.toNat a xs b ys
theorem gameB_true {a b : St} {xs ys : List Int} {r : Int} (h : gameB a xs b ys r = true) : listsB a xs b ys = true ∧ 0 ≤ r ∧ r ≤ 3 := by
  unfold gameB inB at h; simpa using h
def lastW (f : Nat → Bool) : Nat → Int
  | 0 => -1
  | k + 1 => if f k then k else lastW f k
def wonI (a : St) (xs : List Int) (b : St) (ys : List Int) : Int := if listsB a xs b ys then lastW (fun n => winB n a xs b ys) 4 else -2
theorem win_less {n : Nat} {a b : St} {xs ys : List Int} (hl : xs.length = ys.length) (h : winB (n + 1) a xs b ys = true) : winB n a xs b ys = true :=
  (win_iff n a xs b ys hl).2 (winP_less n a xs b ys ((win_iff (n + 1) a xs b ys hl).1 h))
theorem lastW_of {f : Nat → Bool} (hf : ∀ n, f (n + 1) = true → f n = true) {n : Nat} : ∀ {N : Nat}, n ≤ N → (∀ i : Nat, i < n → f i = true) → (n < N → f n = false) → lastW f N = (n : Int) - 1
  | 0, h, _, _ => by obtain rfl : n = 0 := by omega
                     rfl
  | N + 1, h, hall, hn => by
    rcases Nat.lt_or_ge n (N + 1) with h1 | h1
    · have hno : ∀ k, f (n + k) = false := fun k => by
        induction k with
        | zero => exact hn h1
        | succ k ih => cases hk : f (n + (k + 1)) with
          | false => rfl
          | true => rw [hf (n + k) hk] at ih; cases ih
      have := hno (N - n)
      rw [show n + (N - n) = N from by omega] at this
      rw [lastW, if_neg (by rw [this]; simp)]
      exact lastW_of hf (by omega) hall (fun _ => hn h1)
    · obtain rfl : n = N + 1 := by omega
      rw [lastW, if_pos (hall N (by omega))]; omega
theorem lastW_yes {f : Nat → Bool} {k : Nat} (h : f k = true) : lastW f (k + 1) = k := by rw [lastW, if_pos h]
theorem lastW_no {f : Nat → Bool} {k : Nat} (h : f k = false) : lastW f (k + 1) = lastW f k := by rw [lastW, if_neg (by rw [h]; simp)]
/-! ### digits, step by step -/
theorem dec_step {x n : Nat} {o : List UInt8} (ho : decS x = decS n ++ o) (hn : ¬ n ≤ 9) : decS x = decS (n / 10) ++ ([UInt8.ofNat (48 + n % 10)] ++ o) := by
  rw [ho]; conv => lhs; rw [decS]
  rw [if_neg hn, List.append_assoc]
theorem dec_len {x n m : Nat} {o : List UInt8} (ho : decS x = decS n ++ o) (hx : (decS x).length ≤ m) : o.length ≤ m := by
  rw [ho, List.length_append] at hx; omega
/-! ### calls that turn the table -/
abbrev tabL (S I E q c : Nat) (bs : List Bkt) (T : List (List UInt8)) : List (Nat × Obj) := (q, .cells (bs.map bktV).toArray S (0, 0)) :: (c, .cells #[.int .i64 (T.length : Int)] I (0, 0)) :: blks E bs
def cnt : Nat → Nat
  | 0 => 1
  | n + 1 => 1 + 8 * cnt n
structure TabTo (T : List (List UInt8)) (bs' : List Bkt) (T' : List (List UInt8)) (m : Nat) : Prop where
  ok : TabOk bs' T'
  pre : T <+: T'
  len : T'.length ≤ T.length + m
section
variable {P : Program} {n : Nat} {C : World → Prop} {B : Nat} {w0 : World} {hs hs' : List (Nat × Obj)} {N R : Act → World → Prop} {X : List (Nat × (Act → World → Prop))} {e : Env} {ops : Array Oper} {l : List Oper} {o : Oper}
theorem Ll.callTab {S I E q c d : Nat} {bs : List Bkt} {T : List (List UInt8)} {ok : Nat → List Bkt → List (List UInt8) → Prop} {f : FuncId} {xs : List Operand} {ts : Array TypeId} {vs : List Value} (front : List (Nat × Obj)) (hd : Nat.blt d n = true) (hdst : o.dst = some d) (hg : wantE ops e o.guard = some true) (h : o.op = .call ⟨.value (.func f), xs.toArray, ts⟩)
    (hcf : ∀ args w, (callFunc f args).run P w = .ok (.enter f args) w) (hx : opds e xs = some vs)
    (hc : ∀ w, Own B w0 (tabL S I E q c bs T ++ (front ++ hs)) w → Calls P f vs.toArray w fun en w' => ∃ (m : Nat) (bs' : List Bkt) (T' : List (List UInt8)), en = .returned (.int .i64 (m : Int)) ∧ ok m bs' T' ∧ Own B w0 (tabL S I E q c bs' T' ++ (front ++ hs)) w')
    (k : ∀ (m : Nat) (bs' : List Bkt) (T' : List (List UInt8)), ok m bs' T' → Ll P n (Own B w0 (front ++ (tabL S I E q c bs' T' ++ hs))) ops l ((d, .int .i64 (m : Int)) :: e) N R X) : Ll P n (Own B w0 (front ++ (tabL S I E q c bs T ++ hs))) ops (o :: l) e N R X :=
  Ll.call hd hdst hg h hcf hx fun w hw => (hc w (hw.perm (perm_back _ _ _))).mono fun en w' ⟨m, bs', T', h1, h2, h3⟩ => ⟨_, h1, fun a' ha => by
    have := k m bs' T' h2
    unfold Ll at this
    exact this a' w' ha (h3.perm (perm_back _ _ _))⟩
theorem Own.sub {w : World} (h : Own B w0 hs w) (s : List.Sublist hs' hs) : Own B w0 hs' w :=
  Own.of_mem h.below h.base (fun _ hx => h.mem (s.subset hx)) (List.Pairwise.sublist (s.map Prod.fst) h.nodup)
theorem Own.rowTake {w : World} (h : Own B w0 hs w) {i p : Nat} {cs : Array Value} {T : TypeId} {fr : Nat × Nat} (hi : hs[i]? = some (p, .cells cs T fr)) {xs : List Int} {L k cap : Nat} (ht : cs.toList.take L = ints xs) (hk : k ≤ xs.length) (hc : xs.length ≤ cap) :
    Ints w (.slice (some ⟨p, 0, none⟩) k cap) (xs.take k) := by
  have hL : xs.length ≤ L := by
    have := congrArg List.length ht
    rw [List.length_take, ints_length] at this; omega
  refine Own.row h hi ?_ (by simp [Nat.min_eq_left hk]) (by omega)
  have := congrArg (List.take k) ht
  rw [List.take_take, Nat.min_eq_left (by omega)] at this
  rw [this]; simp [ints, List.map_take]
theorem Own.rowDrop {w : World} (h : Own B w0 hs w) {i p : Nat} {cs : Array Value} {T : TypeId} {fr : Nat × Nat} (hi : hs[i]? = some (p, .cells cs T fr)) {xs : List Int} {L k cap : Nat} (ht : cs.toList.take L = ints xs) (_hk : k ≤ xs.length) (hc : xs.length ≤ cap) :
    Ints w (.slice (some ⟨p, k, none⟩) (xs.length - k) (cap - k)) (xs.drop k) := by
  refine ⟨some ⟨p, k, none⟩, cap - k, by simp, by simp; omega, fun h => (by cases h), fun ad had => ?_⟩
  injection had with had
  subst had
  refine ⟨rfl, fun j u hj => ?_⟩
  show w.cell? ⟨p, k + j, none⟩ = some u
  rw [h.cell hi]
  have e1 : (ints xs)[k + j]? = some u := by
    simp only [ints, List.map_drop, List.getElem?_drop] at hj ⊢; exact hj
  rw [← ht, List.getElem?_take] at e1
  split at e1
  · simpa using e1
  · cases e1
theorem blks_new {E : TypeId} : blks E (List.replicate 997 none) = [] := by
  unfold blks
  rw [List.filterMap_eq_nil_iff]
  intro b hb
  rw [List.eq_of_mem_replicate hb]; rfl
theorem perm_tab {x y : Nat × Obj} {f r : List (Nat × Obj)} : (x :: y :: f ++ r).Perm (f ++ (x :: y :: r)) := by
  have := List.Perm.append_right r (List.perm_append_comm (l₁ := [x, y]) (l₂ := f))
  rw [List.append_assoc, List.append_assoc] at this
  exact this
theorem perm_front {f g : List (Nat × Obj)} : (g ++ f).Perm (f ++ g) := List.perm_append_comm
theorem commas_step {A : List UInt8} {L : List Int} {i : Nat} (h : i < L.length) : A ++ commas (L.take (i + 1)) = ((A ++ commas (L.take i)) ++ [44]) ++ decS (L.getD i 0).toNat := by
  rw [List.take_succ_eq_append_getElem h, commas, List.flatMap_append, getD_at h]
  simp [commas]
theorem commas_len {L : List Int} (h : ∀ m ∈ L, 0 ≤ m ∧ m < 1000000000000) : (commas L).length ≤ 13 * L.length := by
  induction L with
  | nil => simp [commas]
  | cons m L ih =>
    have h1 := ih (fun x hx => h x (by simp [hx]))
    have h2 := h m (by simp)
    have h3 := decS_len m.toNat 12 (show m.toNat < 1000000000000 by omega) (by decide)
    simp only [commas, List.flatMap_cons, List.length_append, List.length_cons, List.length_nil] at h1 ⊢
    omega
theorem commas_take {L : List Int} {i : Nat} (h : ∀ m ∈ L, 0 ≤ m ∧ m < 1000000000000) (h8 : L.length ≤ 8) : (commas (L.take i)).length ≤ 104 := by
  have h1 := commas_len (L := L.take i) (fun m hm => h m (List.mem_of_mem_take hm))
  rw [List.length_take] at h1; omega
end
end Go.Wk
/-
  REGIONS THAT DRAW THEIR ORDER, two loud operations coming up at once: a tree of orders, checked by a Bool. No program in sight.
-/
namespace Go.Wk
open Go.RowKit

inductive OT where
  | done
  | take (i : Nat) (r : OT)
  | one (i : Nat) (r : OT)
  | two (i : Nat) (r : OT) (j : Nat) (s : OT)
section
variable {P : Program} {n : Nat} {S C : World → Prop} {N R : Act → World → Prop} {X : List (Nat × (Act → World → Prop))} {e : Env} {ops : Array Oper} {T : OT} {o : Oper} {Q : Exit → Act → World → Prop}
def otB (ops : Array Oper) : Nat → OT → Array Bool → Bool
  | _, .done, listed => (Region.ready .any ops listed).isEmpty
  | k + 1, .take i r, listed => (Region.ready .any ops listed).contains i && Region.free .any ops listed i && otB ops k r (listed.setIfInBounds i true)
  | k + 1, .one i r, listed => (Region.ready .any ops listed == [i]) && otB ops k r (listed.setIfInBounds i true)
  | k + 1, .two i r j s, listed => (Region.ready .any ops listed == [i, j]) && otB ops k r (listed.setIfInBounds i true) && otB ops k s (listed.setIfInBounds j true)
  | 0, _, _ => false
def wpOt (P : Program) (ops : Array Oper) (S : World → Prop) (Q : Exit → Act → World → Prop) : OT → Act → World → Prop
  | .done, a, w => Q .normal a w
  | .take i r, a, w => ∃ o v, ops[i]? = some o ∧ YieldsIf P ops S o v a ∧ S w ∧ wpOt P ops S Q r (a.put o.dst v) w
  | .one i r, a, w => wpOp P ops Q i (fun a' w' => S w' ∧ wpOt P ops S Q r a' w') a w
  | .two i r j s, a, w => wpOp P ops Q i (fun a' w' => S w' ∧ wpOt P ops S Q r a' w') a w ∧ wpOp P ops Q j (fun a' w' => S w' ∧ wpOt P ops S Q s a' w') a w
theorem wpAnyH_ot (hs : Region.noSelect ops = true) (hQ : ∀ c a w, ¬ Q (.panic c) a w) : ∀ (k : Nat) (T : OT) (listed : Array Bool) (a : Act) (w : World), otB ops k T listed = true → wpOt P ops S Q T a w → wpAnyH P .any ops Q S k listed a w
  | _, .done, listed, a, w, hB, h => by unfold otB at hB; exact wpAnyH_done (List.isEmpty_iff.1 hB) h _
  | k + 1, .take i r, listed, a, w, hB, h => by
    simp only [otB, Bool.and_eq_true] at hB
    obtain ⟨o, v, hi, hy, hS, hr⟩ := h
    exact wpAnyH_take hi hs hB.1.2 hB.1.1 (fun c a w hq => absurd hq (hQ _ _ _)) hy hS (wpAnyH_ot hs hQ k r _ _ _ hB.2 hr)
  | k + 1, .one i r, listed, a, w, hB, h => by
    simp only [otB, Bool.and_eq_true, beq_iff_eq] at hB
    refine wpAnyH_all hB.1 (by simp) fun j hj => ?_
    obtain rfl : j = i := by simpa using hj
    exact wpOp_mono (fun a' w' ⟨h1, h2⟩ => ⟨h1, wpAnyH_ot hs hQ k r _ _ _ hB.2 h2⟩) h
  | k + 1, .two i r j s, listed, a, w, hB, h => by
    simp only [otB, Bool.and_eq_true, beq_iff_eq] at hB
    refine wpAnyH_all hB.1.1 (by simp) fun m hm => ?_
    have hm' : m = i ∨ m = j := by simpa using hm
    rcases hm' with rfl | rfl
    · exact wpOp_mono (fun a' w' ⟨h1, h2⟩ => ⟨h1, wpAnyH_ot hs hQ k r _ _ _ hB.1.2 h2⟩) h.1
    · exact wpOp_mono (fun a' w' ⟨h1, h2⟩ => ⟨h1, wpAnyH_ot hs hQ k s _ _ _ hB.2 h2⟩) h.2
  | 0, .take i r, listed, a, w, hB, h => by simp [otB] at hB
  | 0, .one i r, listed, a, w, hB, h => by simp [otB] at hB
  | 0, .two i r j s, listed, a, w, hB, h => by simp [otB] at hB
def otOk (ops : Array Oper) (T : OT) : Bool := Region.noSelect ops && otB ops ops.size T (Array.replicate ops.size false)
/-- the walk in those orders -/
def Lt (P : Program) (n : Nat) (S C : World → Prop) (ops : Array Oper) (T : OT) (e : Env) (N R : Act → World → Prop) (X : List (Nat × (Act → World → Prop))) : Prop :=
  ∀ a w, Fits n a e → C w → wpOt P ops S (post N R X) T a w
def Wt (P : Program) (S : World → Prop) (ops : Array Oper) (T : OT) (N R : Act → World → Prop) (X : List (Nat × (Act → World → Prop))) : Act → World → Prop :=
  fun a w => S w ∧ wpOt P ops S (post N R X) T a w
theorem Wk.regionT {id : Nat} (T : OT) (hm : P.follows .mixedOrders = true) (hd : ∀ w, C w → C { w with drawn := w.drawn + 1 }) (hB : otOk ops T = true) (h : Lt P n S C ops T e N R X) :
    Wk P n C (.region id ops true) N R X e := by
  unfold Wk
  unfold Lt at h
  intro a w hf hc
  simp only [otOk, Bool.and_eq_true] at hB
  refine wp_region_held (S := S) hm ?_
  exact wpAnyH_ot hB.1 (fun c a w h => h) _ T _ _ _ hB.2 (h a _ hf (hd w hc))
theorem Lt.nil (h : Kt n C e N) : Lt P n S C ops .done e N R X := by
  unfold Kt at h
  exact fun a w hf hc => h a w hf hc
theorem Lt.take {i d : Nat} {v : Value} (hi : ops[i]? = some o) (hd : Nat.blt d n = true) (hdst : o.dst = some d) (hg : wantE ops e o.guard = some true) (hv : valueOp o = true) (q : OpQ P n S e o v) (hS : ∀ w, C w → S w)
    (k : Lt P n S C ops T ((d, v) :: e) N R X) : Lt P n S C ops (.take i T) e N R X := by
  intro a w hf hc
  refine ⟨o, v, hi, .inl ⟨wantE_spec hf hg, fun w1 hw1 => ?_⟩, hS w hc, ?_⟩
  · unfold OpQ at q
    have h1 := q a hf w1 hw1
    unfold Oper.quietAt at h1
    cases hr : (execOp a.eval o).run P w1 with
    | ok x w' =>
      obtain ⟨u, rfl⟩ := valueOp_run hv hr
      rw [hr] at h1
      obtain ⟨rfl, rfl⟩ := h1
      rfl
    | halt x w' => rw [hr] at h1; exact h1.elim
  · rw [hdst]
    exact k _ _ (hf.put (by simpa using hd) v) hc
theorem Lt.pass {i d : Nat} (hi : ops[i]? = some o) (hd : Nat.blt d n = true) (hdst : o.dst = some d) (hg : wantE ops e o.guard = some false) (hS : ∀ w, C w → S w)
    (k : Lt P n S C ops T ((d, undef) :: e) N R X) : Lt P n S C ops (.take i T) e N R X := by
  intro a w hf hc
  refine ⟨o, undef, hi, .inr ⟨wantE_spec hf hg, rfl⟩, hS w hc, ?_⟩
  rw [hdst]
  exact k _ _ (hf.put (by simpa using hd) undef) hc
theorem Lt.bool {d : Nat} {B : Bool} (h : ∀ b, B = b → Lt P n S C ops T ((d, .bool b) :: e) N R X) : Lt P n S C ops T ((d, .bool B) :: e) N R X := h B rfl
theorem Lt.joint (hS : ∀ w, C w → S w) (h : Lt P n S C ops T e N R X) : Kt n C e (Wt P S ops T N R X) := by
  unfold Kt
  exact fun a w hf hc => ⟨hS w hc, h a w hf hc⟩
theorem Lt.op {i : Nat} (hi : ops[i]? = some o) (h : Ll P n C ops [o] e (Wt P S ops T N R X) R X) (a : Act) (w : World) (hf : Fits n a e) (hc : C w) :
    wpOp P ops (post N R X) i (fun a' w' => S w' ∧ wpOt P ops S (post N R X) T a' w') a w := by
  unfold Ll at h
  have h1 := h a w hf hc
  unfold wpList at h1
  unfold wpOp
  simp only [hi]
  split
  · rename_i hw
    rw [if_pos hw] at h1
    rcases h1 with h1 | ⟨h1, h2⟩
    · exact .inl (Oper.wp_post (fun a' w' hk => hk) h1)
    · exact .inr ⟨h1, h2⟩
  · rename_i hw
    rw [if_neg hw] at h1
    exact h1
theorem Lt.loud {i : Nat} (hi : ops[i]? = some o) (h : Ll P n C ops [o] e (Wt P S ops T N R X) R X) : Lt P n S C ops (.one i T) e N R X := fun a w hf hc => Lt.op hi h a w hf hc
theorem Lt.two {i j : Nat} {o' : Oper} {T' : OT} (hi : ops[i]? = some o) (hj : ops[j]? = some o') (h : Ll P n C ops [o] e (Wt P S ops T N R X) R X) (h' : Ll P n C ops [o'] e (Wt P S ops T' N R X) R X) : Lt P n S C ops (.two i T j T') e N R X :=
  fun a w hf hc => ⟨Lt.op hi h a w hf hc, Lt.op hj h' a w hf hc⟩
attribute [irreducible] Lt Wt
end
end Go.Wk
/-
  SHORT NAMES for the values and blocks that walks say most often. No program in sight.
-/
namespace Go.Wk
open Go.RowKit
@[reducible] def sl_ (g n c : Nat) : Value := .slice (some ⟨g, 0, none⟩) n c
@[reducible] def pt_ (p : Nat) : Value := .pointer (some ⟨p, 0, none⟩)
@[reducible] def pf_ (p k : Nat) : Value := .pointer (some ⟨p, k, none⟩)
@[reducible] def i6_ (x : Int) : Value := .int .i64 x
@[reducible] def bo_ (b : Bool) : Value := .bool b
@[reducible] def bk_ (p : Nat) (cs : Array Value) (T : TypeId) : Nat × Obj := (p, .cells cs T (0, 0))
end Go.Wk
/-
  DRAWS: the random source, its box; bytes; three loud operations coming up at once. No program in sight.
-/
namespace Go.Wk
open Go.RowKit

def u8s (xs : List Int) : List Value := xs.map (.int .u8)
@[simp] theorem u8s_length (xs : List Int) : (u8s xs).length = xs.length := by simp [u8s]
def Bytes8 (L : List Int) : Prop := ∀ x ∈ L, 0 ≤ x ∧ x ≤ 255
theorem Bytes8.at {L : List Int} (h : Bytes8 L) {i : Nat} (hi : i < L.length) : 0 ≤ L.getD i 0 ∧ L.getD i 0 ≤ 255 := by
  rw [getD_at hi]; exact h _ (List.getElem_mem _)
theorem u8s_cell {w : World} {v : Value} {xs : List Int} (h : Row w v (u8s xs)) {i : Int} (h0 : 0 ≤ i) (h1 : i < xs.length) : w.cell? (sAt v i) = some (.int .u8 (xs.getD i.toNat 0)) := by
  have := Row.cell h h0 (by simpa using h1)
  rw [this]
  have hl : i.toNat < xs.length := by omega
  simp [u8s, List.getD_eq_getElem?_getD, hl]
section
variable {P : Program} {n : Nat} {C : World → Prop} {B : Nat} {w0 : World} {hs hs' : List (Nat × Obj)} {N R : Act → World → Prop} {X : List (Nat × (Act → World → Prop))} {e : Env} {ops : Array Oper} {l : List Oper} {o : Oper}
theorem OpQ.nilCheck {x : Operand} {a : Addr} (h : o.op = .nilCheck x) (hx : opd e x = some (.pointer (some a))) : OpQ P n C e o (.pointer (some a)) := OpQ.val fun A hF w => by
  unfold execOp; rw [h]; simp only [hF.opd hx]; rfl
theorem OpQ.xor {t t' : TypeId} {x y : Operand} {i j : Int} (h : o.op = .binOp .xor t x y t') (hx : opd e x = some (.int .i64 i)) (hy : opd e y = some (.int .i64 j)) : OpQ P n C e o (.int .i64 (bits .xor .i64 i j)) := OpQ.val fun a hf w => by
  unfold execOp; rw [h]; simp only [hf.opd hx, hf.opd hy]; simp [go_sem]
theorem OpQ.maxU {x y : Operand} {ts : Array TypeId} {i j : Int} (h : o.op = .call ⟨.builtin .max, #[x, y], ts⟩) (hx : opd e x = some (.int .i64 i)) (hy : opd e y = some (.int .i64 j)) : OpQ P n C e o (.int .i64 (if j > i then j else i)) := OpQ.val fun A hF w => by
  unfold execOp; rw [h]
  simp only [resolve, invoke, BigFrame.builtin_max, List.map_toArray, List.map_cons, List.map_nil, hF.opd hx, hF.opd hy, Sem.run_bind, Sem.run_pure, Result.andThen, Builtin.max_, List.foldlM_cons, List.foldlM_nil, Builtin.max2]
theorem OpQ.min2 {x y : Operand} {ts : Array TypeId} {i j : Int} (h : o.op = .call ⟨.builtin .min, #[x, y], ts⟩) (hx : opd e x = some (.int .i64 i)) (hy : opd e y = some (.int .i64 j)) : OpQ P n C e o (.int .i64 (if j < i then j else i)) := OpQ.val fun A hF w => by
  unfold execOp; rw [h]
  simp only [resolve, invoke, BigFrame.builtin_min, List.map_toArray, List.map_cons, List.map_nil, hF.opd hx, hF.opd hy, Sem.run_bind, Sem.run_pure, Result.andThen, Builtin.min_, List.foldlM_cons, List.foldlM_nil, Builtin.min2]
theorem xor_pos {i j : Int} (h0 : 0 ≤ i) (h1 : i < 4611686018427387904) (h2 : 0 ≤ j) (h3 : j < 4611686018427387904) : 0 ≤ bits .xor .i64 i j := by
  have e1 : (BitVec.ofInt 64 i ^^^ BitVec.ofInt 64 j).toNat < 2 ^ 62 := by
    rw [BitVec.toNat_xor]
    refine Nat.xor_lt_two_pow ?_ ?_ <;> (rw [BitVec.toNat_ofInt]; omega)
  show 0 ≤ IntKind.i64.wrap ((BitVec.ofInt 64 i ^^^ BitVec.ofInt 64 j).toNat : Int)
  rw [IntWalk.i64_in _ (by omega)]
  omega
/-- a call that turns the random source, and makes blocks -/
theorem Ll.callRd {σ : Type} {ok : σ → Nat → Prop} {v : σ → Value} {new : σ → List (Nat × Obj)} {d rp RT p : Nat} {bv : Value} {f : FuncId} {xs : List Operand} {ts : Array TypeId} {vs : List Value} (front : List (Nat × Obj)) (hd : Nat.blt d n = true) (hdst : o.dst = some d) (hg : wantE ops e o.guard = some true) (h : o.op = .call ⟨.value (.func f), xs.toArray, ts⟩)
    (hcf : ∀ args w, (callFunc f args).run P w = .ok (.enter f args) w) (hx : opds e xs = some vs)
    (hc : ∀ w, Own B w0 ((rp, .cells #[bv, .int .i64 (p : Int)] RT (0, 0)) :: (front ++ hs)) w → Calls P f vs.toArray w fun en w' => ∃ (s : σ) (p' : Nat), en = .returned (v s) ∧ ok s p' ∧ Own B w0 (new s ++ ((rp, .cells #[bv, .int .i64 (p' : Int)] RT (0, 0)) :: (front ++ hs))) w')
    (k : ∀ (s : σ) (p' : Nat), ok s p' → Ll P n (Own B w0 (new s ++ (front ++ ((rp, .cells #[bv, .int .i64 (p' : Int)] RT (0, 0)) :: hs)))) ops l ((d, v s) :: e) N R X) : Ll P n (Own B w0 (front ++ ((rp, .cells #[bv, .int .i64 (p : Int)] RT (0, 0)) :: hs))) ops (o :: l) e N R X :=
  Ll.call hd hdst hg h hcf hx fun w hw => (hc w (hw.perm (perm_back _ [_] _))).mono fun en w' ⟨s, p', h1, h2, h3⟩ => ⟨_, h1, fun a' ha => by
    have := k s p' h2
    unfold Ll at this
    exact this a' w' ha (h3.perm ((perm_back [_] _ _).append_left _))⟩
/-! ### results of several kinds -/
inductive ResAt (P : Program) (C : World → Prop) (e : Env) : List ResultVar → List Value → Prop
  | nil : ResAt P C e [] []
  | tmp {t : Nat} {v : Value} {rs : List ResultVar} {vs : List Value} (h : e.lookup t = some v) (k : ResAt P C e rs vs) : ResAt P C e (.tmp t :: rs) (v :: vs)
  | cell {t ty : Nat} {p : Addr} {cs : Array Value} {rs : List ResultVar} {vs : List Value} (h : e.lookup t = some (.pointer (some p))) (hl : ∀ w, C w → (loadVar ty p).run P w = .ok (.agg cs) w) (k : ResAt P C e rs vs) : ResAt P C e (.cell t ty :: rs) (.agg cs :: vs)
def resF (ts : Array Value) : ResultVar → Sem Value
  | .tmp t => pure (ts.getD t undef)
  | .cell b t => do loadVar t (← asAddr (ts.getD b undef))
theorem ResAt.run {rs : List ResultVar} {vs : List Value} (h : ResAt P C e rs vs) {a : Act} {w : World} (hf : Fits n a e) (hw : C w) : (rs.mapM (resF a.tmps)).run P w = .ok vs w := by
  induction h with
  | nil => simp
  | tmp h k ih =>
    rename_i t v rs vs
    have ht : a.tmps.getD t undef = v := by rw [Array.getD_eq_getD_getElem?, hf.slot t _ h]; rfl
    have h1 : (resF a.tmps (.tmp t)).run P w = .ok v w := by
      show (pure (a.tmps.getD t undef) : Sem Value).run P w = _
      rw [ht]; rfl
    simp only [List.mapM_cons, Sem.run_bind, Sem.run_pure, Result.andThen, ih, h1]
  | cell h hl k ih =>
    rename_i t ty p cs rs vs
    have ht : a.tmps.getD t undef = .pointer (some p) := by rw [Array.getD_eq_getD_getElem?, hf.slot t _ h]; rfl
    have h1 : (resF a.tmps (.cell t ty)).run P w = .ok (.agg cs) w := by
      show (do loadVar ty (← asAddr (a.tmps.getD t undef)) : Sem Value).run P w = _
      simp only [ht, asAddr, Sem.run_bind, Sem.run_pure, Result.andThen, hl w hw]
    simp only [List.mapM_cons, Sem.run_bind, Sem.run_pure, Result.andThen, ih, h1]
theorem Kt.endMany {fn : Func} {R : Ending → World → Prop} {rs : List ResultVar} {vs : List Value} (hr : fn.results = rs.toArray) (h : ResAt P C e rs vs) (h2 : vs.length ≠ 1) (hR : ∀ w, C w → R (.returned (.tuple vs.toArray)) w) : Kt n C e (Ends P fn R) := by
  unfold Kt Wk.Ends
  intro a w hf hw
  refine ⟨hf.defers, .tuple vs.toArray, ?_, hR w hw⟩
  have key : (rs.toArray.mapM (resF a.tmps)).run P w = .ok vs.toArray w := by
    rw [List.mapM_toArray]
    simp only [Sem.run_map, h.run hf hw, Result.andThen]
  have e1 : results fn a.tmps = (do let vs ← fn.results.mapM (resF a.tmps); pure (if h : vs.size = 1 then vs[0] else .tuple vs)) := rfl
  rw [e1, hr]
  simp only [Sem.run_bind, key, Result.andThen]
  rw [dif_neg (by simpa using h2)]
  rfl
theorem Own.loadBox {w : World} {p : Nat} {cs : Array Value} {T : TypeId} {fr : Nat × Nat} {ty : TypeId} (hw : Own B w0 hs w) (i : Nat) (hi : hs[i]? = some (p, .cells cs T fr)) (hag : ∀ w, (isAgg ty).run P w = .ok true w) (hsz : ∀ w, (sizeOf ty).run P w = .ok cs.size w) :
    (loadVar ty ⟨p, 0, none⟩).run P w = .ok (.agg cs) w := by
  have hl := run_loadCells_list (P := P) (w := w) ⟨p, 0, none⟩ cs.toList (fun j v hj => by rw [Addr.add_lit, hw.cell hi]; simpa using hj)
  simp only [Array.length_toList] at hl
  simp only [loadVar, Sem.run_bind, hag, Result.andThen, if_true, hsz, hl]
  simp
/-- a quiet call whose value is some letter's -/
theorem Ll.callSome {σ : Type} {ok : σ → Prop} {v : σ → Value} {d : Nat} {f : FuncId} {xs : List Operand} {ts : Array TypeId} {vs : List Value} (hd : Nat.blt d n = true) (hdst : o.dst = some d) (hg : wantE ops e o.guard = some true) (h : o.op = .call ⟨.value (.func f), xs.toArray, ts⟩)
    (hcf : ∀ args w, (callFunc f args).run P w = .ok (.enter f args) w) (hx : opds e xs = some vs)
    (hc : ∀ w, Own B w0 hs w → Calls P f vs.toArray w fun en w' => ∃ s, en = .returned (v s) ∧ ok s ∧ Below w.heap.size w w')
    (k : ∀ s, ok s → Ll P n (Own B w0 hs) ops l ((d, v s) :: e) N R X) : Ll P n (Own B w0 hs) ops (o :: l) e N R X :=
  Ll.call hd hdst hg h hcf hx fun w hw => (hc w hw).mono fun en w' ⟨s, h1, h2, h3⟩ => ⟨v s, h1, fun a' ha => by
    have := k s h2
    unfold Ll at this
    exact this a' w' ha (hw.calls h3)⟩
theorem OpQ.sliceStrTo {t : TypeId} {x z : Operand} {l : List UInt8} {j : Int} (h : o.op = .slice t x none (some z) none) (hu : P.underlying t = some .string) (hx : opd e x = some (str l)) (hz : opd e z = some (.int .i64 j))
    (h1 : 0 ≤ j) (h2 : j ≤ l.length) : OpQ P n C e o (str (l.take j.toNat)) := OpQ.val fun a hf w => by
  unfold execOp; rw [h]; simp only [hf.opd hx, hf.opd hz, Option.map_some, Option.map_none]
  have h3 : 0 ≤ j ∧ j ≤ ((⟨⟨l⟩⟩ : ByteArray).size : Int) := ⟨h1, h2⟩
  have h4 : ((⟨⟨l⟩⟩ : ByteArray).extract 0 j.toNat) = ⟨⟨l.take j.toNat⟩⟩ := by
    apply ByteArray.ext
    apply Array.ext'
    rw [ByteArray.data_extract, Array.toList_extract]
    simp [List.extract]
  simp only [str, Instr.sliceAt, Instr.slice, Instr.sliceBounds, Instr.sliceBound, asIntOf, Sem.run_bind, Sem.run_pure, run_underlying hu, Result.andThen, Option.isSome_none, Bool.false_eq_true, if_false, if_pos h3, h4]
theorem OpQ.sliceStrFrom {t : TypeId} {x z : Operand} {l : List UInt8} {j : Int} (h : o.op = .slice t x (some z) none none) (hu : P.underlying t = some .string) (hx : opd e x = some (str l)) (hz : opd e z = some (.int .i64 j))
    (h1 : 0 ≤ j) (h2 : j ≤ l.length) : OpQ P n C e o (str (l.drop j.toNat)) := OpQ.val fun a hf w => by
  unfold execOp; rw [h]; simp only [hf.opd hx, hf.opd hz, Option.map_some, Option.map_none]
  have h3 : 0 ≤ j ∧ j ≤ ((⟨⟨l⟩⟩ : ByteArray).size : Int) := ⟨h1, h2⟩
  have h4 : ((⟨⟨l⟩⟩ : ByteArray).extract j.toNat (⟨⟨l⟩⟩ : ByteArray).size) = ⟨⟨l.drop j.toNat⟩⟩ := by
    apply ByteArray.ext
    apply Array.ext'
    rw [ByteArray.data_extract, Array.toList_extract]
    show (l.drop j.toNat).take (l.length - j.toNat) = l.drop j.toNat
    rw [List.take_of_length_le (by rw [List.length_drop]; exact Nat.le_refl _)]
  simp only [str, Instr.sliceAt, Instr.slice, Instr.sliceBounds, Instr.sliceBound, asIntOf, Sem.run_bind, Sem.run_pure, run_underlying hu, Result.andThen, Option.isSome_none, Bool.false_eq_true, if_false, if_pos h3, h4]
end
end Go.Wk
/-
  SMALL LAWS OF THE DRAWS. No program in sight.
-/
namespace Go.Wk
open Go.RowKit

/-! ### three loud operations at once -/
inductive OU where
  | done
  | take (i : Nat) (r : OU)
  | one (i : Nat) (r : OU)
  | two (i : Nat) (r : OU) (j : Nat) (s : OU)
  | three (i : Nat) (r : OU) (j : Nat) (s : OU) (k : Nat) (t : OU)
section
variable {P : Program} {n : Nat} {S C : World → Prop} {N R : Act → World → Prop} {X : List (Nat × (Act → World → Prop))} {e : Env} {ops : Array Oper} {T : OU} {o : Oper} {Q : Exit → Act → World → Prop}
def ouB (ops : Array Oper) : Nat → OU → Array Bool → Bool
  | _, .done, listed => (Region.ready .any ops listed).isEmpty
  | k + 1, .take i r, listed => (Region.ready .any ops listed).contains i && Region.free .any ops listed i && ouB ops k r (listed.setIfInBounds i true)
  | k + 1, .one i r, listed => (Region.ready .any ops listed == [i]) && ouB ops k r (listed.setIfInBounds i true)
  | k + 1, .two i r j s, listed => (Region.ready .any ops listed == [i, j]) && ouB ops k r (listed.setIfInBounds i true) && ouB ops k s (listed.setIfInBounds j true)
  | k + 1, .three i r j s m t, listed => (Region.ready .any ops listed == [i, j, m]) && ouB ops k r (listed.setIfInBounds i true) && ouB ops k s (listed.setIfInBounds j true) && ouB ops k t (listed.setIfInBounds m true)
  | 0, _, _ => false
def wpOu (P : Program) (ops : Array Oper) (S : World → Prop) (Q : Exit → Act → World → Prop) : OU → Act → World → Prop
  | .done, a, w => Q .normal a w
  | .take i r, a, w => ∃ o v, ops[i]? = some o ∧ YieldsIf P ops S o v a ∧ S w ∧ wpOu P ops S Q r (a.put o.dst v) w
  | .one i r, a, w => wpOp P ops Q i (fun a' w' => S w' ∧ wpOu P ops S Q r a' w') a w
  | .two i r j s, a, w => wpOp P ops Q i (fun a' w' => S w' ∧ wpOu P ops S Q r a' w') a w ∧ wpOp P ops Q j (fun a' w' => S w' ∧ wpOu P ops S Q s a' w') a w
  | .three i r j s m t, a, w => wpOp P ops Q i (fun a' w' => S w' ∧ wpOu P ops S Q r a' w') a w ∧ wpOp P ops Q j (fun a' w' => S w' ∧ wpOu P ops S Q s a' w') a w ∧ wpOp P ops Q m (fun a' w' => S w' ∧ wpOu P ops S Q t a' w') a w
theorem wpAnyH_ou (hs : Region.noSelect ops = true) (hQ : ∀ c a w, ¬ Q (.panic c) a w) : ∀ (k : Nat) (T : OU) (listed : Array Bool) (a : Act) (w : World), ouB ops k T listed = true → wpOu P ops S Q T a w → wpAnyH P .any ops Q S k listed a w
  | _, .done, listed, a, w, hB, h => by unfold ouB at hB; exact wpAnyH_done (List.isEmpty_iff.1 hB) h _
  | k + 1, .take i r, listed, a, w, hB, h => by
    simp only [ouB, Bool.and_eq_true] at hB
    obtain ⟨o, v, hi, hy, hS, hr⟩ := h
    exact wpAnyH_take hi hs hB.1.2 hB.1.1 (fun c a w hq => absurd hq (hQ _ _ _)) hy hS (wpAnyH_ou hs hQ k r _ _ _ hB.2 hr)
  | k + 1, .one i r, listed, a, w, hB, h => by
    simp only [ouB, Bool.and_eq_true, beq_iff_eq] at hB
    refine wpAnyH_all hB.1 (by simp) fun j hj => ?_
    obtain rfl : j = i := by simpa using hj
    exact wpOp_mono (fun a' w' ⟨h1, h2⟩ => ⟨h1, wpAnyH_ou hs hQ k r _ _ _ hB.2 h2⟩) h
  | k + 1, .two i r j s, listed, a, w, hB, h => by
    simp only [ouB, Bool.and_eq_true, beq_iff_eq] at hB
    refine wpAnyH_all hB.1.1 (by simp) fun m hm => ?_
    have hm' : m = i ∨ m = j := by simpa using hm
    rcases hm' with rfl | rfl
    · exact wpOp_mono (fun a' w' ⟨h1, h2⟩ => ⟨h1, wpAnyH_ou hs hQ k r _ _ _ hB.1.2 h2⟩) h.1
    · exact wpOp_mono (fun a' w' ⟨h1, h2⟩ => ⟨h1, wpAnyH_ou hs hQ k s _ _ _ hB.2 h2⟩) h.2
  | k + 1, .three i r j s m t, listed, a, w, hB, h => by
    simp only [ouB, Bool.and_eq_true, beq_iff_eq] at hB
    refine wpAnyH_all hB.1.1.1 (by simp) fun q hq => ?_
    have hq' : q = i ∨ q = j ∨ q = m := by simpa using hq
    rcases hq' with rfl | rfl | rfl
    · exact wpOp_mono (fun a' w' ⟨h1, h2⟩ => ⟨h1, wpAnyH_ou hs hQ k r _ _ _ hB.1.1.2 h2⟩) h.1
    · exact wpOp_mono (fun a' w' ⟨h1, h2⟩ => ⟨h1, wpAnyH_ou hs hQ k s _ _ _ hB.1.2 h2⟩) h.2.1
    · exact wpOp_mono (fun a' w' ⟨h1, h2⟩ => ⟨h1, wpAnyH_ou hs hQ k t _ _ _ hB.2 h2⟩) h.2.2
  | 0, .take i r, listed, a, w, hB, h => by simp [ouB] at hB
  | 0, .one i r, listed, a, w, hB, h => by simp [ouB] at hB
  | 0, .two i r j s, listed, a, w, hB, h => by simp [ouB] at hB
  | 0, .three i r j s m t, listed, a, w, hB, h => by simp [ouB] at hB
def ouOk (ops : Array Oper) (T : OU) : Bool := Region.noSelect ops && ouB ops ops.size T (Array.replicate ops.size false)
/-- the walk in those orders -/
def Lu (P : Program) (n : Nat) (S C : World → Prop) (ops : Array Oper) (T : OU) (e : Env) (N R : Act → World → Prop) (X : List (Nat × (Act → World → Prop))) : Prop :=
  ∀ a w, Fits n a e → C w → wpOu P ops S (post N R X) T a w
def Wu (P : Program) (S : World → Prop) (ops : Array Oper) (T : OU) (N R : Act → World → Prop) (X : List (Nat × (Act → World → Prop))) : Act → World → Prop :=
  fun a w => S w ∧ wpOu P ops S (post N R X) T a w
theorem Wk.regionU {id : Nat} (T : OU) (hm : P.follows .mixedOrders = true) (hd : ∀ w, C w → C { w with drawn := w.drawn + 1 }) (hB : ouOk ops T = true) (h : Lu P n S C ops T e N R X) :
    Wk P n C (.region id ops true) N R X e := by
  unfold Wk
  unfold Lu at h
  intro a w hf hc
  simp only [ouOk, Bool.and_eq_true] at hB
  refine wp_region_held (S := S) hm ?_
  exact wpAnyH_ou hB.1 (fun c a w h => h) _ T _ _ _ hB.2 (h a _ hf (hd w hc))
theorem Lu.nil (h : Kt n C e N) : Lu P n S C ops .done e N R X := by
  unfold Kt at h
  exact fun a w hf hc => h a w hf hc
theorem Lu.take {i d : Nat} {v : Value} (hi : ops[i]? = some o) (hd : Nat.blt d n = true) (hdst : o.dst = some d) (hg : wantE ops e o.guard = some true) (hv : valueOp o = true) (q : OpQ P n S e o v) (hS : ∀ w, C w → S w)
    (k : Lu P n S C ops T ((d, v) :: e) N R X) : Lu P n S C ops (.take i T) e N R X := by
  intro a w hf hc
  refine ⟨o, v, hi, .inl ⟨wantE_spec hf hg, fun w1 hw1 => ?_⟩, hS w hc, ?_⟩
  · unfold OpQ at q
    have h1 := q a hf w1 hw1
    unfold Oper.quietAt at h1
    cases hr : (execOp a.eval o).run P w1 with
    | ok x w' =>
      obtain ⟨u, rfl⟩ := valueOp_run hv hr
      rw [hr] at h1
      obtain ⟨rfl, rfl⟩ := h1
      rfl
    | halt x w' => rw [hr] at h1; exact h1.elim
  · rw [hdst]
    exact k _ _ (hf.put (by simpa using hd) v) hc
theorem Lu.pass {i d : Nat} (hi : ops[i]? = some o) (hd : Nat.blt d n = true) (hdst : o.dst = some d) (hg : wantE ops e o.guard = some false) (hS : ∀ w, C w → S w)
    (k : Lu P n S C ops T ((d, undef) :: e) N R X) : Lu P n S C ops (.take i T) e N R X := by
  intro a w hf hc
  refine ⟨o, undef, hi, .inr ⟨wantE_spec hf hg, rfl⟩, hS w hc, ?_⟩
  rw [hdst]
  exact k _ _ (hf.put (by simpa using hd) undef) hc
theorem Lu.bool {d : Nat} {B : Bool} (h : ∀ b, B = b → Lu P n S C ops T ((d, .bool b) :: e) N R X) : Lu P n S C ops T ((d, .bool B) :: e) N R X := h B rfl
theorem Lu.joint (hS : ∀ w, C w → S w) (h : Lu P n S C ops T e N R X) : Kt n C e (Wu P S ops T N R X) := by
  unfold Kt
  exact fun a w hf hc => ⟨hS w hc, h a w hf hc⟩
theorem Lu.op {i : Nat} (hi : ops[i]? = some o) (h : Ll P n C ops [o] e (Wu P S ops T N R X) R X) (a : Act) (w : World) (hf : Fits n a e) (hc : C w) :
    wpOp P ops (post N R X) i (fun a' w' => S w' ∧ wpOu P ops S (post N R X) T a' w') a w := by
  unfold Ll at h
  have h1 := h a w hf hc
  unfold wpList at h1
  unfold wpOp
  simp only [hi]
  split
  · rename_i hw
    rw [if_pos hw] at h1
    rcases h1 with h1 | ⟨h1, h2⟩
    · exact .inl (Oper.wp_post (fun a' w' hk => hk) h1)
    · exact .inr ⟨h1, h2⟩
  · rename_i hw
    rw [if_neg hw] at h1
    exact h1
theorem Lu.loud {i : Nat} (hi : ops[i]? = some o) (h : Ll P n C ops [o] e (Wu P S ops T N R X) R X) : Lu P n S C ops (.one i T) e N R X := fun a w hf hc => Lu.op hi h a w hf hc
theorem Lu.two {i j : Nat} {o' : Oper} {T' : OU} (hi : ops[i]? = some o) (hj : ops[j]? = some o') (h : Ll P n C ops [o] e (Wu P S ops T N R X) R X) (h' : Ll P n C ops [o'] e (Wu P S ops T' N R X) R X) : Lu P n S C ops (.two i T j T') e N R X :=
  fun a w hf hc => ⟨Lu.op hi h a w hf hc, Lu.op hj h' a w hf hc⟩
theorem Lu.three {i j m : Nat} {o' o2 : Oper} {T' T2 : OU} (hi : ops[i]? = some o) (hj : ops[j]? = some o') (hm : ops[m]? = some o2) (h : Ll P n C ops [o] e (Wu P S ops T N R X) R X) (h' : Ll P n C ops [o'] e (Wu P S ops T' N R X) R X) (h2 : Ll P n C ops [o2] e (Wu P S ops T2 N R X) R X) : Lu P n S C ops (.three i T j T' m T2) e N R X :=
  fun a w hf hc => ⟨Lu.op hi h a w hf hc, Lu.op hj h' a w hf hc, Lu.op hm h2 a w hf hc⟩
attribute [irreducible] Lu Wu
end
/-! ### paths that meet again -/
def Joined {σ : Type} (n : Nat) (ok : σ → Prop) (I : σ → Env) (D : σ → World → Prop) : Act → World → Prop := fun a w => ∃ s, ok s ∧ Fits n a (I s) ∧ D s w
section
variable {P : Program} {n : Nat} {C : World → Prop} {N R : Act → World → Prop} {X : List (Nat × (Act → World → Prop))} {e : Env} {σ : Type} {ok : σ → Prop} {I : σ → Env} {D : σ → World → Prop}
theorem Wk.join {c : Code} (ok : σ → Prop) (I : σ → Env) (D : σ → World → Prop) (h : Wk P n C c (Joined n ok I D) R X e) (k : ∀ s, ok s → Kt n (D s) (I s) N) : Wk P n C c N R X e := by
  unfold Wk at h ⊢
  intro a w hf hc
  refine wp_mono (h a w hf hc) fun e a w hh => ?_
  cases e with
  | normal =>
    obtain ⟨s, h1, h2, h3⟩ := hh
    have := k s h1
    unfold Kt at this
    exact this a w h2 h3
  | _ => first | exact hh | exact hh.elim
theorem Kt.joined (s : σ) (h0 : ok s) (hs : Sub (I s) e) (hd : ∀ w, C w → D s w) : Kt n C e (Joined n ok I D) := by
  unfold Kt
  exact fun a w hf hc => ⟨s, h0, hf.sub hs, hd w hc⟩
attribute [irreducible] Joined
end
theorem many_half {m : Int} {i : Nat} (h0 : 0 ≤ m) (h : m.toNat * 2 ^ i ≤ 100) : (m / 2).toNat * 2 ^ (i + 1) ≤ 100 := by
  rw [Nat.pow_succ, Nat.mul_comm (2 ^ i) 2, ← Nat.mul_assoc]
  exact Nat.le_trans (Nat.mul_le_mul_right _ (by omega)) h
theorem many_more {m : Int} {i : Nat} (h : m.toNat * 2 ^ i ≤ 100) (h0 : 0 < m) : i + 1 ≤ 7 := by
  rcases Nat.lt_or_ge i 7 with h1 | h1
  · omega
  · have h2 : 2 ^ 7 ≤ 2 ^ i := Nat.pow_le_pow_right (by decide) h1
    have h3 : 1 * 2 ^ i ≤ m.toNat * 2 ^ i := Nat.mul_le_mul_right _ (by omega)
    omega
def dropOff (i cap : Nat) : Nat := if i = cap then 0 else i
section
variable {P : Program} {n : Nat} {C : World → Prop} {B : Nat} {w0 : World} {hs : List (Nat × Obj)} {e : Env} {o : Oper}
theorem OpQ.dropE {t el : TypeId} {x y : Operand} {g len cap : Nat} {i : Int} {k : IntKind} (h : o.op = .slice t x (some y) none none) (hu : ∀ w, (underlying t).run P w = .ok (.slice el) w) (hz : ∀ w, (sizeOf el).run P w = .ok 1 w) (hx : opd e x = some (.slice (some ⟨g, 0, none⟩) len cap)) (hy : opd e y = some (.int k i))
    (h0 : 0 ≤ i) (h1 : i ≤ len) (_h3 : i ≤ cap) : OpQ P n C e o (.slice (some ⟨g, dropOff i.toNat cap, none⟩) (len - i.toNat) (cap - i.toNat)) := OpQ.val fun a hF w => by
  unfold execOp; rw [h]; simp only [hF.opd hx, Option.map_some, Option.map_none, hF.opd hy]
  have hi : 0 ≤ i ∧ i ≤ (len : Int) := ⟨h0, h1⟩
  simp only [Instr.sliceAt, Instr.slice, Instr.sliceBounds, Instr.sliceBound, asIntOf, Sem.run_bind, Sem.run_pure, hu, hz, Result.andThen, if_pos hi]
  unfold dropOff
  by_cases e1 : i.toNat = cap
  · rw [if_pos e1.symm, if_pos e1]
  · rw [if_neg (fun e2 => e1 e2.symm), if_neg e1]
    simp [Addr.add]; omega
theorem Own.rowDropE {w : World} (h : Own B w0 hs w) {i p : Nat} {cs : Array Value} {T : TypeId} {fr : Nat × Nat} (hi : hs[i]? = some (p, .cells cs T fr)) {xs : List Int} {L k cap : Nat} (ht : cs.toList.take L = ints xs) (hk : k ≤ xs.length) (hc : xs.length ≤ cap) :
    Ints w (.slice (some ⟨p, dropOff k cap, none⟩) (xs.length - k) (cap - k)) (xs.drop k) := by
  unfold dropOff
  split
  · rename_i e1
    have e2 : xs.drop k = [] := List.drop_eq_nil_of_le (by omega)
    rw [e2, show xs.length - k = 0 from by omega]
    exact ⟨some ⟨p, 0, none⟩, cap - k, rfl, Nat.zero_le _, fun h => (by cases h), fun ad had => ⟨by injection had with had; subst had; rfl, fun j u hj => by simp [ints] at hj⟩⟩
  · exact Own.rowDrop h hi ht hk hc
end
/-! ### a text's bytes, turned -/
def byts (s : List UInt8) : List Int := s.map fun c => (c.toNat : Int)
def u8of (V : List Int) : List UInt8 := V.map fun x => UInt8.ofNat x.toNat
theorem byts_8 (s : List UInt8) : Bytes8 (byts s) := fun x hx => by
  obtain ⟨c, _, rfl⟩ := List.mem_map.1 hx
  have := UInt8.toNat_lt c
  omega
theorem Bytes8.set {L : List Int} (h : Bytes8 L) {i : Nat} {x : Int} (h0 : 0 ≤ x) (h1 : x ≤ 255) : Bytes8 (L.set i x) := fun y hy => by
  rcases List.mem_or_eq_of_mem_set hy with h2 | h2
  · exact h y h2
  · omega
theorem u8s_set (L : List Int) (i : Nat) (x : Int) : (u8s L).set i (.int .u8 x) = u8s (L.set i x) := by simp [u8s, List.map_set]
theorem u8s_at {c : List Int} {off : Nat} (h : off < c.length) : (u8s c)[off]? = some (.int .u8 (c.getD off 0)) := by
  simp [u8s, List.getD_eq_getElem?_getD, h]
theorem set_takeU {cur : Array Value} {n off : Nat} {xs : List Int} {x : Int} (ht : cur.toList.take n = u8s xs) : (cur.setIfInBounds off (.int .u8 x)).toList.take n = u8s (xs.set off x) := by
  rw [Array.toList_setIfInBounds, List.take_set, ht]
  simp [u8s, List.map_set]
@[simp] theorem byts_length (s : List UInt8) : (byts s).length = s.length := by simp [byts]
@[simp] theorem u8of_length (V : List Int) : (u8of V).length = V.length := by simp [u8of]
theorem wrap8 (x : Int) : 0 ≤ IntKind.u8.wrap x ∧ IntKind.u8.wrap x ≤ 255 := by rw [IntKind.wrap_u8]; omega
section
variable {P : Program} {n : Nat} {C : World → Prop} {B : Nat} {w0 : World} {hs hs' : List (Nat × Obj)} {e : Env} {o : Oper} {N R : Act → World → Prop} {X : List (Nat × (Act → World → Prop))} {ops : Array Oper} {l : List Oper}
theorem Ll.strBytes {d src dst el : Nat} {x : Operand} {s : List UInt8} (hd : Nat.blt d n = true) (hdst : o.dst = some d) (hg : wantE ops e o.guard = some true) (h : o.op = .convert src dst x) (hs1 : P.underlying src = some .string) (hd1 : P.underlying dst = some (.slice el)) (he : P.underlying el = some (.int .u8)) (hx : opd e x = some (str s))
    (k : ∀ (g cap : Nat) (cur : Array Value), B ≤ g → s.length ≤ cur.size → cur.toList.take s.length = u8s (byts s) → Ll P n (Own B w0 ((g, .cells cur el (cur.size, cur.size + 1)) :: hs)) ops l ((d, .slice (some ⟨g, 0, none⟩) s.length cap) :: e) N R X) : Ll P n (Own B w0 hs) ops (o :: l) e N R X :=
  Ll.turn hd hdst hg fun a w hF hw => by
    refine ⟨.slice (some ⟨w.heap.size, 0, none⟩) s.length (grownCap w s.length 0 el), w.drew.alloc (.cells (bytesRow ⟨⟨s⟩⟩ (grownCap w s.length 0 el)) el ((bytesRow ⟨⟨s⟩⟩ (grownCap w s.length 0 el)).size, (bytesRow ⟨⟨s⟩⟩ (grownCap w s.length 0 el)).size + 1)), ?_, fun a' ha => ?_⟩
    · unfold execOp; rw [h]; simp only [hF.opd hx, str, Sem.run_bind]
      rw [run_bytes_of_string w src dst el ⟨⟨s⟩⟩ hs1 hd1 he]
      rfl
    · have := k w.heap.size (grownCap w s.length 0 el) (bytesRow ⟨⟨s⟩⟩ (grownCap w s.length 0 el)) hw.base (by
        simp only [bytesRow, Array.size_append, Array.size_map, List.size_toArray]; omega) (by
        simp only [bytesRow, Array.toList_append, Array.toList_map]
        rw [List.take_left' (by simp)]
        simp [u8s, byts])
      unfold Ll at this
      exact this a' _ ha (hw.drew.alloc _)
theorem Ll.storeFr {t p off : Nat} {x y : Operand} {v : Value} {cs : Array Value} {T : TypeId} {fr : Nat × Nat} (i : Nat) (hdst : o.dst = none) (hg : wantE ops e o.guard = some true) (h : o.op = .store t x y)
    (hx : opd e x = some (.pointer (some ⟨p, off, none⟩))) (hy : opd e y = some v) (hv : v.oneCell' = true) (hsz : ∀ w, (sizeOf t).run P w = .ok 1 w) (hi : hs[i]? = some (p, .cells cs T fr)) (hoff : off < cs.size) (hfr : off < fr.1)
    (k : Ll P n (Own B w0 (hs.set i (p, .cells (cs.setIfInBounds off v) T fr))) ops l e N R X) : Ll P n (Own B w0 hs) ops (o :: l) e N R X :=
  Ll.turnN hdst hg fun a w hF hw => ⟨w.setCell ⟨p, off, none⟩ v, by
    unfold execOp; rw [h]; simp only [hF.opd hx, hF.opd hy]
    have hc : v.cells = #[v] := by cases v <;> first | rfl | (simp [Value.oneCell'] at hv)
    have hcell := hw.cell hi off
    rw [Array.getElem?_eq_getElem hoff] at hcell
    have hfro : w.frozen? ⟨p, off, none⟩ = false := by
      obtain ⟨f1, f2⟩ := fr
      simp only [World.frozen?, (hw.has i p _ hi).2]
      simp only [Bool.and_eq_false_iff, decide_eq_false_iff_not]
      left; omega
    simp only [Instr.storeAt, Instr.sureAddr, storeVar, hc, Sem.run_bind, Sem.run_pure, hsz, Result.andThen, List.size_toArray, List.length_cons, List.length_nil, Nat.zero_add, ne_eq, not_true_eq_false, if_false, storeCells, Addr.add_zero', run_store P w _ v _ hv, hcell, hfro]
    rfl,
    fun a' ha => by
      unfold Ll at k
      exact k a' _ ha (hw.set hi off v)⟩
theorem OpQ.subU8 {t t' : TypeId} {x y : Operand} {i j : Int} (h : o.op = .binOp .sub t x y t') (hx : opd e x = some (.int .u8 i)) (hy : opd e y = some (.int .u8 j)) : OpQ P n C e o (.int .u8 (IntKind.u8.wrap (i - j))) := OpQ.val fun a hf w => by
  unfold execOp; rw [h]; simp only [hf.opd hx, hf.opd hy]; simp [go_sem]
theorem u8of_at {V : List Int} (h : Bytes8 V) : byts (u8of V) = V := by
  unfold byts u8of
  rw [List.map_map]
  conv => rhs; rw [← List.map_id V]
  refine List.map_congr_left fun x hx => ?_
  have := h x hx
  simp only [Function.comp, UInt8.toNat_ofNat', id]
  omega
theorem OpQ.bytesStr {src dst el p cap : Nat} {x : Operand} {V : List Int} {cs : Array Value} {T : TypeId} {fr : Nat × Nat} (i : Nat) (h : o.op = .convert src dst x) (hs : P.underlying src = some (.slice el)) (he : P.underlying el = some (.int .u8)) (hd : P.underlying dst = some .string)
    (hx : opd e x = some (.slice (some ⟨p, 0, none⟩) V.length cap)) (hi : hs'[i]? = some (p, .cells cs T fr)) (hV : cs.toList.take V.length = u8s V) (h8 : Bytes8 V) : OpQ P n (Own B w0 hs') e o (str (u8of V)) := by
  unfold OpQ
  intro a hF w hw
  unfold Oper.quietAt execOp; rw [h]; simp only [hF.opd hx, Sem.run_bind]
  have hl : (u8of V).length = V.length := by simp [u8of]
  have hb := run_convert_bytes_back (P := P) w src dst el ⟨p, 0, none⟩ cap (u8of V) hs he hd (fun j hj => by
    rw [hl] at hj
    rw [Addr.add_lit, hw.cell hi]
    have e1 : (cs.toList.take V.length)[j]? = some (.int .u8 ((u8of V)[j].toNat : Int)) := by
      rw [hV]
      have e2 : (byts (u8of V))[j]? = V[j]? := by rw [u8of_at h8]
      rw [byts, List.getElem?_map, List.getElem?_eq_getElem (by rw [hl]; exact hj)] at e2
      rw [u8s, List.getElem?_map, ← e2]; rfl
    rw [List.getElem?_take, if_pos hj] at e1
    simpa using e1)
  rw [hl] at hb
  rw [hb]
  exact ⟨rfl, rfl⟩
end
theorem shuf_all {xs : List Int} {k : Nat} (h : ∀ x ∈ xs, 0 ≤ x ∧ x < (k : Int)) {i j : Nat} : ∀ x ∈ (xs.take i ++ [(k : Int)]) ++ xs.drop j, 0 ≤ x ∧ x < ((k + 1 : Nat) : Int) := fun x hx => by
  rcases List.mem_append.1 hx with h1 | h1
  · rcases List.mem_append.1 h1 with h2 | h2
    · have := h x (List.mem_of_mem_take h2); omega
    · rw [List.mem_singleton.1 h2]; omega
  · have := h x (List.mem_of_mem_drop h1); omega
theorem sq_one {n : Int} (h : 1 ≤ n) : 1 ≤ n * n := by
  have : 1 * 1 ≤ n * n := Int.mul_le_mul h h (by omega) (by omega)
  omega
theorem sq_cast {n : Int} (h : 0 ≤ n) : ((n.toNat * n.toNat : Nat) : Int) = n * n := by
  rw [Int.natCast_mul, Int.toNat_of_nonneg h]
end Go.Wk
/-
  DRAWS: an order of one structure's elements that fits another one; pairs of structures. No program in sight.
-/
namespace Go.Wk
open Go.RowKit
def upto (n : Nat) : List Int := (List.range n).map fun i : Nat => (i : Int)
@[simp] theorem upto_length (n : Nat) : (upto n).length = n := by simp [upto]
theorem upto_succ (n : Nat) : upto (n + 1) = upto n ++ [(n : Int)] := by simp [upto, List.range_succ]
theorem upto_els {c : St} {n : Nat} (h : (n : Int) ≤ c.n) : c.Els (upto n) := fun x hx => by
  obtain ⟨i, hi, rfl⟩ := List.mem_map.1 hx
  have := List.mem_range.1 hi
  exact ⟨by omega, by omega⟩
theorem upto_set {i n : Nat} (h : i < n) : (upto i ++ List.replicate (n - i) 0).set i (i : Int) = upto (i + 1) ++ List.replicate (n - (i + 1)) 0 := by
  have e : n - i = (n - (i + 1)) + 1 := by omega
  rw [e, List.replicate_succ, List.set_append_right _ _ (by simp), upto_succ, List.append_assoc]
  simp
theorem order_more {a c : St} {xs : List Int} {x : Int} (h : sameB a xs c (upto xs.length) = true) (h2 : stillAt a (xs ++ [x]) c (upto (xs.length + 1)) xs.length = true) :
    sameB a (xs ++ [x]) c (upto (xs ++ [x]).length) = true := by
  rw [List.length_append, List.length_singleton, upto_succ] at *
  rw [same_more (by simp), h, ← still_more (by simp), h2]; rfl
theorem Own.dropR {B : Nat} {w0 w : World} {hs f : List (Nat × Obj)} (h : Own B w0 (hs ++ f) w) : Own B w0 hs w := h.sub (List.sublist_append_left hs f)
theorem Own.intsR {B : Nat} {w0 w : World} {hs : List (Nat × Obj)} (h : Own B w0 hs w) {i p n cap : Nat} {T : TypeId} {fr : Nat × Nat} {xs : List Int} (hi : hs[i]? = some (p, .cells (ints xs).toArray T fr)) (hn : xs.length = n) (hc : n ≤ cap) : Ints w (.slice (some ⟨p, 0, none⟩) n cap) xs :=
  Own.row h hi (by simp [← hn, List.take_of_length_le]) (by simp [hn]) hc
theorem part_fine {b : St} {m : Nat} {n : Int} (hb : b.n = m) (hs : (b.set.length : Int) = m) (hr : b.rel.length = m * m) (hm : m = n.toNat) (h1 : 1 ≤ n) (h5 : n ≤ 5) : b.Fine ∧ b.n ≤ 5 :=
  ⟨⟨by omega, by omega, by omega, by rw [hr, hb]; push_cast; rfl⟩, by omega⟩
theorem draw_fine {b : St} {n : Int} (hb : b.n = n) (hs : (b.set.length : Int) = n) (hr : b.rel.length = n.toNat * n.toNat) (h1 : 1 ≤ n) (h5 : n ≤ 5) : b.Fine ∧ b.n ≤ 5 :=
  part_fine (m := n.toNat) (by omega) (by omega) hr rfl h1 h5
theorem fine_len {b : St} (h : b.Fine) (h5 : b.n ≤ 5) : 1 ≤ b.rel.length ∧ b.rel.length ≤ 25 := by
  have h1 := h.lo
  have h2 : b.n * b.n ≤ 5 * 5 := Int.mul_le_mul h5 h5 (by omega) (by omega)
  have h3 := sq_one h1
  have h4 := h.rel
  omega
theorem turned_fine {b : St} {t : List UInt8} {k : Int} (h0 : 0 ≤ k) (h1 : k < b.rel.length) (ht : t.length = ((b.rel.drop k.toNat).take ((k + 1).toNat - k.toNat)).length) :
    (b.rel.take k.toNat ++ t ++ b.rel.drop (k + 1).toNat).length = b.rel.length := by
  have e1 : (k + 1).toNat = k.toNat + 1 := by omega
  rw [e1] at *
  rw [List.length_append, List.length_append, ht, List.length_take, List.length_take, List.length_drop, List.length_drop]
  omega
section
variable {P : Program} {n : Nat} {B : Nat} {w0 : World} {hs : List (Nat × Obj)} {e : Env} {o : Oper} {N R : Act → World → Prop} {X : List (Nat × (Act → World → Prop))} {ops : Array Oper} {l : List Oper}
/-- a call that makes blocks, and hands back some letter's value -/
theorem Ll.callNew {σ : Type} {ok : σ → Prop} {v : σ → Value} {new : σ → List (Nat × Obj)} {d : Nat} {f : FuncId} {xs : List Operand} {ts : Array TypeId} {vs : List Value} (hd : Nat.blt d n = true) (hdst : o.dst = some d) (hg : wantE ops e o.guard = some true) (h : o.op = .call ⟨.value (.func f), xs.toArray, ts⟩)
    (hcf : ∀ args w, (callFunc f args).run P w = .ok (.enter f args) w) (hx : opds e xs = some vs)
    (hc : ∀ w, Own B w0 hs w → Calls P f vs.toArray w fun en w' => ∃ s, en = .returned (v s) ∧ ok s ∧ Own B w0 (new s ++ hs) w')
    (k : ∀ s, ok s → Ll P n (Own B w0 (new s ++ hs)) ops l ((d, v s) :: e) N R X) : Ll P n (Own B w0 hs) ops (o :: l) e N R X :=
  Ll.call hd hdst hg h hcf hx fun w hw => (hc w hw).mono fun en w' ⟨s, h1, h2, h3⟩ => ⟨v s, h1, fun a' ha => by
    have := k s h2
    unfold Ll at this
    exact this a' w' ha h3⟩
/-- the same, the new blocks put behind those in front -/
theorem Ll.callBack {σ : Type} {ok : σ → Prop} {v : σ → Value} {new : σ → List (Nat × Obj)} {d : Nat} {f : FuncId} {xs : List Operand} {ts : Array TypeId} {vs : List Value} (front : List (Nat × Obj)) (hd : Nat.blt d n = true) (hdst : o.dst = some d) (hg : wantE ops e o.guard = some true) (h : o.op = .call ⟨.value (.func f), xs.toArray, ts⟩)
    (hcf : ∀ args w, (callFunc f args).run P w = .ok (.enter f args) w) (hx : opds e xs = some vs)
    (hc : ∀ w, Own B w0 (front ++ hs) w → Calls P f vs.toArray w fun en w' => ∃ s, en = .returned (v s) ∧ ok s ∧ Own B w0 (new s ++ (front ++ hs)) w')
    (k : ∀ s, ok s → Ll P n (Own B w0 (front ++ (new s ++ hs))) ops l ((d, v s) :: e) N R X) : Ll P n (Own B w0 (front ++ hs)) ops (o :: l) e N R X :=
  Ll.call hd hdst hg h hcf hx fun w hw => (hc w hw).mono fun en w' ⟨s, h1, h2, h3⟩ => ⟨v s, h1, fun a' ha => by
    have := k s h2
    unfold Ll at this
    exact this a' w' ha (h3.perm (List.perm_append_comm_assoc _ _ _))⟩
/-- a call that turns the random source; its new blocks go behind it -/
theorem Ll.callRdL {σ : Type} {ok : σ → Nat → Prop} {v : σ → Value} {new : σ → List (Nat × Obj)} {d rp RT p : Nat} {bv : Value} {f : FuncId} {xs : List Operand} {ts : Array TypeId} {vs : List Value} (front : List (Nat × Obj)) (hd : Nat.blt d n = true) (hdst : o.dst = some d) (hg : wantE ops e o.guard = some true) (h : o.op = .call ⟨.value (.func f), xs.toArray, ts⟩)
    (hcf : ∀ args w, (callFunc f args).run P w = .ok (.enter f args) w) (hx : opds e xs = some vs)
    (hc : ∀ w, Own B w0 ((rp, .cells #[bv, .int .i64 (p : Int)] RT (0, 0)) :: (front ++ hs)) w → Calls P f vs.toArray w fun en w' => ∃ (s : σ) (p' : Nat), en = .returned (v s) ∧ ok s p' ∧ Own B w0 ((rp, .cells #[bv, .int .i64 (p' : Int)] RT (0, 0)) :: (new s ++ (front ++ hs))) w')
    (k : ∀ (s : σ) (p' : Nat), ok s p' → Ll P n (Own B w0 (front ++ ((rp, .cells #[bv, .int .i64 (p' : Int)] RT (0, 0)) :: (new s ++ hs)))) ops l ((d, v s) :: e) N R X) : Ll P n (Own B w0 (front ++ ((rp, .cells #[bv, .int .i64 (p : Int)] RT (0, 0)) :: hs))) ops (o :: l) e N R X :=
  Ll.call hd hdst hg h hcf hx fun w hw => (hc w (hw.perm (perm_back _ [_] _))).mono fun en w' ⟨s, p', h1, h2, h3⟩ => ⟨_, h1, fun a' ha => by
    have := k s p' h2
    unfold Ll at this
    exact this a' w' ha (h3.perm (((List.perm_append_comm_assoc _ _ _).cons _).trans List.perm_middle.symm))⟩
end
end Go.Wk
/-
  DRAWS: what laws ask of what is drawn. No program in sight.
-/
namespace Go.Wk
open Go.RowKit
/-- what a drawn structure is at least, a spoiled one too -/
structure St.Tame (a : St) : Prop where
  lo : -9223372036854775808 ≤ a.n
  hi : a.n ≤ 9223372036854775807
  set : a.set.length ≤ 50000
  rel : a.rel.length ≤ 50000
theorem St.Fine.tame {a : St} (h : a.Fine) : a.Tame := by
  have h1 := h.lo; have h2 := h.hi; have h3 := h.set; have h4 := h.rel
  have h5 : a.n * a.n ≤ 8 * 8 := Int.mul_le_mul h2 h2 (by omega) (by omega)
  exact ⟨by omega, by omega, by omega, by omega⟩
theorem u8s_take (L : List Int) (n : Nat) : u8s (L.take n) = (u8s L).take n := by simp [u8s, List.map_take]
theorem Bytes8.take {L : List Int} (h : Bytes8 L) (n : Nat) : Bytes8 (L.take n) := fun x hx => h x (List.mem_of_mem_take hx)
end Go.Wk
/-
  REGIONS WHOSE LOUD OPERATIONS COME UP SEVERAL AT ONCE: any number of them; paths that did the same meet again. No program in sight.
-/
namespace Go.Wk
open Go.RowKit
inductive OV where
  | done
  | take (i : Nat) (r : OV)
  | one (i : Nat) (r : OV)
  | alt (i : Nat) (r : OV) (s : OV)
def OV.heads : OV → List Nat
  | .one i _ => [i]
  | .alt i _ s => i :: s.heads
  | _ => []
section
variable {P : Program} {n : Nat} {S C : World → Prop} {N R : Act → World → Prop} {X : List (Nat × (Act → World → Prop))} {e : Env} {ops : Array Oper} {T : OV} {o : Oper} {Q : Exit → Act → World → Prop}
/-- first: is it the head of its alternatives? -/
def ovB (ops : Array Oper) : OV → Nat → Bool → Array Bool → Bool
  | .done, _, first, listed => first && (Region.ready .any ops listed).isEmpty
  | .take i r, k + 1, first, listed => first && ((Region.ready .any ops listed).contains i && (Region.free .any ops listed i && ovB ops r k true (listed.setIfInBounds i true)))
  | .one i r, k + 1, first, listed => (!first || Region.ready .any ops listed == [i]) && ovB ops r k true (listed.setIfInBounds i true)
  | .alt i r s, k + 1, first, listed => (!first || Region.ready .any ops listed == i :: s.heads) && (ovB ops r k true (listed.setIfInBounds i true) && ovB ops s (k + 1) false listed)
  | _, 0, _, _ => false
def wpOv (P : Program) (ops : Array Oper) (S : World → Prop) (Q : Exit → Act → World → Prop) : OV → Act → World → Prop
  | .done, a, w => Q .normal a w
  | .take i r, a, w => ∃ o v, ops[i]? = some o ∧ YieldsIf P ops S o v a ∧ S w ∧ wpOv P ops S Q r (a.put o.dst v) w
  | .one i r, a, w => wpOp P ops Q i (fun a' w' => S w' ∧ wpOv P ops S Q r a' w') a w
  | .alt i r s, a, w => wpOp P ops Q i (fun a' w' => S w' ∧ wpOv P ops S Q r a' w') a w ∧ wpOv P ops S Q s a w
theorem wpAnyH_ov (hs : Region.noSelect ops = true) (hQ : ∀ c a w, ¬ Q (.panic c) a w) : ∀ (T : OV) (k : Nat) (listed : Array Bool) (a : Act) (w : World),
    (ovB ops T k true listed = true → wpOv P ops S Q T a w → wpAnyH P .any ops Q S k listed a w) ∧
    (∀ k', k = k' + 1 → ovB ops T k false listed = true → wpOv P ops S Q T a w → ∀ j ∈ T.heads, wpOp P ops Q j (fun a' w' => S w' ∧ wpAnyH P .any ops Q S k' (listed.setIfInBounds j true) a' w') a w)
  | .done, k, listed, a, w => ⟨fun hB h => by
      cases k <;> (simp only [ovB, Bool.true_and] at hB; exact wpAnyH_done (List.isEmpty_iff.1 hB) h _), fun k' hk hB h j hj => by cases hj⟩
  | .take i r, 0, listed, a, w => ⟨fun hB h => by simp [ovB] at hB, fun k' hk => by cases hk⟩
  | .take i r, k + 1, listed, a, w => ⟨fun hB h => by
      simp only [ovB, Bool.true_and, Bool.and_eq_true] at hB
      obtain ⟨o, v, hi, hy, hS, hr⟩ := h
      exact wpAnyH_take hi hs hB.2.1 hB.1 (fun c a w hq => absurd hq (hQ _ _ _)) hy hS ((wpAnyH_ov hs hQ r k _ _ _).1 hB.2.2 hr), fun k' hk hB h j hj => by cases hj⟩
  | .one i r, 0, listed, a, w => ⟨fun hB h => by simp [ovB] at hB, fun k' hk => by cases hk⟩
  | .one i r, k + 1, listed, a, w => ⟨fun hB h => by
      simp only [ovB, Bool.not_true, Bool.false_or, Bool.and_eq_true, beq_iff_eq] at hB
      refine wpAnyH_all hB.1 (by simp) fun j hj => ?_
      obtain rfl : j = i := by simpa using hj
      exact wpOp_mono (fun a' w' ⟨h1, h2⟩ => ⟨h1, (wpAnyH_ov hs hQ r k _ _ _).1 hB.2 h2⟩) h, fun k' hk hB h j hj => by
      obtain rfl : k = k' := by omega
      simp only [ovB, Bool.not_false, Bool.true_or, Bool.true_and] at hB
      obtain rfl : j = i := by simpa [OV.heads] using hj
      exact wpOp_mono (fun a' w' ⟨h1, h2⟩ => ⟨h1, (wpAnyH_ov hs hQ r k _ _ _).1 hB h2⟩) h⟩
  | .alt i r s, 0, listed, a, w => ⟨fun hB h => by simp [ovB] at hB, fun k' hk => by cases hk⟩
  | .alt i r s, k + 1, listed, a, w => by
    have key : ∀ k', k + 1 = k' + 1 → (ovB ops r k true (listed.setIfInBounds i true) = true ∧ ovB ops s (k + 1) false listed = true) → wpOv P ops S Q (.alt i r s) a w → ∀ j ∈ i :: s.heads, wpOp P ops Q j (fun a' w' => S w' ∧ wpAnyH P .any ops Q S k' (listed.setIfInBounds j true) a' w') a w := fun k' hk hB h j hj => by
      obtain rfl : k = k' := by omega
      rcases List.mem_cons.1 hj with rfl | hj
      · exact wpOp_mono (fun a' w' ⟨h1, h2⟩ => ⟨h1, (wpAnyH_ov hs hQ r k _ _ _).1 hB.1 h2⟩) h.1
      · exact (wpAnyH_ov hs hQ s (k + 1) listed a w).2 k rfl hB.2 h.2 j hj
    exact ⟨fun hB h => by
      simp only [ovB, Bool.not_true, Bool.false_or, Bool.and_eq_true, beq_iff_eq] at hB
      exact wpAnyH_all hB.1 (by simp) fun j hj => key k rfl hB.2 h j hj, fun k' hk hB h j hj => by
      simp only [ovB, Bool.not_false, Bool.true_or, Bool.true_and, Bool.and_eq_true] at hB
      exact key k' hk hB h j hj⟩
def ovOk (ops : Array Oper) (T : OV) : Bool := Region.noSelect ops && ovB ops T ops.size true (Array.replicate ops.size false)
/-! the check, place by place -/
def regOps (id : Nat) : Code → Array Oper
  | .region i ops _ => if i = id then ops else #[]
  | .seq a b => if (regOps id a).isEmpty then regOps id b else regOps id a
  | .cond _ a b => if (regOps id a).isEmpty then regOps id b else regOps id a
  | .block _ c => regOps id c
  | .loop c => regOps id c
  | _ => #[]
def opsOf (id : Nat) : Option Code → Array Oper
  | some c => regOps id c
  | none => #[]
theorem ovB_done {k : Nat} {l : Array Bool} (h : (Region.ready .any ops l).isEmpty = true) : ovB ops .done k true l = true := by unfold ovB; rw [h]; rfl
theorem ovB_take {i k : Nat} {r : OV} {l : Array Bool} (h : ((Region.ready .any ops l).contains i && Region.free .any ops l i) = true) (h1 : ovB ops r k true (l.setIfInBounds i true) = true) : ovB ops (.take i r) (k + 1) true l = true := by
  simp only [Bool.and_eq_true] at h
  unfold ovB; rw [h.1, h.2, h1]; rfl
theorem ovB_one {i k : Nat} {r : OV} {l : Array Bool} (h : (Region.ready .any ops l == [i]) = true) (h1 : ovB ops r k true (l.setIfInBounds i true) = true) : ovB ops (.one i r) (k + 1) true l = true := by
  unfold ovB; rw [h, h1]; rfl
theorem ovB_last {i k : Nat} {r : OV} {l : Array Bool} (h1 : ovB ops r k true (l.setIfInBounds i true) = true) : ovB ops (.one i r) (k + 1) false l = true := by
  unfold ovB; rw [h1]; rfl
theorem ovB_alt {i k : Nat} {r s : OV} {l : Array Bool} (h : (Region.ready .any ops l == i :: s.heads) = true) (h1 : ovB ops r k true (l.setIfInBounds i true) = true) (h2 : ovB ops s (k + 1) false l = true) : ovB ops (.alt i r s) (k + 1) true l = true := by
  unfold ovB; rw [h, h1, h2]; rfl
theorem ovB_next {i k : Nat} {r s : OV} {l : Array Bool} (h1 : ovB ops r k true (l.setIfInBounds i true) = true) (h2 : ovB ops s (k + 1) false l = true) : ovB ops (.alt i r s) (k + 1) false l = true := by
  unfold ovB; rw [h1, h2]; rfl
theorem ovB_at {k : Nat} {T : OV} {l l' : Array Bool} (h : l = l') (h1 : ovB ops T k true l' = true) : ovB ops T k true l = true := by rw [h]; exact h1
theorem ovOk_at {ops' : Array Oper} {T : OV} {k : Nat} {l : Array Bool} (h : ops = ops') (hn : Region.noSelect ops' = true) (hk : ops'.size = k) (hl : Array.replicate k false = l) (hB : ovB ops' T k true l = true) : ovOk ops T = true := by
  subst h
  unfold ovOk
  rw [hn, hk, hl, hB]; rfl
/-- the walk in those orders -/
def Lv (P : Program) (n : Nat) (S C : World → Prop) (ops : Array Oper) (T : OV) (e : Env) (N R : Act → World → Prop) (X : List (Nat × (Act → World → Prop))) : Prop :=
  ∀ a w, Fits n a e → C w → wpOv P ops S (post N R X) T a w
def Wv (P : Program) (S : World → Prop) (ops : Array Oper) (T : OV) (N R : Act → World → Prop) (X : List (Nat × (Act → World → Prop))) : Act → World → Prop :=
  fun a w => S w ∧ wpOv P ops S (post N R X) T a w
theorem Wk.regionV {id : Nat} (T : OV) (hm : P.follows .mixedOrders = true) (hd : ∀ w, C w → C { w with drawn := w.drawn + 1 }) (hB : ovOk ops T = true) (h : Lv P n S C ops T e N R X) :
    Wk P n C (.region id ops true) N R X e := by
  unfold Wk
  unfold Lv at h
  intro a w hf hc
  simp only [ovOk, Bool.and_eq_true] at hB
  refine wp_region_held (S := S) hm ?_
  exact (wpAnyH_ov hB.1 (fun c a w h => h) T _ _ _ _).1 hB.2 (h a _ hf (hd w hc))
theorem Lv.nil (h : Kt n C e N) : Lv P n S C ops .done e N R X := by
  unfold Kt at h
  exact fun a w hf hc => h a w hf hc
theorem Lv.take {i d : Nat} {v : Value} (hi : ops[i]? = some o) (hd : Nat.blt d n = true) (hdst : o.dst = some d) (hg : wantE ops e o.guard = some true) (hv : valueOp o = true) (q : OpQ P n S e o v) (hS : ∀ w, C w → S w)
    (k : Lv P n S C ops T ((d, v) :: e) N R X) : Lv P n S C ops (.take i T) e N R X := by
  intro a w hf hc
  refine ⟨o, v, hi, .inl ⟨wantE_spec hf hg, fun w1 hw1 => ?_⟩, hS w hc, ?_⟩
  · unfold OpQ at q
    have h1 := q a hf w1 hw1
    unfold Oper.quietAt at h1
    cases hr : (execOp a.eval o).run P w1 with
    | ok x w' =>
      obtain ⟨u, rfl⟩ := valueOp_run hv hr
      rw [hr] at h1
      obtain ⟨rfl, rfl⟩ := h1
      rfl
    | halt x w' => rw [hr] at h1; exact h1.elim
  · rw [hdst]
    exact k _ _ (hf.put (by simpa using hd) v) hc
theorem Lv.pass {i d : Nat} (hi : ops[i]? = some o) (hd : Nat.blt d n = true) (hdst : o.dst = some d) (hg : wantE ops e o.guard = some false) (hS : ∀ w, C w → S w)
    (k : Lv P n S C ops T ((d, undef) :: e) N R X) : Lv P n S C ops (.take i T) e N R X := by
  intro a w hf hc
  refine ⟨o, undef, hi, .inr ⟨wantE_spec hf hg, rfl⟩, hS w hc, ?_⟩
  rw [hdst]
  exact k _ _ (hf.put (by simpa using hd) undef) hc
theorem Lv.bool {d : Nat} {B : Bool} (h : ∀ b, B = b → Lv P n S C ops T ((d, .bool b) :: e) N R X) : Lv P n S C ops T ((d, .bool B) :: e) N R X := h B rfl
theorem Lv.joint (hS : ∀ w, C w → S w) (h : Lv P n S C ops T e N R X) : Kt n C e (Wv P S ops T N R X) := by
  unfold Kt
  exact fun a w hf hc => ⟨hS w hc, h a w hf hc⟩
theorem Lv.op {i : Nat} (hi : ops[i]? = some o) (h : Ll P n C ops [o] e (Wv P S ops T N R X) R X) (a : Act) (w : World) (hf : Fits n a e) (hc : C w) :
    wpOp P ops (post N R X) i (fun a' w' => S w' ∧ wpOv P ops S (post N R X) T a' w') a w := by
  unfold Ll at h
  have h1 := h a w hf hc
  unfold wpList at h1
  unfold wpOp
  simp only [hi]
  split
  · rename_i hw
    rw [if_pos hw] at h1
    rcases h1 with h1 | ⟨h1, h2⟩
    · exact .inl (Oper.wp_post (fun a' w' hk => hk) h1)
    · exact .inr ⟨h1, h2⟩
  · rename_i hw
    rw [if_neg hw] at h1
    exact h1
theorem Lv.loud {i : Nat} (hi : ops[i]? = some o) (h : Ll P n C ops [o] e (Wv P S ops T N R X) R X) : Lv P n S C ops (.one i T) e N R X := fun a w hf hc => Lv.op hi h a w hf hc
theorem Lv.alt {i : Nat} {T' : OV} (hi : ops[i]? = some o) (h : Ll P n C ops [o] e (Wv P S ops T N R X) R X) (h' : Lv P n S C ops T' e N R X) : Lv P n S C ops (.alt i T T') e N R X :=
  fun a w hf hc => ⟨Lv.op hi h a w hf hc, h' a w hf hc⟩
/-- a place that several paths reach is walked from once -/
theorem Lv.share {σ : Type} (T' : OV) (ok : σ → Prop) (I : σ → Env) (D : σ → World → Prop) (h : ∀ s, ok s → Lv P n S (D s) ops T' (I s) N R X)
    (k : (∀ s, ok s → Lv P n S (D s) ops T' (I s) N R X) → Lv P n S C ops T e N R X) : Lv P n S C ops T e N R X := k h
theorem Lv.to {e' : Env} {D : World → Prop} (h : Lv P n S D ops T e' N R X) (hs : Sub e' e) (hc : ∀ w, C w → D w) : Lv P n S C ops T e N R X :=
  fun a w hf hw => h a w (hf.sub hs) (hc w hw)
/-- operations that their guard leaves out, in whatever order, up to a place -/
def OV.same : OV → OV → Bool
  | .done, .done => true
  | .take i r, .take j t => i == j && r.same t
  | .one i r, .one j t => i == j && r.same t
  | .alt i r s, .alt j t u => i == j && (r.same t && s.same u)
  | _, _ => false
theorem OV.same_eq : ∀ {T T' : OV}, T.same T' = true → T = T'
  | .done, .done, _ => rfl
  | .take i r, .take j t, h => by simp only [OV.same, Bool.and_eq_true, beq_iff_eq] at h; rw [h.1, OV.same_eq h.2]
  | .one i r, .one j t, h => by simp only [OV.same, Bool.and_eq_true, beq_iff_eq] at h; rw [h.1, OV.same_eq h.2]
  | .alt i r s, .alt j t u, h => by simp only [OV.same, Bool.and_eq_true, beq_iff_eq] at h; rw [h.1, OV.same_eq h.2.1, OV.same_eq h.2.2]
  | .done, .take .., h | .done, .one .., h | .done, .alt .., h | .take .., .done, h | .take .., .one .., h | .take .., .alt .., h | .one .., .done, h | .one .., .take .., h | .one .., .alt .., h | .alt .., .done, h | .alt .., .take .., h | .alt .., .one .., h => by simp [OV.same] at h
def leftB (n : Nat) (ops : Array Oper) (e : Env) (i : Nat) : Bool :=
  match ops[i]? with
  | some o => (wantE ops e o.guard == some false) && (match o.dst with | some d => Nat.blt d n && (e.lookup d).isNone | none => false)
  | none => false
def leftTo (n : Nat) (ops : Array Oper) (e : Env) (T' : OV) : OV → Bool
  | .done => OV.same .done T'
  | .take i r => OV.same (.take i r) T' || (leftB n ops e i && leftTo n ops e T' r)
  | .one i r => OV.same (.one i r) T' || (leftB n ops e i && leftTo n ops e T' r)
  | .alt i r s => OV.same (.alt i r s) T' || (leftB n ops e i && (leftTo n ops e T' r && leftTo n ops e T' s))
theorem leftB_at {i : Nat} (h : leftB n ops e i = true) : ∃ o d, ops[i]? = some o ∧ wantE ops e o.guard = some false ∧ o.dst = some d ∧ Nat.blt d n = true ∧ e.lookup d = none := by
  unfold leftB at h
  cases ho : ops[i]? with
  | none => rw [ho] at h; cases h
  | some o =>
    rw [ho] at h
    simp only [Bool.and_eq_true, beq_iff_eq] at h
    cases hd : o.dst with
    | none => rw [hd] at h; exact absurd h.2 (by simp)
    | some d =>
      rw [hd] at h
      simp only [Bool.and_eq_true, Option.isNone_iff_eq_none] at h
      exact ⟨o, d, rfl, h.1, hd, h.2.1, h.2.2⟩
theorem sub_new {d : Nat} {v : Value} (h : e.lookup d = none) : Sub e ((d, v) :: e) := fun t u ht => by
  rw [List.lookup_cons]
  by_cases h1 : t = d
  · subst h1; rw [h] at ht; cases ht
  · simp [beq_eq_false_iff_ne.2 h1, ht]
theorem Lv.left_ (T' : OV) (hS : ∀ w, C w → S w) (k : Lv P n S C ops T' e N R X) : ∀ T : OV, leftTo n ops e T' T = true → Lv P n S C ops T e N R X
  | .done, h => by unfold leftTo at h; rw [OV.same_eq h]; exact k
  | .take i r, h => by
    simp only [leftTo, Bool.or_eq_true, Bool.and_eq_true] at h
    rcases h with h | h
    · rw [OV.same_eq h]; exact k
    · obtain ⟨o, d, hi, hg, hd, hb, hn⟩ := leftB_at h.1
      exact Lv.pass hi hb hd hg hS ((Lv.left_ T' hS k r h.2).to (sub_new hn) (fun _ h => h))
  | .one i r, h => by
    simp only [leftTo, Bool.or_eq_true, Bool.and_eq_true] at h
    rcases h with h | h
    · rw [OV.same_eq h]; exact k
    · obtain ⟨o, d, hi, hg, hd, hb, hn⟩ := leftB_at h.1
      exact Lv.loud hi (Ll.pass hb hd hg (Ll.nil (Lv.joint hS ((Lv.left_ T' hS k r h.2).to (sub_new hn) (fun _ h => h)))))
  | .alt i r s, h => by
    simp only [leftTo, Bool.or_eq_true, Bool.and_eq_true] at h
    rcases h with h | h
    · rw [OV.same_eq h]; exact k
    · obtain ⟨o, d, hi, hg, hd, hb, hn⟩ := leftB_at h.1
      exact Lv.alt hi (Ll.pass hb hd hg (Ll.nil (Lv.joint hS ((Lv.left_ T' hS k r h.2.1).to (sub_new hn) (fun _ h => h))))) (Lv.left_ T' hS k s h.2.2)
theorem Lv.left {T : OV} (T' : OV) (h : leftTo n ops e T' T = true) (hS : ∀ w, C w → S w) (k : Lv P n S C ops T' e N R X) : Lv P n S C ops T e N R X := Lv.left_ T' hS k T h
attribute [irreducible] Lv Wv
end
section
variable {B : Nat} {w0 w : World} {hs hs' tl : List (Nat × Obj)}
theorem Own.pickT (h : Own B w0 (hs ++ tl) w) (f : List Nat) (hf : f.mapM (fun j => hs[j]?) = some hs') (hn : f.Nodup) : Own B w0 (hs' ++ tl) w := by
  have h1 : Own B w0 hs w := h.sub (List.sublist_append_left hs tl)
  have h2 := h1.pick f hf hn
  have hm : ∀ x ∈ hs', x ∈ hs := fun x hx => by
    obtain ⟨i, hi, hx⟩ := List.mem_iff_getElem.1 hx
    obtain ⟨k, _, hk⟩ := pick_at f hs' hf i _ (by rw [List.getElem?_eq_getElem hi])
    rw [hx] at hk
    exact List.mem_of_getElem? hk
  have h3 := h.nodup
  rw [List.map_append, List.nodup_append] at h3
  refine Own.of_mem h.below h.base (fun x hx => h.mem ?_) ?_
  · rcases List.mem_append.1 hx with hx | hx
    · exact List.mem_append_left _ (hm x hx)
    · exact List.mem_append_right _ hx
  · rw [List.map_append, List.nodup_append]
    refine ⟨h2.nodup, h3.2.1, fun a ha b hb => ?_⟩
    obtain ⟨x, hx, rfl⟩ := List.mem_map.1 ha
    exact h3.2.2 _ (List.mem_map.2 ⟨x, hm x hx, rfl⟩) b hb
end
end Go.Wk
/-
  STEPS IN ONE: operations that only turn known values into known values are run in a row; the slots that are still read are kept by their numbers. No program in sight.
-/
namespace Go.Wk
open Go.RowKit
def selE : List Nat → Env → Env
  | [], _ => []
  | t :: ts, e => match e.lookup t with
    | some v => (t, v) :: selE ts e
    | none => selE ts e
theorem selE_sub : ∀ (ts : List Nat) (e : Env), Sub (selE ts e) e
  | [], _ => Sub.nil
  | t :: ts, e => by
    unfold selE
    split
    · rename_i v h; exact Sub.cons h (selE_sub ts e)
    · exact selE_sub ts e
def evq (e : Env) : Op → Option Value
  | .move x => opd e x
  | .assign x => opd e x
  | .extract x k => match opd e x with
    | some (.tuple vs) => vs.toList[k]?
    | _ => none
  | .pick c x y => match opd e c with
    | some (.bool true) => opd e x
    | some (.bool false) => opd e y
    | _ => none
  | .unOp .not _ x => match opd e x with
    | some (.bool b) => some (.bool (!b))
    | _ => none
  | .binOp r _ x y _ => match opd e x, opd e y with
    | some (.int k i), some (.int k' j) => if k = k' then (match r with
      | .lss => some (.bool (decide (i < j)))
      | .leq => some (.bool (decide (i ≤ j)))
      | .gtr => some (.bool (decide (j < i)))
      | .geq => some (.bool (decide (j ≤ i)))
      | .eql => some (.bool (decide (i = j)))
      | .neq => some (.bool (!decide (i = j)))
      | _ => none) else none
    | _, _ => none
  | _ => none
section
variable {P : Program} {n : Nat} {S C : World → Prop} {N R : Act → World → Prop} {X : List (Nat × (Act → World → Prop))} {e e' : Env} {ops : Array Oper} {l l' : List Oper} {o : Oper}
theorem Kt.sel (ts : List Nat) (e' : Env) {c : Code} (h : selE ts e = e') (k : Wk P n C c N R X e') : Kt n C e (Cn P c N R X) := by
  subst h
  exact Kt.onSub (selE_sub ts e) k
theorem Sub.sel (ts : List Nat) (h : selE ts e = e') : Sub e' e := by
  subst h
  exact selE_sub ts e
theorem evq_ok {v : Value} (h : evq e o.op = some v) : OpQ P n C e o v := by
  cases ho : o.op with
  | move x => rw [ho] at h; exact OpQ.move ho h
  | assign x => rw [ho] at h; exact OpQ.assign ho h
  | extract x k =>
    rw [ho] at h
    simp only [evq] at h
    split at h
    · rename_i vs hx; exact OpQ.extract ho hx (by simpa using h)
    · cases h
  | pick c x y =>
    rw [ho] at h
    simp only [evq] at h
    split at h
    · rename_i hc; exact OpQ.pickT ho hc h
    · rename_i hc; exact OpQ.pickF ho hc h
    · cases h
  | unOp r t x =>
    rw [ho] at h
    cases r <;> simp only [evq] at h <;> first | (cases h; done) | skip
    split at h
    · rename_i b hx; injection h with h; subst h; exact OpQ.not ho hx
    · cases h
  | binOp r t x y t' =>
    rw [ho] at h
    simp only [evq] at h
    split at h
    · rename_i k i k' j hx hy
      split at h
      · rename_i hk
        subst hk
        cases r <;> simp only [Option.some.injEq, reduceCtorEq] at h
        all_goals subst h
        all_goals first | exact OpQ.lss ho hx hy | exact OpQ.leq ho hx hy | exact OpQ.gtr ho hx hy | exact OpQ.geq ho hx hy | exact OpQ.eql ho hx hy | exact OpQ.neq ho hx hy
      · cases h
    · cases h
  | _ => rw [ho] at h; simp [evq] at h
/-- one operation: the slot, its value -/
def stq (n : Nat) (ops : Array Oper) (o : Oper) (e : Env) : Option (Nat × Value) := match o.dst with
  | some d => match Nat.blt d n with
    | true => match wantE ops e o.guard with
      | some true => match evq e o.op with
        | some v => some (d, v)
        | none => none
      | some false => some (d, undef)
      | none => none
    | false => none
  | none => none
theorem stq_ok {d : Nat} {v : Value} (h : stq n ops o e = some (d, v)) : o.dst = some d ∧ Nat.blt d n = true ∧ ((wantE ops e o.guard = some true ∧ evq e o.op = some v) ∨ (wantE ops e o.guard = some false ∧ v = undef)) := by
  unfold stq at h
  split at h
  · rename_i d' hd
    split at h
    · rename_i hb
      split at h
      · rename_i hw
        split at h
        · rename_i v' hv
          simp only [Option.some.injEq, Prod.mk.injEq] at h
          obtain ⟨rfl, rfl⟩ := h
          exact ⟨hd, hb, .inl ⟨hw, hv⟩⟩
        · cases h
      · rename_i hw
        simp only [Option.some.injEq, Prod.mk.injEq] at h
        obtain ⟨rfl, rfl⟩ := h
        exact ⟨hd, hb, .inr ⟨hw, rfl⟩⟩
      · cases h
    · cases h
  · cases h
def runQ (n : Nat) (ops : Array Oper) : Nat → List Oper → Env → Option (List Oper × Env)
  | 0, l, e => some (l, e)
  | _ + 1, [], _ => none
  | k + 1, o :: l, e => match stq n ops o e with
    | some x => runQ n ops k l (x :: e)
    | none => none
theorem Lq.run_ : ∀ (k : Nat) (l : List Oper) (e : Env), runQ n ops k l e = some (l', e') → Lq P n C ops l' e' N → Lq P n C ops l e N
  | 0, l, e, h, K => by
    unfold runQ at h
    simp only [Option.some.injEq, Prod.mk.injEq] at h
    obtain ⟨rfl, rfl⟩ := h
    exact K
  | k + 1, [], e, h, K => by unfold runQ at h; cases h
  | k + 1, o :: l, e, h, K => by
    unfold runQ at h
    split at h
    · rename_i x hx
      obtain ⟨d, v⟩ := x
      obtain ⟨h1, h2, ⟨h3, h4⟩ | ⟨h3, rfl⟩⟩ := stq_ok hx
      · exact Lq.op h2 h1 h3 (evq_ok h4) (Lq.run_ k l _ h K)
      · exact Lq.pass h2 h1 h3 (Lq.run_ k l _ h K)
    · cases h
theorem Lq.run (k : Nat) (h : runQ n ops k l e = some (l', e')) (K : Lq P n C ops l' e' N) : Lq P n C ops l e N := Lq.run_ k l e h K
theorem Ll.run_ : ∀ (k : Nat) (l : List Oper) (e : Env), runQ n ops k l e = some (l', e') → Ll P n C ops l' e' N R X → Ll P n C ops l e N R X
  | 0, l, e, h, K => by
    unfold runQ at h
    simp only [Option.some.injEq, Prod.mk.injEq] at h
    obtain ⟨rfl, rfl⟩ := h
    exact K
  | k + 1, [], e, h, K => by unfold runQ at h; cases h
  | k + 1, o :: l, e, h, K => by
    unfold runQ at h
    split at h
    · rename_i x hx
      obtain ⟨d, v⟩ := x
      obtain ⟨h1, h2, ⟨h3, h4⟩ | ⟨h3, rfl⟩⟩ := stq_ok hx
      · exact Ll.op h2 h1 h3 (evq_ok h4) (Ll.run_ k l _ h K)
      · exact Ll.pass h2 h1 h3 (Ll.run_ k l _ h K)
    · cases h
theorem Ll.run (k : Nat) (h : runQ n ops k l e = some (l', e')) (K : Ll P n C ops l' e' N R X) : Ll P n C ops l e N R X := Ll.run_ k l e h K
theorem evq_value {v : Value} (h : evq e o.op = some v) : valueOp o = true := by
  unfold valueOp
  cases ho : o.op <;> rw [ho] at h <;> first | rfl | (simp [evq] at h; done)
/-! ### in an order of one's own -/
def runV (n : Nat) (ops : Array Oper) : Nat → OV → Env → Option (OV × Env)
  | 0, T, e => some (T, e)
  | k + 1, .take i T, e => match ops[i]? with
    | some o => match stq n ops o e with
      | some x => runV n ops k T (x :: e)
      | none => none
    | none => none
  | _ + 1, _, _ => none
theorem Lv.run_ (hS : ∀ w, C w → S w) {T' : OV} : ∀ (k : Nat) (T : OV) (e : Env), runV n ops k T e = some (T', e') → Lv P n S C ops T' e' N R X → Lv P n S C ops T e N R X
  | 0, T, e, h, K => by
    unfold runV at h
    simp only [Option.some.injEq, Prod.mk.injEq] at h
    obtain ⟨rfl, rfl⟩ := h
    exact K
  | k + 1, T, e, h, K => by
    unfold runV at h
    split at h
    · contradiction
    · rename_i hk
      injection hk with hk
      subst hk
      split at h
      · rename_i hi
        split at h
        · rename_i x hx
          obtain ⟨d, v⟩ := x
          obtain ⟨h1, h2, ⟨h3, h4⟩ | ⟨h3, rfl⟩⟩ := stq_ok hx
          · exact Lv.take hi h2 h1 h3 (evq_value h4) (evq_ok h4) hS (Lv.run_ hS _ _ _ h K)
          · exact Lv.pass hi h2 h1 h3 hS (Lv.run_ hS _ _ _ h K)
        · cases h
      · cases h
    · cases h
theorem Lv.run (k : Nat) {T T' : OV} (h : runV n ops k T e = some (T', e')) (hS : ∀ w, C w → S w) (K : Lv P n S C ops T' e' N R X) : Lv P n S C ops T e N R X := Lv.run_ hS k T e h K
def runU (n : Nat) (ops : Array Oper) : Nat → OU → Env → Option (OU × Env)
  | 0, T, e => some (T, e)
  | k + 1, .take i T, e => match ops[i]? with
    | some o => match stq n ops o e with
      | some x => runU n ops k T (x :: e)
      | none => none
    | none => none
  | _ + 1, _, _ => none
theorem Lu.run_ (hS : ∀ w, C w → S w) {T' : OU} : ∀ (k : Nat) (T : OU) (e : Env), runU n ops k T e = some (T', e') → Lu P n S C ops T' e' N R X → Lu P n S C ops T e N R X
  | 0, T, e, h, K => by
    unfold runU at h
    simp only [Option.some.injEq, Prod.mk.injEq] at h
    obtain ⟨rfl, rfl⟩ := h
    exact K
  | k + 1, T, e, h, K => by
    unfold runU at h
    split at h
    · contradiction
    · rename_i hk
      injection hk with hk
      subst hk
      split at h
      · rename_i hi
        split at h
        · rename_i x hx
          obtain ⟨d, v⟩ := x
          obtain ⟨h1, h2, ⟨h3, h4⟩ | ⟨h3, rfl⟩⟩ := stq_ok hx
          · exact Lu.take hi h2 h1 h3 (evq_value h4) (evq_ok h4) hS (Lu.run_ hS _ _ _ h K)
          · exact Lu.pass hi h2 h1 h3 hS (Lu.run_ hS _ _ _ h K)
        · cases h
      · cases h
    · cases h
theorem Lu.run (k : Nat) {T T' : OU} (h : runU n ops k T e = some (T', e')) (hS : ∀ w, C w → S w) (K : Lu P n S C ops T' e' N R X) : Lu P n S C ops T e N R X := Lu.run_ hS k T e h K
def runT (n : Nat) (ops : Array Oper) : Nat → OT → Env → Option (OT × Env)
  | 0, T, e => some (T, e)
  | k + 1, .take i T, e => match ops[i]? with
    | some o => match stq n ops o e with
      | some x => runT n ops k T (x :: e)
      | none => none
    | none => none
  | _ + 1, _, _ => none
theorem Lt.run_ (hS : ∀ w, C w → S w) {T' : OT} : ∀ (k : Nat) (T : OT) (e : Env), runT n ops k T e = some (T', e') → Lt P n S C ops T' e' N R X → Lt P n S C ops T e N R X
  | 0, T, e, h, K => by
    unfold runT at h
    simp only [Option.some.injEq, Prod.mk.injEq] at h
    obtain ⟨rfl, rfl⟩ := h
    exact K
  | k + 1, T, e, h, K => by
    unfold runT at h
    split at h
    · contradiction
    · rename_i hk
      injection hk with hk
      subst hk
      split at h
      · rename_i hi
        split at h
        · rename_i x hx
          obtain ⟨d, v⟩ := x
          obtain ⟨h1, h2, ⟨h3, h4⟩ | ⟨h3, rfl⟩⟩ := stq_ok hx
          · exact Lt.take hi h2 h1 h3 (evq_value h4) (evq_ok h4) hS (Lt.run_ hS _ _ _ h K)
          · exact Lt.pass hi h2 h1 h3 hS (Lt.run_ hS _ _ _ h K)
        · cases h
      · cases h
    · cases h
theorem Lt.run (k : Nat) {T T' : OT} (h : runT n ops k T e = some (T', e')) (hS : ∀ w, C w → S w) (K : Lt P n S C ops T' e' N R X) : Lt P n S C ops T e N R X := Lt.run_ hS k T e h K
def runD (n : Nat) (ops : Array Oper) : Nat → List (Nat × Bool) → Env → Option (List (Nat × Bool) × Env)
  | 0, T, e => some (T, e)
  | k + 1, (i, true) :: T, e => match ops[i]? with
    | some o => match stq n ops o e with
      | some x => runD n ops k T (x :: e)
      | none => none
    | none => none
  | _ + 1, _, _ => none
theorem Ld.run_ (hS : ∀ w, C w → S w) {T' : List (Nat × Bool)} : ∀ (k : Nat) (T : List (Nat × Bool)) (e : Env), runD n ops k T e = some (T', e') → Ld P n S C ops T' e' N R X → Ld P n S C ops T e N R X
  | 0, T, e, h, K => by
    unfold runD at h
    simp only [Option.some.injEq, Prod.mk.injEq] at h
    obtain ⟨rfl, rfl⟩ := h
    exact K
  | k + 1, T, e, h, K => by
    unfold runD at h
    split at h
    · contradiction
    · rename_i hk
      injection hk with hk
      subst hk
      split at h
      · rename_i hi
        split at h
        · rename_i x hx
          obtain ⟨d, v⟩ := x
          obtain ⟨h1, h2, ⟨h3, h4⟩ | ⟨h3, rfl⟩⟩ := stq_ok hx
          · exact Ld.take hi h2 h1 h3 (evq_value h4) (evq_ok h4) hS (Ld.run_ hS _ _ _ h K)
          · exact Ld.pass hi h2 h1 h3 hS (Ld.run_ hS _ _ _ h K)
        · cases h
      · cases h
    · cases h
theorem Ld.run (k : Nat) {T T' : List (Nat × Bool)} (h : runD n ops k T e = some (T', e')) (hS : ∀ w, C w → S w) (K : Ld P n S C ops T' e' N R X) : Ld P n S C ops T e N R X := Ld.run_ hS k T e h K
end
section
variable {B : Nat} {w0 : World} {hs hs' : List (Nat × Obj)}
def ndB : List Nat → Bool
  | [] => true
  | x :: l => !l.contains x && ndB l
theorem ndB_ok : ∀ {l : List Nat}, ndB l = true → l.Nodup
  | [], _ => List.nodup_nil
  | x :: l, h => by
    simp only [ndB, Bool.and_eq_true, Bool.not_eq_true', List.contains_eq_mem, decide_eq_false_iff_not] at h
    exact List.nodup_cons.2 ⟨h.1, ndB_ok h.2⟩
theorem pk (f : List Nat) (hf : f.mapM (fun j => hs[j]?) = some hs') (hn : ndB f = true) (w : World) (h : Own B w0 hs w) : Own B w0 hs' w := h.pick f hf (ndB_ok hn)
end
end Go.Wk
