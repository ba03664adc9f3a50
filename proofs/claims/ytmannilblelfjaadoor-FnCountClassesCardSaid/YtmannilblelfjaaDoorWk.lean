/-
  THE CALCULUS OF ENVIRONMENTS: a walk whose goals bear, in the place of the whole frame, the list of the slots that are known, and in the place of the world a class of worlds. Over any program.
-/
import Derived.WalkKit
import Derived.Deep.Quiet
import Derived.Deep.LoopGhost
import Derived.Laws.CopyOwn
import Derived.KernelRfl
namespace Go.Wk
open Go.RowKit

abbrev Env := List (Nat × Value)
def opd (e : Env) : Operand → Option Value
  | .tmp t => e.lookup t
  | .const v => some v
  | .global g => some (.pointer (some ⟨g, 0, none⟩))
  | .func f => some (.func (.func f) #[] #[])

structure Fits (n : Nat) (a : Act) (e : Env) : Prop where
  defers : a.defers = []
  size : a.tmps.size = n
  slot : ∀ t v, e.lookup t = some v → a.tmps[t]? = some v

theorem Fits.opd {n : Nat} {a : Act} {e : Env} {x : Operand} {v : Value} (h : Fits n a e) (hx : opd e x = some v) : a.eval x = v := by
  cases x with
  | tmp t => have := h.slot t v hx; simp [Act.eval, Array.getD_eq_getD_getElem?, this]
  | const u => simpa [Wk.opd, Act.eval] using hx
  | global g => simpa [Wk.opd, Act.eval] using hx
  | func f => simpa [Wk.opd, Act.eval] using hx

theorem Fits.put {n : Nat} {a : Act} {e : Env} {d : Nat} (h : Fits n a e) (hd : d < n) (v : Value) : Fits n (a.put (some d) v) ((d, v) :: e) := by
  refine ⟨h.defers, by simp [Act.put, h.size], fun t u hu => ?_⟩
  have hs := h.size
  simp only [Act.put, List.lookup_cons] at hu ⊢
  by_cases e' : t = d
  · subst e'
    simp only [beq_self_eq_true] at hu
    rw [Array.getElem?_setIfInBounds_self_of_lt (by omega)]; exact hu
  · simp only [beq_eq_false_iff_ne.2 e'] at hu
    rw [Array.getElem?_setIfInBounds_ne (Ne.symm e')]; exact h.slot t u hu

theorem Fits.drop {n : Nat} {a : Act} {e : Env} (h : Fits n a e) (v : Value) : Fits n (a.put none v) e := h

/-- e' says no more than e. -/
def Sub (e' e : Env) : Prop := ∀ t v, e'.lookup t = some v → e.lookup t = some v
theorem Sub.nil {e : Env} : Sub [] e := fun _ _ h => by cases h
theorem Sub.cons {e e' : Env} {t : Nat} {v : Value} (h : e.lookup t = some v) (k : Sub e' e) : Sub ((t, v) :: e') e := fun u x hx => by
  simp only [List.lookup_cons] at hx
  by_cases e1 : u = t
  · subst e1; simp only [beq_self_eq_true] at hx; rw [← hx]; exact h
  · simp only [beq_eq_false_iff_ne.2 e1] at hx; exact k u x hx
theorem Fits.sub {n : Nat} {a : Act} {e e' : Env} (h : Fits n a e) (k : Sub e' e) : Fits n a e' := ⟨h.defers, h.size, fun t v hv => h.slot t v (k t v hv)⟩

/-! ### what stands behind a piece of code -/
def post (N R : Act → World → Prop) (X : List (Nat × (Act → World → Prop))) : Exit → Act → World → Prop
  | .normal, a, w => N a w
  | .ret, a, w => R a w
  | .exit id, a, w => match X.lookup id with | some K => K a w | none => False
  | _, _, _ => False

def Kt (n : Nat) (C : World → Prop) (e : Env) (N : Act → World → Prop) : Prop := ∀ a w, Fits n a e → C w → N a w
def Wk (P : Program) (n : Nat) (C : World → Prop) (c : Code) (N R : Act → World → Prop) (X : List (Nat × (Act → World → Prop))) (e : Env) : Prop :=
  ∀ a w, Fits n a e → C w → c.wp P (post N R X) a w
/-- code as what stands behind -/
def Cn (P : Program) (c : Code) (N R : Act → World → Prop) (X : List (Nat × (Act → World → Prop))) : Act → World → Prop := fun a w => c.wp P (post N R X) a w

section
variable {P : Program} {n : Nat} {C : World → Prop} {N R : Act → World → Prop} {X : List (Nat × (Act → World → Prop))} {e : Env}

theorem Kt.code {c : Code} (h : Wk P n C c N R X e) : Kt n C e (Cn P c N R X) := h
theorem Kt.sub {e' : Env} (k : Sub e' e) (h : Kt n C e' N) : Kt n C e N := fun a w hf hc => h a w (hf.sub k) hc
theorem Kt.cls {C' : World → Prop} (k : ∀ w, C w → C' w) (h : Kt n C' e N) : Kt n C e N := fun a w hf hc => h a w hf (k w hc)
theorem Wk.sub {c : Code} {e' : Env} (k : Sub e' e) (h : Wk P n C c N R X e') : Wk P n C c N R X e := fun a w hf hc => h a w (hf.sub k) hc
theorem Wk.cls {c : Code} {C' : World → Prop} (k : ∀ w, C w → C' w) (h : Wk P n C' c N R X e) : Wk P n C c N R X e := fun a w hf hc => h a w hf (k w hc)

theorem Wk.seq {x y : Code} (h : Wk P n C x (Cn P y N R X) R X e) : Wk P n C (x.seq y) N R X e := fun a w hf hc =>
  wp_seq (wp_mono (h a w hf hc) fun e a w hh => by cases e <;> first | exact hh | exact hh.elim)
theorem Wk.skip (h : Kt n C e N) : Wk P n C .skip N R X e := fun a w hf hc => wp_skip (h a w hf hc)
theorem Wk.ret (h : Kt n C e R) : Wk P n C .ret N R X e := fun a w hf hc => wp_ret (h a w hf hc)
theorem Wk.exit {id : Nat} {K : Act → World → Prop} (hk : X.lookup id = some K) (h : Kt n C e K) : Wk P n C (.exit id) N R X e := fun a w hf hc =>
  wp_exit (by show match X.lookup id with | some K => K a w | none => False
              rw [hk]; exact h a w hf hc)
theorem Wk.block {id : Nat} {c : Code} (h : Wk P n C c N R ((id, N) :: X) e) : Wk P n C (.block id c) N R X e := fun a w hf hc =>
  wp_block (wp_mono (h a w hf hc) fun e a w hh => by
    cases e with
    | exit i =>
      simp only [post, List.lookup_cons] at hh
      show if i = id then _ else _
      by_cases e1 : i = id
      · subst e1; simp only [beq_self_eq_true] at hh; rw [if_pos rfl]; exact hh
      · simp only [beq_eq_false_iff_ne.2 e1] at hh; rw [if_neg e1]; exact hh
    | _ => first | exact hh | exact hh.elim)
theorem Wk.cond {c : Operand} {x y : Code} {b : Bool} (hx : opd e c = some (.bool b)) (ht : b = true → Wk P n C x N R X e) (hf : b = false → Wk P n C y N R X e) :
    Wk P n C (.cond c x y) N R X e := fun a w hF hc => wp_cond_split (hF.opd hx) (fun h => ht h a w hF hc) (fun h => hf h a w hF hc)
theorem Wk.condT {c : Operand} {x y : Code} (hx : opd e c = some (.bool true)) (ht : Wk P n C x N R X e) : Wk P n C (.cond c x y) N R X e :=
  Wk.cond hx (fun _ => ht) (fun h => by cases h)
theorem Wk.condF {c : Operand} {x y : Code} (hx : opd e c = some (.bool false)) (hf : Wk P n C y N R X e) : Wk P n C (.cond c x y) N R X e :=
  Wk.cond hx (fun h => by cases h) (fun _ => hf)

/-- what stands at a round's end -/
def Again {σ : Type} (n : Nat) (ok : σ → Prop) (I : σ → Env) (D : σ → World → Prop) (μ : σ → Nat) (m : Nat) : Act → World → Prop :=
  fun a w => ∃ s, ok s ∧ μ s < m ∧ Fits n a (I s) ∧ D s w
theorem Wk.loop {σ : Type} (ok : σ → Prop) (I : σ → Env) (D : σ → World → Prop) (μ : σ → Nat) {c : Code} (s0 : σ) (h0 : ok s0) (hs : Sub (I s0) e) (hd : ∀ w, C w → D s0 w)
    (round : ∀ s, ok s → Wk P n (D s) c (Again n ok I D μ (μ s)) R X (I s)) : Wk P n C (.loop c) N R X e := fun a w hf hc =>
  wp_loop_ghost (fun m a w => ∃ s, μ s = m ∧ ok s ∧ Fits n a (I s) ∧ D s w) (μ s0) ⟨s0, rfl, h0, hf.sub hs, hd w hc⟩ (fun m a w h => by
    obtain ⟨s, rfl, h1, h2, h3⟩ := h
    refine wp_mono (round s h1 a w h2 h3) fun e a w hh => ?_
    cases e with
    | normal => obtain ⟨s', h1, h2, h3, h4⟩ := hh; exact ⟨_, h2, s', rfl, h1, h3, h4⟩
    | _ => first | exact hh | exact hh.elim)
theorem Kt.again {σ : Type} {ok : σ → Prop} {I : σ → Env} {D : σ → World → Prop} {μ : σ → Nat} {m : Nat} (s : σ) (h0 : ok s) (hm : μ s < m) (hs : Sub (I s) e) (hd : ∀ w, C w → D s w) :
    Kt n C e (Again n ok I D μ m) := fun _ w hf hc => ⟨s, h0, hm, hf.sub hs, hd w hc⟩

/-! ### the class of worlds: what was there when the call began, and the blocks of the call's own -/
structure Own (B : Nat) (w0 : World) (hs : List (Nat × Obj)) (w : World) : Prop where
  below : Below B w0 w
  base : B ≤ w.heap.size
  has : ∀ (i p : Nat) (o : Obj), hs[i]? = some (p, o) → B ≤ p ∧ w.heap[p]? = some o
  apart : ∀ (i j p : Nat) (o : Obj) (q : Nat) (u : Obj), hs[i]? = some (p, o) → hs[j]? = some (q, u) → i ≠ j → p ≠ q

theorem Own.start (w : World) : Own w.heap.size w [] w := ⟨Below.refl _ _, Nat.le_refl _, fun i p o h => by simp at h, fun i j p o q u h => by simp at h⟩
theorem Own.calls {B : Nat} {w0 w w' : World} {hs : List (Nat × Obj)} (h : Own B w0 hs w) (hb : Below w.heap.size w w') : Own B w0 hs w' := by
  refine ⟨h.below.trans (hb.mono h.base), Nat.le_trans h.base hb.size, fun i p o hi => ?_, h.apart⟩
  obtain ⟨h1, h2⟩ := h.has i p o hi
  refine ⟨h1, ?_⟩
  rw [hb.block p ?_]
  · exact h2
  · rcases Nat.lt_or_ge p w.heap.size with h3 | h3
    · exact h3
    · rw [Array.getElem?_eq_none h3] at h2; cases h2
theorem below_drawn (w : World) : Below w.heap.size w { w with drawn := w.drawn + 1 } := ⟨rfl, rfl, rfl, Nat.le_refl _, fun _ _ => rfl⟩
theorem below_alloc (w : World) (o : Obj) : Below w.heap.size w (w.alloc o) := (Below.refl _ _).alloc (Nat.le_refl _) o
theorem Own.alloc {B : Nat} {w0 w : World} {hs : List (Nat × Obj)} (h : Own B w0 hs w) (o : Obj) : Own B w0 ((w.heap.size, o) :: hs) (w.alloc o) := by
  have hb := h.calls (below_alloc w o)
  refine ⟨hb.below, hb.base, fun i p u hi => ?_, fun i j p u q v hi hj hij => ?_⟩
  · cases i with
    | zero =>
      simp only [List.getElem?_cons_zero, Option.some.injEq, Prod.mk.injEq] at hi
      obtain ⟨rfl, rfl⟩ := hi
      exact ⟨h.base, by show (w.heap.push o)[w.heap.size]? = _; simp⟩
    | succ i => exact hb.has i p u (by simpa using hi)
  · have lt : ∀ (k q : Nat) (v : Obj), hs[k]? = some (q, v) → q < w.heap.size := fun k q v hk => by
      have := (h.has k q v hk).2
      rcases Nat.lt_or_ge q w.heap.size with h3 | h3
      · exact h3
      · rw [Array.getElem?_eq_none h3] at this; cases this
    cases i with
    | zero =>
      simp only [List.getElem?_cons_zero, Option.some.injEq, Prod.mk.injEq] at hi
      cases j with
      | zero => exact absurd rfl hij
      | succ j => have := lt j q v (by simpa using hj); omega
    | succ i =>
      cases j with
      | zero =>
        simp only [List.getElem?_cons_zero, Option.some.injEq, Prod.mk.injEq] at hj
        have := lt i p u (by simpa using hi); omega
      | succ j => exact h.apart i j p u q v (by simpa using hi) (by simpa using hj) (by omega)
theorem Own.set {B : Nat} {w0 w : World} {hs : List (Nat × Obj)} (h : Own B w0 hs w) {i p : Nat} {cs : Array Value} {T : TypeId} {fr : Nat × Nat} (hi : hs[i]? = some (p, .cells cs T fr)) (off : Nat) (v : Value) :
    Own B w0 (hs.set i (p, .cells (cs.setIfInBounds off v) T fr)) (w.setCell ⟨p, off, none⟩ v) := by
  obtain ⟨hB, hp⟩ := h.has i p _ hi
  refine ⟨h.below.setCell (p := ⟨p, off, none⟩) hB v, by show B ≤ (w.heap.modify _ _).size; simpa using h.base, fun j q u hj => ?_, fun j k q u r x hj hk hjk => ?_⟩
  · rw [List.getElem?_set] at hj
    show B ≤ q ∧ (w.heap.modify _ _)[q]? = some u
    split at hj
    · rename_i e1
      subst e1
      split at hj
      · simp only [Option.some.injEq, Prod.mk.injEq] at hj
        obtain ⟨rfl, rfl⟩ := hj
        exact ⟨hB, by rw [Array.getElem?_modify]; simp [hp]⟩
      · cases hj
    · rename_i e1
      obtain ⟨h1, h2⟩ := h.has j q u hj
      exact ⟨h1, by rw [Array.getElem?_modify, if_neg (h.apart i j p _ q u hi hj e1)]; exact h2⟩
  · have key : ∀ (j q : Nat) (u : Obj), (hs.set i (p, Obj.cells (cs.setIfInBounds off v) T fr))[j]? = some (q, u) → ∃ u', hs[j]? = some (q, u') := fun j q u hj => by
      rw [List.getElem?_set] at hj
      split at hj
      · rename_i e1
        subst e1
        split at hj
        · simp only [Option.some.injEq, Prod.mk.injEq] at hj
          exact ⟨_, by rw [hi, hj.1]⟩
        · cases hj
      · exact ⟨u, hj⟩
    obtain ⟨u', h1⟩ := key j q u hj
    obtain ⟨x', h2⟩ := key k r x hk
    exact h.apart j k q u' r x' h1 h2 hjk
end

/-! ### operations -/
def wantE (ops : Array Oper) (e : Env) : Option (Nat × Bool) → Option Bool
  | none => some true
  | some (j, b) => match (ops[j]?).bind (·.dst) with
    | none => some false
    | some t => match e.lookup t with
      | some (.bool c) => some (c == b)
      | some _ => some false
      | none => none
theorem wantE_spec {n : Nat} {a : Act} {e : Env} {ops : Array Oper} {o : Oper} {x : Bool} (hf : Fits n a e) (h : wantE ops e o.guard = some x) : Region.wanted o (yielded ops a.tmps) = x := by
  unfold Region.wanted
  cases hg : o.guard with
  | none => rw [hg] at h; simpa [wantE] using h
  | some g =>
    obtain ⟨j, b⟩ := g
    rw [hg] at h
    simp only [wantE] at h
    show (yielded ops a.tmps j == some b) = x
    unfold yielded
    generalize (ops[j]?).bind (·.dst) = dd at h ⊢
    cases dd with
    | none => simp only [Option.some.injEq] at h; rw [← h]; rfl
    | some t =>
      simp only at h
      cases hl : e.lookup t with
      | none => rw [hl] at h; cases h
      | some v =>
        rw [hl] at h
        have := hf.slot t v hl
        show ((match a.tmps[t]? with | some (.bool b) => some b | _ => none) == some b) = x
        rw [this]
        cases v <;> simp only [Option.some.injEq] at h <;> rw [← h] <;> rfl

def OpQ (P : Program) (n : Nat) (C : World → Prop) (e : Env) (o : Oper) (v : Value) : Prop := ∀ a, Fits n a e → ∀ w, C w → o.quietAt P a C w v
def Lq (P : Program) (n : Nat) (C : World → Prop) (ops : Array Oper) (l : List Oper) (e : Env) (N : Act → World → Prop) : Prop :=
  ∀ a, Fits n a e → wpQuiet P ops C (fun a' => ∀ w', C w' → N a' w') l a
def Ll (P : Program) (n : Nat) (C : World → Prop) (ops : Array Oper) (l : List Oper) (e : Env) (N R : Act → World → Prop) (X : List (Nat × (Act → World → Prop))) : Prop :=
  ∀ a w, Fits n a e → C w → wpList P ops (post N R X) l a w

section
variable {P : Program} {n : Nat} {C : World → Prop} {N R : Act → World → Prop} {X : List (Nat × (Act → World → Prop))} {e : Env} {ops : Array Oper} {l : List Oper} {o : Oper}

theorem Lq.nil (h : Kt n C e N) : Lq P n C ops [] e N := fun a hf => wpQuiet_nil fun w hc => h a w hf hc
theorem Lq.op {d : Nat} {v : Value} (hd : Nat.blt d n = true) (hdst : o.dst = some d) (hg : wantE ops e o.guard = some true) (q : OpQ P n C e o v) (k : Lq P n C ops l ((d, v) :: e) N) : Lq P n C ops (o :: l) e N :=
  fun a hf => wpQuiet_step fun K hK => by
    rw [if_pos (wantE_spec hf hg)]
    exact ⟨v, q a hf, hK _ (by rw [hdst]; exact k _ (hf.put (by simpa using hd) v))⟩
theorem Lq.pass {d : Nat} (hd : Nat.blt d n = true) (hdst : o.dst = some d) (hg : wantE ops e o.guard = some false) (k : Lq P n C ops l ((d, undef) :: e) N) : Lq P n C ops (o :: l) e N :=
  fun a hf => wpQuiet_step fun K hK => by
    rw [if_neg (by rw [wantE_spec hf hg]; exact Bool.false_ne_true)]
    exact hK _ (by rw [hdst]; exact k _ (hf.put (by simpa using hd) undef))
theorem Lq.sub {e' : Env} (k : Sub e' e) (h : Lq P n C ops l e' N) : Lq P n C ops l e N := fun a hf => h a (hf.sub k)
/-- a slot's Bool under a name of its own, to be parted on -/
theorem Lq.bool {d : Nat} {B : Bool} (h : ∀ b, B = b → Lq P n C ops l ((d, .bool b) :: e) N) : Lq P n C ops l ((d, .bool B) :: e) N := h B rfl

theorem Ll.nil (h : Kt n C e N) : Ll P n C ops [] e N R X := fun a w hf hc => wpList_nil (h a w hf hc)
theorem Ll.op {d : Nat} {v : Value} (hd : Nat.blt d n = true) (hdst : o.dst = some d) (hg : wantE ops e o.guard = some true) (q : OpQ P n C e o v) (k : Ll P n C ops l ((d, v) :: e) N R X) : Ll P n C ops (o :: l) e N R X :=
  fun a w hf hc => wpList_step fun K hK => by
    rw [if_pos (wantE_spec hf hg)]
    exact Oper.wp_of_quiet (K := fun a' => a' = a.put (some d) v) hc (fun a' w' hw' ha => by subst ha; exact hK _ _ (k _ _ (hf.put (by simpa using hd) v) hw')) ⟨v, q a hf, by rw [hdst]⟩
theorem Ll.pass {d : Nat} (hd : Nat.blt d n = true) (hdst : o.dst = some d) (hg : wantE ops e o.guard = some false) (k : Ll P n C ops l ((d, undef) :: e) N R X) : Ll P n C ops (o :: l) e N R X :=
  fun a w hf hc => wpList_step fun K hK => by
    rw [if_neg (by rw [wantE_spec hf hg]; exact Bool.false_ne_true)]
    exact hK _ _ (by rw [hdst]; exact k _ _ (hf.put (by simpa using hd) undef) hc)
theorem Ll.sub {e' : Env} (k : Sub e' e) (h : Ll P n C ops l e' N R X) : Ll P n C ops l e N R X := fun a w hf => h a w (hf.sub k)
theorem Ll.bool {d : Nat} {B : Bool} (h : ∀ b, B = b → Ll P n C ops l ((d, .bool b) :: e) N R X) : Ll P n C ops l ((d, .bool B) :: e) N R X := h B rfl
/-- an operation that turns the world: in each world of the class it yields a value and a world of another class -/
theorem Ll.turn {d : Nat} (hd : Nat.blt d n = true) (hdst : o.dst = some d) (hg : wantE ops e o.guard = some true)
    (k : ∀ a w, Fits n a e → C w → ∃ v w', (execOp a.eval o).run P w = .ok (.value v) w' ∧ (∀ a', Fits n a' ((d, v) :: e) → wpList P ops (post N R X) l a' w')) : Ll P n C ops (o :: l) e N R X :=
  fun a w hf hc => wpList_step fun K hK => by
    rw [if_pos (wantE_spec hf hg)]
    obtain ⟨v, w', h1, h2⟩ := k a w hf hc
    unfold Oper.wp
    rw [h1]
    exact hK _ _ (by rw [hdst]; exact h2 _ (hf.put (by simpa using hd) v))
theorem Ll.turnN (hdst : o.dst = none) (hg : wantE ops e o.guard = some true)
    (k : ∀ a w, Fits n a e → C w → ∃ w', (execOp a.eval o).run P w = .ok .skip w' ∧ (∀ a', Fits n a' e → wpList P ops (post N R X) l a' w')) : Ll P n C ops (o :: l) e N R X :=
  fun a w hf hc => wpList_step fun K hK => by
    rw [if_pos (wantE_spec hf hg)]
    obtain ⟨w', h1, h2⟩ := k a w hf hc
    unfold Oper.wp
    rw [h1]
    exact hK _ _ (by rw [hdst]; exact h2 _ hf)

theorem wpList_of_quiet {ops : Array Oper} {Q : Exit → Act → World → Prop} {K : Act → Prop} (hK : ∀ a w, C w → K a → Q .normal a w) : ∀ (l : List Oper) (a : Act) (w : World), C w → wpQuiet P ops C K l a → wpList P ops Q l a w
  | [], a, w, hc, h => hK a w hc h
  | o :: l, a, w, hc, h => wpList_step fun K' hK' => by
    unfold wpQuiet at h
    split at h
    · rename_i hw
      rw [if_pos hw]
      exact Oper.wp_of_quiet hc (fun a' w' hw' ha => hK' _ _ (wpList_of_quiet hK l a' w' hw' ha)) h
    · rename_i hw
      rw [if_neg hw]
      exact hK' _ _ (wpList_of_quiet hK l _ w hc h)
theorem Wk.region {id : Nat} (h : Ll P n C l.toArray l e N R X) : Wk P n C (.region id l.toArray false) N R X e := fun a w hf hc => wp_region_lit (h a w hf hc)
theorem Wk.regionQ {id : Nat} (h : Lq P n C l.toArray l e N) : Wk P n C (.region id l.toArray false) N R X e := fun a w hf hc =>
  wp_region_lit (wpList_of_quiet (K := fun a' => ∀ w', C w' → N a' w') (fun _ w hc h => h w hc) l a w hc (h a hf))
theorem Wk.regionD {id : Nat} (hm : P.follows .mixedOrders = true) (hd : ∀ w, C w → C { w with drawn := w.drawn + 1 }) (hB : Region.lexB .any l.toArray = true) (h : Lq P n C l.toArray l e N) :
    Wk P n C (.region id l.toArray true) N R X e := fun a w hf hc =>
  wp_region_quiet (C := C) hm hB (hd w hc) (by
    exact h a hf)

/-! ### values -/
theorem OpQ.val {v : Value} (h : ∀ a, Fits n a e → ∀ w, (execOp a.eval o).run P w = .ok (.value v) w) : OpQ P n C e o v := fun a hf w _ => by
  unfold Oper.quietAt; rw [h a hf w]; exact ⟨rfl, rfl⟩
theorem OpQ.move {x : Operand} {v : Value} (h : o.op = .move x) (hx : opd e x = some v) : OpQ P n C e o v := OpQ.val fun a hf w => by
  unfold execOp; rw [h]; simp [hf.opd hx]
theorem OpQ.assign {x : Operand} {v : Value} (h : o.op = .assign x) (hx : opd e x = some v) : OpQ P n C e o v := OpQ.val fun a hf w => by
  unfold execOp; rw [h]; simp [hf.opd hx]
theorem OpQ.pickT {c x y : Operand} {v : Value} (h : o.op = .pick c x y) (hc : opd e c = some (.bool true)) (hx : opd e x = some v) : OpQ P n C e o v := OpQ.val fun a hf w => by
  unfold execOp; rw [h]; simp [hf.opd hx, hf.opd hc, asBool]
theorem OpQ.pickF {c x y : Operand} {v : Value} (h : o.op = .pick c x y) (hc : opd e c = some (.bool false)) (hx : opd e y = some v) : OpQ P n C e o v := OpQ.val fun a hf w => by
  unfold execOp; rw [h]; simp [hf.opd hx, hf.opd hc, asBool]
theorem OpQ.not {t : TypeId} {x : Operand} {b : Bool} (h : o.op = .unOp .not t x) (hx : opd e x = some (.bool b)) : OpQ P n C e o (.bool (!b)) := OpQ.val fun a hf w => by
  unfold execOp; rw [h]; simp [hf.opd hx, Op.unary]
theorem OpQ.notT {t : TypeId} {x : Operand} (h : o.op = .unOp .not t x) (hx : opd e x = some (.bool true)) : OpQ P n C e o (.bool false) := OpQ.not h hx
theorem OpQ.notF {t : TypeId} {x : Operand} (h : o.op = .unOp .not t x) (hx : opd e x = some (.bool false)) : OpQ P n C e o (.bool true) := OpQ.not h hx
section
variable {t t' : TypeId} {x y : Operand} {k : IntKind} {i j : Int}
theorem OpQ.lss (h : o.op = .binOp .lss t x y t') (hx : opd e x = some (.int k i)) (hy : opd e y = some (.int k j)) : OpQ P n C e o (.bool (decide (i < j))) := OpQ.val fun a hf w => by
  unfold execOp; rw [h]; simp only [hf.opd hx, hf.opd hy]; simp [go_sem]
theorem OpQ.leq (h : o.op = .binOp .leq t x y t') (hx : opd e x = some (.int k i)) (hy : opd e y = some (.int k j)) : OpQ P n C e o (.bool (decide (i ≤ j))) := OpQ.val fun a hf w => by
  unfold execOp; rw [h]; simp only [hf.opd hx, hf.opd hy]; simp [go_sem]
theorem OpQ.gtr (h : o.op = .binOp .gtr t x y t') (hx : opd e x = some (.int k i)) (hy : opd e y = some (.int k j)) : OpQ P n C e o (.bool (decide (j < i))) := OpQ.val fun a hf w => by
  unfold execOp; rw [h]; simp only [hf.opd hx, hf.opd hy]; simp [go_sem]
theorem OpQ.geq (h : o.op = .binOp .geq t x y t') (hx : opd e x = some (.int k i)) (hy : opd e y = some (.int k j)) : OpQ P n C e o (.bool (decide (j ≤ i))) := OpQ.val fun a hf w => by
  unfold execOp; rw [h]; simp only [hf.opd hx, hf.opd hy]; simp [go_sem]
theorem OpQ.eql (h : o.op = .binOp .eql t x y t') (hx : opd e x = some (.int k i)) (hy : opd e y = some (.int k j)) : OpQ P n C e o (.bool (decide (i = j))) := OpQ.val fun a hf w => by
  unfold execOp; rw [h]; simp only [hf.opd hx, hf.opd hy]; simp [go_sem]; rfl
theorem OpQ.neq (h : o.op = .binOp .neq t x y t') (hx : opd e x = some (.int k i)) (hy : opd e y = some (.int k j)) : OpQ P n C e o (.bool (!decide (i = j))) := OpQ.val fun a hf w => by
  unfold execOp; rw [h]; simp only [hf.opd hx, hf.opd hy]; simp [go_sem]; rfl
theorem OpQ.add (h : o.op = .binOp .add t x y t') (hx : opd e x = some (.int .i64 i)) (hy : opd e y = some (.int .i64 j)) (h1 : -9223372036854775808 ≤ i + j) (h2 : i + j < 9223372036854775808) : OpQ P n C e o (.int .i64 (i + j)) := OpQ.val fun a hf w => by
  unfold execOp; rw [h]; simp only [hf.opd hx, hf.opd hy]; simp [go_sem]; exact IntWalk.i64_in _ (by omega)
theorem OpQ.sub (h : o.op = .binOp .sub t x y t') (hx : opd e x = some (.int .i64 i)) (hy : opd e y = some (.int .i64 j)) (h1 : -9223372036854775808 ≤ i - j) (h2 : i - j < 9223372036854775808) : OpQ P n C e o (.int .i64 (i - j)) := OpQ.val fun a hf w => by
  unfold execOp; rw [h]; simp only [hf.opd hx, hf.opd hy]; simp [go_sem]; exact IntWalk.i64_in _ (by omega)
theorem OpQ.mul (h : o.op = .binOp .mul t x y t') (hx : opd e x = some (.int .i64 i)) (hy : opd e y = some (.int .i64 j)) (h1 : -9223372036854775808 ≤ i * j) (h2 : i * j < 9223372036854775808) : OpQ P n C e o (.int .i64 (i * j)) := OpQ.val fun a hf w => by
  unfold execOp; rw [h]; simp only [hf.opd hx, hf.opd hy]; simp [go_sem]; exact IntWalk.i64_in _ (by omega)
end

/-! ### Bools, strings -/
theorem run_equal_bool {t : TypeId} {a b : Bool} (hu : ∀ w, (underlying t).run P w = .ok .bool w) (w : World) : (Op.equal t (.bool a) (.bool b)).run P w = .ok (a == b) w := by
  show (Op.equalIn (9999 + 1) t (.bool a) (.bool b)).run P w = _
  unfold Op.equalIn
  rw [Sem.run_bind, hu]
  rfl
theorem OpQ.beq {t t' : TypeId} {x y : Operand} {a b : Bool} (h : o.op = .binOp .eql t x y t') (hu : ∀ w, (underlying t).run P w = .ok .bool w) (hx : opd e x = some (.bool a)) (hy : opd e y = some (.bool b)) : OpQ P n C e o (.bool (a == b)) := OpQ.val fun A hf w => by
  unfold execOp; rw [h]; simp only [hf.opd hx, hf.opd hy]
  rw [eqGuard_at_bool, show binOp .eql t (.bool a) (.bool b) = (do pure (.bool (← Op.equal t (.bool a) (.bool b)))) from rfl]
  simp only [Sem.run_bind, run_equal_bool hu, Sem.run_pure, Result.andThen]
theorem OpQ.bne {t t' : TypeId} {x y : Operand} {a b : Bool} (h : o.op = .binOp .neq t x y t') (hu : ∀ w, (underlying t).run P w = .ok .bool w) (hx : opd e x = some (.bool a)) (hy : opd e y = some (.bool b)) : OpQ P n C e o (.bool (a != b)) := OpQ.val fun A hf w => by
  unfold execOp; rw [h]; simp only [hf.opd hx, hf.opd hy]
  rw [eqGuard_at_bool, show binOp .neq t (.bool a) (.bool b) = (do pure (.bool (!(← Op.equal t (.bool a) (.bool b))))) from rfl]
  simp only [Sem.run_bind, run_equal_bool hu, Sem.run_pure, Result.andThen]
  rfl
/-- a string, by the list of its bytes -/
def str (l : List UInt8) : Value := .string ⟨⟨l⟩⟩
theorem toList_mk (l : List UInt8) : (ByteArray.mk ⟨l⟩).toList = l := by
  rw [ByteArray.toList_eq]
theorem str_add (a b : List UInt8) : (ByteArray.mk ⟨a⟩) ++ (ByteArray.mk ⟨b⟩) = ByteArray.mk ⟨a ++ b⟩ := by
  apply ByteArray.ext
  rw [ByteArray.data_append]
  simp
theorem OpQ.sadd {t t' : TypeId} {x y : Operand} {a b : List UInt8} (h : o.op = .binOp .add t x y t') (hx : opd e x = some (str a)) (hy : opd e y = some (str b)) (hl : a.length + b.length ≤ 9223372036854775807) : OpQ P n C e o (str (a ++ b)) := OpQ.val fun A hf w => by
  unfold execOp; rw [h]; simp only [hf.opd hx, hf.opd hy]; simp only [str, binOp_string_add, go_sem, Sem.run_bind, Sem.run_pure]
  rw [Result.andThen, if_neg (by show ¬ a.length + b.length > 9223372036854775807; omega), str_add]; rfl
theorem OpQ.seql {t t' : TypeId} {x y : Operand} {a b : List UInt8} (h : o.op = .binOp .eql t x y t') (hx : opd e x = some (str a)) (hy : opd e y = some (str b)) : OpQ P n C e o (.bool (a == b)) := OpQ.val fun A hf w => by
  unfold execOp; rw [h]; simp only [hf.opd hx, hf.opd hy]; simp only [str, binOp_string_eql, toList_mk, go_sem, Sem.run_bind, Sem.run_pure]; rfl
theorem OpQ.sneq {t t' : TypeId} {x y : Operand} {a b : List UInt8} (h : o.op = .binOp .neq t x y t') (hx : opd e x = some (str a)) (hy : opd e y = some (str b)) : OpQ P n C e o (.bool (!(a == b))) := OpQ.val fun A hf w => by
  unfold execOp; rw [h]; simp only [hf.opd hx, hf.opd hy]
  simp only [str, show binOp .neq t (.string ⟨⟨a⟩⟩) (.string ⟨⟨b⟩⟩) = Op.stringOp .neq ⟨⟨a⟩⟩ ⟨⟨b⟩⟩ from rfl, Op.stringOp, toList_mk, go_sem, Sem.run_bind, Sem.run_pure]; rfl

/-! ### addresses, loads -/
theorem OpQ.fieldAddr {s f : Nat} {x : Operand} {b k k' : Nat} {fs : Array Field} {fd : Field} {z : Nat} (h : o.op = .fieldAddr s x f) (hu : ∀ w, (underlying s).run P w = .ok (.struct fs) w) (hf : fs[f]? = some fd)
    (hz : ∀ w, (sizeOf fd.type).run P w = .ok (z + 1) w) (hx : opd e x = some (.pointer (some ⟨b, k, none⟩))) (hk : k + fd.offset = k') : OpQ P n C e o (.pointer (some ⟨b, k', none⟩)) := OpQ.val fun a hF w => by
  subst hk
  unfold execOp; rw [h]; simp only [hF.opd hx]
  simp only [Instr.fieldAt, Sem.run_bind, hu, Result.andThen, hf, Instr.sureAddr, fieldPlace, Sem.run_pure, hz, Sem.run_ite, Addr.add_lit]
  rfl
theorem OpQ.load1 {t : TypeId} {x : Operand} {p : Addr} {v : Value} (h : o.op = .load t x) (hag : ∀ w, (isAgg t).run P w = .ok false w) (hx : opd e x = some (.pointer (some p))) (hc : ∀ w, C w → w.cell? p = some v) : OpQ P n C e o v := fun A hF w hw => by
  unfold Oper.quietAt execOp; rw [h]; simp only [hF.opd hx]
  simp only [Instr.loadAt, Instr.sureAddr, Sem.run_bind, Sem.run_pure, Result.andThen, loadVar, hag, run_load, hc w hw, Bool.false_eq_true, if_false]
  exact ⟨rfl, rfl⟩
theorem OpQ.loadN {t : TypeId} {x : Operand} {p : Addr} {cs : Array Value} (h : o.op = .load t x) (hag : ∀ w, (isAgg t).run P w = .ok true w) (hsz : ∀ w, (sizeOf t).run P w = .ok cs.size w) (hx : opd e x = some (.pointer (some p)))
    (hc : ∀ w, C w → ∀ j v, cs.toList[j]? = some v → w.cell? (p.add j) = some v) : OpQ P n C e o (.agg cs) := fun A hF w hw => by
  unfold Oper.quietAt execOp; rw [h]; simp only [hF.opd hx]
  have hl := run_loadCells_list (P := P) (w := w) p cs.toList (hc w hw)
  simp only [Array.length_toList] at hl
  simp only [Instr.loadAt, Instr.sureAddr, Sem.run_bind, Sem.run_pure, Result.andThen, loadVar, hag, if_true, hsz, hl]
  exact ⟨rfl, by simp⟩
end
section
variable {P : Program} {n : Nat} {e : Env} {o : Oper} {B : Nat} {w0 : World} {hs : List (Nat × Obj)}
theorem Own.cell {w : World} (h : Own B w0 hs w) {i p : Nat} {cs : Array Value} {T : TypeId} {fr : Nat × Nat} (hi : hs[i]? = some (p, .cells cs T fr)) (off : Nat) : w.cell? ⟨p, off, none⟩ = cs[off]? := by
  unfold World.cell?
  simp [(h.has i p _ hi).2]
theorem Own.arg {w : World} (h : Own B w0 hs w) {a : Addr} {v : Value} (hb : a.block < B) (hv : w0.cell? a = some v) : w.cell? a = some v := by rw [h.below.cell hb]; exact hv
/-- a cell of the call's own -/
theorem OpQ.loadOwn {t : TypeId} {x : Operand} {p off : Nat} {v : Value} {cs : List Value} {T : TypeId} {fr : Nat × Nat} (i : Nat) (h : o.op = .load t x) (hag : ∀ w, (isAgg t).run P w = .ok false w)
    (hx : opd e x = some (.pointer (some ⟨p, off, none⟩))) (hi : hs[i]? = some (p, .cells cs.toArray T fr)) (hv : cs[off]? = some v) : OpQ P n (Own B w0 hs) e o v :=
  OpQ.load1 h hag hx fun w hw => by rw [hw.cell hi]; simpa using hv
/-- a whole struct of the call's own -/
theorem OpQ.loadBox {t : TypeId} {x : Operand} {p : Nat} {cs : Array Value} {T : TypeId} {fr : Nat × Nat} (i : Nat) (h : o.op = .load t x) (hag : ∀ w, (isAgg t).run P w = .ok true w) (hx : opd e x = some (.pointer (some ⟨p, 0, none⟩)))
    (hi : hs[i]? = some (p, .cells cs T fr)) (hsz : ∀ w, (sizeOf t).run P w = .ok cs.size w) : OpQ P n (Own B w0 hs) e o (.agg cs) :=
  OpQ.loadN h hag hsz hx fun w hw j v hj => by
    rw [Addr.add_lit, hw.cell hi]
    simpa using hj
theorem OpQ.loadArg {t : TypeId} {x : Operand} {a : Addr} {v : Value} (h : o.op = .load t x) (hag : ∀ w, (isAgg t).run P w = .ok false w) (hx : opd e x = some (.pointer (some a))) (hb : a.block < B) (hv : w0.cell? a = some v) :
    OpQ P n (Own B w0 hs) e o v := OpQ.load1 h hag hx fun _ hw => hw.arg hb hv
end
section
variable {P : Program} {n : Nat} {C : World → Prop} {N R : Act → World → Prop} {X : List (Nat × (Act → World → Prop))} {e : Env} {ops : Array Oper} {l : List Oper} {o : Oper}
/-! ### lengths, places in a slice, bytes of a string -/
theorem OpQ.lenS {t : TypeId} {x : Operand} {b : Option Addr} {k c : Nat} (h : o.op = .call ⟨.builtin .len, #[x], #[t]⟩) {el : TypeId} (hu : ∀ w, (underlying t).run P w = .ok (.slice el) w) (hx : opd e x = some (.slice b k c)) : OpQ P n C e o (.int .i64 k) := OpQ.val fun A hF w => by
  unfold execOp; rw [h]
  simp only [resolve, invoke, BigFrame.builtin_len, List.map_toArray, List.map_cons, List.map_nil, hF.opd hx, Sem.run_bind, Sem.run_pure, Result.andThen, Builtin.len_, hu, List.getElem?_toArray, List.getElem?_cons_zero]
  rfl
theorem OpQ.lenStr {t : TypeId} {x : Operand} {a : List UInt8} (h : o.op = .call ⟨.builtin .len, #[x], #[t]⟩) (hu : ∀ w, (underlying t).run P w = .ok .string w) (hx : opd e x = some (str a)) : OpQ P n C e o (.int .i64 a.length) := OpQ.val fun A hF w => by
  unfold execOp; rw [h]
  simp only [resolve, invoke, BigFrame.builtin_len, List.map_toArray, List.map_cons, List.map_nil, hF.opd hx, Sem.run_bind, Sem.run_pure, Result.andThen, Builtin.len_, hu, List.getElem?_toArray, List.getElem?_cons_zero]
  rfl
theorem OpQ.indexAddr {t el : TypeId} {x y : Operand} {b off len cap sz : Nat} {k : IntKind} {i : Int} (h : o.op = .indexAddr t x y) (hu : ∀ w, (underlying t).run P w = .ok (.slice el) w) (hz : ∀ w, (sizeOf el).run P w = .ok sz w)
    (hx : opd e x = some (.slice (some ⟨b, off, none⟩) len cap)) (hy : opd e y = some (.int k i)) (h0 : 0 ≤ i) (h1 : i < len) : OpQ P n C e o (.pointer (some ⟨b, off + i.toNat * sz, none⟩)) := OpQ.val fun A hF w => by
  unfold execOp; rw [h]; simp only [hF.opd hx, hF.opd hy]
  simp only [Instr.indexAt, asIntOf, Sem.run_bind, Sem.run_pure, hu, Result.andThen, hz, if_pos (And.intro h0 h1), Addr.add_lit]
/-- at elements of one cell -/
theorem OpQ.indexAddr1 {t el : TypeId} {x y : Operand} {b off len cap : Nat} {k : IntKind} {i : Int} (h : o.op = .indexAddr t x y) (hu : ∀ w, (underlying t).run P w = .ok (.slice el) w) (hz : ∀ w, (sizeOf el).run P w = .ok 1 w)
    (hx : opd e x = some (.slice (some ⟨b, off, none⟩) len cap)) (hy : opd e y = some (.int k i)) (h0 : 0 ≤ i) (h1 : i < len) : OpQ P n C e o (.pointer (some ⟨b, off + i.toNat, none⟩)) := by
  simpa using OpQ.indexAddr h hu hz hx hy h0 h1
theorem OpQ.indexStr {t : TypeId} {x y : Operand} {a : List UInt8} {k : IntKind} {i : Int} (h : o.op = .index t x y) (hu : ∀ w, (underlying t).run P w = .ok .string w) (hx : opd e x = some (str a)) (hy : opd e y = some (.int k i)) (h0 : 0 ≤ i) (h1 : i < a.length) :
    OpQ P n C e o (.int .u8 (a.getD i.toNat 0).toNat) := OpQ.val fun A hF w => by
  unfold execOp; rw [h]; simp only [hF.opd hx, hF.opd hy]
  have hb : (ByteArray.mk ⟨a⟩)[i.toNat]? = some (a.getD i.toNat 0) := by
    have : i.toNat < a.length := by omega
    rw [getElem?_pos (ByteArray.mk ⟨a⟩) i.toNat (by exact this)]
    rw [List.getD_eq_getElem?_getD, List.getElem?_eq_getElem this]
    rfl
  simp only [str, Instr.index, asIntOf, Sem.run_bind, Sem.run_pure, hu, Result.andThen, if_pos h0, hb]
theorem OpQ.extract {x : Operand} {k : Nat} {vs : Array Value} {v : Value} (h : o.op = .extract x k) (hx : opd e x = some (.tuple vs)) (hv : vs[k]? = some v) : OpQ P n C e o v := OpQ.val fun A hF w => by
  unfold execOp; rw [h]; simp only [hF.opd hx]
  simp only [Instr.extract, hv, Sem.run_bind, Sem.run_pure, Result.andThen]
theorem OpQ.func {f : Fn} {cap : Array Operand} {vs : Array Value} (h : o.op = .makeFunc f #[] cap) (hv : ∀ a, Fits n a e → cap.map a.eval = vs) : OpQ P n C e o (.func f #[] vs) := OpQ.val fun A hF w => by
  unfold execOp; rw [h]
  simp only [Instr.makeFunc, hv A hF]
  simp

/-! ### calls -/
def opds (e : Env) : List Operand → Option (List Value)
  | [] => some []
  | x :: xs => match opd e x with
    | some v => (opds e xs).map (v :: ·)
    | none => none
theorem opds_spec {a : Act} (hF : Fits n a e) : ∀ (xs : List Operand) (vs : List Value), opds e xs = some vs → xs.map a.eval = vs
  | [], vs, h => by simp [opds] at h; simp [← h]
  | x :: xs, vs, h => by
    unfold opds at h
    split at h
    · rename_i v hv
      obtain ⟨us, h1, h2⟩ := Option.map_eq_some_iff.1 h
      rw [List.map_cons, hF.opd hv, opds_spec hF xs us h1]; exact h2
    · cases h
theorem OpQ.func' {f : Fn} {cap : List Operand} {vs : List Value} (h : o.op = .makeFunc f #[] cap.toArray) (hv : opds e cap = some vs) : OpQ P n C e o (.func f #[] vs.toArray) :=
  OpQ.func h fun a hF => by rw [List.map_toArray, opds_spec hF cap vs hv]
theorem run_call {f : FuncId} {c : Operand} {first captured : Array Value} {xs : List Operand} {ts : Array TypeId} {vs : List Value} {a : Act} {w : World} (h : o.op = .call ⟨.value c, xs.toArray, ts⟩) (hF : Fits n a e) (hc : opd e c = some (.func (.func f) first captured))
    (hx : opds e xs = some vs) (hcf : ∀ args w, (callFunc f args).run P w = .ok (.enter f args) w) : (execOp a.eval o).run P w = .ok (.enter f (first ++ vs.toArray ++ captured)) w := by
  unfold execOp; rw [h]
  simp only [resolve, Deferred.ofValue, hF.opd hc, Sem.run_bind, Sem.run_pure, Result.andThen, invoke, List.map_toArray, opds_spec hF xs vs hx, hcf]
/-- a call that leaves a world of the class -/
theorem OpQ.call {f : FuncId} {xs : List Operand} {ts : Array TypeId} {vs : List Value} {v : Value} (h : o.op = .call ⟨.value (.func f), xs.toArray, ts⟩) (hcf : ∀ args w, (callFunc f args).run P w = .ok (.enter f args) w) (hx : opds e xs = some vs)
    (hst : ∀ w w', C w → Below w.heap.size w w' → C w') (hc : ∀ w, C w → Calls P f vs.toArray w fun en w' => en = .returned v ∧ Below w.heap.size w w') : OpQ P n C e o v := fun a hF w hw => by
  unfold Oper.quietAt
  rw [run_call h hF rfl hx hcf]
  simp only [Array.empty_append, Array.append_empty]
  exact ⟨rfl, (hc w hw).mono fun en w' ⟨h1, h2⟩ => ⟨h1, hst w w' hw h2⟩⟩
theorem OpQ.callFn {f : FuncId} {c : Operand} {captured : Array Value} {xs : List Operand} {ts : Array TypeId} {vs : List Value} {v : Value} (h : o.op = .call ⟨.value c, xs.toArray, ts⟩) (hc : opd e c = some (.func (.func f) #[] captured)) (hcf : ∀ args w, (callFunc f args).run P w = .ok (.enter f args) w) (hx : opds e xs = some vs)
    (hst : ∀ w w', C w → Below w.heap.size w w' → C w') (hk : ∀ w, C w → Calls P f (vs.toArray ++ captured) w fun en w' => en = .returned v ∧ Below w.heap.size w w') : OpQ P n C e o v := fun a hF w hw => by
  unfold Oper.quietAt
  rw [run_call h hF hc hx hcf]
  simp only [Array.empty_append]
  exact ⟨rfl, (hk w hw).mono fun en w' ⟨h1, h2⟩ => ⟨h1, hst w w' hw h2⟩⟩
/-- a call whose value hangs on the world: what stands behind it is asked of each outcome -/
theorem Ll.call {d : Nat} {f : FuncId} {xs : List Operand} {ts : Array TypeId} {vs : List Value} (hd : Nat.blt d n = true) (hdst : o.dst = some d) (hg : wantE ops e o.guard = some true) (h : o.op = .call ⟨.value (.func f), xs.toArray, ts⟩)
    (hcf : ∀ args w, (callFunc f args).run P w = .ok (.enter f args) w) (hx : opds e xs = some vs) (hc : ∀ w, C w → Calls P f vs.toArray w fun en w' => ∃ v, en = .returned v ∧ (∀ a', Fits n a' ((d, v) :: e) → wpList P ops (post N R X) l a' w')) : Ll P n C ops (o :: l) e N R X :=
  fun a w hf hw => wpList_step fun K hK => by
    rw [if_pos (wantE_spec hf hg)]
    unfold Oper.wp
    rw [run_call h hf rfl hx hcf]
    simp only [Array.empty_append, Array.append_empty]
    refine (hc w hw).mono fun en w' ⟨v, h1, h2⟩ => ?_
    subst h1
    exact hK _ _ (by rw [hdst]; exact h2 _ (hf.put (by simpa using hd) v))
theorem Ll.callFn {d : Nat} {f : FuncId} {c : Operand} {captured : Array Value} {xs : List Operand} {ts : Array TypeId} {vs : List Value} (hd : Nat.blt d n = true) (hdst : o.dst = some d) (hg : wantE ops e o.guard = some true) (h : o.op = .call ⟨.value c, xs.toArray, ts⟩)
    (hcl : opd e c = some (.func (.func f) #[] captured)) (hcf : ∀ args w, (callFunc f args).run P w = .ok (.enter f args) w) (hx : opds e xs = some vs)
    (hc : ∀ w, C w → Calls P f (vs.toArray ++ captured) w fun en w' => ∃ v, en = .returned v ∧ (∀ a', Fits n a' ((d, v) :: e) → wpList P ops (post N R X) l a' w')) : Ll P n C ops (o :: l) e N R X :=
  fun a w hf hw => wpList_step fun K hK => by
    rw [if_pos (wantE_spec hf hg)]
    unfold Oper.wp
    rw [run_call h hf hcl hx hcf]
    simp only [Array.empty_append]
    refine (hc w hw).mono fun en w' ⟨v, h1, h2⟩ => ?_
    subst h1
    exact hK _ _ (by rw [hdst]; exact h2 _ (hf.put (by simpa using hd) v))

end
section
variable {P : Program} {n : Nat} {N R : Act → World → Prop} {X : List (Nat × (Act → World → Prop))} {e : Env} {ops : Array Oper} {l : List Oper} {o : Oper} {B : Nat} {w0 : World} {hs : List (Nat × Obj)}
theorem Own.setRow {w : World} (h : Own B w0 hs w) {i p : Nat} {cs : Array Value} {T : TypeId} {fr : Nat × Nat} (hi : hs[i]? = some (p, .cells cs T fr)) (cs' : Array Value) :
    Own B w0 (hs.set i (p, .cells cs' T fr)) (w.setRow p cs') := by
  obtain ⟨hB, hp⟩ := h.has i p _ hi
  refine ⟨below_setRow h.below hB cs', by rw [setRow_size]; exact h.base, fun j q u hj => ?_, fun j k q u r x hj hk hjk => ?_⟩
  · rw [List.getElem?_set] at hj
    split at hj
    · rename_i e1
      subst e1
      split at hj
      · simp only [Option.some.injEq, Prod.mk.injEq] at hj
        obtain ⟨rfl, rfl⟩ := hj
        exact ⟨hB, setRow_heap w p cs cs' T fr hp⟩
      · cases hj
    · rename_i e1
      obtain ⟨h1, h2⟩ := h.has j q u hj
      exact ⟨h1, by rw [setRow_other w p q cs' (Ne.symm (h.apart i j p _ q u hi hj e1))]; exact h2⟩
  · have key : ∀ (j q : Nat) (u : Obj), (hs.set i (p, Obj.cells cs' T fr))[j]? = some (q, u) → ∃ u', hs[j]? = some (q, u') := fun j q u hj => by
      rw [List.getElem?_set] at hj
      split at hj
      · rename_i e1
        subst e1
        split at hj
        · simp only [Option.some.injEq, Prod.mk.injEq] at hj
          exact ⟨_, by rw [hi, hj.1]⟩
        · cases hj
      · exact ⟨u, hj⟩
    obtain ⟨u', h1⟩ := key j q u hj
    obtain ⟨x', h2⟩ := key k r x hk
    exact h.apart j k q u' r x' h1 h2 hjk
/-- what is known of a block is forgotten, that of another one known -/
theorem Own.swap {w : World} {x : Nat × Obj} (h : Own B w0 (x :: hs) w) (i : Nat) (hi : i < hs.length) : Own B w0 (hs.set i x) w := by
  have key : ∀ (j : Nat) (y : Nat × Obj), (hs.set i x)[j]? = some y → ∃ k, (x :: hs)[k]? = some y ∧ (j = i → k = 0) ∧ (j ≠ i → k = j + 1) := fun j y hj => by
    rw [List.getElem?_set] at hj
    split at hj
    · rename_i e1; subst e1; (try rw [if_pos hi] at hj); exact ⟨0, by simpa using hj, fun _ => rfl, fun h => absurd rfl h⟩
    · rename_i e1; exact ⟨j + 1, by simpa using hj, fun h => absurd h.symm e1, fun _ => rfl⟩
  refine ⟨h.below, h.base, fun j q u hj => ?_, fun j k q u r y hj hk hjk => ?_⟩
  · obtain ⟨k, h1, _⟩ := key j _ hj
    exact h.has k q u h1
  · obtain ⟨a, h1, h2, h3⟩ := key j _ hj
    obtain ⟨b, h4, h5, h6⟩ := key k _ hk
    refine h.apart a b q u r y h1 h4 ?_
    by_cases e1 : j = i
    · have := h2 e1; have := h6 (by omega); omega
    · by_cases e2 : k = i
      · have := h3 e1; have := h5 e2; omega
      · have := h3 e1; have := h6 e2; omega
theorem Own.drew {w : World} (h : Own B w0 hs w) : Own B w0 hs w.drew := h.calls ⟨rfl, rfl, rfl, Nat.le_refl _, fun _ _ => rfl⟩
theorem Own.drawn {w : World} (h : Own B w0 hs w) : Own B w0 hs { w with drawn := w.drawn + 1 } := h.calls (below_drawn w)
theorem Own.stable (w w' : World) (h : Own B w0 hs w) (hb : Below w.heap.size w w') : Own B w0 hs w' := h.calls hb

/-! ### operations that make or write blocks -/
theorem Ll.box {d t : Nat} {x : Operand} {v : Value} (hd : Nat.blt d n = true) (hdst : o.dst = some d) (hg : wantE ops e o.guard = some true) (h : o.op = .box t x) (hx : opd e x = some v)
    (k : ∀ p, B ≤ p → Ll P n (Own B w0 ((p, .cells v.cells t (0, 0)) :: hs)) ops l ((d, .pointer (some ⟨p, 0, none⟩)) :: e) N R X) : Ll P n (Own B w0 hs) ops (o :: l) e N R X :=
  Ll.turn hd hdst hg fun a w hF hw => ⟨.pointer (some ⟨w.heap.size, 0, none⟩), w.alloc (.cells v.cells t (0, 0)), by
    unfold execOp; rw [h]; simp only [hF.opd hx, Instr.box, newVar, newRow, Sem.run_bind, Sem.run_pure, run_newObj, Result.andThen]; rfl,
    fun a' ha => k _ hw.base a' _ ha (hw.alloc _)⟩
theorem Ll.alloc {d t : Nat} {z : Value} (hd : Nat.blt d n = true) (hdst : o.dst = some d) (hg : wantE ops e o.guard = some true) (h : o.op = .alloc t) (hz : ∀ w, (zeroValue t).run P w = .ok z w)
    (k : ∀ p, B ≤ p → Ll P n (Own B w0 ((p, .cells z.cells t (0, 0)) :: hs)) ops l ((d, .pointer (some ⟨p, 0, none⟩)) :: e) N R X) : Ll P n (Own B w0 hs) ops (o :: l) e N R X :=
  Ll.turn hd hdst hg fun a w hF hw => ⟨.pointer (some ⟨w.heap.size, 0, none⟩), w.alloc (.cells z.cells t (0, 0)), by
    unfold execOp; rw [h]; simp only [Instr.alloc, newVar, newRow, Sem.run_bind, Sem.run_pure, hz, run_newObj, Result.andThen]; rfl,
    fun a' ha => k _ hw.base a' _ ha (hw.alloc _)⟩
/-- a store of one cell into a block of the call's own -/
theorem Ll.store1 {t p off : Nat} {x y : Operand} {v : Value} {cs : Array Value} {T : TypeId} {hs' : List (Nat × Obj)} (i : Nat) (hdst : o.dst = none) (hg : wantE ops e o.guard = some true) (h : o.op = .store t x y)
    (hx : opd e x = some (.pointer (some ⟨p, off, none⟩))) (hy : opd e y = some v) (hv : v.oneCell' = true) (hsz : ∀ w, (sizeOf t).run P w = .ok 1 w) (hi : hs[i]? = some (p, .cells cs T (0, 0))) (hoff : off < cs.size)
    (hs1 : hs.set i (p, .cells (cs.setIfInBounds off v) T (0, 0)) = hs') (k : Ll P n (Own B w0 hs') ops l e N R X) : Ll P n (Own B w0 hs) ops (o :: l) e N R X :=
  Ll.turnN hdst hg fun a w hF hw => ⟨w.setCell ⟨p, off, none⟩ v, by
    unfold execOp; rw [h]; simp only [hF.opd hx, hF.opd hy]
    have hc : v.cells = #[v] := by cases v <;> first | rfl | (simp [Value.oneCell'] at hv)
    have hcell := hw.cell hi off
    rw [Array.getElem?_eq_getElem hoff] at hcell
    have hfro : w.frozen? ⟨p, off, none⟩ = false := by simp [World.frozen?, (hw.has i p _ hi).2]
    simp only [Instr.storeAt, Instr.sureAddr, storeVar, hc, Sem.run_bind, Sem.run_pure, hsz, Result.andThen, List.size_toArray, List.length_cons, List.length_nil, Nat.zero_add, ne_eq, not_true_eq_false, if_false, storeCells, Addr.add_zero', run_store P w _ v _ hv, hcell, hfro]
    rfl,
    fun a' ha => k a' _ ha (hs1 ▸ hw.set hi off v)⟩
/-- a store of a whole struct into a block of the call's own -/
theorem Ll.storeBox {t p : Nat} {x y : Operand} {cs cs' : Array Value} {T : TypeId} {hs' : List (Nat × Obj)} (i : Nat) (hdst : o.dst = none) (hg : wantE ops e o.guard = some true) (h : o.op = .store t x y)
    (hx : opd e x = some (.pointer (some ⟨p, 0, none⟩))) (hy : opd e y = some (.agg cs')) {ti : TypeInfo} (hti : P.info? t = some ti) (htz : ti.size = cs'.size) (hi : hs[i]? = some (p, .cells cs T (0, 0))) (hsame : cs'.size = cs.size) (hv : cs'.toList.all Value.oneCell' = true)
    (hs1 : hs.set i (p, .cells cs' T (0, 0)) = hs') (k : Ll P n (Own B w0 hs') ops l e N R X) : Ll P n (Own B w0 hs) ops (o :: l) e N R X :=
  Ll.turnN hdst hg fun a w hF hw => ⟨w.setRow p cs', by
    unfold execOp; rw [h]; simp only [hF.opd hx, hF.opd hy]
    have hst := run_storeCells_from (P := P) p T cs'.toList 0 cs w (hw.has i p _ hi).2 (by simpa using hsame) (List.all_eq_true.1 hv)
    simp only [List.take_zero, List.nil_append, Array.toArray_toList] at hst
    simp only [Instr.storeAt, Instr.sureAddr, storeVar, Value.cells, sizeOf, typeInfo, Sem.run_bind, Sem.run_pure, run_program, hti, htz, Result.andThen, ne_eq, not_true_eq_false, if_false, hst],
    fun a' ha => k a' _ ha (hs1 ▸ hw.setRow hi cs')⟩
/-! ### append -/
/-- what is known of an element's type -/
structure Elem (P : Program) (t el size : Nat) : Prop where
  slice : P.underlying t = some (.slice el)
  info : ∃ i z, P.info? el = some i ∧ i.zero = some z ∧ i.size = size ∧ i.bytes ≤ 64 ∧ z.cells.size = size ∧ 0 < size
theorem nextcap {need old bytes : Nat} (h : old < need) (hb : bytes ≤ 64) (hn : need ≤ 2199023255552) : Builtin.nextslicecap need old * bytes ≤ 281474976710656 :=
  growslice_fits h (Nat.le_trans (Nat.mul_le_mul hn hb) (by decide))
/-- what stands in a row behind an append -/
theorem take_room {cur news : List Value} {k : Nat} (hk : k ≤ cur.length) : (cur.take k ++ news ++ cur.drop (k + news.length)).take (k + news.length) = cur.take k ++ news := by
  rw [List.take_append_of_le_length (by simp; omega), List.take_of_length_le (by simp; omega)]
theorem set_same {α : Type} {l : List α} {i : Nat} {x : α} (h : l[i]? = some x) : l.set i x = l := by
  apply List.ext_getElem?
  intro j
  rw [List.getElem?_set]
  split
  · rename_i e1; subst e1; split
    · exact h.symm
    · rename_i h2; rw [List.getElem?_eq_none (by omega)] at h; cases h
  · rfl
theorem run_append {t el size ty : Nat} (E : Elem P t el size) {w : World} (hw : Own B w0 hs w) {g len cap : Nat} {cur : Array Value} (i : Nat) (hi : hs[i]? = some (g, .cells cur el (0, 0))) (hcap : cur.size = cap * size) (hlen : len ≤ cap)
    (src : Option Addr) (m c : Nat) (news : List Value) (hl : news.length = m * size) (hnil : src = none → m = 0) (hnews : ∀ ad, src = some ad → ∀ j u, news[j]? = some u → w.cell? (ad.add j) = some u) (h1 : ∀ u ∈ news, u.oneCell' = true) (hb : len + m ≤ 2199023255552) :
    ∃ g' cap' cur' w', (Builtin.append_ #[t, t] ty #[.slice (some ⟨g, 0, none⟩) len cap, .slice src m c]).run P w = .ok (.slice (some ⟨g', 0, none⟩) (len + m) cap') w' ∧ B ≤ g' ∧
      cur'.size = cap' * size ∧ len + m ≤ cap' ∧ cur'.toList.take ((len + m) * size) = cur.toList.take (len * size) ++ news ∧ Own B w0 (hs.set i (g', .cells cur' el (0, 0))) w' := by
  obtain ⟨ti, z, hinfo, hz, rfl, hby, hzs, h0⟩ := E.info
  obtain ⟨hBg, hg⟩ := hw.has i g _ hi
  have hil : i < hs.length := by
    rcases Nat.lt_or_ge i hs.length with h | h
    · exact h
    · rw [List.getElem?_eq_none h] at hi; cases hi
  cases src with
  | none =>
    have hm := hnil rfl
    subst hm
    have : news = [] := List.eq_nil_of_length_eq_zero (by simpa using hl)
    subst this
    refine ⟨g, cap, cur, w, ?_, hBg, hcap, hlen, by simp, ?_⟩
    · simp [Builtin.append_, run_underlying E.slice, sizeOf, typeInfo, hinfo, Builtin.lenOf, Builtin.firstCells, hlen, storeCells]
    · rw [set_same hi]; exact hw
  | some ad =>
    by_cases hroom : len + m ≤ cap
    · have hfit : len * ti.size + news.length ≤ cur.size := by rw [hl, hcap, ← Nat.add_mul]; exact Nat.mul_le_mul_right _ hroom
      have hr := run_append_room (P := P) w t ty el ti E.slice hinfo g len cap cur hg ad m c news hl (hnews ad rfl) h1 hroom hfit
      refine ⟨g, cap, _, _, hr, hBg, ?_, hroom, ?_, hw.setRow hi _⟩
      · simp only [List.size_toArray, List.length_append, List.length_take, List.length_drop, Array.length_toList]; omega
      · rw [Nat.add_mul, ← hl]; exact take_room (by simp; omega)
    · have holds : ∀ j v, (cur.toList.take (len * ti.size))[j]? = some v → w.cell? ((⟨g, 0, none⟩ : Addr).add j) = some v := fun j v hj => by
        rw [Addr.add_lit, hw.cell hi, Nat.zero_add]
        rw [List.getElem?_take] at hj
        split at hj
        · simpa using hj
        · cases hj
      have hlo : (cur.toList.take (len * ti.size)).length = len * ti.size := by
        rw [List.length_take, Array.length_toList, hcap]
        exact Nat.min_eq_left (Nat.mul_le_mul_right _ hlen)
      have hr := run_append_grow (P := P) w t ty el ti z E.slice hinfo hz ⟨g, 0, none⟩ len cap _ hlo holds ad m c news hl (hnews ad rfl) (by omega) (by omega) (nextcap (by omega) hby hb)
      refine ⟨_, _, _, _, hr, hw.base, ?_, grownCap_ge w (len + m) cap el, ?_, Own.swap (hw.drew.alloc _) i hil⟩
      · have hge := grownCap_ge w (len + m) cap el
        simp only [Array.size_append, List.size_toArray, size_zeroCells, hzs, hlo, hl, ← Nat.add_mul]
        congr 1; omega
      · simp only [Array.toList_append, List.append_assoc]
        rw [← List.append_assoc]
        exact List.take_left' (by rw [List.length_append, hlo, hl, Nat.add_mul])
/-- append to a row of the call's own -/
theorem Ll.append {t el size d : Nat} {x y : Operand} {g len cap : Nat} {cur : Array Value} {src : Option Addr} {m c : Nat} (E : Elem P t el size) (i : Nat) (news : List Value) (hd : Nat.blt d n = true) (hdst : o.dst = some d) (hg : wantE ops e o.guard = some true)
    (h : o.op = .call ⟨.builtin .append, #[x, y], #[t, t]⟩) (hx : opd e x = some (.slice (some ⟨g, 0, none⟩) len cap)) (hy : opd e y = some (.slice src m c)) (hi : hs[i]? = some (g, .cells cur el (0, 0))) (hcap : cur.size = cap * size) (hlen : len ≤ cap)
    (hl : news.length = m * size) (hnil : src = none → m = 0) (hnews : ∀ w, Own B w0 hs w → ∀ ad, src = some ad → ∀ j u, news[j]? = some u → w.cell? (ad.add j) = some u) (h1 : ∀ u ∈ news, u.oneCell' = true) (hb : len + m ≤ 2199023255552)
    (k : ∀ g' cap' cur', B ≤ g' → cur'.size = cap' * size → len + m ≤ cap' → cur'.toList.take ((len + m) * size) = cur.toList.take (len * size) ++ news →
      Ll P n (Own B w0 (hs.set i (g', .cells cur' el (0, 0)))) ops l ((d, .slice (some ⟨g', 0, none⟩) (len + m) cap') :: e) N R X) : Ll P n (Own B w0 hs) ops (o :: l) e N R X :=
  Ll.turn hd hdst hg fun a w hF hw => by
    obtain ⟨g', cap', cur', w', hr, hB, h2, h3, h4, h5⟩ := run_append (ty := o.type) E hw i hi hcap hlen src m c news hl hnil (hnews w hw) h1 hb
    refine ⟨_, w', ?_, fun a' ha => k g' cap' cur' hB h2 h3 h4 a' w' ha h5⟩
    unfold execOp; rw [h]
    simp only [resolve, invoke, BigFrame.builtin_append, List.map_toArray, List.map_cons, List.map_nil, hF.opd hx, hF.opd hy, Sem.run_bind, Sem.run_pure, Result.andThen, hr]
theorem Ll.make {t el size d : Nat} {x : Operand} {k : Nat} {z : Value} (E : Elem P t el size) (hz : ∀ w, (zeroValue el).run P w = .ok z w) (hd : Nat.blt d n = true) (hdst : o.dst = some d) (hg : wantE ops e o.guard = some true)
    (h : o.op = .makeSlice t x x) (hx : opd e x = some (.int .i64 k)) (hk : k ≤ 4398046511104)
    (kk : ∀ g, B ≤ g → Ll P n (Own B w0 ((g, .cells (madeCells z.cells (k * size)) el (0, 0)) :: hs)) ops l ((d, .slice (some ⟨g, 0, none⟩) k k) :: e) N R X) : Ll P n (Own B w0 hs) ops (o :: l) e N R X :=
  Ll.turn hd hdst hg fun a w hF hw => by
    obtain ⟨ti, z', hinfo, hz', rfl, hby, hzs, h0⟩ := E.info
    have hzz : z' = z := by
      have := hz w
      simp only [zeroValue, typeInfo, Sem.run_bind, run_program, Result.andThen, hinfo, Sem.run_pure, hz'] at this
      injection this
    subst hzz
    have hbytes : (ti.bytes : Int) * (k : Int) ≤ 281474976710656 := by
      have : ti.bytes * k ≤ 64 * 4398046511104 := Nat.mul_le_mul hby hk
      have h2 : ((ti.bytes * k : Nat) : Int) ≤ 281474976710656 := by omega
      rwa [Int.natCast_mul] at h2
    have hr := run_make (P := P) w t el ti z' E.slice hinfo hz' .i64 .i64 k k (by omega) (Int.le_refl _) hbytes (by omega)
    simp only [Int.toNat_natCast] at hr
    refine ⟨_, _, ?_, fun a' ha => kk _ hw.base a' _ ha (hw.alloc _)⟩
    unfold execOp; rw [h]; simp only [hF.opd hx, Sem.run_bind, Sem.run_pure, Result.andThen, hr]
def idx {α : Type} : Nat → List α → List (Nat × α)
  | _, [] => []
  | k, x :: xs => (k, x) :: idx (k + 1) xs
theorem idx_map {α β : Type} (f : α → β) : ∀ (k : Nat) (xs : List α), (idx k xs).map (fun (i, x) => (i, f x)) = idx k (xs.map f)
  | _, [] => rfl
  | k, x :: xs => by simp only [idx, List.map_cons, idx_map f (k + 1) xs]
theorem fill_idx : ∀ (vs pre : List Value) (cells : Array Value), (∀ v ∈ vs, v.oneCell' = true) → cells.size = pre.length + vs.length → cells.toList.take pre.length = pre →
    Instr.fill (fun i => some (i * 1, 1)) cells (idx pre.length vs) = some (pre ++ vs).toArray
  | [], pre, cells, _, hs, hp => by
    simp only [idx, Instr.fill, List.append_nil, Option.some.injEq]
    rw [← hp, List.take_of_length_le (by simp at hs ⊢; omega)]
  | v :: vs, pre, cells, h1, hs, hp => by
    have hc : v.cells = #[v] := by
      have := h1 v (by simp)
      cases v <;> first | rfl | (simp [Value.oneCell'] at this)
    simp only [idx, Instr.fill, hc, Nat.mul_one]
    rw [if_neg (by simp at hs ⊢; omega)]
    have := fill_idx vs (pre ++ [v]) (cells.setIfInBounds pre.length v) (fun u hu => h1 u (by simp [hu])) (by simp at hs ⊢; omega) (by
      apply List.ext_getElem?
      intro j
      simp only [List.length_append, List.length_cons, List.length_nil, Array.toList_setIfInBounds, List.getElem?_take, List.getElem?_set, Array.length_toList, List.getElem?_append]
      have hpj : j < pre.length → cells.toList[j]? = pre[j]? := fun hj => by
        have := congrArg (fun l => l[j]?) hp
        simp only [List.getElem?_take, if_pos hj] at this
        exact this
      by_cases h2 : j < pre.length
      · rw [if_pos (by omega), if_neg (by omega), if_pos h2]; exact hpj h2
      · by_cases h3 : j = pre.length
        · subst h3; simp at hs; simp; omega
        · rw [if_neg (by omega), if_neg h2]; simp; omega)
    simpa using this
theorem Ll.slice {t el d : Nat} {xs : List Operand} {vs : List Value} {k : Nat} (E : Elem P t el 1) (hd : Nat.blt d n = true) (hdst : o.dst = some d) (hg : wantE ops e o.guard = some true)
    (h : o.op = .buildSlice t k (idx 0 xs).toArray) (hx : opds e xs = some vs) (hk : vs.length = k) (hk2 : k ≤ 1000) (h1 : vs.all Value.oneCell' = true)
    (kk : ∀ g, B ≤ g → Ll P n (Own B w0 ((g, .cells vs.toArray el (0, 0)) :: hs)) ops l ((d, .slice (some ⟨g, 0, none⟩) k k) :: e) N R X) : Ll P n (Own B w0 hs) ops (o :: l) e N R X :=
  Ll.turn hd hdst hg fun a w hF hw => by
    obtain ⟨ti, z, hinfo, hz, hsz, hby, hzs, h0⟩ := E.info
    refine ⟨_, w.alloc (.cells vs.toArray el (0, 0)), ?_, fun a' ha => kk _ hw.base a' _ ha (hw.alloc _)⟩
    have hmap : List.map (fun x => (x.1, a.eval x.2)) (idx 0 xs) = idx 0 vs := by
      rw [← opds_spec hF xs vs hx]
      exact idx_map a.eval 0 xs
    have hfill : ∀ cells : Array Value, cells.size = k → Instr.fill (fun i => some (i, 1)) cells (idx 0 vs) = some vs.toArray := fun cells hc => by
      have := fill_idx vs [] cells (List.all_eq_true.1 h1) (by simp [hc, hk]) (by simp)
      simpa using this
    unfold execOp; rw [h]
    simp only [Instr.buildSlice, Sem.run_bind, run_underlying E.slice, sizeOf, typeInfo, run_program, hinfo, Sem.run_pure, Result.andThen, hsz, Nat.mul_one]
    rw [if_neg (by omega)]
    by_cases hk0 : k = 0
    · subst hk0
      have : vs = [] := List.eq_nil_of_length_eq_zero hk
      subst this
      simp only [if_true, Sem.run_bind, Sem.run_pure, Result.andThen, List.map_toArray, hmap, Array.range_zero', List.map_nil]
      rfl
    · simp only [if_neg hk0, zeroValue, Sem.run_bind, typeInfo, run_program, hinfo, hz, Sem.run_pure, Result.andThen, List.map_toArray, hmap]
      rw [hfill _ (by simp)]
      simp only [newRow, Sem.run_bind, run_newObj, Sem.run_pure, Result.andThen]
      rfl
end
section
variable {P : Program} {n : Nat} {C : World → Prop} {N R : Act → World → Prop} {X : List (Nat × (Act → World → Prop))} {e : Env} {ops : Array Oper} {l : List Oper} {o : Oper}
/-! ### a function's beginning and end -/
theorem lookup_idx {α : Type} : ∀ (vs : List α) (k t : Nat) (v : α), (idx k vs).lookup t = some v → k ≤ t ∧ vs[t - k]? = some v
  | [], _, _, _, h => by cases h
  | x :: vs, k, t, v, h => by
    simp only [idx, List.lookup_cons] at h
    by_cases e1 : t = k
    · subst e1; simp only [beq_self_eq_true] at h; exact ⟨Nat.le_refl _, by simpa using h⟩
    · simp only [beq_eq_false_iff_ne.2 e1] at h
      obtain ⟨h1, h2⟩ := lookup_idx vs (k + 1) t v h
      refine ⟨by omega, ?_⟩
      rw [show t - k = (t - (k + 1)) + 1 by omega, List.getElem?_cons_succ]; exact h2
theorem fnStartC (C0 : World → Prop) {f : FuncId} {fn : Func} {c : Code} {vs : List Value} {w : World} {R : Ending → World → Prop} {n : Nat} {e : Env} (hf : P.funcs[f]? = some fn) (hb : fn.body = some c) (hn : fn.ntmps = n) (hsz : Nat.ble vs.length n = true)
    (he : idx 0 vs = e) (hN : (∀ a w, N a w → bodyPost P fn R .normal a w) ∧ (∀ a w, N a w → bodyPost P fn R .ret a w))
    (hC : C0 w) (h : Wk P n C0 c N N [] e) : Calls P f vs.toArray w R := by
  subst hn
  have hsz' : vs.length ≤ fn.ntmps := by simpa using hsz
  refine calls_of_wp hf hb (wp_mono (h _ w ⟨rfl, by simp; omega, fun t v ht => ?_⟩ hC) fun en a w' hh => ?_)
  · have := (lookup_idx vs 0 t v (by rw [he]; exact ht)).2
    have hlt : t < vs.length := by
      rcases Nat.lt_or_ge t vs.length with h1 | h1
      · exact h1
      · rw [List.getElem?_eq_none (by omega)] at this; cases this
    rw [Array.getElem?_append_left (by simpa using hlt)]; simpa using this
  · cases en with
    | normal => exact hN.1 _ _ hh
    | ret => exact hN.2 _ _ hh
    | exit i => simp [post] at hh
    | _ => exact hh.elim
theorem fnStart {f : FuncId} {fn : Func} {c : Code} {vs : List Value} {w : World} {R : Ending → World → Prop} {n : Nat} {e : Env} (hf : P.funcs[f]? = some fn) (hb : fn.body = some c) (hn : fn.ntmps = n) (hsz : Nat.ble vs.length n = true)
    (he : idx 0 vs = e) (hN : (∀ a w, N a w → bodyPost P fn R .normal a w) ∧ (∀ a w, N a w → bodyPost P fn R .ret a w))
    (h : Wk P n (Own w.heap.size w []) c N N [] e) : Calls P f vs.toArray w R := fnStartC _ hf hb hn hsz he hN (Own.start w) h
/-- what is owed at the function's end -/
def Ends (P : Program) (fn : Func) (R : Ending → World → Prop) : Act → World → Prop := fun a w => a.defers = [] ∧ ∃ v, (results fn a.tmps).run P w = .ok v w ∧ R (.returned v) w
theorem Ends.both {fn : Func} {R : Ending → World → Prop} : (∀ a w, Ends P fn R a w → bodyPost P fn R .normal a w) ∧ (∀ a w, Ends P fn R a w → bodyPost P fn R .ret a w) := ⟨fun _ _ h => h, fun _ _ h => h⟩
theorem Kt.end1 {fn : Func} {R : Ending → World → Prop} {t : Nat} {v : Value} (hr : fn.results = #[.tmp t]) (he : e.lookup t = some v) (h : ∀ w, C w → R (.returned v) w) : Kt n C e (Ends P fn R) := fun a w hf hc =>
  ⟨hf.defers, v, by rw [results_tmp hr]; rw [Array.getD_eq_getD_getElem?, hf.slot t v he]; rfl, h w hc⟩
theorem Kt.end2 {fn : Func} {R : Ending → World → Prop} {t u : Nat} {v x : Value} (hr : fn.results = #[.tmp t, .tmp u]) (he : e.lookup t = some v) (he' : e.lookup u = some x) (h : ∀ w, C w → R (.returned (.tuple #[v, x])) w) : Kt n C e (Ends P fn R) := fun a w hf hc =>
  ⟨hf.defers, _, by rw [results_tmp2 hr]; rw [Array.getD_eq_getD_getElem?, hf.slot t v he, Array.getD_eq_getD_getElem?, hf.slot u x he']; rfl, h w hc⟩
/-! ### slices that came in, or came from a call: rows of cells -/
/-- the slice v reads as the values vs, one cell each -/
def Row (w : World) (v : Value) (vs : List Value) : Prop :=
  ∃ src cap, v = .slice src vs.length cap ∧ vs.length ≤ cap ∧ (src = none → vs = []) ∧ ∀ ad, src = some ad → ad.spot = none ∧ ∀ (j : Nat) (u : Value), vs[j]? = some u → w.cell? ⟨ad.block, ad.off + j, none⟩ = some u
def sAt (v : Value) (i : Int) : Addr := match v with | .slice (some ad) _ _ => ⟨ad.block, ad.off + i.toNat, none⟩ | _ => ⟨0, 0, none⟩
def sTake (v : Value) (k : Nat) : Value := match v with | .slice a _ c => .slice a k c | v => v
theorem Row.later {w w' : World} {v : Value} {vs : List Value} (h : Row w v vs) (hb : Below w.heap.size w w') : Row w' v vs := by
  obtain ⟨src, cap, h1, h2, h3, h4⟩ := h
  refine ⟨src, cap, h1, h2, h3, fun ad had => ⟨(h4 ad had).1, fun j u hj => ?_⟩⟩
  have hc := (h4 ad had).2 j u hj
  rw [hb.cell (p := ⟨ad.block, ad.off + j, none⟩) (World.block_lt_of_cell? w _ hc)]; exact hc
/-- what came in reads so still -/
theorem Row.own {w0 w : World} {v : Value} {vs : List Value} {hs : List (Nat × Obj)} (h : Row w0 v vs) (hw : Own w0.heap.size w0 hs w) : Row w v vs := h.later hw.below
theorem Row.take {w : World} {v : Value} {vs : List Value} (h : Row w v vs) (k : Nat) (hk : k ≤ vs.length) : Row w (sTake v k) (vs.take k) := by
  obtain ⟨src, cap, rfl, h2, h3, h4⟩ := h
  refine ⟨src, cap, by simp [sTake, Nat.min_eq_left hk], by simp; omega, fun hn => by rw [h3 hn]; simp, fun ad had => ⟨(h4 ad had).1, fun j u hj => (h4 ad had).2 j u ?_⟩⟩
  rw [List.getElem?_take] at hj
  split at hj
  · exact hj
  · cases hj
theorem Row.cell {w : World} {v : Value} {vs : List Value} (h : Row w v vs) {i : Int} (h0 : 0 ≤ i) (h1 : i < vs.length) : w.cell? (sAt v i) = some (vs.getD i.toNat undef) := by
  obtain ⟨src, cap, rfl, h2, h3, h4⟩ := h
  have hlt : i.toNat < vs.length := by omega
  cases src with
  | none => rw [h3 rfl] at hlt; simp at hlt
  | some ad => exact (h4 ad rfl).2 i.toNat _ (by rw [List.getD_eq_getElem?_getD, List.getElem?_eq_getElem hlt]; rfl)
/-- a row of the call's own -/
theorem Own.row {w w0 : World} {B : Nat} {hs : List (Nat × Obj)} (h : Own B w0 hs w) {i p : Nat} {cs : Array Value} {T : TypeId} {fr : Nat × Nat} (hi : hs[i]? = some (p, .cells cs T fr)) {n cap : Nat} {vs : List Value} (ht : cs.toList.take n = vs) (hn : vs.length = n) (hc : n ≤ cap) :
    Row w (.slice (some ⟨p, 0, none⟩) n cap) vs := by
  subst hn
  refine ⟨_, cap, rfl, hc, fun h => (by cases h), fun ad had => ?_⟩
  injection had with had
  subst had
  refine ⟨rfl, fun j u hj => ?_⟩
  simp only [Nat.zero_add]
  rw [h.cell hi]
  rw [← ht, List.getElem?_take] at hj
  split at hj
  · simpa using hj
  · cases hj
theorem OpQ.lenRow {t el : TypeId} {x : Operand} {v : Value} {vs : List Value} (h : o.op = .call ⟨.builtin .len, #[x], #[t]⟩) (hu : ∀ w, (underlying t).run P w = .ok (.slice el) w) (hx : opd e x = some v) {k : Nat} (hk : vs.length = k) (hr : ∀ w, C w → Row w v vs) : OpQ P n C e o (.int .i64 k) := by
  subst hk
  unfold OpQ
  intro a hF w hw
  obtain ⟨src, cap, rfl, _⟩ := hr w hw
  have := OpQ.lenS (P := P) (C := C) (n := n) (e := e) h hu hx
  unfold OpQ at this
  exact this a hF w hw
theorem OpQ.atRow {t el : TypeId} {x y : Operand} {v : Value} {vs : List Value} {k : IntKind} {i : Int} (h : o.op = .indexAddr t x y) (hu : ∀ w, (underlying t).run P w = .ok (.slice el) w) (hz : ∀ w, (sizeOf el).run P w = .ok 1 w)
    (hx : opd e x = some v) (hy : opd e y = some (.int k i)) (h0 : 0 ≤ i) (h1 : i < vs.length) (hr : ∀ w, C w → Row w v vs) : OpQ P n C e o (.pointer (some (sAt v i))) := by
  unfold OpQ
  intro a hF w hw
  obtain ⟨src, cap, rfl, h2, h3, h4⟩ := hr w hw
  cases src with
  | none => rw [h3 rfl] at h1; simp at h1; omega
  | some ad =>
    obtain ⟨b, off, sp⟩ := ad
    obtain rfl : sp = none := (h4 _ rfl).1
    have := OpQ.indexAddr1 (P := P) (C := C) (n := n) (e := e) h hu hz hx hy h0 h1
    unfold OpQ at this
    exact this a hF w hw
theorem OpQ.takeRow {t el : TypeId} {x y : Operand} {v : Value} {vs : List Value} {k : IntKind} {i : Int} (h : o.op = .slice t x none (some y) none) {sz : Nat} (hu : ∀ w, (underlying t).run P w = .ok (.slice el) w) (hz : ∀ w, (sizeOf el).run P w = .ok sz w) (hx : opd e x = some v) (hy : opd e y = some (.int k i)) (h0 : 0 ≤ i) (h1 : i ≤ vs.length)
    (hr : ∀ w, C w → Row w v vs) : OpQ P n C e o (sTake v i.toNat) := by
  unfold OpQ
  intro a hF w hw
  obtain ⟨src, cap, rfl, h2, h3, h4⟩ := hr w hw
  unfold Oper.quietAt execOp; rw [h]; simp only [hF.opd hx, Option.map_some, Option.map_none, hF.opd hy]
  have hi : 0 ≤ i ∧ i ≤ cap := ⟨h0, by omega⟩
  simp only [Instr.sliceAt, Instr.slice, Instr.sliceBounds, Instr.sliceBound, asIntOf, Sem.run_bind, Sem.run_pure, hu, hz, Result.andThen, if_pos hi, Nat.zero_mul, Nat.sub_zero]
  have : (if cap = 0 then src else src.map (·.add 0)) = src := by
    split
    · rfl
    · cases src with
      | none => rfl
      | some ad => simp [Addr.add_zero']
  rw [this]
  exact ⟨rfl, rfl⟩
theorem not_true {b : Bool} (h : (!b) = true) : b = false := by simpa using h
theorem not_false {b : Bool} (h : (!b) = false) : b = true := by simpa using h
end
/-! ### rows of the call's own, by their length -/
section
variable {P : Program} {n : Nat} {C : World → Prop} {N R : Act → World → Prop} {X : List (Nat × (Act → World → Prop))} {e : Env} {ops : Array Oper} {l : List Oper} {o : Oper} {B : Nat} {w0 : World} {hs : List (Nat × Obj)}
/-- v is a new slice of n elements: its cells -/
def NewRow (B el size : Nat) (w : World) (v : Value) (n : Nat) (vs : List Value) : Prop :=
  ∃ (g cap : Nat) (cur : Array Value), v = .slice (some ⟨g, 0, none⟩) n cap ∧ B ≤ g ∧ w.heap[g]? = some (.cells cur el (0, 0)) ∧ cur.size = cap * size ∧ n ≤ cap ∧ cur.toList.take (n * size) = vs
theorem Own.newRow {w : World} (h : Own B w0 hs w) {i g el cap : Nat} {cur : Array Value} (hi : hs[i]? = some (g, .cells cur el (0, 0))) {size n : Nat} {vs : List Value} (hc : cur.size = cap * size) (hn : n ≤ cap) (ht : cur.toList.take (n * size) = vs) :
    NewRow B el size w (.slice (some ⟨g, 0, none⟩) n cap) n vs := ⟨g, cap, cur, rfl, (h.has i g _ hi).1, (h.has i g _ hi).2, hc, hn, ht⟩
/-- a block that a call has made is known from now on -/
theorem Own.learn {w w' : World} (h : Own B w0 hs w) (hb : Below w.heap.size w w') {g : Nat} {u : Obj} (hg : w.heap.size ≤ g) (hh : w'.heap[g]? = some u) : Own B w0 ((g, u) :: hs) w' := by
  have h' := h.calls hb
  have lt : ∀ (k q : Nat) (v : Obj), hs[k]? = some (q, v) → q < w.heap.size := fun k q v hk => by
    have := (h.has k q v hk).2
    rcases Nat.lt_or_ge q w.heap.size with h3 | h3
    · exact h3
    · rw [Array.getElem?_eq_none h3] at this; cases this
  refine ⟨h'.below, h'.base, fun i p o hi => ?_, fun i j p o q x hi hj hij => ?_⟩
  · cases i with
    | zero =>
      simp only [List.getElem?_cons_zero, Option.some.injEq, Prod.mk.injEq] at hi
      obtain ⟨rfl, rfl⟩ := hi
      exact ⟨Nat.le_trans h.base hg, hh⟩
    | succ i => exact h'.has i p o (by simpa using hi)
  · cases i with
    | zero =>
      simp only [List.getElem?_cons_zero, Option.some.injEq, Prod.mk.injEq] at hi
      cases j with
      | zero => exact absurd rfl hij
      | succ j => have := lt j q x (by simpa using hj); omega
    | succ i =>
      cases j with
      | zero =>
        simp only [List.getElem?_cons_zero, Option.some.injEq, Prod.mk.injEq] at hj
        have := lt i p o (by simpa using hi); omega
      | succ j => exact h.apart i j p o q x (by simpa using hi) (by simpa using hj) (by omega)
/-- a call that hands back a new slice -/
theorem Ll.callRow {d f el size m : Nat} {xs : List Operand} {ts : Array TypeId} {us vs : List Value} (hd : Nat.blt d n = true) (hdst : o.dst = some d) (hg : wantE ops e o.guard = some true) (h : o.op = .call ⟨.value (.func f), xs.toArray, ts⟩)
    (hcf : ∀ args w, (callFunc f args).run P w = .ok (.enter f args) w) (hx : opds e xs = some us)
    (hc : ∀ w, Own B w0 hs w → Calls P f us.toArray w fun en w' => ∃ v, en = .returned v ∧ Below w.heap.size w w' ∧ NewRow w.heap.size el size w' v m vs)
    (k : ∀ g cap cur, B ≤ g → cur.size = cap * size → m ≤ cap → cur.toList.take (m * size) = vs → Ll P n (Own B w0 ((g, .cells cur el (0, 0)) :: hs)) ops l ((d, .slice (some ⟨g, 0, none⟩) m cap) :: e) N R X) : Ll P n (Own B w0 hs) ops (o :: l) e N R X :=
  Ll.call hd hdst hg h hcf hx fun w hw => (hc w hw).mono fun en w' ⟨v, h1, h2, g, cap, cur, h3, h4, h5, h6, h7, h8⟩ => ⟨v, h1, fun a' ha => by
    subst h3
    have := k g cap cur (Nat.le_trans hw.base h4) h6 h7 h8
    unfold Ll at this
    exact this a' w' ha (hw.learn h2 h4 h5)⟩
/-- a call that writes a row of the caller's own, and nothing else -/
theorem Ll.callSet {d f g T : Nat} {xs : List Operand} {ts : Array TypeId} {us : List Value} {v : Value} {cs cs' : Array Value} {hs' : List (Nat × Obj)} (i : Nat) (hd : Nat.blt d n = true) (hdst : o.dst = some d) (hg : wantE ops e o.guard = some true) (h : o.op = .call ⟨.value (.func f), xs.toArray, ts⟩)
    (hcf : ∀ args w, (callFunc f args).run P w = .ok (.enter f args) w) (hx : opds e xs = some us) (hi : hs[i]? = some (g, .cells cs T (0, 0)))
    (hc : ∀ w, w.heap[g]? = some (.cells cs T (0, 0)) → Calls P f us.toArray w fun en w' => en = .returned v ∧ w' = w.setRow g cs') (hs1 : hs.set i (g, .cells cs' T (0, 0)) = hs')
    (k : Ll P n (Own B w0 hs') ops l ((d, v) :: e) N R X) : Ll P n (Own B w0 hs) ops (o :: l) e N R X :=
  Ll.call hd hdst hg h hcf hx fun w hw => (hc w (hw.has i g _ hi).2).mono fun en w' ⟨h1, h2⟩ => ⟨v, h1, fun a' ha => by
    subst h2
    unfold Ll at k
    exact k a' _ ha (hs1 ▸ hw.setRow hi cs')⟩
/-- an integer of a row of the call's own -/
theorem OpQ.loadAt {t : TypeId} {x : Operand} {p off : Nat} {v : Value} {cs : Array Value} {T : TypeId} {fr : Nat × Nat} (i : Nat) (h : o.op = .load t x) (hag : ∀ w, (isAgg t).run P w = .ok false w)
    (hx : opd e x = some (.pointer (some ⟨p, off, none⟩))) (hi : hs[i]? = some (p, .cells cs T fr)) (hv : cs.toList[off]? = some v) : OpQ P n (Own B w0 hs) e o v :=
  OpQ.load1 h hag hx fun w hw => by rw [hw.cell hi]; simpa using hv
/-! ### a struct as the result; an exact world -/
theorem Kt.endBox {fn : Func} {R : Ending → World → Prop} {t ty p : Nat} {cs : Array Value} {T : TypeId} {fr : Nat × Nat} (i : Nat) (hr : fn.results = #[.cell t ty]) (he : e.lookup t = some (.pointer (some ⟨p, 0, none⟩))) (hi : hs[i]? = some (p, .cells cs T fr))
    (hag : ∀ w, (isAgg ty).run P w = .ok true w) (hsz : ∀ w, (sizeOf ty).run P w = .ok cs.size w) (h : ∀ w, Own B w0 hs w → R (.returned (.agg cs)) w) : Kt n (Own B w0 hs) e (Ends P fn R) := by
  unfold Kt Wk.Ends
  intro a w hf hw
  refine ⟨hf.defers, .agg cs, ?_, h w hw⟩
  have hl := run_loadCells_list (P := P) (w := w) ⟨p, 0, none⟩ cs.toList (fun j v hj => by rw [Addr.add_lit, hw.cell hi]; simpa using hj)
  simp only [Array.length_toList] at hl
  have ht : a.tmps.getD t undef = .pointer (some ⟨p, 0, none⟩) := by rw [Array.getD_eq_getD_getElem?, hf.slot t _ he]; rfl
  simp only [results, hr, List.mapM_toArray, List.mapM_cons, List.mapM_nil, Sem.run_bind, Sem.run_map, Sem.run_pure, ht, asAddr, loadVar, hag, if_true, hsz, hl, Result.andThen]
  simp
theorem Ll.storeExact {g off : Nat} {x y : Operand} {v : Value} {cs : Array Value} {T t : TypeId} (hdst : o.dst = none) (hg : wantE ops e o.guard = some true) (h : o.op = .store t x y)
    (hx : opd e x = some (.pointer (some ⟨g, off, none⟩))) (hy : opd e y = some v) (hv : v.oneCell' = true) (hsz : ∀ w, (sizeOf t).run P w = .ok 1 w) {c0 : Array Value} (h0 : w0.heap[g]? = some (.cells c0 T (0, 0))) (hoff : off < cs.size)
    (k : Ll P n (fun w => w = w0.setRow g (cs.setIfInBounds off v)) ops l e N R X) : Ll P n (fun w => w = w0.setRow g cs) ops (o :: l) e N R X :=
  Ll.turnN hdst hg fun a w hF hw => by
    subst hw
    have hh := setRow_heap w0 g c0 cs T (0, 0) h0
    refine ⟨(w0.setRow g cs).setCell ⟨g, off, none⟩ v, ?_, fun a' ha => ?_⟩
    · unfold execOp; rw [h]; simp only [hF.opd hx, hF.opd hy]
      have hc : v.cells = #[v] := by cases v <;> first | rfl | (simp [Value.oneCell'] at hv)
      have hcell : (w0.setRow g cs).cell? ⟨g, off, none⟩ = some cs[off] := by simp [World.cell?, hh, hoff]
      have hfro : (w0.setRow g cs).frozen? ⟨g, off, none⟩ = false := by simp [World.frozen?, hh]
      simp only [Instr.storeAt, Instr.sureAddr, storeVar, hc, Sem.run_bind, Sem.run_pure, hsz, Result.andThen, List.size_toArray, List.length_cons, List.length_nil, Nat.zero_add, ne_eq, not_true_eq_false, if_false, storeCells, Addr.add_zero', run_store P _ _ v _ hv, hcell, hfro]
      rfl
    · unfold Ll at k
      refine k a' _ ha ?_
      rw [setCell_eq_setRow _ g off cs T (0, 0) v hh, setRow_setRow]
end
section
variable {P : Program} {n : Nat} {C : World → Prop} {N R : Act → World → Prop} {X : List (Nat × (Act → World → Prop))} {e : Env} {ops : Array Oper} {l : List Oper} {o : Oper}
theorem row_self {w : World} {g : Nat} {cs : Array Value} {T : TypeId} {fr : Nat × Nat} (h : w.heap[g]? = some (.cells cs T fr)) : w.setRow g cs = w := by
  unfold World.setRow
  cases w with
  | mk heap tape drawn os output =>
    congr 1
    apply Array.ext
    · simp
    · intro k h1 h2
      simp only [Array.getElem_modify]
      split
      · rename_i hk; subst hk
        simp only at h h2
        rw [Array.getElem?_eq_getElem h2] at h
        injection h with h
        rw [h]
      · rfl
/-- on to the next piece of code -/
theorem Ll.on {c : Code} (h : Wk P n C c N R X e) : Ll P n C ops [] e (Cn P c N R X) R X := Ll.nil h
theorem Lq.on {c : Code} (h : Wk P n C c N R X e) : Lq P n C ops [] e (Cn P c N R X) := Lq.nil h
/-- .. with the slots that matter -/
theorem Ll.onSub {c : Code} {e' : Env} (k : Sub e' e) (h : Wk P n C c N R X e') : Ll P n C ops [] e (Cn P c N R X) R X := Ll.nil (Kt.sub k h)
theorem Lq.onSub {c : Code} {e' : Env} (k : Sub e' e) (h : Wk P n C c N R X e') : Lq P n C ops [] e (Cn P c N R X) := Lq.nil (Kt.sub k h)
theorem Kt.onSub {c : Code} {e' : Env} (k : Sub e' e) (h : Wk P n C c N R X e') : Kt n C e (Cn P c N R X) := Kt.sub k h
end
attribute [irreducible] Wk Ll Lq Kt Cn Again Ends OpQ
end Go.Wk
