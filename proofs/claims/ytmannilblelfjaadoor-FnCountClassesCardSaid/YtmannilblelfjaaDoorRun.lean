/-
  STEPS IN ONE: operations that only turn known values into known values are run in a row; the slots that are still read are kept by their numbers. No program in sight.
-/
import Derived.Test.YtmannilblelfjaaDoorPlain15
import Derived.Test.YtmannilblelfjaaDoorPlain28
namespace Go.Wk
open Go.RowKit
def selE : List Nat → Env → Env
  | [], _ => []
  | t :: ts, e => match e.lookup t with
    | some v => (t, v) :: selE ts e
    | none => selE ts e
theorem selE_sub : ∀ (ts : List Nat) (e : Env), Sub (selE ts e) e
  | [], _ => Sub.nil
  | t :: ts, e => by
    unfold selE
    split
    · rename_i v h; exact Sub.cons h (selE_sub ts e)
    · exact selE_sub ts e
def evq (e : Env) : Op → Option Value
  | .move x => opd e x
  | .assign x => opd e x
  | .extract x k => match opd e x with
    | some (.tuple vs) => vs.toList[k]?
    | _ => none
  | .pick c x y => match opd e c with
    | some (.bool true) => opd e x
    | some (.bool false) => opd e y
    | _ => none
  | .unOp .not _ x => match opd e x with
    | some (.bool b) => some (.bool (!b))
    | _ => none
  | .binOp r _ x y _ => match opd e x, opd e y with
    | some (.int k i), some (.int k' j) => if k = k' then (match r with
      | .lss => some (.bool (decide (i < j)))
      | .leq => some (.bool (decide (i ≤ j)))
      | .gtr => some (.bool (decide (j < i)))
      | .geq => some (.bool (decide (j ≤ i)))
      | .eql => some (.bool (decide (i = j)))
      | .neq => some (.bool (!decide (i = j)))
      | _ => none) else none
    | _, _ => none
  | _ => none
section
variable {P : Program} {n : Nat} {S C : World → Prop} {N R : Act → World → Prop} {X : List (Nat × (Act → World → Prop))} {e e' : Env} {ops : Array Oper} {l l' : List Oper} {o : Oper}
theorem Kt.sel (ts : List Nat) (e' : Env) {c : Code} (h : selE ts e = e') (k : Wk P n C c N R X e') : Kt n C e (Cn P c N R X) := by
  subst h
  exact Kt.onSub (selE_sub ts e) k
theorem Sub.sel (ts : List Nat) (h : selE ts e = e') : Sub e' e := by
  subst h
  exact selE_sub ts e
theorem evq_ok {v : Value} (h : evq e o.op = some v) : OpQ P n C e o v := by
  cases ho : o.op with
  | move x => rw [ho] at h; exact OpQ.move ho h
  | assign x => rw [ho] at h; exact OpQ.assign ho h
  | extract x k =>
    rw [ho] at h
    simp only [evq] at h
    split at h
    · rename_i vs hx; exact OpQ.extract ho hx (by simpa using h)
    · cases h
  | pick c x y =>
    rw [ho] at h
    simp only [evq] at h
    split at h
    · rename_i hc; exact OpQ.pickT ho hc h
    · rename_i hc; exact OpQ.pickF ho hc h
    · cases h
  | unOp r t x =>
    rw [ho] at h
    cases r <;> simp only [evq] at h <;> first | (cases h; done) | skip
    split at h
    · rename_i b hx; injection h with h; subst h; exact OpQ.not ho hx
    · cases h
  | binOp r t x y t' =>
    rw [ho] at h
    simp only [evq] at h
    split at h
    · rename_i k i k' j hx hy
      split at h
      · rename_i hk
        subst hk
        cases r <;> simp only [Option.some.injEq, reduceCtorEq] at h
        all_goals subst h
        all_goals first | exact OpQ.lss ho hx hy | exact OpQ.leq ho hx hy | exact OpQ.gtr ho hx hy | exact OpQ.geq ho hx hy | exact OpQ.eql ho hx hy | exact OpQ.neq ho hx hy
      · cases h
    · cases h
  | _ => rw [ho] at h; simp [evq] at h
/-- one operation: the slot, its value -/
def stq (n : Nat) (ops : Array Oper) (o : Oper) (e : Env) : Option (Nat × Value) := match o.dst with
  | some d => match Nat.blt d n with
    | true => match wantE ops e o.guard with
      | some true => match evq e o.op with
        | some v => some (d, v)
        | none => none
      | some false => some (d, undef)
      | none => none
    | false => none
  | none => none
theorem stq_ok {d : Nat} {v : Value} (h : stq n ops o e = some (d, v)) : o.dst = some d ∧ Nat.blt d n = true ∧ ((wantE ops e o.guard = some true ∧ evq e o.op = some v) ∨ (wantE ops e o.guard = some false ∧ v = undef)) := by
  unfold stq at h
  split at h
  · rename_i d' hd
    split at h
    · rename_i hb
      split at h
      · rename_i hw
        split at h
        · rename_i v' hv
          simp only [Option.some.injEq, Prod.mk.injEq] at h
          obtain ⟨rfl, rfl⟩ := h
          exact ⟨hd, hb, .inl ⟨hw, hv⟩⟩
        · cases h
      · rename_i hw
        simp only [Option.some.injEq, Prod.mk.injEq] at h
        obtain ⟨rfl, rfl⟩ := h
        exact ⟨hd, hb, .inr ⟨hw, rfl⟩⟩
      · cases h
    · cases h
  · cases h
def runQ (n : Nat) (ops : Array Oper) : Nat → List Oper → Env → Option (List Oper × Env)
  | 0, l, e => some (l, e)
  | _ + 1, [], _ => none
  | k + 1, o :: l, e => match stq n ops o e with
    | some x => runQ n ops k l (x :: e)
    | none => none
theorem Lq.run_ : ∀ (k : Nat) (l : List Oper) (e : Env), runQ n ops k l e = some (l', e') → Lq P n C ops l' e' N → Lq P n C ops l e N
  | 0, l, e, h, K => by
    unfold runQ at h
    simp only [Option.some.injEq, Prod.mk.injEq] at h
    obtain ⟨rfl, rfl⟩ := h
    exact K
  | k + 1, [], e, h, K => by unfold runQ at h; cases h
  | k + 1, o :: l, e, h, K => by
    unfold runQ at h
    split at h
    · rename_i x hx
      obtain ⟨d, v⟩ := x
      obtain ⟨h1, h2, ⟨h3, h4⟩ | ⟨h3, rfl⟩⟩ := stq_ok hx
      · exact Lq.op h2 h1 h3 (evq_ok h4) (Lq.run_ k l _ h K)
      · exact Lq.pass h2 h1 h3 (Lq.run_ k l _ h K)
    · cases h
theorem Lq.run (k : Nat) (h : runQ n ops k l e = some (l', e')) (K : Lq P n C ops l' e' N) : Lq P n C ops l e N := Lq.run_ k l e h K
theorem Ll.run_ : ∀ (k : Nat) (l : List Oper) (e : Env), runQ n ops k l e = some (l', e') → Ll P n C ops l' e' N R X → Ll P n C ops l e N R X
  | 0, l, e, h, K => by
    unfold runQ at h
    simp only [Option.some.injEq, Prod.mk.injEq] at h
    obtain ⟨rfl, rfl⟩ := h
    exact K
  | k + 1, [], e, h, K => by unfold runQ at h; cases h
  | k + 1, o :: l, e, h, K => by
    unfold runQ at h
    split at h
    · rename_i x hx
      obtain ⟨d, v⟩ := x
      obtain ⟨h1, h2, ⟨h3, h4⟩ | ⟨h3, rfl⟩⟩ := stq_ok hx
      · exact Ll.op h2 h1 h3 (evq_ok h4) (Ll.run_ k l _ h K)
      · exact Ll.pass h2 h1 h3 (Ll.run_ k l _ h K)
    · cases h
theorem Ll.run (k : Nat) (h : runQ n ops k l e = some (l', e')) (K : Ll P n C ops l' e' N R X) : Ll P n C ops l e N R X := Ll.run_ k l e h K
theorem evq_value {v : Value} (h : evq e o.op = some v) : valueOp o = true := by
  unfold valueOp
  cases ho : o.op <;> rw [ho] at h <;> first | rfl | (simp [evq] at h; done)
/-! ### in an order of one's own -/
def runV (n : Nat) (ops : Array Oper) : Nat → OV → Env → Option (OV × Env)
  | 0, T, e => some (T, e)
  | k + 1, .take i T, e => match ops[i]? with
    | some o => match stq n ops o e with
      | some x => runV n ops k T (x :: e)
      | none => none
    | none => none
  | _ + 1, _, _ => none
theorem Lv.run_ (hS : ∀ w, C w → S w) {T' : OV} : ∀ (k : Nat) (T : OV) (e : Env), runV n ops k T e = some (T', e') → Lv P n S C ops T' e' N R X → Lv P n S C ops T e N R X
  | 0, T, e, h, K => by
    unfold runV at h
    simp only [Option.some.injEq, Prod.mk.injEq] at h
    obtain ⟨rfl, rfl⟩ := h
    exact K
  | k + 1, T, e, h, K => by
    unfold runV at h
    split at h
    · contradiction
    · rename_i hk
      injection hk with hk
      subst hk
      split at h
      · rename_i hi
        split at h
        · rename_i x hx
          obtain ⟨d, v⟩ := x
          obtain ⟨h1, h2, ⟨h3, h4⟩ | ⟨h3, rfl⟩⟩ := stq_ok hx
          · exact Lv.take hi h2 h1 h3 (evq_value h4) (evq_ok h4) hS (Lv.run_ hS _ _ _ h K)
          · exact Lv.pass hi h2 h1 h3 hS (Lv.run_ hS _ _ _ h K)
        · cases h
      · cases h
    · cases h
theorem Lv.run (k : Nat) {T T' : OV} (h : runV n ops k T e = some (T', e')) (hS : ∀ w, C w → S w) (K : Lv P n S C ops T' e' N R X) : Lv P n S C ops T e N R X := Lv.run_ hS k T e h K
def runU (n : Nat) (ops : Array Oper) : Nat → OU → Env → Option (OU × Env)
  | 0, T, e => some (T, e)
  | k + 1, .take i T, e => match ops[i]? with
    | some o => match stq n ops o e with
      | some x => runU n ops k T (x :: e)
      | none => none
    | none => none
  | _ + 1, _, _ => none
theorem Lu.run_ (hS : ∀ w, C w → S w) {T' : OU} : ∀ (k : Nat) (T : OU) (e : Env), runU n ops k T e = some (T', e') → Lu P n S C ops T' e' N R X → Lu P n S C ops T e N R X
  | 0, T, e, h, K => by
    unfold runU at h
    simp only [Option.some.injEq, Prod.mk.injEq] at h
    obtain ⟨rfl, rfl⟩ := h
    exact K
  | k + 1, T, e, h, K => by
    unfold runU at h
    split at h
    · contradiction
    · rename_i hk
      injection hk with hk
      subst hk
      split at h
      · rename_i hi
        split at h
        · rename_i x hx
          obtain ⟨d, v⟩ := x
          obtain ⟨h1, h2, ⟨h3, h4⟩ | ⟨h3, rfl⟩⟩ := stq_ok hx
          · exact Lu.take hi h2 h1 h3 (evq_value h4) (evq_ok h4) hS (Lu.run_ hS _ _ _ h K)
          · exact Lu.pass hi h2 h1 h3 hS (Lu.run_ hS _ _ _ h K)
        · cases h
      · cases h
    · cases h
theorem Lu.run (k : Nat) {T T' : OU} (h : runU n ops k T e = some (T', e')) (hS : ∀ w, C w → S w) (K : Lu P n S C ops T' e' N R X) : Lu P n S C ops T e N R X := Lu.run_ hS k T e h K
def runT (n : Nat) (ops : Array Oper) : Nat → OT → Env → Option (OT × Env)
  | 0, T, e => some (T, e)
  | k + 1, .take i T, e => match ops[i]? with
    | some o => match stq n ops o e with
      | some x => runT n ops k T (x :: e)
      | none => none
    | none => none
  | _ + 1, _, _ => none
theorem Lt.run_ (hS : ∀ w, C w → S w) {T' : OT} : ∀ (k : Nat) (T : OT) (e : Env), runT n ops k T e = some (T', e') → Lt P n S C ops T' e' N R X → Lt P n S C ops T e N R X
  | 0, T, e, h, K => by
    unfold runT at h
    simp only [Option.some.injEq, Prod.mk.injEq] at h
    obtain ⟨rfl, rfl⟩ := h
    exact K
  | k + 1, T, e, h, K => by
    unfold runT at h
    split at h
    · contradiction
    · rename_i hk
      injection hk with hk
      subst hk
      split at h
      · rename_i hi
        split at h
        · rename_i x hx
          obtain ⟨d, v⟩ := x
          obtain ⟨h1, h2, ⟨h3, h4⟩ | ⟨h3, rfl⟩⟩ := stq_ok hx
          · exact Lt.take hi h2 h1 h3 (evq_value h4) (evq_ok h4) hS (Lt.run_ hS _ _ _ h K)
          · exact Lt.pass hi h2 h1 h3 hS (Lt.run_ hS _ _ _ h K)
        · cases h
      · cases h
    · cases h
theorem Lt.run (k : Nat) {T T' : OT} (h : runT n ops k T e = some (T', e')) (hS : ∀ w, C w → S w) (K : Lt P n S C ops T' e' N R X) : Lt P n S C ops T e N R X := Lt.run_ hS k T e h K
def runD (n : Nat) (ops : Array Oper) : Nat → List (Nat × Bool) → Env → Option (List (Nat × Bool) × Env)
  | 0, T, e => some (T, e)
  | k + 1, (i, true) :: T, e => match ops[i]? with
    | some o => match stq n ops o e with
      | some x => runD n ops k T (x :: e)
      | none => none
    | none => none
  | _ + 1, _, _ => none
theorem Ld.run_ (hS : ∀ w, C w → S w) {T' : List (Nat × Bool)} : ∀ (k : Nat) (T : List (Nat × Bool)) (e : Env), runD n ops k T e = some (T', e') → Ld P n S C ops T' e' N R X → Ld P n S C ops T e N R X
  | 0, T, e, h, K => by
    unfold runD at h
    simp only [Option.some.injEq, Prod.mk.injEq] at h
    obtain ⟨rfl, rfl⟩ := h
    exact K
  | k + 1, T, e, h, K => by
    unfold runD at h
    split at h
    · contradiction
    · rename_i hk
      injection hk with hk
      subst hk
      split at h
      · rename_i hi
        split at h
        · rename_i x hx
          obtain ⟨d, v⟩ := x
          obtain ⟨h1, h2, ⟨h3, h4⟩ | ⟨h3, rfl⟩⟩ := stq_ok hx
          · exact Ld.take hi h2 h1 h3 (evq_value h4) (evq_ok h4) hS (Ld.run_ hS _ _ _ h K)
          · exact Ld.pass hi h2 h1 h3 hS (Ld.run_ hS _ _ _ h K)
        · cases h
      · cases h
    · cases h
theorem Ld.run (k : Nat) {T T' : List (Nat × Bool)} (h : runD n ops k T e = some (T', e')) (hS : ∀ w, C w → S w) (K : Ld P n S C ops T' e' N R X) : Ld P n S C ops T e N R X := Ld.run_ hS k T e h K
end
section
variable {B : Nat} {w0 : World} {hs hs' : List (Nat × Obj)}
def ndB : List Nat → Bool
  | [] => true
  | x :: l => !l.contains x && ndB l
theorem ndB_ok : ∀ {l : List Nat}, ndB l = true → l.Nodup
  | [], _ => List.nodup_nil
  | x :: l, h => by
    simp only [ndB, Bool.and_eq_true, Bool.not_eq_true', List.contains_eq_mem, decide_eq_false_iff_not] at h
    exact List.nodup_cons.2 ⟨h.1, ndB_ok h.2⟩
theorem pk (f : List Nat) (hf : f.mapM (fun j => hs[j]?) = some hs') (hn : ndB f = true) (w : World) (h : Own B w0 hs w) : Own B w0 hs' w := h.pick f hf (ndB_ok hn)
end
end Go.Wk
