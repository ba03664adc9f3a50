/-
  FnAtomsOf: all that its proof names (part 2)
-/
import Derived.Test.YtefiibghfgfdnaaDoorKFnAtomsOfa
import Derived.MapKept
import Derived.Laws.Cover3
import Derived.LoopN
import Derived.Lib.Bytealg
import Derived.LaidEqlPtr
import Derived.Shelf.Small.Strs
import Derived.Shelf.Strings.Search3
import Derived.Test.YtefiibghfgfdnaaDoorProg
import Derived.Shelf.Strings.SlTrimAscii
import Derived.Shelf.Strings.Trim
namespace Go.Wk
open Go.RowKit
inductive Fm where
  | leaf (c : UInt8) (vs : List UInt8)
  | one (c : UInt8) (vs : List UInt8) (p : Fm)
  | two (c : UInt8) (p q : Fm)
def isV (v : UInt8) : Bool := decide (97 ≤ v.toNat) && decide (v.toNat ≤ 100)
/-- how many variables, how many parts -/
def arV (c : UInt8) : Nat := if c = 80 then 1 else if c = 61 ∨ c = 69 then 2 else if c = 65 ∨ c = 83 ∨ c = 50 ∨ c = 51 ∨ c = 52 then 1 else 0
def arP (c : UInt8) : Nat := if c = 33 then 1 else if c = 38 ∨ c = 124 then 2 else if c = 65 ∨ c = 83 ∨ c = 50 ∨ c = 51 ∨ c = 52 then 1 else 0
def isOp (c : UInt8) : Bool := decide (c ∈ ([116, 102, 80, 61, 69, 33, 38, 124, 65, 83, 50, 51, 52] : List UInt8))
def takeV : Nat → List UInt8 → Option (List UInt8 × List UInt8)
  | 0, s => some ([], s)
  | _ + 1, [] => none
  | k + 1, v :: s => if isV v then (match takeV k s with | some (vs, r) => some (v :: vs, r) | none => none) else none
def psF : Nat → List UInt8 → Option (Fm × List UInt8)
  | 0, _ => none
  | _ + 1, [] => none
  | n + 1, c :: s =>
    if isOp c then
      match takeV (arV c) s with
      | none => none
      | some (vs, r) =>
        if arP c = 0 then some (.leaf c vs, r)
        else if arP c = 1 then (match psF n r with | some (p, r') => some (.one c vs p, r') | none => none)
        else (match psF n r with
          | some (p, r') => (match psF n r' with | some (q, r2) => some (.two c p q, r2) | none => none)
          | none => none)
    else none
theorem takeV_len : ∀ {k : Nat} {s vs r : List UInt8}, takeV k s = some (vs, r) → vs.length = k ∧ vs.length + r.length = s.length ∧ s = vs ++ r ∧ ∀ v ∈ vs, isV v = true
  | 0, s, vs, r, h => by
    injection h with h; injection h with h1 h2; subst h1; subst h2
    exact ⟨rfl, by simp, rfl, fun v hv => by cases hv⟩
  | k + 1, [], vs, r, h => by cases h
  | k + 1, v :: s, vs, r, h => by
    unfold takeV at h
    split at h
    · rename_i hv
      split at h
      · rename_i us r' e
        injection h with h; injection h with h1 h2; subst h1; subst h2
        obtain ⟨h3, h4, h5, h6⟩ := takeV_len e
        refine ⟨by simp [h3], by simp; omega, by rw [h5]; rfl, fun u hu => ?_⟩
        rcases List.mem_cons.1 hu with rfl | hu
        · exact hv
        · exact h6 u hu
      · cases h
    · cases h
theorem psF_len : ∀ {n : Nat} {s : List UInt8} {p : Fm} {r : List UInt8}, psF n s = some (p, r) → r.length < s.length
  | 0, _, _, _, h => by cases h
  | _ + 1, [], _, _, h => by cases h
  | n + 1, c :: s, p, r, h => by
    unfold psF at h
    split at h
    · split at h
      · cases h
      · rename_i vs t e
        obtain ⟨_, h2, _⟩ := takeV_len e
        split at h
        · injection h with h; injection h with _ h; subst h
          simp; omega
        · split at h
          · split at h
            · rename_i q r' e2
              injection h with h; injection h with _ h; subst h
              have := psF_len e2
              simp; omega
            · cases h
          · split at h
            · rename_i q r' e2
              split at h
              · rename_i q2 r2 e3
                injection h with h; injection h with _ h; subst h
                have h3 := psF_len e2
                have h4 := psF_len e3
                simp; omega
              · cases h
            · cases h
    · cases h
theorem psF_fuel : ∀ {n m : Nat} {s : List UInt8}, s.length < n → s.length < m → psF n s = psF m s
  | 0, _, _, h, _ => by omega
  | _ + 1, 0, _, _, h => by omega
  | _ + 1, _ + 1, [], _, _ => rfl
  | n + 1, m + 1, c :: s, h1, h2 => by
    unfold psF
    simp only [List.length_cons] at h1 h2
    split
    · cases e : takeV (arV c) s with
      | none => rfl
      | some x =>
        obtain ⟨vs, r⟩ := x
        dsimp only
        obtain ⟨_, h3, _⟩ := takeV_len e
        have e1 : psF n r = psF m r := psF_fuel (by omega) (by omega)
        rw [e1]
        cases e2 : psF m r with
        | none => rfl
        | some y =>
          obtain ⟨p, r'⟩ := y
          dsimp only
          have h4 := psF_len e2
          rw [psF_fuel (n := n) (m := m) (s := r') (by omega) (by omega)]
    · rfl
/-- the formula with which a text begins -/
def parse (s : List UInt8) : Option (Fm × List UInt8) := psF (s.length + 1) s
theorem parse_len {s r : List UInt8} {p : Fm} (h : parse s = some (p, r)) : r.length < s.length := psF_len h
theorem parse_of {n : Nat} {s : List UInt8} (h : s.length < n) : psF n s = parse s := psF_fuel h (Nat.lt_succ_self _)
theorem parse_cons (c : UInt8) (s : List UInt8) : parse (c :: s) = if isOp c then
      match takeV (arV c) s with
      | none => none
      | some (vs, r) =>
        if arP c = 0 then some (.leaf c vs, r)
        else if arP c = 1 then (match parse r with | some (p, r') => some (.one c vs p, r') | none => none)
        else (match parse r with
          | some (p, r') => (match parse r' with | some (q, r2) => some (.two c p q, r2) | none => none)
          | none => none)
    else none := by
  unfold parse
  rw [psF]
  split
  · cases e : takeV (arV c) s with
    | none => rfl
    | some x =>
      obtain ⟨vs, r⟩ := x
      dsimp only
      obtain ⟨_, h3, _⟩ := takeV_len e
      rw [parse_of (n := (c :: s).length) (s := r) (by simp only [List.length_cons]; omega)]
      unfold parse
      cases e2 : psF (r.length + 1) r with
      | none => rfl
      | some y =>
        obtain ⟨p, r'⟩ := y
        dsimp only
        have h4 := psF_len e2
        rw [parse_of (n := (c :: s).length) (s := r') (by simp only [List.length_cons]; omega)]
        rfl
  · rfl
/-- the text of a formula -/
def fT : Fm → List UInt8
  | .leaf c vs => c :: vs
  | .one c vs p => c :: (vs ++ fT p)
  | .two c p q => c :: (fT p ++ fT q)
theorem ar_two {c : UInt8} (h0 : ¬ arP c = 0) (h1 : ¬ arP c = 1) : arV c = 0 := by
  by_cases e : c = 38 ∨ c = 124
  · rcases e with rfl | rfl <;> rfl
  · exfalso
    unfold arP at h0 h1
    by_cases e2 : c = 33
    · rw [if_pos e2] at h1; exact h1 rfl
    · rw [if_neg e2, if_neg e] at h0 h1
      split at h1
      · exact h1 rfl
      · rename_i h3; rw [if_neg h3] at h0; exact h0 rfl
theorem parse_text : ∀ (n : Nat) {s r : List UInt8} {p : Fm}, s.length ≤ n → parse s = some (p, r) → s = fT p ++ r
  | 0, [], _, _, _, h => by cases h
  | 0, _ :: _, _, _, hn, _ => by simp at hn
  | _ + 1, [], _, _, _, h => by cases h
  | n + 1, c :: s, r, p, hn, h => by
    rw [parse_cons] at h
    simp only [List.length_cons] at hn
    split at h
    · split at h
      · cases h
      · rename_i vs t e
        obtain ⟨_, h2, h3, _⟩ := takeV_len e
        by_cases h0 : arP c = 0
        · rw [if_pos h0] at h
          injection h with h; injection h with h4 h; subst h; subst h4
          rw [h3]; rfl
        · rw [if_neg h0] at h
          by_cases h1 : arP c = 1
          · rw [if_pos h1] at h
            split at h
            · rename_i q r' e2
              injection h with h; injection h with h4 h; subst h; subst h4
              have := parse_text n (s := t) (by omega) e2
              rw [h3, this]; simp [fT]
            · cases h
          · rw [if_neg h1] at h
            split at h
            · rename_i q r' e2
              split at h
              · rename_i q2 r2 e3
                injection h with h; injection h with h4 h; subst h; subst h4
                have h5 := parse_len e2
                have h6 := parse_text n (s := t) (by omega) e2
                have h7 := parse_text n (s := r') (by omega) e3
                have hvs : vs = [] := by
                  have h8 := (takeV_len e).1
                  rw [ar_two h0 h1] at h8
                  exact List.length_eq_zero_iff.1 h8
                rw [h3, hvs, h6, h7]; simp [fT]
              · cases h
            · cases h
    · cases h
def vI (v : UInt8) : Nat := v.toNat - 97
def vBit (v : UInt8) : Nat := 2 ^ vI v
def vBits : List UInt8 → Nat
  | [] => 0
  | v :: vs => vBit v ||| vBits vs
def frB : Fm → Nat
  | .leaf _ vs => vBits vs
  | .one _ [] p => frB p
  | .one _ (v :: _) p => frB p &&& (15 ^^^ vBit v)
  | .two _ p q => frB p ||| frB q
def allB : Fm → Nat
  | .leaf _ vs => vBits vs
  | .one _ vs p => vBits vs ||| allB p
  | .two _ p q => allB p ||| allB q
def cntT (f : Nat → Bool) : Nat → Nat
  | 0 => 0
  | x + 1 => cntT f x + (if f x then 1 else 0)
def need (c : UInt8) (n : Nat) : Nat := if c = 65 then n else if c = 83 then 1 else c.toNat - 48
def atV (env : List Int) (v : UInt8) : Int := env.getD (vI v) 0
def ev (a : St) : Fm → List Int → Bool
  | .leaf c vs, env => if c = 116 then true else if c = 102 then false else if c = 80 then a.inSet (atV env (vs.getD 0 0)) else if c = 61 then decide (atV env (vs.getD 0 0) = atV env (vs.getD 1 0)) else a.inRel (atV env (vs.getD 0 0)) (atV env (vs.getD 1 0))
  | .one c vs p, env => if c = 33 then !ev a p env else decide (need c a.n.toNat ≤ cntT (fun x => ev a p (env.set (vI (vs.getD 0 0)) (x : Int))) a.n.toNat)
  | .two c p q, env => if c = 38 then ev a p env && ev a q env else ev a p env || ev a q env
def rankF : Fm → Nat
  | .leaf _ _ => 0
  | .one c _ p => if c = 33 then rankF p else if c = 65 ∨ c = 83 then rankF p + 1 else rankF p + (c.toNat - 48)
  | .two _ p q => max (rankF p) (rankF q)
theorem cntT_le (f : Nat → Bool) : ∀ n : Nat, cntT f n ≤ n
  | 0 => Nat.le_refl _
  | n + 1 => by
    have := cntT_le f n
    unfold cntT; split <;> omega
end Go.Wk
namespace Go.Wk
open Go.RowKit
def wfF : Fm → Prop
  | .leaf c vs => isOp c = true ∧ arP c = 0 ∧ vs.length = arV c ∧ ∀ v ∈ vs, isV v = true
  | .one c vs p => isOp c = true ∧ arP c = 1 ∧ vs.length = arV c ∧ (∀ v ∈ vs, isV v = true) ∧ wfF p
  | .two c p q => isOp c = true ∧ ¬ arP c = 0 ∧ ¬ arP c = 1 ∧ wfF p ∧ wfF q
theorem parse_wf : ∀ (n : Nat) {s r : List UInt8} {p : Fm}, s.length ≤ n → parse s = some (p, r) → wfF p
  | 0, [], _, _, _, h => by cases h
  | 0, _ :: _, _, _, hn, _ => by simp at hn
  | _ + 1, [], _, _, _, h => by cases h
  | n + 1, c :: s, r, p, hn, h => by
    rw [parse_cons] at h
    simp only [List.length_cons] at hn
    split at h
    · rename_i hop
      split at h
      · cases h
      · rename_i vs t e
        obtain ⟨h7, h2, _, h4⟩ := takeV_len e
        by_cases h0 : arP c = 0
        · rw [if_pos h0] at h
          injection h with h; injection h with h5 h; subst h5
          exact ⟨hop, h0, h7, h4⟩
        · rw [if_neg h0] at h
          by_cases h1 : arP c = 1
          · rw [if_pos h1] at h
            split at h
            · rename_i q r' e2
              injection h with h; injection h with h5 h; subst h5
              exact ⟨hop, h1, h7, h4, parse_wf n (by omega) e2⟩
            · cases h
          · rw [if_neg h1] at h
            split at h
            · rename_i q r' e2
              split at h
              · rename_i q2 r2 e3
                injection h with h; injection h with h5 h; subst h5
                have h6 := parse_len e2
                exact ⟨hop, h0, h1, parse_wf n (by omega) e2, parse_wf n (by omega) e3⟩
              · cases h
            · cases h
    · cases h
theorem vI_lt {v : UInt8} (h : isV v = true) : vI v < 4 ∧ v.toNat = 97 + vI v := by
  unfold isV at h
  simp only [Bool.and_eq_true, decide_eq_true_eq] at h
  unfold vI; omega
theorem vBit_test (v : UInt8) (i : Nat) : (vBit v).testBit i = decide (vI v = i) := by
  unfold vBit; rw [Nat.testBit_two_pow]
theorem vBits_test : ∀ (vs : List UInt8) (i : Nat), (vBits vs).testBit i = true ↔ ∃ v ∈ vs, vI v = i
  | [], i => by simp [vBits]
  | v :: vs, i => by
    unfold vBits
    rw [Nat.testBit_or, Bool.or_eq_true, vBit_test, decide_eq_true_eq, vBits_test vs i]
    simp
theorem vBits_lt : ∀ {vs : List UInt8}, (∀ v ∈ vs, isV v = true) → vBits vs < 16
  | [], _ => by decide
  | v :: vs, h => by
    unfold vBits
    have h1 : vBit v < 2 ^ 4 := by
      unfold vBit
      exact Nat.pow_lt_pow_right (by decide) (vI_lt (h v (by simp))).1
    exact Nat.or_lt_two_pow (n := 4) h1 (vBits_lt fun u hu => h u (by simp [hu]))
theorem frB_lt : ∀ {p : Fm}, wfF p → frB p < 16
  | .leaf _ _, h => vBits_lt h.2.2.2
  | .one _ [] p, h => frB_lt (p := p) h.2.2.2.2
  | .one _ (_ :: _) p, h => Nat.lt_of_le_of_lt Nat.and_le_left (frB_lt (p := p) h.2.2.2.2)
  | .two _ p q, h => Nat.or_lt_two_pow (n := 4) (frB_lt (p := p) h.2.2.2.1) (frB_lt (p := q) h.2.2.2.2)
theorem allB_lt : ∀ {p : Fm}, wfF p → allB p < 16
  | .leaf _ _, h => vBits_lt h.2.2.2
  | .one _ _ p, h => Nat.or_lt_two_pow (n := 4) (vBits_lt h.2.2.2.1) (allB_lt (p := p) h.2.2.2.2)
  | .two _ p q, h => Nat.or_lt_two_pow (n := 4) (allB_lt (p := p) h.2.2.2.1) (allB_lt (p := q) h.2.2.2.2)
theorem test15 {i : Nat} (h : i < 4) : (15 : Nat).testBit i = true := by
  rcases (by omega : i = 0 ∨ i = 1 ∨ i = 2 ∨ i = 3) with e | e | e | e <;> subst e <;> decide
theorem frQ_test {v : UInt8} {p : Fm} {i : Nat} (hi : i < 4) : (frB p &&& (15 ^^^ vBit v)).testBit i = ((frB p).testBit i && !decide (vI v = i)) := by
  rw [Nat.testBit_and, Nat.testBit_xor, test15 hi, vBit_test]; simp
/-- truth depends on free variables alone -/
theorem ev_free (a : St) : ∀ {p : Fm}, wfF p → ∀ {e e' : List Int}, e.length = 4 → e'.length = 4 → (∀ i : Nat, i < 4 → (frB p).testBit i = true → e.getD i 0 = e'.getD i 0) → ev a p e = ev a p e'
  | .leaf c vs, h, e, e', hl, hl', hfr => by
    obtain ⟨hop, h0, h1, h2⟩ := h
    have key : ∀ v ∈ vs, atV e v = atV e' v := fun v hv => by
      unfold atV
      exact hfr _ (vI_lt (h2 v hv)).1 ((vBits_test vs _).2 ⟨v, hv, rfl⟩)
    unfold ev
    by_cases e1 : c = 116
    · rw [if_pos e1, if_pos e1]
    · rw [if_neg e1, if_neg e1]
      by_cases e2 : c = 102
      · rw [if_pos e2, if_pos e2]
      · rw [if_neg e2, if_neg e2]
        by_cases e3 : c = 80
        · subst e3
          have hl1 : vs.length = 1 := h1
          rw [if_pos rfl, if_pos rfl, key (vs.getD 0 0) (by rw [getD_at (by omega)]; exact List.getElem_mem _)]
        · rw [if_neg e3, if_neg e3]
          have hl2 : vs.length = 2 := by
            rw [h1]
            unfold isOp at hop
            rw [decide_eq_true_eq] at hop
            simp only [List.mem_cons, List.not_mem_nil, or_false] at hop
            rcases hop with rfl | rfl | rfl | rfl | rfl | rfl | rfl | rfl | rfl | rfl | rfl | rfl | rfl <;> first | rfl | exact absurd rfl e1 | exact absurd rfl e2 | exact absurd rfl e3 | exact absurd h0 (by decide)
          rw [key (vs.getD 0 0) (by rw [getD_at (by omega)]; exact List.getElem_mem _), key (vs.getD 1 0) (by rw [getD_at (by omega)]; exact List.getElem_mem _)]
  | .one c [] p, h, e, e', hl, hl', hfr => by
    obtain ⟨hop, h0, h1, h2, h3⟩ := h
    have hc : c = 33 := by
      have h4 : arV c = 0 := h1.symm
      unfold isOp at hop
      rw [decide_eq_true_eq] at hop
      simp only [List.mem_cons, List.not_mem_nil, or_false] at hop
      rcases hop with rfl | rfl | rfl | rfl | rfl | rfl | rfl | rfl | rfl | rfl | rfl | rfl | rfl <;> first | rfl | exact absurd h0 (by decide) | exact absurd h4 (by decide)
    subst hc
    unfold ev
    rw [if_pos rfl, if_pos rfl, ev_free a h3 hl hl' hfr]
  | .one c (v :: vs) p, h, e, e', hl, hl', hfr => by
    obtain ⟨hop, h0, h1, h2, h3⟩ := h
    have hv := (vI_lt (h2 v (by simp))).1
    have key : ∀ x : Int, ev a p (e.set (vI v) x) = ev a p (e'.set (vI v) x) := fun x => by
      refine ev_free a h3 (by rw [List.length_set]; exact hl) (by rw [List.length_set]; exact hl') fun i hi ht => ?_
      by_cases ei : vI v = i
      · subst ei
        rw [List.getD_eq_getElem?_getD, List.getD_eq_getElem?_getD, List.getElem?_set_self (by omega), List.getElem?_set_self (by omega)]
      · rw [List.getD_eq_getElem?_getD, List.getD_eq_getElem?_getD, List.getElem?_set_ne ei, List.getElem?_set_ne ei, ← List.getD_eq_getElem?_getD, ← List.getD_eq_getElem?_getD]
        refine hfr i hi ?_
        show (frB p &&& (15 ^^^ vBit v)).testBit i = true
        rw [frQ_test hi, ht, decide_eq_false ei]; rfl
    have hc : ¬ c = 33 := fun e => by subst e; exact absurd h1 (by simp [arV])
    unfold ev
    rw [if_neg hc, if_neg hc]
    simp only [List.getD_cons_zero, key]
  | .two c p q, h, e, e', hl, hl', hfr => by
    obtain ⟨_, _, _, h3, h4⟩ := h
    unfold ev
    rw [ev_free a h3 hl hl' fun i hi ht => hfr i hi (by show (frB p ||| frB q).testBit i = true; rw [Nat.testBit_or, ht]; rfl), ev_free a h4 hl hl' fun i hi ht => hfr i hi (by show (frB p ||| frB q).testBit i = true; rw [Nat.testBit_or, ht, Bool.or_true])]
end Go.Wk
namespace Go.Wk
open Go.RowKit
/-- values of four variables -/
def EnvOk (e : List Int) : Prop := e.length = 4 ∧ ∀ i : Nat, i < 4 → 0 ≤ e.getD i 0 ∧ e.getD i 0 < 8
def kSum (b : Nat) (e : List Int) : Nat → Nat
  | 0 => 0
  | i + 1 => kSum b e i + (if b.testBit i then (e.getD i 0).toNat * 8 ^ i else 0)
theorem kSum_lt {b : Nat} {e : List Int} (h : EnvOk e) : ∀ {i : Nat}, i ≤ 4 → kSum b e i < 8 ^ i
  | 0, _ => Nat.one_pos
  | i + 1, hi => by
    have h1 := kSum_lt (b := b) h (i := i) (by omega)
    have h2 := h.2 i (by omega)
    have h3 : (e.getD i 0).toNat * 8 ^ i ≤ 7 * 8 ^ i := Nat.mul_le_mul_right _ (by omega)
    unfold kSum
    rw [Nat.pow_succ]
    split <;> omega
theorem kSum_inj {b : Nat} {e e' : List Int} (h : EnvOk e) (h' : EnvOk e') : ∀ {n : Nat}, n ≤ 4 → kSum b e n = kSum b e' n → ∀ i : Nat, i < n → b.testBit i = true → e.getD i 0 = e'.getD i 0
  | 0, _, _, i, hi, _ => by omega
  | n + 1, hn, he, i, hi, ht => by
    have h1 := kSum_lt (b := b) h (i := n) (by omega)
    have h1' := kSum_lt (b := b) h' (i := n) (by omega)
    unfold kSum at he
    by_cases hb : b.testBit n = true
    · rw [if_pos hb, if_pos hb] at he
      have hd : (e.getD n 0).toNat = (e'.getD n 0).toNat := by
        have e1 := congrArg (fun z => z / 8 ^ n) he
        rwa [Nat.add_mul_div_right _ _ (by omega), Nat.add_mul_div_right _ _ (by omega), Nat.div_eq_of_lt h1, Nat.div_eq_of_lt h1', Nat.zero_add, Nat.zero_add] at e1
      rw [hd] at he
      rcases Nat.lt_or_ge i n with h2 | h2
      · exact kSum_inj h h' (by omega) (by omega) i h2 ht
      · obtain rfl : i = n := by omega
        have h3 := h.2 i (by omega)
        have h4 := h'.2 i (by omega)
        omega
    · rw [if_neg hb, if_neg hb] at he
      rcases Nat.lt_or_ge i n with h2 | h2
      · exact kSum_inj h h' (by omega) (by omega) i h2 ht
      · obtain rfl : i = n := by omega
        exact absurd ht hb
theorem kSum_or {b : Nat} {e : List Int} (h : EnvOk e) {i : Nat} (hi : i < 4) (hb : b.testBit i = true) : kSum b e i ||| ((e.getD i 0).toNat * 8 ^ i) = kSum b e (i + 1) := by
  have h1 := kSum_lt (b := b) h (i := i) (by omega)
  have e8 : (8 : Nat) ^ i = 2 ^ (3 * i) := by rw [Nat.pow_mul]
  have h2 := Nat.two_pow_add_eq_or_of_lt (i := 3 * i) (b := kSum b e i) (by rw [← e8]; exact h1) ((e.getD i 0).toNat)
  rw [show kSum b e (i + 1) = kSum b e i + (if b.testBit i then (e.getD i 0).toNat * 8 ^ i else 0) from rfl, if_pos hb, e8, Nat.or_comm, Nat.mul_comm, ← h2]
  omega
/-- the number of a formula's free values -/
def keyF (p : Fm) (e : List Int) : Int := (kSum (frB p) e 4 : Int)
theorem key_ev {a : St} {p : Fm} (hp : wfF p) {e e' : List Int} (h : EnvOk e) (h' : EnvOk e') (hk : keyF p e = keyF p e') : ev a p e = ev a p e' :=
  ev_free a hp h.1 h'.1 (kSum_inj h h' (Nat.le_refl 4) (by unfold keyF at hk; omega))
end Go.Wk
namespace Go.Wk
open Go.RowKit
def varI (f : List UInt8) (i : Int) : Int := if 0 ≤ i ∧ i < (f.length : Int) ∧ isV (f.getD i.toNat 0) = true then (vI (f.getD i.toNat 0) : Int) else -1
theorem u8_of {c : UInt8} {n : Nat} (_hn : n < 256) (h : (c.toNat : Int) = (n : Int)) : c = UInt8.ofNat n := by
  have : c.toNat = n := by omega
  rw [← this]; simp
theorem drop_at {f : List UInt8} {i : Nat} (h : i < f.length) : f.drop i = f.getD i 0 :: f.drop (i + 1) := by
  rw [getD_at h]; exact List.drop_eq_getElem_cons h
theorem varI_neg {f : List UInt8} {i : Int} : varI f i < 0 ↔ ¬ (0 ≤ i ∧ i < (f.length : Int) ∧ isV (f.getD i.toNat 0) = true) := by
  unfold varI
  split
  · rename_i h; exact ⟨fun e => by omega, fun e => absurd h e⟩
  · rename_i h; exact ⟨fun _ => h, fun _ => by decide⟩
theorem takeV_one (f : List UInt8) (i : Nat) : takeV 1 (f.drop i) = if varI f (i : Int) < 0 then none else some ([f.getD i 0], f.drop (i + 1)) := by
  rcases Nat.lt_or_ge i f.length with h | h
  · rw [drop_at h]
    unfold takeV takeV
    by_cases hv : isV (f.getD i 0) = true
    · rw [if_pos hv, if_neg (by rw [varI_neg]; exact fun e => e ⟨by omega, by omega, by simpa using hv⟩)]
    · rw [if_neg hv, if_pos (by rw [varI_neg]; exact fun e => hv (by simpa using e.2.2))]
  · rw [List.drop_of_length_le h, if_pos (by rw [varI_neg]; omega)]; rfl
theorem takeV_two (f : List UInt8) (i : Nat) : takeV 2 (f.drop i) = if varI f (i : Int) < 0 ∨ varI f ((i : Int) + 1) < 0 then none else some ([f.getD i 0, f.getD (i + 1) 0], f.drop (i + 2)) := by
  rcases Nat.lt_or_ge i f.length with h | h
  · rw [drop_at h]
    unfold takeV
    by_cases hv : isV (f.getD i 0) = true
    · have h0 : ¬ varI f (i : Int) < 0 := by rw [varI_neg]; exact fun e => e ⟨by omega, by omega, by simpa using hv⟩
      rw [if_pos hv, takeV_one]
      by_cases h1 : varI f ((i + 1 : Nat) : Int) < 0
      · rw [if_pos h1, if_pos (.inr (by simpa using h1))]
      · rw [if_neg h1, if_neg (fun e => e.elim h0 (fun e => h1 (by simpa using e)))]
    · rw [if_neg hv, if_pos (.inl (by rw [varI_neg]; exact fun e => hv (by simpa using e.2.2)))]
  · rw [List.drop_of_length_le h, if_pos (.inl (by rw [varI_neg]; omega))]; rfl
theorem parse_rest {f r : List UInt8} {i : Nat} {p : Fm} (h : parse (f.drop i) = some (p, r)) : r = f.drop (f.length - r.length) ∧ i < f.length - r.length ∧ r.length ≤ f.length := by
  have h1 := parse_text _ (Nat.le_refl _) h
  have h2 := parse_len h
  rw [List.length_drop] at h2
  refine ⟨?_, by omega, by omega⟩
  have h3 : f = f.take i ++ (fT p ++ r) := by rw [← h1]; exact (List.take_append_drop i f).symm
  have h4 : f.length = (f.take i).length + ((fT p).length + r.length) := by
    have := congrArg List.length h3
    rwa [List.length_append, List.length_append] at this
  have h5 : f.drop (f.length - r.length) = (f.take i ++ (fT p ++ r)).drop ((f.take i ++ fT p).length) := by
    rw [← h3]
    congr 1
    rw [List.length_append]; omega
  rw [h5, ← List.append_assoc]
  exact (List.drop_left).symm
end Go.Wk
namespace Go.Wk
open Go.RowKit
/-- a formula stands at a place of a text, and ends at another one -/
def Pa (f : List UInt8) (n : Nat) (p : Fm) (e : Nat) : Prop := parse (f.drop n) = some (p, f.drop e) ∧ n < e ∧ e ≤ f.length
theorem Pa.of {f r : List UInt8} {n : Nat} {p : Fm} (h : parse (f.drop n) = some (p, r)) : Pa f n p (f.length - r.length) ∧ r = f.drop (f.length - r.length) := by
  obtain ⟨h1, h2, _⟩ := parse_rest h
  exact ⟨⟨by rw [h, ← h1], h2, by omega⟩, h1⟩
theorem Pa.lt {f : List UInt8} {n e : Nat} {p : Fm} (h : Pa f n p e) : n < f.length := by have := h.2; omega
theorem Pa.wf {f : List UInt8} {n e : Nat} {p : Fm} (h : Pa f n p e) : wfF p := parse_wf _ (Nat.le_refl _) h.1
theorem Pa.same {f : List UInt8} {n e e' : Nat} {p p' : Fm} (h : Pa f n p e) (h' : Pa f n p' e') : p = p' ∧ e = e' := by
  have h1 := h.1.symm.trans h'.1
  injection h1 with h1; injection h1 with h1 h2
  have h3 := congrArg List.length h2
  rw [List.length_drop, List.length_drop] at h3
  have := h.2.2; have := h'.2.2
  exact ⟨h1, by omega⟩
theorem drop_inj {f : List UInt8} {e k : Nat} (h : f.drop e = f.drop k) (h1 : e ≤ f.length) (h2 : k ≤ f.length) : e = k := by
  have h3 := congrArg List.length h
  rw [List.length_drop, List.length_drop] at h3; omega
theorem Pa.cons {f : List UInt8} {n e : Nat} {p : Fm} (h : Pa f n p e) : isOp (f.getD n 0) = true ∧ ∃ vs k, takeV (arV (f.getD n 0)) (f.drop (n + 1)) = some (vs, f.drop k) ∧ n < k ∧ k ≤ f.length ∧ vs.length = arV (f.getD n 0) ∧ k = n + 1 + arV (f.getD n 0) ∧
    ((arP (f.getD n 0) = 0 ∧ p = .leaf (f.getD n 0) vs ∧ e = k) ∨ (arP (f.getD n 0) = 1 ∧ ∃ q, Pa f k q e ∧ p = .one (f.getD n 0) vs q) ∨
     (arP (f.getD n 0) ≠ 0 ∧ arP (f.getD n 0) ≠ 1 ∧ ∃ q m q2, Pa f k q m ∧ Pa f m q2 e ∧ p = .two (f.getD n 0) q q2)) := by
  have hn := h.lt
  obtain ⟨h1, h2, h3⟩ := h
  rw [drop_at hn, parse_cons] at h1
  split at h1
  · rename_i ho
    refine ⟨ho, ?_⟩
    split at h1
    · cases h1
    · rename_i vs r et
      obtain ⟨h4, h5, h6, _⟩ := takeV_len et
      rw [List.length_drop] at h5
      have hr : r = f.drop (n + 1 + vs.length) := by
        rw [← List.drop_drop, h6, List.drop_left]
      have hk : n + 1 + vs.length ≤ f.length := by omega
      refine ⟨vs, n + 1 + vs.length, by rw [et, hr], by omega, hk, h4, by omega, ?_⟩
      by_cases c0 : arP (f.getD n 0) = 0
      · rw [if_pos c0] at h1
        injection h1 with h1; injection h1 with h7 h8
        exact .inl ⟨c0, h7.symm, drop_inj (h8.symm.trans hr) h3 hk⟩
      · rw [if_neg c0] at h1
        by_cases c1 : arP (f.getD n 0) = 1
        · rw [if_pos c1] at h1
          split at h1
          · rename_i q r' e2
            injection h1 with h1; injection h1 with h7 h8; subst h8
            have h9 := parse_len e2
            rw [hr] at e2
            refine .inr (.inl ⟨c1, q, ⟨e2, ?_, h3⟩, h7.symm⟩)
            rw [List.length_drop] at h9; omega
          · cases h1
        · rw [if_neg c1] at h1
          split at h1
          · rename_i q r' e2
            split at h1
            · rename_i q2 r2 e3
              injection h1 with h1; injection h1 with h7 h8; subst h8
              have h9 := parse_len e3
              rw [hr] at e2
              obtain ⟨h10, h11⟩ := Pa.of e2
              refine .inr (.inr ⟨c0, c1, q, _, q2, h10, ⟨by rw [← h11]; exact e3, ?_, h3⟩, h7.symm⟩)
              rw [List.length_drop] at h9; omega
            · cases h1
          · cases h1
  · cases h1
end Go.Wk
namespace Go.Wk
open Go.RowKit
section
variable {P : Program} {n : Nat} {C : World → Prop} {e : Env} {o : Oper}
theorem bits_nat {op : BinOp} {f : BitVec 64 → BitVec 64 → BitVec 64} {g : Nat → Nat → Nat} {a b : Nat} (ha : a < 4611686018427387904) (hb : b < 4611686018427387904) (hf : ∀ x y : BitVec 64, x.toNat = a → y.toNat = b → (f x y).toNat = g a b) (hg : g a b < 4611686018427387904) (h : bits op .i64 (a : Int) (b : Int) = IntKind.i64.wrap ((f (BitVec.ofInt 64 (a : Int)) (BitVec.ofInt 64 (b : Int))).toNat : Int)) : bits op .i64 (a : Int) (b : Int) = (g a b : Int) := by
  rw [h, hf _ _ (by rw [BitVec.toNat_ofInt]; omega) (by rw [BitVec.toNat_ofInt]; omega), IntWalk.i64_in _ (by omega)]
theorem or_lt62 {a b : Nat} (ha : a < 4611686018427387904) (hb : b < 4611686018427387904) : a ||| b < 4611686018427387904 := Nat.or_lt_two_pow (n := 62) ha hb
theorem OpQ.or {t t' : TypeId} {x y : Operand} {a b : Nat} (h : o.op = .binOp .or t x y t') (hx : opd e x = some (.int .i64 (a : Int))) (hy : opd e y = some (.int .i64 (b : Int))) (ha : a < 4611686018427387904) (hb : b < 4611686018427387904) : OpQ P n C e o (.int .i64 ((a ||| b : Nat) : Int)) := OpQ.val fun A hf w => by
  unfold execOp; rw [h]; simp only [hf.opd hx, hf.opd hy]
  have := bits_nat (op := .or) (f := (· ||| ·)) (g := (· ||| ·)) ha hb (fun x y h1 h2 => by rw [BitVec.toNat_or, h1, h2]) (or_lt62 ha hb) rfl
  simp [go_sem, this]
theorem OpQ.and {t t' : TypeId} {x y : Operand} {a b : Nat} (h : o.op = .binOp .and t x y t') (hx : opd e x = some (.int .i64 (a : Int))) (hy : opd e y = some (.int .i64 (b : Int))) (ha : a < 4611686018427387904) (hb : b < 4611686018427387904) : OpQ P n C e o (.int .i64 ((a &&& b : Nat) : Int)) := OpQ.val fun A hf w => by
  unfold execOp; rw [h]; simp only [hf.opd hx, hf.opd hy]
  have := bits_nat (op := .and) (f := (· &&& ·)) (g := (· &&& ·)) ha hb (fun x y h1 h2 => by rw [BitVec.toNat_and, h1, h2]) (Nat.lt_of_le_of_lt Nat.and_le_left ha) rfl
  simp [go_sem, this]
theorem strike16 : ∀ a b : Fin 16, bits .andNot .i64 (a.val : Int) (b.val : Int) = ((a.val &&& (15 ^^^ b.val) : Nat) : Int) := by decide
theorem OpQ.strike {t t' : TypeId} {x y : Operand} {a b : Nat} (h : o.op = .binOp .andNot t x y t') (hx : opd e x = some (.int .i64 (a : Int))) (hy : opd e y = some (.int .i64 (b : Int))) (ha : a < 16) (hb : b < 16) : OpQ P n C e o (.int .i64 ((a &&& (15 ^^^ b) : Nat) : Int)) := OpQ.val fun A hf w => by
  unfold execOp; rw [h]; simp only [hf.opd hx, hf.opd hy]
  have := strike16 ⟨a, ha⟩ ⟨b, hb⟩
  simp only at this
  simp [go_sem, this]
theorem OpQ.shl {t t' : TypeId} {x y : Operand} {k : IntKind} {a b : Nat} (h : o.op = .binOp .shl t x y t') (hx : opd e x = some (.int .i64 (a : Int))) (hy : opd e y = some (.int k (b : Int))) (hb : b ≤ 62) (hr : a * 2 ^ b < 4611686018427387904) : OpQ P n C e o (.int .i64 ((a * 2 ^ b : Nat) : Int)) := OpQ.val fun A hf w => by
  unfold execOp; rw [h]; simp only [hf.opd hx, hf.opd hy]
  have e2 : IntKind.i64.wrap ((a : Int) * 2 ^ b) = ((a * 2 ^ b : Nat) : Int) := by
    have : ((a : Int) * 2 ^ b) = ((a * 2 ^ b : Nat) : Int) := by rw [Int.natCast_mul, Int.natCast_pow]; rfl
    rw [this, IntWalk.i64_in _ (by omega)]
  simp [go_sem, e2]
theorem OpQ.shr {t t' : TypeId} {x y : Operand} {k : IntKind} {a b : Nat} (h : o.op = .binOp .shr t x y t') (hx : opd e x = some (.int .i64 (a : Int))) (hy : opd e y = some (.int k (b : Int))) (hb : b ≤ 62) : OpQ P n C e o (.int .i64 ((a / 2 ^ b : Nat) : Int)) := OpQ.val fun A hf w => by
  unfold execOp; rw [h]; simp only [hf.opd hx, hf.opd hy]
  simp [go_sem]
end
end Go.Wk
namespace Go.Wk
abbrev yL := @OpQ.or
abbrev xM := @OpQ.strike
abbrev xO := @OpQ.shl
end Go.Wk
namespace Go.Wk
open Go.RowKit
def quI (c : Int) : Prop := c = 65 ∨ c = 83 ∨ c = 50 ∨ c = 51 ∨ c = 52
instance (c : Int) : Decidable (quI c) := by unfold quI; exact inferInstance
theorem quI_of {c : UInt8} (h : quI (c.toNat : Int)) : c = 65 ∨ c = 83 ∨ c = 50 ∨ c = 51 ∨ c = 52 := by
  rcases h with c | c | c | c | c
  · exact .inl (u8_of (n := 65) (by decide) c)
  · exact .inr (.inl (u8_of (n := 83) (by decide) c))
  · exact .inr (.inr (.inl (u8_of (n := 50) (by decide) c)))
  · exact .inr (.inr (.inr (.inl (u8_of (n := 51) (by decide) c))))
  · exact .inr (.inr (.inr (.inr (u8_of (n := 52) (by decide) c))))
theorem bit_lt {v : UInt8} (h : vI v < 4) : 1 * 2 ^ vI v < 16 := by
  have := Nat.pow_le_pow_right (n := 2) (by decide) (show vI v ≤ 3 by omega)
  omega
def EnvA (a : St) (e : List Int) : Prop := e.length = 4 ∧ ∀ i : Nat, i < 4 → a.El (e.getD i 0)
theorem EnvA.set {a : St} {e : List Int} (h : EnvA a e) {k : Nat} {x : Int} (hx : a.El x) : EnvA a (e.set k x) := by
  refine ⟨by rw [List.length_set]; exact h.1, fun i hi => ?_⟩
  rw [List.getD_eq_getElem?_getD, List.getElem?_set]
  by_cases e1 : k = i
  · subst e1
    have h9 := h.1
    rw [if_pos rfl, if_pos (by omega)]; exact hx
  · rw [if_neg e1, ← List.getD_eq_getElem?_getD]; exact h.2 i hi
theorem EnvA.at {a : St} {e : List Int} (h : EnvA a e) {v : UInt8} (hv : vI v < 4) : a.El (e.getD (vI v) 0) := h.2 _ hv
theorem need65 {c : UInt8} {n : Int} (hc : (c.toNat : Int) = 65) (hn : 0 ≤ n) : ((need c n.toNat : Nat) : Int) = n := by
  have : c = 65 := u8_of (n := 65) (by decide) hc
  subst this
  show ((n.toNat : Nat) : Int) = n
  omega
theorem need234 {c : UInt8} {n : Nat} (hc : (c.toNat : Int) = 50 ∨ (c.toNat : Int) = 51 ∨ (c.toNat : Int) = 52) : ((need c n : Nat) : Int) = (c.toNat : Int) - 48 := by
  unfold need
  have h1 : ¬ c = 65 := fun e => by subst e; revert hc; decide
  have h2 : ¬ c = 83 := fun e => by subst e; revert hc; decide
  rw [if_neg h1, if_neg h2]; omega
theorem need83 {c : UInt8} {n : Nat} (hc : (c.toNat : Int) = 83) : ((need c n : Nat) : Int) = 1 := by
  have : c = 83 := u8_of (n := 83) (by decide) hc
  subst this; rfl
def evC (a : St) (v : UInt8) (q : Fm) (en : List Int) : Nat → Bool := fun x => ev a q (en.set (vI v) (x : Int))
theorem cnt_step (F : Nat → Bool) (x : Nat) : cntT F (x + 1) = cntT F x + (if F x then 1 else 0) := rfl
theorem ev_eq {a : St} {en : List Int} {c v u : UInt8} (hc : (c.toNat : Int) = 61) : decide (en.getD (vI v) 0 = en.getD (vI u) 0) = ev a (.leaf c [v, u]) en := by
  have : c = 61 := u8_of (n := 61) (by decide) hc
  subst this; rfl
theorem ev_rel {a : St} {en : List Int} {c v u : UInt8} (hc : (c.toNat : Int) = 69) : a.inRel (en.getD (vI v) 0) (en.getD (vI u) 0) = ev a (.leaf c [v, u]) en := by
  have : c = 69 := u8_of (n := 69) (by decide) hc
  subst this; rfl
theorem evC_of {a : St} {v : UInt8} {q : Fm} {en E : List Int} (h : ∀ z : Int, E.set (vI v) z = en.set (vI v) z) {x : Nat} {b : Bool} (hb : ev a q (E.set (vI v) (x : Int)) = b) : evC a v q en x = b := by
  unfold evC; rw [← h]; exact hb
theorem cnt_yes {F : Nat → Bool} {x : Nat} (h : F x = true) : (cntT F x : Int) + 1 = ((cntT F (x + 1) : Nat) : Int) := by rw [cnt_step, h]; rfl
theorem cnt_no {F : Nat → Bool} {x : Nat} (h : F x = false) : cntT F (x + 1) = cntT F x := by rw [cnt_step, h]; rfl
end Go.Wk
namespace Go.Wk
open Go.RowKit
/-- the formula that a whole text is -/
def formO (f : List UInt8) : Option Fm := if f.length ≤ 4000 then (match parse f with | some (p, []) => some p | _ => none) else none
theorem formO_long {f : List UInt8} (h : ¬ f.length ≤ 4000) : formO f = none := by unfold formO; rw [if_neg h]
theorem formO_parse {f : List UInt8} {p : Fm} (h : formO f = some p) : f.length ≤ 4000 ∧ parse f = some (p, []) := by
  unfold formO at h
  by_cases hl : f.length ≤ 4000
  · rw [if_pos hl] at h
    refine ⟨hl, ?_⟩
    split at h
    · injection h with h; subst h; assumption
    · cases h
  · rw [if_neg hl] at h; cases h
theorem parse_formO {f : List UInt8} {p : Fm} (hl : f.length ≤ 4000) (h : parse f = some (p, [])) : formO f = some p := by
  unfold formO; rw [if_pos hl, h]
theorem formO_pa {f : List UInt8} {p : Fm} (h : formO f = some p) : Pa f 0 p f.length := by
  obtain ⟨_, h⟩ := formO_parse h
  refine ⟨by rw [List.drop_zero, h, List.drop_length], ?_, Nat.le_refl _⟩
  cases f with
  | nil => cases h
  | cons c s => simp
theorem formO_wf {f : List UInt8} {p : Fm} (h : formO f = some p) : wfF p := (formO_pa h).wf
/-- elements for the first variables, the others 0 -/
def envL (xs : List Int) : List Int := xs ++ List.replicate (4 - xs.length) 0
theorem envL_len {xs : List Int} (h : xs.length ≤ 4) : (envL xs).length = 4 := by unfold envL; rw [List.length_append, List.length_replicate]; omega
theorem envL_ok {a : St} {xs : List Int} (h1 : 1 ≤ a.n) (h : xs.length ≤ 4) (hx : a.Els xs) : EnvA a (envL xs) := by
  refine ⟨envL_len h, fun i hi => ?_⟩
  unfold envL
  rw [List.getD_eq_getElem?_getD, List.getElem?_append]
  split
  · rename_i hl
    rw [List.getElem?_eq_getElem hl]
    exact hx _ (List.getElem_mem _)
  · rename_i hl
    rw [List.getElem?_replicate, if_pos (by omega)]
    exact ⟨by decide, by show (0 : Int) < a.n; omega⟩
open Classical in
noncomputable def holdO (a : St) (f : List UInt8) (xs : List Int) : Option Bool :=
  match formO f with
  | none => none
  | some p => if validB a = true ∧ xs.length ≤ 4 ∧ (∀ x ∈ xs, a.El x) ∧ frB p / 2 ^ xs.length = 0 then some (ev a p (envL xs)) else none
noncomputable def holdV (a : St) (f : List UInt8) (xs : List Int) : Bool := (holdO a f xs).getD false
noncomputable def holdK (a : St) (f : List UInt8) (xs : List Int) : Bool := (holdO a f xs).isSome
theorem holdO_none {a : St} {f : List UInt8} {xs : List Int} (h : ∀ p, formO f = some p → ¬ (validB a = true ∧ xs.length ≤ 4 ∧ (∀ x ∈ xs, a.El x) ∧ frB p / 2 ^ xs.length = 0)) : holdO a f xs = none := by
  unfold holdO
  cases e : formO f with
  | none => rfl
  | some p => dsimp only; rw [if_neg (h p e)]
theorem holdO_some {a : St} {f : List UInt8} {xs : List Int} {p : Fm} (e : formO f = some p) (h : validB a = true ∧ xs.length ≤ 4 ∧ (∀ x ∈ xs, a.El x) ∧ frB p / 2 ^ xs.length = 0) : holdO a f xs = some (ev a p (envL xs)) := by
  unfold holdO; rw [e]; dsimp only; rw [if_pos h]
theorem hold_yes {a : St} {f : List UInt8} {xs : List Int} {b : Bool} (h : holdO a f xs = some b) : holdV a f xs = b ∧ holdK a f xs = true := by
  unfold holdV holdK; rw [h]; exact ⟨rfl, rfl⟩
theorem rank_one {c : UInt8} {vs : List UInt8} {q : Fm} (hc : (c.toNat : Int) = 65 ∨ (c.toNat : Int) = 83) : ((rankF (.one c vs q) : Nat) : Int) = (rankF q : Int) + 1 := by
  have h : c = 65 ∨ c = 83 := hc.elim (fun e => .inl (u8_of (n := 65) (by decide) e)) (fun e => .inr (u8_of (n := 83) (by decide) e))
  show (((if c = 33 then rankF q else if c = 65 ∨ c = 83 then rankF q + 1 else rankF q + (c.toNat - 48) : Nat)) : Int) = _
  rw [if_neg (by rcases h with e | e <;> rw [e] <;> decide), if_pos h]; rfl
theorem rank_cnt {c : UInt8} {vs : List UInt8} {q : Fm} (hq : quI (c.toNat : Int)) (hc : ¬ ((c.toNat : Int) = 65 ∨ (c.toNat : Int) = 83)) : ((rankF (.one c vs q) : Nat) : Int) = (rankF q : Int) + (c.toNat : Int) - 48 := by
  have h1 : ¬ (c = 65 ∨ c = 83) := fun e => hc (e.elim (fun e => .inl (by rw [e]; rfl)) (fun e => .inr (by rw [e]; rfl)))
  have h2 : ¬ c = 33 := fun e => by subst e; revert hq; decide
  have h3 : (48 : Int) ≤ c.toNat := by rcases hq with e | e | e | e | e <;> omega
  show (((if c = 33 then rankF q else if c = 65 ∨ c = 83 then rankF q + 1 else rankF q + (c.toNat - 48) : Nat)) : Int) = _
  rw [if_neg h2, if_neg h1]; omega
theorem rank_le : ∀ {p : Fm}, rankF p ≤ 255 * (fT p).length
  | .leaf _ _ => Nat.zero_le _
  | .one c vs q => by
    have h1 := rank_le (p := q)
    have h2 := c.toNat_lt
    have h3 : (fT (.one c vs q)).length = (vs.length + (fT q).length) + 1 := by simp [fT]
    unfold rankF
    split
    · omega
    · split <;> omega
  | .two c p q => by
    have h1 := rank_le (p := p)
    have h2 := rank_le (p := q)
    have h3 : (fT (.two c p q)).length = ((fT p).length + (fT q).length) + 1 := by simp [fT]
    unfold rankF
    omega
theorem rank_pa {f : List UInt8} {n e : Nat} {p : Fm} (h : Pa f n p e) : rankF p ≤ 255 * f.length := by
  have h1 := parse_text _ (Nat.le_refl _) h.1
  have h2 := congrArg List.length h1
  rw [List.length_append, List.length_drop] at h2
  have h3 := rank_le (p := p)
  have h4 : (fT p).length ≤ f.length := by omega
  omega
def rankI (f : List UInt8) : Int := match formO f with | some p => (rankF p : Int) | none => -1
/-- the letters of a formula -/
theorem op_cases {c : UInt8} (h : isOp c = true) : c = 116 ∨ c = 102 ∨ c = 80 ∨ c = 61 ∨ c = 69 ∨ c = 33 ∨ c = 38 ∨ c = 124 ∨ c = 65 ∨ c = 83 ∨ c = 50 ∨ c = 51 ∨ c = 52 := by
  unfold isOp at h
  rw [decide_eq_true_eq] at h
  simpa only [List.mem_cons, List.not_mem_nil, or_false] using h
theorem one_no_var {c : UInt8} {p : Fm} (h : wfF (.one c [] p)) : c = 33 := by
  obtain ⟨h1, h2, h3, _⟩ := h
  have h4 : arV c = 0 := h3.symm
  rcases op_cases h1 with rfl | rfl | rfl | rfl | rfl | rfl | rfl | rfl | rfl | rfl | rfl | rfl | rfl <;> first | rfl | exact absurd h2 (by decide) | exact absurd h4 (by decide)
theorem one_var {c : UInt8} {v : UInt8} {vs : List UInt8} {p : Fm} (h : wfF (.one c (v :: vs) p)) : (c = 65 ∨ c = 83 ∨ c = 50 ∨ c = 51 ∨ c = 52) ∧ vs = [] ∧ isV v = true := by
  obtain ⟨h1, h2, h3, h4, _⟩ := h
  have hv := h4 v (by simp)
  rw [List.length_cons] at h3
  rcases op_cases h1 with rfl | rfl | rfl | rfl | rfl | rfl | rfl | rfl | rfl | rfl | rfl | rfl | rfl <;> first | exact absurd h2 (by decide) | exact absurd h3 (fun e => by have e' : vs.length + 1 = 0 := e; omega) | exact ⟨by simp, List.length_eq_zero_iff.1 (by have : vs.length + 1 = 1 := h3; omega), hv⟩
theorem two_op {c : UInt8} {p q : Fm} (h : wfF (.two c p q)) : c = 38 ∨ c = 124 := by
  obtain ⟨h1, h2, h3, _⟩ := h
  rcases op_cases h1 with rfl | rfl | rfl | rfl | rfl | rfl | rfl | rfl | rfl | rfl | rfl | rfl | rfl <;> first | exact .inl rfl | exact .inr rfl | exact absurd rfl h2 | exact absurd rfl h3
theorem len_two {vs : List UInt8} (h : vs.length = 2) : ∃ v u, vs = [v, u] := by
  match vs, h with
  | [v, u], _ => exact ⟨v, u, rfl⟩
theorem leaf_op {c : UInt8} {vs : List UInt8} (h : wfF (.leaf c vs)) : (c = 116 ∨ c = 102) ∨ (c = 80 ∧ ∃ v, vs = [v]) ∨ ((c = 61 ∨ c = 69) ∧ ∃ v u, vs = [v, u]) := by
  obtain ⟨h1, h2, h3, h4⟩ := h
  rcases op_cases h1 with rfl | rfl | rfl | rfl | rfl | rfl | rfl | rfl | rfl | rfl | rfl | rfl | rfl <;> first | exact absurd h2 (by decide) | skip
  · exact .inl (.inl rfl)
  · exact .inl (.inr rfl)
  · exact .inr (.inl ⟨rfl, List.length_eq_one_iff.1 h3⟩)
  · exact .inr (.inr ⟨.inl rfl, len_two h3⟩)
  · exact .inr (.inr ⟨.inr rfl, len_two h3⟩)
end Go.Wk
namespace Go.Wk
open Go.RowKit
theorem St.Tame.small {a : St} (h : a.Tame) : a.Small := ⟨by have := h.set; omega, by have := h.rel; omega⟩
end Go.Wk
namespace Go.Wk
open Go.RowKit
theorem same_refl (a : St) (xs : List Int) : sameB a xs a xs = true := by
  rw [← atomBits_same rfl]; exact beq_self_eq_true _
section
variable {a b : St} {xs ys : List Int} {r : Int}
end
end Go.Wk
namespace Go.Wk
open Go.RowKit
/-- the classes of the first things, and how many there are -/
def clsN (q : Nat → Nat → Bool) : Nat → List Int × Nat
  | 0 => ([], 0)
  | x + 1 => match (List.range x).find? (fun y => q y x) with
    | some y => ((clsN q x).1 ++ [(clsN q x).1.getD y 0], (clsN q x).2)
    | none => ((clsN q x).1 ++ [((clsN q x).2 : Int)], (clsN q x).2 + 1)
section
variable {q : Nat → Nat → Bool}
theorem cls_old {x y : Nat} (hy : y < x) (hall : ∀ i, i < y → q i x = false) (h : q y x = true) : clsN q (x + 1) = ((clsN q x).1 ++ [(clsN q x).1.getD y 0], (clsN q x).2) := by
  rw [clsN, find_at (f := fun y => q y x) hy hall h]
theorem cls_new {x : Nat} (hall : ∀ i, i < x → q i x = false) : clsN q (x + 1) = ((clsN q x).1 ++ [((clsN q x).2 : Int)], (clsN q x).2 + 1) := by
  have : (List.range x).find? (fun y => q y x) = none := by rw [List.find?_eq_none]; intro i hi; rw [hall i (List.mem_range.1 hi)]; simp
  rw [clsN, this]
theorem cls_cases (q : Nat → Nat → Bool) (x : Nat) : (∃ y, y < x ∧ (∀ i, i < y → q i x = false) ∧ q y x = true) ∨ ∀ i, i < x → q i x = false := by
  cases h : (List.range x).find? (fun y => q y x) with
  | none => exact .inr fun i hi => by simpa using List.find?_eq_none.1 h i (List.mem_range.2 hi)
  | some y =>
    rw [List.find?_range_eq_some] at h
    exact .inl ⟨y, List.mem_range.1 h.2.1, fun i hi => by simpa using h.2.2 i hi, h.1⟩
theorem cls_length (q : Nat → Nat → Bool) : ∀ x, (clsN q x).1.length = x
  | 0 => rfl
  | x + 1 => by
    rcases cls_cases q x with ⟨y, h1, h2, h3⟩ | h
    · rw [cls_old h1 h2 h3]; simp [cls_length q x]
    · rw [cls_new h]; simp [cls_length q x]
theorem cls_small (q : Nat → Nat → Bool) : ∀ x, (clsN q x).2 ≤ x ∧ ∀ m ∈ (clsN q x).1, 0 ≤ m ∧ m < ((clsN q x).2 : Int)
  | 0 => ⟨Nat.le_refl _, fun m hm => by cases hm⟩
  | x + 1 => by
    obtain ⟨i1, i2⟩ := cls_small q x
    rcases cls_cases q x with ⟨y, h1, h2, h3⟩ | h
    · rw [cls_old h1 h2 h3]
      refine ⟨by dsimp only; omega, fun m hm => ?_⟩
      rcases List.mem_append.1 hm with h4 | h4
      · exact i2 m h4
      · rw [List.mem_singleton.1 h4]
        have hl := cls_length q x
        rw [getD_at (by omega)]; exact i2 _ (List.getElem_mem _)
    · rw [cls_new h]
      refine ⟨by dsimp only; omega, fun m hm => ?_⟩
      rcases List.mem_append.1 hm with h4 | h4
      · have := i2 m h4; dsimp only; omega
      · rw [List.mem_singleton.1 h4]; dsimp only; omega
end
/-- what the reference has seen: the numbers, in order of their coming -/
structure SeenL (T : List (List UInt8)) (n : Nat) (a : St) (x : Nat) (S O : List Int) : Prop where
  cls : clsN (fun y x => winB n a [(y : Int)] a [(x : Int)]) x = (O, S.length)
  nodup : S.Nodup
  out : ∀ y : Nat, y < x → ∃ m k : Nat, Means T n a [(y : Int)] m ∧ O.getD y 0 = (k : Int) ∧ S[k]? = some (m : Int)
  seen : ∀ s ∈ S, ∃ m y : Nat, s = (m : Int) ∧ y < x ∧ Means T n a [(y : Int)] m
theorem SeenL.zero {T : List (List UInt8)} {n : Nat} {a : St} : SeenL T n a 0 [] [] := ⟨rfl, List.nodup_nil, fun y hy => absurd hy (by omega), fun s hs => by cases hs⟩
theorem SeenL.len {T : List (List UInt8)} {n : Nat} {a : St} {x : Nat} {S O : List Int} (h : SeenL T n a x S O) : O.length = x ∧ S.length ≤ x := by
  have h1 := cls_length (fun y x => winB n a [(y : Int)] a [(x : Int)]) x
  have h2 := (cls_small (fun y x => winB n a [(y : Int)] a [(x : Int)]) x).1
  rw [h.cls] at h1 h2
  exact ⟨h1, h2⟩
end Go.Wk
namespace Go.Wk
open Go.RowKit
section
variable {P : Program} {n : Nat} {C : World → Prop} {B : Nat} {w0 : World} {hs hs' : List (Nat × Obj)} {N R : Act → World → Prop} {X : List (Nat × (Act → World → Prop))} {e : Env} {ops : Array Oper} {l : List Oper} {o : Oper}
theorem OpQ.indexArr {t el : TypeId} {m : Nat} {x y : Operand} {b : Nat} {k : IntKind} {i : Int} (h : o.op = .indexAddr t x y) (hu : ∀ w, (underlying t).run P w = .ok (.array m el) w) (hz : ∀ w, (sizeOf el).run P w = .ok 1 w)
    (hx : opd e x = some (.pointer (some ⟨b, 0, none⟩))) (hy : opd e y = some (.int k i)) (h0 : 0 ≤ i) (h1 : i < m) : OpQ P n C e o (.pointer (some ⟨b, i.toNat, none⟩)) := OpQ.val fun A hF w => by
  unfold execOp; rw [h]; simp only [hF.opd hx, hF.opd hy]
  simp only [Instr.indexAt, Instr.sureAddr, asIntOf, Sem.run_bind, Sem.run_pure, hu, Result.andThen, hz, if_pos (And.intro h0 h1), Addr.add_lit, Nat.mul_one, Nat.zero_add]
theorem OpQ.max2 {x y : Operand} {ts : Array TypeId} {i j : Int} (h : o.op = .call ⟨.builtin .max, #[x, y], ts⟩) (hx : opd e x = some (.int .i64 i)) (hy : opd e y = some (.int .i64 j)) : OpQ P n C e o (.int .i64 (if j > i then j else i)) := OpQ.val fun A hF w => by
  unfold execOp; rw [h]
  simp only [resolve, invoke, BigFrame.builtin_max, List.map_toArray, List.map_cons, List.map_nil, hF.opd hx, hF.opd hy, Sem.run_bind, Sem.run_pure, Result.andThen, Builtin.max_, List.foldlM_cons, List.foldlM_nil, Builtin.max2]
def entM (x : List UInt8 × Nat) : MapEntry := { key := str x.1, val := .bool true, born := x.2 }
def mapO (ks : List (List UInt8)) : Obj := .map ((ks.zipIdx.map entM).toArray) ks.length
def addK (ks : List (List UInt8)) (s : List UInt8) : List (List UInt8) := if s ∈ ks then ks else ks ++ [s]
theorem Own.setObj {w : World} (h : Own B w0 hs w) {i p : Nat} {u : Obj} (hi : hs[i]? = some (p, u)) (u' : Obj) : Own B w0 (hs.set i (p, u')) { w with heap := w.heap.setIfInBounds p u' } := by
  obtain ⟨hB, hp⟩ := h.has i p u hi
  obtain ⟨hh, hne⟩ := MapKept.heap_set (o' := u') hp
  have hil : i < hs.length := (List.getElem?_eq_some_iff.1 hi).1
  refine Own.of_mem ⟨h.below.os, h.below.tape, h.below.output, by have := h.below.size; simpa using this, fun k hk => ?_⟩ (by have := h.base; simpa using this) (fun x hx => ?_) ?_
  · have := h.below.block k hk
    rw [← this]; exact hne k (by omega)
  · obtain ⟨j, hj⟩ := List.mem_iff_getElem?.1 hx
    rw [List.getElem?_set] at hj
    split at hj
    · rename_i e1; subst e1
      injection hj with hj; subst hj
      exact ⟨hB, hh⟩
    · rename_i e1
      obtain ⟨h1, h2⟩ := h.has j x.1 x.2 hj
      exact ⟨h1, by rw [← h2]; exact hne _ (fun e2 => h.apart j i x.1 x.2 p u hj hi (fun e3 => e1 e3.symm) e2)⟩
  · have : (hs.set i (p, u')).map Prod.fst = hs.map Prod.fst := by
      rw [List.map_set]
      refine set_same ?_
      rw [List.getElem?_map, hi]; rfl
    rw [this]; exact h.nodup
theorem Ll.makeMap {d t : Nat} (hd : Nat.blt d n = true) (hdst : o.dst = some d) (hg : wantE ops e o.guard = some true) (h : o.op = .makeMap t none)
    (k : ∀ p, B ≤ p → Ll P n (Own B w0 ((p, mapO []) :: hs)) ops l ((d, .map (some p)) :: e) N R X) : Ll P n (Own B w0 hs) ops (o :: l) e N R X :=
  Ll.turn hd hdst hg fun a w hF hw => ⟨.map (some w.heap.size), w.alloc (mapO []), by
    unfold execOp; rw [h]; rfl, fun a' ha => by
    have := k _ hw.base
    unfold Ll at this
    exact this a' _ ha (hw.alloc _)⟩
end
structure RR where
  g : Nat
  cap : Nat
  cur : Array Value
  xs : List Int
def rd : RR := ⟨0, 0, #[], []⟩
def rv (r : RR) : Value := .slice (some ⟨r.g, 0, none⟩) r.xs.length r.cap
structure RR.Ok (r : RR) : Prop where
  size : r.cur.size = r.cap * 1
  len : r.xs.length ≤ r.cap
  vals : r.cur.toList.take r.xs.length = ints r.xs
def rvs (rr : List RR) : List Value := rr.map rv
@[simp] theorem rvs_length (rr : List RR) : (rvs rr).length = rr.length := by simp [rvs]
theorem rvs_at {rr : List RR} {i : Nat} (h : i < rr.length) : (rvs rr)[i]? = some (rv (rr.getD i rd)) := by
  rw [rvs, List.getElem?_map, List.getElem?_eq_getElem h, getD_at h]; rfl
section
variable {B : Nat} {w0 : World} {hs : List (Nat × Obj)}
end
structure RowsOk (rr : List RR) (u : Array Value) (c : Nat) : Prop where
  size : u.size = c * 1
  len : rr.length ≤ c
  vals : u.toList.take rr.length = rvs rr
  ok : ∀ r ∈ rr, r.Ok
theorem RowsOk.nil : RowsOk [] #[] 0 := ⟨rfl, Nat.le_refl 0, rfl, fun r hr => by cases hr⟩
theorem RowsOk.one (p : Nat) : RowsOk [⟨p, 0, #[], []⟩] #[.slice (some ⟨p, 0, none⟩) 0 0] 1 := ⟨rfl, Nat.le_refl 1, rfl, fun r hr => by rw [List.mem_singleton.1 hr]; exact ⟨rfl, Nat.le_refl 0, rfl⟩⟩
theorem RowsOk.add {rr : List RR} {u u' : Array Value} {c c' : Nat} {r : RR} (h : RowsOk rr u c) (hr : r.Ok) (hs : u'.size = c' * 1) (hl : rr.length + 1 ≤ c') (hv : u'.toList.take ((rr.length + 1) * 1) = u.toList.take (rr.length * 1) ++ [rv r]) : RowsOk (rr ++ [r]) u' c' := by
  refine ⟨hs, by simpa using hl, ?_, fun x hx => ?_⟩
  · have h1 := h.vals
    rw [Nat.mul_one, Nat.mul_one, h1] at hv
    rw [List.length_append, List.length_singleton, hv]; simp [rvs]
  · rcases List.mem_append.1 hx with h1 | h1
    · exact h.ok x h1
    · rw [List.mem_singleton.1 h1]; exact hr
def pointL (size : Nat) : Nat → Nat → List Int
  | 0, _ => []
  | w + 1, k => pointL size w (k / size) ++ [((k % size : Nat) : Int)]
@[simp] theorem pointL_length (size : Nat) : ∀ w k, (pointL size w k).length = w
  | 0, _ => rfl
  | w + 1, k => by simp [pointL, pointL_length size w]
/-- texts, each once -/
def dedup (l : List (List UInt8)) : List (List UInt8) := l.foldl addK []
end Go.Wk
namespace Go.Wk
open Go.RowKit
end Go.Wk
namespace Go.Wk
open Go.RowKit
def qP (a : St) (r w : Nat) (y x : Nat) : Bool := winB r a (pointL a.n.toNat w y) a (pointL a.n.toNat w x)
structure CountL (T : List (List UInt8)) (r : Nat) (a : St) (w k : Nat) (S : List Int) : Prop where
  cls : (clsN (qP a r w) k).2 = S.length
  sorted : S.Pairwise (· < ·)
  all : ∀ y : Nat, y < k → ∃ i : Nat, (i : Int) ∈ S ∧ Means T r a (pointL a.n.toNat w y) i
  only : ∀ m ∈ S, ∃ i y : Nat, m = i ∧ y < k ∧ Means T r a (pointL a.n.toNat w y) i
theorem CountL.zero {T : List (List UInt8)} {r : Nat} {a : St} {w : Nat} : CountL T r a w 0 [] := ⟨rfl, List.Pairwise.nil, fun y hy => absurd hy (by omega), fun m hm => by cases hm⟩
theorem CountL.len {T : List (List UInt8)} {r : Nat} {a : St} {w k : Nat} {S : List Int} (h : CountL T r a w k S) : S.length ≤ k := by rw [← h.cls]; exact (cls_small _ k).1
end Go.Wk
namespace Go.Wk
open Go.RowKit
theorem map_app_iff {l m l' m' : List (List UInt8 × Bool)} (h : l.length = m.length) : (l ++ l').map Prod.snd = (m ++ m').map Prod.snd ↔ l.map Prod.snd = m.map Prod.snd ∧ l'.map Prod.snd = m'.map Prod.snd := by
  rw [List.map_append, List.map_append]
  exact ⟨fun h2 => List.append_inj h2 (by simpa using h), fun ⟨h2, h3⟩ => by rw [h2, h3]⟩
theorem more_iff {a b : St} {xs ys : List Int} {i : Nat} : ∀ k : Nat, (moreL a xs i k).map Prod.snd = (moreL b ys i k).map Prod.snd ↔ ∀ j : Nat, j < k → pairOk a b (xs.getD i 0) (ys.getD i 0) (xs.getD j 0) (ys.getD j 0) = true
  | 0 => by simp [moreL]
  | k + 1 => by
    unfold moreL
    rw [map_app_iff (by simp), more_iff k]
    constructor
    · rintro ⟨h1, h2⟩ j hj
      rcases Nat.lt_or_ge j k with h3 | h3
      · exact h1 j h3
      · obtain rfl : j = k := by omega
        refine pairOk_true.2 ?_
        simpa using h2
    · intro h
      refine ⟨fun j hj => h j (by omega), ?_⟩
      have := pairOk_true.1 (h k (by omega))
      simpa using this
theorem facts_iff {a b : St} {xs ys : List Int} (hl : xs.length = ys.length) : ∀ n : Nat, n ≤ xs.length → ((factsL a xs n).map Prod.snd = (factsL b ys n).map Prod.snd ↔ ∀ i : Nat, i < n → stillAt a xs b ys i = true)
  | 0, _ => by simp [factsL]
  | n + 1, hn => by
    have hfl : ∀ (a b : St) (xs ys : List Int) (n : Nat), (factsL a xs n).length = (factsL b ys n).length := fun a b xs ys n => by
      induction n with
      | zero => rfl
      | succ n ih => simp [factsL, ih]
    have ih := facts_iff hl n (by omega) (a := a) (b := b)
    have key : (factL a xs n).map Prod.snd = (factL b ys n).map Prod.snd ↔ stillAt a xs b ys n = true := by
      unfold factL stillAt
      rw [map_app_iff (by simp), more_iff, stillB_true (by simp [hl])]
      have e : ((headL a xs n).map Prod.snd = (headL b ys n).map Prod.snd) ↔ a.inSet (xs.getD n 0) = b.inSet (ys.getD n 0) ∧ a.inRel (xs.getD n 0) (xs.getD n 0) = b.inRel (ys.getD n 0) (ys.getD n 0) := by simp [headL]
      rw [e, and_assoc]
      refine and_congr_right fun _ => and_congr_right fun _ => ?_
      rw [List.length_take, Nat.min_eq_left (by omega)]
      exact ⟨fun h k hk => by rw [take_getD hk, take_getD hk]; exact h k hk, fun h k hk => by have := h k hk; rwa [take_getD hk, take_getD hk] at this⟩
    unfold factsL
    rw [map_app_iff (hfl a b xs ys n), ih, key]
    exact ⟨fun ⟨h1, h2⟩ i hi => by
      rcases Nat.lt_or_ge i n with h3 | h3
      · exact h1 i h3
      · rw [show i = n from by omega]; exact h2, fun h => ⟨fun i hi => h i (by omega), h n (by omega)⟩⟩
end Go.Wk
namespace Go.Wk
open Go.RowKit
/-- the second player wins so many turns -/
def pW : Nat → St → List Int → St → List Int → Prop
  | 0, a, xs, b, ys => (∀ i : Nat, i < xs.length → (xs.getD i 0 < 0 ↔ ys.getD i 0 < 0)) ∧ sameB a (placed xs xs.length) b (placed ys ys.length) = true
  | n + 1, a, xs, b, ys => pW n a xs b ys ∧ ∀ i : Nat, i < xs.length → (∀ x : Nat, x < a.n.toNat → ∃ y : Nat, y < b.n.toNat ∧ pW n a (xs.set i (x : Int)) b (ys.set i (y : Int))) ∧
      (∀ y : Nat, y < b.n.toNat → ∃ x : Nat, x < a.n.toNat ∧ pW n a (xs.set i (x : Int)) b (ys.set i (y : Int)))
def idxP (size : Nat) (xs : List Int) : Nat := xs.foldl (fun n x => n * (size + 1) + (x + 1).toNat) 0
def atP (size : Nat) : Nat → Nat → List Int
  | 0, _ => []
  | k + 1, n => atP size k (n / (size + 1)) ++ [((n % (size + 1) : Nat) : Int) - 1]
/-- pebbles on a structure of a size: elements, or -1 -/
def Peb (size k : Nat) (xs : List Int) : Prop := xs.length = k ∧ ∀ x ∈ xs, -1 ≤ x ∧ x < (size : Int)
@[simp] theorem atP_len (size : Nat) : ∀ k n, (atP size k n).length = k
  | 0, _ => rfl
  | k + 1, n => by simp [atP, atP_len size k]
theorem peb_set {size k i : Nat} {xs : List Int} (h : Peb size k xs) {x : Nat} (hx : x < size) : Peb size k (xs.set i (x : Int)) := by
  refine ⟨by rw [List.length_set]; exact h.1, fun y hy => ?_⟩
  rcases List.mem_or_eq_of_mem_set hy with h1 | h1
  · exact h.2 y h1
  · rw [h1]; omega
def numP (size : Nat) (R : List Int) (xs : List Int) : Int := R.getD (idxP size xs) 0
/-- two rows of numbers tell who wins n turns -/
structure GoodP (n k : Nat) (a b : St) (Ra Rb : List Int) : Prop where
  aa : ∀ xs ys, Peb a.n.toNat k xs → Peb a.n.toNat k ys → (numP a.n.toNat Ra xs = numP a.n.toNat Ra ys ↔ pW n a xs a ys)
  ab : ∀ xs ys, Peb a.n.toNat k xs → Peb b.n.toNat k ys → (numP a.n.toNat Ra xs = numP b.n.toNat Rb ys ↔ pW n a xs b ys)
  bb : ∀ xs ys, Peb b.n.toNat k xs → Peb b.n.toNat k ys → (numP b.n.toNat Rb xs = numP b.n.toNat Rb ys ↔ pW n b xs b ys)
/-- the numbers of descriptions -/
def NumOf (T : List (List UInt8)) (text : Nat → List UInt8) (R : List Int) (N : Nat) : Prop := R.length = N ∧ ∀ i : Nat, i < N → ∃ m : Nat, R.getD i 0 = (m : Int) ∧ T[m]? = some (text i)
theorem NumOf.mono {T T' : List (List UInt8)} {text : Nat → List UInt8} {R : List Int} {N : Nat} (h : NumOf T text R N) (hp : T <+: T') : NumOf T' text R N :=
  ⟨h.1, fun i hi => (h.2 i hi).elim fun m hm => ⟨m, hm.1, prefix_get hp hm.2⟩⟩
end Go.Wk
namespace Go.Wk
open Go.RowKit
end Go.Wk
namespace Go.Wk
open Go.RowKit
/-- numbers of descriptions, as far as they are told -/
def NumTo (T : List (List UInt8)) (text : Nat → List UInt8) (R : List Int) (N k : Nat) : Prop := R.length = N ∧ ∀ i : Nat, i < k → ∃ m : Nat, R.getD i 0 = (m : Int) ∧ T[m]? = some (text i)
theorem NumTo.zero (T : List (List UInt8)) (text : Nat → List UInt8) (N : Nat) : NumTo T text (List.replicate N 0) N 0 := ⟨by simp, fun i hi => absurd hi (by omega)⟩
theorem NumTo.all {T : List (List UInt8)} {text : Nat → List UInt8} {R : List Int} {N : Nat} (h : NumTo T text R N N) : NumOf T text R N := h
theorem NumOf.small {T : List (List UInt8)} {text : Nat → List UInt8} {R : List Int} {N : Nat} (h : NumOf T text R N) (hT : T.length ≤ 1000000) : ∀ i : Nat, 0 ≤ R.getD i 0 ∧ R.getD i 0 < 1000000 := fun i => by
  rcases Nat.lt_or_ge i N with h1 | h1
  · obtain ⟨m, e, h2⟩ := h.2 i h1
    have := (List.getElem?_eq_some_iff.1 h2).1
    rw [e]; omega
  · rw [List.getD_eq_getElem?_getD, List.getElem?_eq_none (by rw [h.1]; exact h1)]; exact ⟨Int.le_refl 0, by decide⟩
end Go.Wk
namespace Go.Wk
open Go.RowKit
/-- every new text of the table is some row's -/
def Onto (T0 T : List (List UInt8)) (R : List Int) (k : Nat) : Prop := ∀ m : Nat, T0.length ≤ m → m < T.length → ∃ i : Nat, i < k ∧ R.getD i 0 = (m : Int)
theorem Onto.zero (T : List (List UInt8)) (R : List Int) : Onto T T R 0 := fun m h1 h2 => absurd h1 (by omega)
/-- the numbers of both structures' pebbles after some turns -/
structure LevP (n k : Nat) (a b : St) (Ra Rb : List Int) (K : Nat) : Prop where
  good : GoodP n k a b Ra Rb
  la : Ra.length = (a.n.toNat + 1) ^ k
  lb : Rb.length = (b.n.toNat + 1) ^ k
  sa : ∀ i : Nat, i < Ra.length → 0 ≤ Ra.getD i 0 ∧ Ra.getD i 0 < (K : Int)
  sb : ∀ i : Nat, i < Rb.length → 0 ≤ Rb.getD i 0 ∧ Rb.getD i 0 < (K : Int)
  onto : ∀ m : Nat, m < K → (∃ i : Nat, i < Ra.length ∧ Ra.getD i 0 = (m : Int)) ∨ ∃ i : Nat, i < Rb.length ∧ Rb.getD i 0 = (m : Int)
def sS (a b : St) (s : Bool × List Int) : St := if s.1 then b else a
def sP (a b : St) (k : Nat) (s : Bool × List Int) : Prop := Peb (sS a b s).n.toNat k s.2
def Still (n k : Nat) (a b : St) : Prop := ∀ s t, sP a b k s → sP a b k t → pW n (sS a b s) s.2 (sS a b t) t.2 → pW (n + 1) (sS a b s) s.2 (sS a b t) t.2
theorem Still.next {n k : Nat} {a b : St} (h : Still n k a b) : Still (n + 1) k a b := fun s t hs ht e => by
  refine ⟨e, fun i hi => ?_⟩
  obtain ⟨h1, h2⟩ := e.2 i hi
  have put : ∀ {u : Bool × List Int} {x : Nat}, sP a b k u → x < (sS a b u).n.toNat → sP a b k (u.1, u.2.set i (x : Int)) := fun hu hx => peb_set hu hx
  refine ⟨fun x hx => ?_, fun y hy => ?_⟩
  · obtain ⟨y, hy, e2⟩ := h1 x hx
    exact ⟨y, hy, h (s.1, s.2.set i (x : Int)) (t.1, t.2.set i (y : Int)) (put hs hx) (put ht hy) e2⟩
  · obtain ⟨x, hx, e2⟩ := h2 y hy
    exact ⟨x, hx, h (s.1, s.2.set i (x : Int)) (t.1, t.2.set i (y : Int)) (put hs hx) (put ht hy) e2⟩
theorem Still.all {n k : Nat} {a b : St} (h : Still n k a b) : ∀ m : Nat, Still (n + m) k a b
  | 0 => h
  | m + 1 => (h.all m).next
end Go.Wk
namespace Go.Wk
open Go.RowKit
/-- levels of numbers: so many, the kinds grow up to some level -/
structure Levs (k M : Nat) (a b : St) (A B : List (List Int)) (m g : Nat) : Prop where
  la : A.length = m + 1
  lb : B.length = m + 1
  lev : ∃ Ks : Nat → Nat, (∀ i : Nat, i ≤ m → Ks i ≤ 1458 ∧ LevP i k a b (A.getD i []) (B.getD i []) (Ks i)) ∧ (4 < M → ∀ i : Nat, i < g → Ks i < Ks (i + 1))
theorem Levs.at {k M m g : Nat} {a b : St} {A B : List (List Int)} (h : Levs k M a b A B m g) {i : Nat} (hi : i ≤ m) : ∃ K, K ≤ 1458 ∧ LevP i k a b (A.getD i []) (B.getD i []) K := by
  obtain ⟨_, _, Ks, h1, _⟩ := h
  exact ⟨Ks i, h1 i hi⟩
end Go.Wk
namespace Go.Wk
open Go.RowKit
theorem RowsOk.cell {rr : List RR} {u : Array Value} {c i : Nat} (h : RowsOk rr u c) (hi : i < rr.length) : u.toList[i]? = some (rv (rr.getD i rd)) := by
  have := rvs_at hi
  rw [← h.vals, List.getElem?_take, if_pos hi] at this
  exact this
end Go.Wk
namespace Go.Wk
open Go.RowKit
end Go.Wk
namespace Go.Wk
open Go.RowKit
end Go.Wk
namespace Go.Wk
open Go.RowKit
end Go.Wk
namespace Go.Wk
open Go.RowKit
/-- a state's digit -/
def dig (pr s i : Nat) : Nat := s / pr ^ i % pr
/-- a state with a digit's pebble beside -/
def zer (pr s i : Nat) : Nat := s - pr ^ i * dig pr s i
def xOf (nb d : Nat) : Int := if d = 0 then -1 else (((d - 1) / nb : Nat) : Int)
def yOf (nb d : Nat) : Int := if d = 0 then -1 else (((d - 1) % nb : Nat) : Int)
def pX (nb pr k s : Nat) : List Int := (List.range k).map fun i => xOf nb (dig pr s i)
def pY (nb pr k s : Nat) : List Int := (List.range k).map fun i => yOf nb (dig pr s i)
@[simp] theorem pX_len (nb pr k s : Nat) : (pX nb pr k s).length = k := by simp [pX]
@[simp] theorem pY_len (nb pr k s : Nat) : (pY nb pr k s).length = k := by simp [pY]
def code (nb : Nat) (x y : Int) : Nat := if 0 ≤ x then 1 + x.toNat * nb + y.toNat else 0
end Go.Wk
namespace Go.Wk
open Go.RowKit
def prN (a b : St) : Nat := a.n.toNat * b.n.toNat + 1
/-- the elements of a state on either structure -/
def stX (a b : St) (k s : Nat) : List Int := pX b.n.toNat (prN a b) k s
def stY (a b : St) (k s : Nat) : List Int := pY b.n.toNat (prN a b) k s
@[simp] theorem stX_len (a b : St) (k s : Nat) : (stX a b k s).length = k := by unfold stX; simp
@[simp] theorem stY_len (a b : St) (k s : Nat) : (stY a b k s).length = k := by unfold stY; simp
open Classical in
noncomputable def winAt (n : Nat) (a b : St) (k s : Nat) : Bool := decide (pW n a (stX a b k s) b (stY a b k s))
noncomputable def WL (n : Nat) (a b : St) (k : Nat) : List Bool := (List.range (prN a b ^ k)).map (winAt n a b k)
@[simp] theorem WL_len (n : Nat) (a b : St) (k : Nat) : (WL n a b k).length = prN a b ^ k := by simp [WL]
/-- whether each choice with a pebble has an answer, from a winning list -/
def Ans (W : Nat → Bool) (na nb rest step : Nat) : Prop := (∀ x : Nat, x < na → ∃ y : Nat, y < nb ∧ W (rest + step * (1 + x * nb + y)) = true) ∧ ∀ y : Nat, y < nb → ∃ x : Nat, x < na ∧ W (rest + step * (1 + x * nb + y)) = true
end Go.Wk
namespace Go.Wk
open Go.RowKit
structure Marks (f : Nat → Nat → Bool) (na nb x y : Nat) (R C : List Bool) : Prop where
  rl : R.length = na
  cl : C.length = nb
  rows : ∀ i : Nat, i < na → (R.getD i false = true ↔ ∃ j : Nat, j < nb ∧ (i < x ∨ i = x ∧ j < y) ∧ f i j = true)
  cols : ∀ j : Nat, j < nb → (C.getD j false = true ↔ ∃ i : Nat, i < na ∧ (i < x ∨ i = x ∧ j < y) ∧ f i j = true)
end Go.Wk
namespace Go.Wk
open Go.RowKit
end Go.Wk
namespace Go.Wk
end Go.Wk
namespace Go.Wk
open Go.RowKit
structure TurnAt (fit W : Nat → Bool) (a b : St) (k i S : Nat) (X : List Bool) : Prop where
  len : X.length = prN a b ^ k
  at_ : ∀ s : Nat, s < prN a b ^ k → (X.getD s false = true ↔ fit s = true ∧ (∀ j : Nat, j < i → Ans W a.n.toNat b.n.toNat (zer (prN a b) s j) (prN a b ^ j)) ∧ (zer (prN a b) s i < S → Ans W a.n.toNat b.n.toNat (zer (prN a b) s i) (prN a b ^ i)))
/-- places cleared -/
structure Cleared (X0 X : List Bool) (S step Q : Nat) : Prop where
  len : X.length = X0.length
  at_ : ∀ s : Nat, s < X0.length → (X.getD s false = true ↔ X0.getD s false = true ∧ ¬ ∃ q, q < Q ∧ s = S + step * q)
end Go.Wk
namespace Go.Wk
open Go.RowKit
end Go.Wk
namespace Go.Wk
open Go.RowKit
end Go.Wk
namespace Go.Wk
open Go.RowKit
def bes (k : Nat) : List Int := List.replicate k (-1)
@[simp] theorem bes_len (k : Nat) : (bes k).length = k := List.length_replicate
end Go.Wk
namespace Go.Wk
open Go.RowKit
/-- a pair that stands in two lists -/
def InBoth (as_ bs : List Int) (x y : Int) : Prop := ∃ j : Nat, j < as_.length ∧ x = as_.getD j 0 ∧ y = bs.getD j 0
theorem getD_snoc {l : List Int} {x : Int} {i : Nat} : (l ++ [x]).getD i 0 = if i < l.length then l.getD i 0 else if i = l.length then x else 0 := by
  rw [List.getD_eq_getElem?_getD]
  by_cases h : i < l.length
  · rw [if_pos h, List.getElem?_append_left h, ← List.getD_eq_getElem?_getD]
  · rw [if_neg h, List.getElem?_append_right (by omega)]
    by_cases e : i = l.length
    · rw [if_pos e, e, Nat.sub_self]; rfl
    · rw [if_neg e, List.getElem?_eq_none (by simp; omega)]; rfl
theorem InBoth.more {as_ bs : List Int} {x y u v : Int} (hl : as_.length = bs.length) (h : InBoth as_ bs x y) : InBoth (as_ ++ [u]) (bs ++ [v]) x y := by
  obtain ⟨j, hj, e1, e2⟩ := h
  exact ⟨j, by rw [List.length_append]; omega, by rw [getD_snoc, if_pos hj]; exact e1, by rw [getD_snoc, if_pos (by omega)]; exact e2⟩
end Go.Wk
namespace Go.Wk
open Go.RowKit
/-- values of free variables that stand beside each other in two lists -/
def OnVars (xs ys : List Int) (fr : Nat) (e e' : List Int) : Prop := ∀ i : Nat, i < 4 → fr.testBit i = true → InBoth xs ys (e.getD i 0) (e'.getD i 0)
theorem InBoth.left {as_ bs X Y : List Int} (hl : as_.length = bs.length) {x y : Int} (h : InBoth as_ bs x y) : InBoth (as_ ++ X) (bs ++ Y) x y := by
  obtain ⟨j, hj, e1, e2⟩ := h
  refine ⟨j, by rw [List.length_append]; omega, ?_, ?_⟩
  · rw [e1, List.getD_eq_getElem?_getD, List.getD_eq_getElem?_getD, List.getElem?_append_left hj]
  · rw [e2, List.getD_eq_getElem?_getD, List.getD_eq_getElem?_getD, List.getElem?_append_left (by omega)]
theorem OnVars.more {xs ys X Y : List Int} {fr : Nat} {e e' : List Int} (hl : xs.length = ys.length) (h : OnVars xs ys fr e e') : OnVars (xs ++ X) (ys ++ Y) fr e e' := fun i hi ht => (h i hi ht).left hl
end Go.Wk
namespace Go.Wk
open Go.RowKit
def joinN (op : List UInt8) (l : List (List UInt8)) : List UInt8 := preJ op l (l.length - 1) ++ l.getD (l.length - 1) []
theorem formB_len {a : St} {xs : List Int} (h : xs.length ≤ 4) : (formB a xs).length ≤ 4000 := by
  have hfl := factsL_length a xs xs.length h
  exact Nat.le_trans (joinB_len (by decide) (signed_le _)) (by simp; omega)
def apart (v : List UInt8) (turned : Bool) (l : List (List UInt8)) : List UInt8 := ((if turned then [33, 83] else [83]) ++ v) ++ joinN [38] (dedup l)
end Go.Wk
namespace Go.Wk
open Go.RowKit
def tlL (F : Nat → List UInt8) (k : Nat) : List (List UInt8) := (List.range k).map F
@[simp] theorem tlL_len (F : Nat → List UInt8) (k : Nat) : (tlL F k).length = k := by simp [tlL]
end Go.Wk
namespace Go.Wk
open Go.RowKit
theorem takeV_more {t : List UInt8} : ∀ {k : Nat} {s vs r : List UInt8}, takeV k s = some (vs, r) → takeV k (s ++ t) = some (vs, r ++ t)
  | 0, s, vs, r, h => by injection h with h; injection h with h1 h2; subst h1; subst h2; rfl
  | k + 1, [], vs, r, h => by cases h
  | k + 1, v :: s, vs, r, h => by
    unfold takeV at h
    split at h
    · rename_i hv
      split at h
      · rename_i us r' e
        injection h with h; injection h with h1 h2; subst h1; subst h2
        show (if isV v then (match takeV k (s ++ t) with | some (vs, r) => some (v :: vs, r) | none => none) else none) = _
        rw [if_pos hv, takeV_more e]
      · cases h
    · cases h
theorem parse_more {t : List UInt8} : ∀ (n : Nat) {s r : List UInt8} {p : Fm}, s.length ≤ n → parse s = some (p, r) → parse (s ++ t) = some (p, r ++ t)
  | 0, [], _, _, _, h => by cases h
  | 0, _ :: _, _, _, hn, _ => by simp at hn
  | _ + 1, [], _, _, _, h => by cases h
  | n + 1, c :: s, r, p, hn, h => by
    rw [List.cons_append]
    rw [parse_cons] at h ⊢
    simp only [List.length_cons] at hn
    split at h
    · rename_i hop
      rw [if_pos hop]
      split at h
      · cases h
      · rename_i vs r0 e
        obtain ⟨_, h2, _⟩ := takeV_len e
        rw [takeV_more e]
        dsimp only
        by_cases h0 : arP c = 0
        · rw [if_pos h0] at h ⊢
          injection h with h; injection h with h4 h; subst h; subst h4; rfl
        · rw [if_neg h0] at h ⊢
          by_cases h1 : arP c = 1
          · rw [if_pos h1] at h ⊢
            split at h
            · rename_i q r' e2
              injection h with h; injection h with h4 h; subst h; subst h4
              rw [parse_more n (by omega) e2]
            · cases h
          · rw [if_neg h1] at h ⊢
            split at h
            · rename_i q r' e2
              split at h
              · rename_i q2 r2 e3
                injection h with h; injection h with h4 h; subst h; subst h4
                have := parse_len e2
                rw [parse_more n (by omega) e2]
                dsimp only
                rw [parse_more n (by omega) e3]
              · cases h
            · cases h
    · cases h
/-- a text that is a formula -/
def Is (s : List UInt8) (p : Fm) : Prop := parse s = some (p, [])
theorem Is.more {s : List UInt8} {p : Fm} (h : Is s p) (t : List UInt8) : parse (s ++ t) = some (p, t) := by
  have := parse_more (t := t) _ (Nat.le_refl _) h
  rwa [List.nil_append] at this
theorem Is.wf {s : List UInt8} {p : Fm} (h : Is s p) : wfF p := parse_wf _ (Nat.le_refl _) h
theorem Is.formO {s : List UInt8} {p : Fm} (h : Is s p) (hl : s.length ≤ 4000) : formO s = some p := parse_formO hl h
theorem Is.same {s : List UInt8} {p q : Fm} (h : Is s p) (k : Is s q) : p = q := by
  have := h.symm.trans k
  injection this with this; injection this
theorem is_leaf {c : UInt8} {vs : List UInt8} (ho : isOp c = true) (h0 : arP c = 0) (ht : takeV (arV c) vs = some (vs, [])) : Is (c :: vs) (.leaf c vs) := by
  unfold Is; rw [parse_cons, if_pos ho, ht]; dsimp only; rw [if_pos h0]
theorem is_not {s : List UInt8} {p : Fm} (h : Is s p) : Is (33 :: s) (.one 33 [] p) := by
  unfold Is; rw [parse_cons, show isOp 33 = true from rfl, if_pos rfl, show takeV (arV 33) s = some ([], s) from rfl]
  dsimp only
  rw [if_neg (by decide), if_pos (by rfl), h]
theorem is_two {c : UInt8} {s t : List UInt8} {p q : Fm} (hc : c = 38 ∨ c = 124) (h : Is s p) (k : Is t q) : Is (c :: (s ++ t)) (.two c p q) := by
  have ha : arV c = 0 ∧ arP c = 2 ∧ isOp c = true := by rcases hc with e | e <;> rw [e] <;> exact ⟨rfl, rfl, rfl⟩
  unfold Is
  rw [parse_cons, if_pos ha.2.2, ha.1, show takeV 0 (s ++ t) = some ([], s ++ t) from rfl]
  dsimp only
  rw [if_neg (by omega), if_neg (by omega), h.more]
  dsimp only
  rw [k]
/-- a formula counts nothing -/
def plainB : Fm → Bool
  | .leaf _ _ => true
  | .one c _ p => !(decide (c = 50) || decide (c = 51) || decide (c = 52)) && plainB p
  | .two _ p q => plainB p && plainB q
/-- all that a text says: its rank, its free variables, all its variables, that it counts nothing, its truth -/
structure Tx (s : List UInt8) (lo hi k w : Nat) (φ : St → List Int → Prop) : Prop where
  ex : ∃ p, Is s p ∧ lo ≤ rankF p ∧ rankF p ≤ hi ∧ (∀ i : Nat, i < 4 → (frB p).testBit i = true → i < k) ∧ (∀ i : Nat, i < 4 → (allB p).testBit i = true → i < w) ∧ plainB p = true ∧ ∀ a e, e.length = 4 → (ev a p e = true ↔ φ a e)
theorem Tx.imp {s : List UInt8} {lo hi k w lo' hi' k' w' : Nat} {φ ψ : St → List Int → Prop} (h : Tx s lo hi k w φ) (h1 : lo' ≤ lo) (h2 : hi ≤ hi') (h3 : k ≤ k') (h4 : w ≤ w') (h5 : ∀ a e, e.length = 4 → (φ a e ↔ ψ a e)) : Tx s lo' hi' k' w' ψ := by
  obtain ⟨p, g0, g1, g2, g3, g4, g5, g6⟩ := h.ex
  exact ⟨p, g0, by omega, by omega, fun i hi ht => by have := g3 i hi ht; omega, fun i hi ht => by have := g4 i hi ht; omega, g5, fun a e he => (g6 a e he).trans (h5 a e he)⟩
theorem tx_not {s : List UInt8} {lo hi k w : Nat} {φ : St → List Int → Prop} (h : Tx s lo hi k w φ) : Tx (33 :: s) lo hi k w fun a e => ¬ φ a e := by
  obtain ⟨p, g0, g1, g2, g3, g4, g5, g6⟩ := h.ex
  refine ⟨_, is_not g0, g1, g2, g3, fun i hi ht => g4 i hi ?_, by show (!_ && plainB p) = true; rw [g5]; rfl, fun a e he => ?_⟩
  · have : (0 ||| allB p).testBit i = true := ht
    rwa [Nat.zero_or] at this
  · rw [← g6 a e he]
    show (!ev a p e) = true ↔ _
    cases ev a p e <;> simp
theorem tx_two {c : UInt8} {s t : List UInt8} {lo lo' hi k w : Nat} {φ ψ : St → List Int → Prop} (hc : c = 38 ∨ c = 124) (h : Tx s lo hi k w φ) (h' : Tx t lo' hi k w ψ) : Tx (c :: (s ++ t)) (max lo lo') hi k w fun a e => if c = 38 then φ a e ∧ ψ a e else φ a e ∨ ψ a e := by
  obtain ⟨p, g0, g1, g2, g3, g4, g5, g6⟩ := h.ex
  obtain ⟨q, f0, f1, f2, f3, f4, f5, f6⟩ := h'.ex
  have hr : rankF (.two c p q) = max (rankF p) (rankF q) := rfl
  refine ⟨_, is_two hc g0 f0, by omega, by omega, fun i hi ht => ?_, fun i hi ht => ?_, by show (plainB p && plainB q) = true; rw [g5, f5]; rfl, fun a e he => ?_⟩
  · have ht' : (frB p ||| frB q).testBit i = true := ht
    rw [Nat.testBit_or, Bool.or_eq_true] at ht'
    exact ht'.elim (g3 i hi) (f3 i hi)
  · have ht' : (allB p ||| allB q).testBit i = true := ht
    rw [Nat.testBit_or, Bool.or_eq_true] at ht'
    exact ht'.elim (g4 i hi) (f4 i hi)
  · show (if c = 38 then ev a p e && ev a q e else ev a p e || ev a q e) = true ↔ _
    rw [← g6 a e he, ← f6 a e he]
    split
    · rw [Bool.and_eq_true]
    · rw [Bool.or_eq_true]
theorem preJ_cons (op x : List UInt8) (l : List (List UInt8)) : ∀ k : Nat, preJ op (x :: l) (k + 1) = op ++ x ++ preJ op l k
  | 0 => by simp [preJ]
  | k + 1 => by
    rw [show preJ op (x :: l) (k + 1 + 1) = preJ op (x :: l) (k + 1) ++ (op ++ (x :: l).getD (k + 1) []) from rfl, preJ_cons op x l k]
    simp [preJ]
theorem joinN_one (op x : List UInt8) : joinN op [x] = x := by simp [joinN, preJ]
theorem joinN_cons (op x y : List UInt8) (l : List (List UInt8)) : joinN op (x :: y :: l) = op ++ x ++ joinN op (y :: l) := by
  unfold joinN
  have e : (x :: y :: l).length - 1 = ((y :: l).length - 1) + 1 := by simp
  rw [e, preJ_cons, List.getD_cons_succ, List.append_assoc]
theorem tx_join {α : Type} {g : α → List UInt8} {c : UInt8} (hc : c = 38 ∨ c = 124) {hi k w : Nat} {φ : α → St → List Int → Prop} : ∀ {l : List α} {lo : Nat}, l ≠ [] → (∀ s ∈ l, Tx (g s) 0 hi k w (φ s)) → (lo = 0 ∨ ∃ s ∈ l, Tx (g s) lo hi k w (φ s)) →
    Tx (joinN [c] (l.map g)) lo hi k w fun a e => if c = 38 then ∀ s ∈ l, φ s a e else ∃ s ∈ l, φ s a e
  | [], _, h, _, _ => absurd rfl h
  | [x], lo, _, h, hlo => by
    rw [List.map_singleton, joinN_one]
    have hx : Tx (g x) lo hi k w (φ x) := by
      rcases hlo with rfl | ⟨s, hs, h1⟩
      · exact h x (by simp)
      · rw [List.mem_singleton.1 hs] at h1; exact h1
    refine hx.imp (Nat.le_refl _) (Nat.le_refl _) (Nat.le_refl _) (Nat.le_refl _) fun a e _ => ?_
    split <;> simp
  | x :: y :: l, lo, _, h, hlo => by
    rw [List.map_cons, List.map_cons, joinN_cons, ← List.map_cons]
    have hre : ∀ s ∈ y :: l, Tx (g s) 0 hi k w (φ s) := fun s hs => h s (List.mem_cons_of_mem _ hs)
    have fin : ∀ {l1 l2 : Nat}, lo ≤ max l1 l2 → Tx (g x) l1 hi k w (φ x) → Tx (joinN [c] ((y :: l).map g)) l2 hi k w (fun a e => if c = 38 then ∀ s ∈ y :: l, φ s a e else ∃ s ∈ y :: l, φ s a e) → Tx (([c] ++ g x) ++ joinN [c] ((y :: l).map g)) lo hi k w fun a e => if c = 38 then ∀ s ∈ x :: y :: l, φ s a e else ∃ s ∈ x :: y :: l, φ s a e := fun hm h1 h2 => by
      refine (tx_two hc h1 h2).imp hm (Nat.le_refl _) (Nat.le_refl _) (Nat.le_refl _) fun a e _ => ?_
      by_cases e38 : c = 38
      · rw [if_pos e38, if_pos e38, if_pos e38]; exact ⟨fun h s hs => (List.mem_cons.1 hs).elim (fun q => q ▸ h.1) (h.2 s), fun h => ⟨h x (by simp), fun s hs => h s (List.mem_cons_of_mem _ hs)⟩⟩
      · rw [if_neg e38, if_neg e38, if_neg e38]
        constructor
        · rintro (h | ⟨s, hs, h⟩)
          · exact ⟨x, by simp, h⟩
          · exact ⟨s, List.mem_cons_of_mem _ hs, h⟩
        · rintro ⟨s, hs, hh⟩
          rcases List.mem_cons.1 hs with rfl | hs
          · exact .inl hh
          · exact .inr ⟨s, hs, hh⟩
    rcases hlo with rfl | ⟨s, hs, h1⟩
    · exact fin (Nat.zero_le _) (h x (by simp)) (tx_join hc (by simp) hre (.inl rfl))
    · rcases List.mem_cons.1 hs with rfl | hs
      · exact fin (Nat.le_max_left _ _) h1 (tx_join hc (by simp) hre (.inl rfl))
      · exact fin (Nat.le_max_right _ _) (h x (by simp)) (tx_join hc (by simp) hre (.inr ⟨s, hs, h1⟩))
end Go.Wk
namespace Go.Wk
open Go.RowKit
/-- an atom of the first variables -/
inductive At where
  | P (i : Nat)
  | E (i j : Nat)
  | Q (i j : Nat)
def At.txt : At → List UInt8
  | .P i => [80] ++ nameS i
  | .E i j => [69] ++ nameS i ++ nameS j
  | .Q i j => [61] ++ nameS i ++ nameS j
def At.val (a : St) (xs : List Int) : At → Bool
  | .P i => a.inSet (xs.getD i 0)
  | .E i j => a.inRel (xs.getD i 0) (xs.getD j 0)
  | .Q i j => decide (xs.getD i 0 = xs.getD j 0)
def At.lt (n : Nat) : At → Prop
  | .P i => i < n
  | .E i j => i < n ∧ j < n
  | .Q i j => i < n ∧ j < n
def moreA (i : Nat) : Nat → List At
  | 0 => []
  | k + 1 => moreA i k ++ [.Q k i, .E k i, .E i k]
def factA (i : Nat) : List At := [.P i, .E i i] ++ moreA i i
def factsA : Nat → List At
  | 0 => []
  | i + 1 => factsA i ++ factA i
def atF (a : St) (xs : List Int) (t : At) : List UInt8 × Bool := (t.txt, t.val a xs)
theorem moreA_is (a : St) (xs : List Int) (i : Nat) : ∀ k : Nat, moreL a xs i k = (moreA i k).map (atF a xs)
  | 0 => rfl
  | k + 1 => by rw [moreL, moreA, List.map_append, moreA_is a xs i k]; rfl
theorem factA_is (a : St) (xs : List Int) (i : Nat) : factL a xs i = (factA i).map (atF a xs) := by
  unfold factL factA; rw [List.map_append, moreA_is]; rfl
theorem factsA_is (a : St) (xs : List Int) : ∀ i : Nat, factsL a xs i = (factsA i).map (atF a xs)
  | 0 => rfl
  | i + 1 => by rw [factsL, factsA, List.map_append, factsA_is a xs i, factA_is]
theorem At.lt_mono {n m : Nat} (h : n ≤ m) : ∀ {t : At}, t.lt n → t.lt m
  | .P _, k => Nat.lt_of_lt_of_le k h
  | .E _ _, k => ⟨Nat.lt_of_lt_of_le k.1 h, Nat.lt_of_lt_of_le k.2 h⟩
  | .Q _ _, k => ⟨Nat.lt_of_lt_of_le k.1 h, Nat.lt_of_lt_of_le k.2 h⟩
theorem moreA_lt (i : Nat) : ∀ k : Nat, k ≤ i → ∀ t ∈ moreA i k, t.lt (i + 1)
  | 0, _, t, h => by cases h
  | k + 1, hk, t, h => by
    rcases List.mem_append.1 h with h | h
    · exact moreA_lt i k (by omega) t h
    · simp only [List.mem_cons, List.not_mem_nil, or_false] at h
      rcases h with rfl | rfl | rfl
      · show k < i + 1 ∧ i < i + 1; omega
      · show k < i + 1 ∧ i < i + 1; omega
      · show i < i + 1 ∧ k < i + 1; omega
theorem factsA_lt : ∀ n : Nat, ∀ t ∈ factsA n, t.lt n
  | 0, t, h => by cases h
  | n + 1, t, h => by
    rcases List.mem_append.1 h with h | h
    · exact At.lt_mono (Nat.le_succ n) (factsA_lt n t h)
    · rcases List.mem_append.1 h with h | h
      · simp only [List.mem_cons, List.not_mem_nil, or_false] at h
        rcases h with rfl | rfl
        · show n < n + 1; omega
        · show n < n + 1 ∧ n < n + 1; omega
      · exact moreA_lt n n (Nat.le_refl _) t h
theorem nameS_at {i : Nat} (h : i < 4) : nameS i = [UInt8.ofNat (97 + i)] ∧ isV (UInt8.ofNat (97 + i)) = true ∧ vI (UInt8.ofNat (97 + i)) = i := by
  rcases (by omega : i = 0 ∨ i = 1 ∨ i = 2 ∨ i = 3) with e | e | e | e <;> subst e <;> exact ⟨rfl, rfl, rfl⟩
theorem takeV_12 {v u : UInt8} (hv : isV v = true) (hu : isV u = true) : takeV 1 [v] = some ([v], []) ∧ takeV 2 [v, u] = some ([v, u], []) := by
  have h1 : ∀ {z : UInt8}, isV z = true → takeV 1 [z] = some ([z], []) := fun hz => by unfold takeV; rw [if_pos hz]; rfl
  refine ⟨h1 hv, ?_⟩
  show (if isV v then (match takeV 1 [u] with | some (vs, r) => some (v :: vs, r) | none => none) else none) = _
  rw [if_pos hv, h1 hu]
theorem leaf_tx {c : UInt8} {vs : List UInt8} {n : Nat} {φ : St → List Int → Prop} (ho : isOp c = true) (h0 : arP c = 0) (ht : takeV (arV c) vs = some (vs, [])) (hn : ∀ v ∈ vs, vI v < n) (hφ : ∀ a e, ev a (.leaf c vs) e = true ↔ φ a e) : Tx (c :: vs) 0 0 n n φ := by
  have key : ∀ i : Nat, (vBits vs).testBit i = true → i < n := fun i h => by
    obtain ⟨v, hv, e⟩ := (vBits_test vs i).1 h
    rw [← e]; exact hn v hv
  exact ⟨_, is_leaf ho h0 ht, Nat.le_refl _, Nat.le_refl _, fun i _ h => key i h, fun i _ h => key i h, rfl, fun a e _ => hφ a e⟩
theorem at_tx : ∀ {t : At} {n : Nat}, t.lt n → n ≤ 4 → Tx t.txt 0 0 n n fun a e => t.val a e = true
  | .P i, n, h, h4 => by
    have hi : i < n := h
    obtain ⟨e1, e2, e3⟩ := nameS_at (show i < 4 by omega)
    rw [show At.txt (.P i) = [80] ++ nameS i from rfl, e1]
    refine leaf_tx rfl rfl (takeV_12 e2 e2).1 (fun v hv => by rw [List.mem_singleton.1 hv, e3]; exact hi) fun a e => ?_
    show a.inSet (atV e (UInt8.ofNat (97 + i))) = true ↔ _
    unfold atV; rw [e3]; exact Iff.rfl
  | .E i j, n, h, h4 => by
    have hi : i < n := h.1
    have hj : j < n := h.2
    obtain ⟨e1, e2, e3⟩ := nameS_at (show i < 4 by omega)
    obtain ⟨f1, f2, f3⟩ := nameS_at (show j < 4 by omega)
    rw [show At.txt (.E i j) = [69] ++ nameS i ++ nameS j from rfl, e1, f1]
    refine leaf_tx rfl rfl (takeV_12 e2 f2).2 (fun v hv => by rcases List.mem_cons.1 hv with rfl | hv; · rw [e3]; exact hi
                                                              · rw [List.mem_singleton.1 hv, f3]; exact hj) fun a e => ?_
    show a.inRel (atV e (UInt8.ofNat (97 + i))) (atV e (UInt8.ofNat (97 + j))) = true ↔ _
    unfold atV; rw [e3, f3]; exact Iff.rfl
  | .Q i j, n, h, h4 => by
    have hi : i < n := h.1
    have hj : j < n := h.2
    obtain ⟨e1, e2, e3⟩ := nameS_at (show i < 4 by omega)
    obtain ⟨f1, f2, f3⟩ := nameS_at (show j < 4 by omega)
    rw [show At.txt (.Q i j) = [61] ++ nameS i ++ nameS j from rfl, e1, f1]
    refine leaf_tx rfl rfl (takeV_12 e2 f2).2 (fun v hv => by rcases List.mem_cons.1 hv with rfl | hv; · rw [e3]; exact hi
                                                              · rw [List.mem_singleton.1 hv, f3]; exact hj) fun a e => ?_
    show decide (atV e (UInt8.ofNat (97 + i)) = atV e (UInt8.ofNat (97 + j))) = true ↔ _
    unfold atV; rw [e3, f3]; exact Iff.rfl
theorem sign_tx {t : At} {n : Nat} (h : t.lt n) (h4 : n ≤ 4) (b : Bool) : Tx (signS b t.txt) 0 0 n n fun a e => t.val a e = b := by
  cases b with
  | true => exact at_tx h h4
  | false => exact (tx_not (at_tx h h4)).imp (Nat.le_refl _) (Nat.le_refl _) (Nat.le_refl _) (Nat.le_refl _) fun a e _ => by simp
theorem At.same {a : St} {e xs : List Int} {n : Nat} (h : ∀ j : Nat, j < n → e.getD j 0 = xs.getD j 0) : ∀ {t : At}, t.lt n → t.val a e = t.val a xs
  | .P i, k => by have hk : i < n := k; show a.inSet _ = a.inSet _; rw [h i hk]
  | .E i j, k => by show a.inRel _ _ = a.inRel _ _; rw [h i k.1, h j k.2]
  | .Q i j, k => by show decide (_ = _) = decide (_ = _); rw [h i k.1, h j k.2]
/-- the facts of a list, as a formula -/
theorem form_tx {a : St} {xs : List Int} (h4 : xs.length ≤ 4) : Tx (formB a xs) 0 0 xs.length xs.length fun b e => ∀ t ∈ factsA xs.length, t.val b e = t.val a xs := by
  unfold formB joinB
  rw [factsA_is, List.map_map]
  cases hf : factsA xs.length with
  | nil =>
    rw [if_pos (by rfl)]
    exact (leaf_tx (c := 116) (vs := []) (n := xs.length) (φ := fun _ _ => True) rfl rfl rfl (fun v hv => by cases hv) fun a e => ⟨fun _ => trivial, fun _ => rfl⟩).imp (Nat.le_refl _) (Nat.le_refl _) (Nat.le_refl _) (Nat.le_refl _) fun b e _ => by simp
  | cons t0 l =>
    rw [if_neg (by simp), ← hf]
    refine (tx_join (c := 38) (.inl rfl) (g := signed ∘ atF a xs) (φ := fun t b e => t.val b e = t.val a xs) (lo := 0) (by rw [hf]; simp) (fun t ht => sign_tx (factsA_lt _ t ht) h4 _) (.inl rfl)).imp (Nat.le_refl _) (Nat.le_refl _) (Nat.le_refl _) (Nat.le_refl _) fun b e _ => ?_
    rw [if_pos rfl]
theorem facts_same {a b : St} {xs ys : List Int} (hl : xs.length = ys.length) : (∀ t ∈ factsA xs.length, t.val b ys = t.val a xs) ↔ sameB a xs b ys = true := by
  have h := facts_iff (a := a) (b := b) hl xs.length (Nat.le_refl _)
  rw [factsA_is, factsA_is, List.map_map, List.map_map] at h
  have e : sameB a xs b ys = true ↔ ∀ i : Nat, i < xs.length → stillAt a xs b ys i = true := by
    unfold sameB; rw [List.all_eq_true]
    exact ⟨fun h i hi => h i (List.mem_range.2 hi), fun h i hi => h i (List.mem_range.1 hi)⟩
  rw [e, ← h, List.map_inj_left]
  exact ⟨fun k t ht => (k t ht).symm, fun k t ht => (k t ht).symm⟩
theorem take_at {e : List Int} {n j : Nat} (h : j < n) : (e.take n).getD j 0 = e.getD j 0 := by
  rw [List.getD_eq_getElem?_getD, List.getElem?_take_of_lt h, ← List.getD_eq_getElem?_getD]
theorem facts_env {a b : St} {xs e : List Int} (h4 : xs.length ≤ 4) (he : e.length = 4) : (∀ t ∈ factsA xs.length, t.val b e = t.val a xs) ↔ sameB a xs b (e.take xs.length) = true := by
  rw [← facts_same (by rw [List.length_take]; omega)]
  have key : ∀ t ∈ factsA xs.length, t.val b (e.take xs.length) = t.val b e := fun t ht => At.same (fun j hj => take_at hj) (factsA_lt _ t ht)
  exact ⟨fun h t ht => by rw [key t ht]; exact h t ht, fun h t ht => by rw [← key t ht]; exact h t ht⟩
theorem form_same {a : St} {xs : List Int} (h4 : xs.length ≤ 4) : Tx (formB a xs) 0 0 xs.length xs.length fun b e => sameB a xs b (e.take xs.length) = true :=
  (form_tx h4).imp (Nat.le_refl _) (Nat.le_refl _) (Nat.le_refl _) (Nat.le_refl _) fun _ _ he => facts_env h4 he
/-- where a text is true -/
def TrueIn (s : List UInt8) (a : St) (e : List Int) : Prop := ∃ p, Is s p ∧ ev a p e = true
theorem Tx.self {s : List UInt8} {lo hi k w : Nat} {φ : St → List Int → Prop} (h : Tx s lo hi k w φ) : Tx s lo hi k w (TrueIn s) := by
  obtain ⟨p, g0, g1, g2, g3, g4, g5, g6⟩ := h.ex
  exact ⟨p, g0, g1, g2, g3, g4, g5, fun a e _ => ⟨fun h => ⟨p, g0, h⟩, fun ⟨q, h1, h2⟩ => by rw [g0.same h1]; exact h2⟩⟩
theorem Tx.at {s : List UInt8} {lo hi k w : Nat} {φ : St → List Int → Prop} (h : Tx s lo hi k w φ) {a : St} {e : List Int} (he : e.length = 4) : TrueIn s a e ↔ φ a e := by
  obtain ⟨p, g0, g1, g2, g3, g4, g5, g6⟩ := h.ex
  exact ⟨fun ⟨q, h1, h2⟩ => (g6 a e he).1 (by rw [g0.same h1]; exact h2), fun h => ⟨p, g0, (g6 a e he).2 h⟩⟩
def Tells2 (s : List UInt8) (r n : Nat) (a : St) (xs : List Int) (b : St) (ys : List Int) : Prop :=
  Tx s 0 r n (n + r) (TrueIn s) ∧ (∀ e : List Int, e.length = 4 → e.take n = xs → TrueIn s a e) ∧ ∀ e : List Int, e.length = 4 → e.take n = ys → ¬ TrueIn s b e
theorem Tells2.not {s : List UInt8} {r n : Nat} {a b : St} {xs ys : List Int} (h : Tells2 s r n a xs b ys) : Tells2 (33 :: s) r n b ys a xs := by
  have hq := tx_not h.1
  exact ⟨hq.self, fun e he hy => (hq.at he).2 (h.2.2 e he hy), fun e he hx h1 => (hq.at he).1 h1 (h.2.1 e he hx)⟩
end Go.Wk
namespace Go.Wk
open Go.RowKit
section
variable {P : Program} {n : Nat} {B : Nat} {w0 : World} {N R : Act → World → Prop} {X : List (Nat × (Act → World → Prop))} {e : Env} {ops : Array Oper} {l : List Oper} {o : Oper}
end
section
variable {P : Program} {n : Nat} {C : World → Prop} {e : Env} {o : Oper}
theorem OpQ.eqNilP {t t' q : TypeId} {x y : Operand} {p : Option Addr} (h : o.op = .binOp .eql t x y t') (hu : P.underlying t = some (.pointer q)) (hx : opd e x = some (.pointer p)) (hy : opd e y = some (.pointer none)) : OpQ P n C e o (.bool p.isNone) := OpQ.val fun A hf w => by
  have hu' : P.underlying t = some (.pointer (P.pointee t)) := by simp [Program.pointee, hu]
  unfold execOp; rw [h]; simp only [hf.opd hx, hf.opd hy]
  rw [show eqGuard .eql t x y (Value.pointer p) (Value.pointer none) = pure () from rfl]
  simp only [Sem.run_bind, run_eql_pointer_nil w t p hu', Sem.run_pure, Result.andThen]
end
end Go.Wk
namespace Go.Wk
abbrev xH := @OpQ.eqNilP
end Go.Wk
namespace Go.Wk
open Go.RowKit
section
variable {P : Program} {n : Nat} {C : World → Prop} {N R : Act → World → Prop} {X : List (Nat × (Act → World → Prop))} {e : Env}
/-- some rounds more -/
def Rn (P : Program) (c : Code) (N R : Act → World → Prop) (X : List (Nat × (Act → World → Prop))) (k : Nat) : Act → World → Prop := fun a w => Code.rounds P c (post N R X) k a w
theorem then_post {Nn N R : Act → World → Prop} {X : List (Nat × (Act → World → Prop))} : ∀ (x : Exit) (a : Act) (w : World), post Nn R X x a w → Exit.then Nn (post N R X) x a w := fun x a w hh => by
  cases x <;> first | exact hh | exact hh.elim
theorem Wk.unroll {c : Code} (k : Nat) (h : Wk P n C c (Rn P c N R X k) R X e) : Wk P n C (.loop c) N R X e := by
  unfold Wk at h ⊢; intro a w hf hc
  exact wp_loop_rounds (k + 1) (by rw [rounds_succ]; exact Code.wp_mono then_post (h a w hf hc))
theorem Kt.round {c : Code} {k : Nat} {e' : Env} (hs : Sub e' e) (h : Wk P n C c (Rn P c N R X k) R X e') : Kt n C e (Rn P c N R X (k + 1)) := by
  unfold Wk at h; unfold Kt; intro a w hf hc; unfold Rn; rw [rounds_succ]; exact Code.wp_mono then_post (h a w (hf.sub hs) hc)
theorem Own.trans {B : Nat} {w0 w1 w : World} {hs : List (Nat × Obj)} (h : Own B w0 hs w1) (k : Below w1.heap.size w1 w) : Own B w0 hs w := h.calls k
end
section
variable {P : Program} {n : Nat} {B : Nat} {w0 : World} {hs : List (Nat × Obj)} {N R : Act → World → Prop} {X : List (Nat × (Act → World → Prop))} {e : Env} {ops : Array Oper} {l : List Oper} {o : Oper}
theorem new_one {i p : Nat} {V : Value} {T : TypeId} (hi : hs[i]? = some (p, .cells #[V] T (0, 0))) : ∀ w, Own B w0 hs w → ∀ ad, some (⟨p, 0, none⟩ : Addr) = some ad → ∀ j u, ([V])[j]? = some u → w.cell? (ad.add j) = some u := fun w1 hw1 ad had j u hj => by
  injection had with had; subst had
  rw [Addr.add_lit, Nat.zero_add, hw1.cell (i := i) hi]
  simpa using hj
theorem Ll.appendN1 {t el d p : Nat} {T : TypeId} {x y : Operand} {V : Value} (E : Elem P t el 1) (i : Nat) (hd : Nat.blt d n = true) (hdst : o.dst = some d) (hg : wantE ops e o.guard = some true)
    (h : o.op = .call ⟨.builtin .append, #[x, y], #[t, t]⟩) (hx : opd e x = some (.slice none 0 0)) (hy : opd e y = some (.slice (some ⟨p, 0, none⟩) 1 1)) (hi : hs[i]? = some (p, .cells #[V] T (0, 0)))
    (k : ∀ g' c' u', B ≤ g' → u'.size = c' * 1 → 1 ≤ c' → u'.toList.take 1 = [V] → Ll P n (Own B w0 ((g', .cells u' el (0, 0)) :: hs)) ops l ((d, .slice (some ⟨g', 0, none⟩) 1 c') :: e) N R X) : Ll P n (Own B w0 hs) ops (o :: l) e N R X :=
  Ll.appendNil E [V] hd hdst hg h hx hy (by decide) (by simp) rfl (new_one hi) (by decide) fun g' c' u' h1 h2 h3 h4 => k g' c' u' h1 h2 h3 h4
theorem Ll.append1 {t el d p g m cap : Nat} {cur : Array Value} {vs : List Value} {T : TypeId} {x y : Operand} {V : Value} (E : Elem P t el 1) (j i : Nat) (hd : Nat.blt d n = true) (hdst : o.dst = some d) (hg : wantE ops e o.guard = some true)
    (h : o.op = .call ⟨.builtin .append, #[x, y], #[t, t]⟩) (hx : opd e x = some (.slice (some ⟨g, 0, none⟩) m cap)) (hy : opd e y = some (.slice (some ⟨p, 0, none⟩) 1 1)) (hj : hs[j]? = some (g, .cells cur el (0, 0))) (hc : cur.size = cap * 1) (hl : m ≤ cap) (ht : cur.toList.take m = vs) (hi : hs[i]? = some (p, .cells #[V] T (0, 0))) (hV : V.oneCell' = true) (hb : m ≤ 1000000)
    (k : ∀ g' c' u', B ≤ g' → u'.size = c' * 1 → m + 1 ≤ c' → u'.toList.take (m + 1) = vs ++ [V] → Ll P n (Own B w0 (hs.set j (g', .cells u' el (0, 0)))) ops l ((d, .slice (some ⟨g', 0, none⟩) (m + 1) c') :: e) N R X) : Ll P n (Own B w0 hs) ops (o :: l) e N R X :=
  Ll.append E j [V] hd hdst hg h hx hy hj hc hl rfl (fun h => by cases h) (new_one hi) (by simpa using hV) (by omega) fun g' c' u' h1 h2 h3 h4 => k g' c' u' h1 h2 h3 (by rw [← ht]; simpa using h4)
end
theorem u8_beq (b c : UInt8) : (b == c) = decide (b.toNat = c.toNat) := by
  rw [Bool.eq_iff_iff, beq_iff_eq, decide_eq_true_eq]
  exact ⟨fun e => by rw [e], fun e => UInt8.toNat.inj e⟩
theorem idx_abcd (c : UInt8) : decide ((0 : Int) ≤ Lib.indexByte [97, 98, 99, 100] c) = isV c := by
  unfold isV
  have e : ∀ k : UInt8, (k == c) = decide (k.toNat = c.toNat) := fun k => u8_beq k c
  simp only [Lib.indexByte, e]
  have h1 : (97 : UInt8).toNat = 97 := rfl
  have h2 : (98 : UInt8).toNat = 98 := rfl
  have h3 : (99 : UInt8).toNat = 99 := rfl
  have h4 : (100 : UInt8).toNat = 100 := rfl
  rw [h1, h2, h3, h4, Bool.eq_iff_iff]
  simp only [decide_eq_true_eq, Bool.and_eq_true]
  by_cases c1 : 97 = c.toNat
  · simp [← c1]
  · by_cases c2 : 98 = c.toNat
    · simp [← c2]
    · by_cases c3 : 99 = c.toNat
      · simp [← c3]
      · by_cases c4 : 100 = c.toNat
        · simp [← c4]
        · simp [c1, c2, c3, c4]; omega
theorem idx_quant (c : UInt8) : decide ((0 : Int) ≤ Lib.indexByte [65, 83, 50, 51, 52] c) = decide (quI (c.toNat : Int)) := by
  rw [decide_eq_decide]
  unfold quI
  have e : ∀ k : UInt8, (k == c) = decide (k.toNat = c.toNat) := fun k => u8_beq k c
  simp only [Lib.indexByte, e]
  have h1 : (65 : UInt8).toNat = 65 := rfl
  have h2 : (83 : UInt8).toNat = 83 := rfl
  have h3 : (50 : UInt8).toNat = 50 := rfl
  have h4 : (51 : UInt8).toNat = 51 := rfl
  have h5 : (52 : UInt8).toNat = 52 := rfl
  rw [h1, h2, h3, h4, h5]
  simp only [decide_eq_true_eq]
  by_cases c1 : 65 = c.toNat
  · simp [← c1]
  · by_cases c2 : 83 = c.toNat
    · simp [← c2]
    · by_cases c3 : 50 = c.toNat
      · simp [← c3]
      · by_cases c4 : 51 = c.toNat
        · simp [← c4]
        · by_cases c5 : 52 = c.toNat
          · simp [← c5]
          · exact ⟨fun h => absurd h (by simp [c1, c2, c3, c4, c5]), fun h => by exfalso; rcases h with h | h | h | h | h <;> omega⟩
theorem idx_cnt (c : UInt8) : decide ((0 : Int) ≤ Lib.indexByte [50, 51, 52] c) = decide ((c.toNat : Int) = 50 ∨ (c.toNat : Int) = 51 ∨ (c.toNat : Int) = 52) := by
  have e : ∀ k : UInt8, (k == c) = decide (k.toNat = c.toNat) := fun k => u8_beq k c
  simp only [Lib.indexByte, e]
  have h3 : (50 : UInt8).toNat = 50 := rfl
  have h4 : (51 : UInt8).toNat = 51 := rfl
  have h5 : (52 : UInt8).toNat = 52 := rfl
  rw [h3, h4, h5, Bool.eq_iff_iff]
  simp only [decide_eq_true_eq]
  by_cases c3 : 50 = c.toNat
  · simp [← c3]
  · by_cases c4 : 51 = c.toNat
    · simp [← c4]
    · by_cases c5 : 52 = c.toNat
      · simp [← c5]
      · simp [c3, c4, c5]; omega
theorem first_of {s : List UInt8} (h : s ≠ []) : 0 < s.length ∧ s = s.getD 0 0 :: s.drop 1 := by
  cases s with
  | nil => exact absurd rfl h
  | cons c s => exact ⟨by simp, rfl⟩
theorem pp_by {s : List UInt8} (h : s ≠ []) : parse s = if isOp (s.getD 0 0) then
      match takeV (arV (s.getD 0 0)) (s.drop 1) with
      | none => none
      | some (vs, r) =>
        if arP (s.getD 0 0) = 0 then some (.leaf (s.getD 0 0) vs, r)
        else if arP (s.getD 0 0) = 1 then (match parse r with | some (p, r') => some (.one (s.getD 0 0) vs p, r') | none => none)
        else (match parse r with
          | some (p, r') => (match parse r' with | some (q, r2) => some (.two (s.getD 0 0) p q, r2) | none => none)
          | none => none)
    else none := by
  have := parse_cons (s.getD 0 0) (s.drop 1)
  rw [← (first_of h).2] at this
  exact this
def okV (s : List UInt8) (k : Nat) : Prop := ¬ s.drop k = [] ∧ isV (s.getD k 0) = true
theorem okV_iff {s : List UInt8} {k : Nat} : ¬ varI s (k : Int) < 0 ↔ okV s k := by
  rw [varI_neg, Classical.not_not, Int.toNat_natCast]
  unfold okV
  have h : ¬ s.drop k = [] ↔ k < s.length := by rw [List.drop_eq_nil_iff]; omega
  rw [h]
  exact ⟨fun e => ⟨by omega, e.2.2⟩, fun e => ⟨by omega, by omega, e.2⟩⟩
theorem pp0 {s : List UInt8} (h : s ≠ []) (hc : s.getD 0 0 = 116 ∨ s.getD 0 0 = 102) : parse s = some (.leaf (s.getD 0 0) [], s.drop 1) := by
  rw [pp_by h]; rcases hc with e | e <;> rw [e] <;> rfl
theorem pp1 {s : List UInt8} (h : s ≠ []) (hc : s.getD 0 0 = 80) : (okV s 1 → parse s = some (.leaf 80 [s.getD 1 0], s.drop 2)) ∧ (¬ okV s 1 → parse s = none) := by
  rw [pp_by h, hc, show arV 80 = 1 from rfl, takeV_one]
  refine ⟨fun hv => ?_, fun hv => ?_⟩
  · rw [if_neg (show ¬ varI s ((1 : Nat) : Int) < 0 from okV_iff.2 hv)]; rfl
  · rw [if_pos (show varI s ((1 : Nat) : Int) < 0 from Classical.byContradiction fun e => hv (okV_iff.1 e))]; rfl
theorem pp2 {s : List UInt8} (h : s ≠ []) (hc : s.getD 0 0 = 61 ∨ s.getD 0 0 = 69) : (okV s 1 → okV s 2 → parse s = some (.leaf (s.getD 0 0) [s.getD 1 0, s.getD 2 0], s.drop 3)) ∧ (¬ okV s 1 ∨ ¬ okV s 2 → parse s = none) := by
  have ha : arV (s.getD 0 0) = 2 ∧ arP (s.getD 0 0) = 0 ∧ isOp (s.getD 0 0) = true := by rcases hc with e | e <;> rw [e] <;> exact ⟨rfl, rfl, rfl⟩
  rw [pp_by h, if_pos ha.2.2, ha.1, takeV_two]
  refine ⟨fun h1 h2 => ?_, fun hv => ?_⟩
  · rw [if_neg (fun e => e.elim (fun e => okV_iff.2 h1 e) (fun e => okV_iff.2 h2 e))]
    dsimp only
    rw [if_pos ha.2.1]
  · rw [if_pos]
    rcases hv with e | e
    · exact .inl (Classical.byContradiction fun z => e (okV_iff.1 z))
    · exact .inr (Classical.byContradiction fun z => e (okV_iff.1 z))
theorem pp3 {s : List UInt8} (h : s ≠ []) (hc : s.getD 0 0 = 33) : (∀ q r, parse (s.drop 1) = some (q, r) → parse s = some (.one 33 [] q, r)) ∧ (parse (s.drop 1) = none → parse s = none) := by
  rw [pp_by h, hc]
  exact ⟨fun q r e => by rw [show takeV (arV 33) (s.drop 1) = some ([], s.drop 1) from rfl]; dsimp only; rw [e]; rfl, fun e => by rw [show takeV (arV 33) (s.drop 1) = some ([], s.drop 1) from rfl]; dsimp only; rw [e]; rfl⟩
theorem pp4 {s : List UInt8} (h : s ≠ []) (hc : s.getD 0 0 = 38 ∨ s.getD 0 0 = 124) : (∀ q r q2 r2, parse (s.drop 1) = some (q, r) → parse r = some (q2, r2) → parse s = some (.two (s.getD 0 0) q q2, r2)) ∧ (parse (s.drop 1) = none → parse s = none) ∧ (∀ q r, parse (s.drop 1) = some (q, r) → parse r = none → parse s = none) := by
  have ha : arV (s.getD 0 0) = 0 ∧ arP (s.getD 0 0) = 2 ∧ isOp (s.getD 0 0) = true := by rcases hc with e | e <;> rw [e] <;> exact ⟨rfl, rfl, rfl⟩
  have ht : takeV (arV (s.getD 0 0)) (s.drop 1) = some ([], s.drop 1) := by rw [ha.1]; rfl
  rw [pp_by h, if_pos ha.2.2, ht]
  dsimp only
  rw [if_neg (by omega), if_neg (by omega)]
  exact ⟨fun q r q2 r2 e1 e2 => by rw [e1]; dsimp only; rw [e2], fun e => by rw [e], fun q r e1 e2 => by rw [e1]; dsimp only; rw [e2]⟩
theorem pp5 {s : List UInt8} (h : s ≠ []) (hc : quI ((s.getD 0 0).toNat : Int)) : (∀ q r, okV s 1 → parse (s.drop 2) = some (q, r) → parse s = some (.one (s.getD 0 0) [s.getD 1 0] q, r)) ∧ (¬ okV s 1 → parse s = none) ∧ (parse (s.drop 2) = none → parse s = none) := by
  have ha : arV (s.getD 0 0) = 1 ∧ arP (s.getD 0 0) = 1 ∧ isOp (s.getD 0 0) = true := by rcases quI_of hc with e | e | e | e | e <;> rw [e] <;> exact ⟨rfl, rfl, rfl⟩
  rw [pp_by h, if_pos ha.2.2, ha.1, takeV_one]
  refine ⟨fun q r hv e => ?_, fun hv => ?_, fun e => ?_⟩
  · rw [if_neg (show ¬ varI s ((1 : Nat) : Int) < 0 from okV_iff.2 hv)]
    dsimp only
    rw [if_neg (by omega), if_pos ha.2.1, e]
  · rw [if_pos (show varI s ((1 : Nat) : Int) < 0 from Classical.byContradiction fun e => hv (okV_iff.1 e))]
  · split
    · rfl
    · rename_i vs r hh
      split at hh
      · cases hh
      · injection hh with hh; injection hh with _ hh; subst hh
        rw [if_neg (by omega), if_pos ha.2.1, e]
theorem ppX {s : List UInt8} (h : s ≠ []) (hc : isOp (s.getD 0 0) = false) : parse s = none := by
  rw [pp_by h, hc]; rfl
theorem isOp_no {c : UInt8} (h1 : ¬ (c.toNat : Int) = 116) (h2 : ¬ (c.toNat : Int) = 102) (h3 : ¬ (c.toNat : Int) = 80) (h4 : ¬ (c.toNat : Int) = 61) (h5 : ¬ (c.toNat : Int) = 69) (h6 : ¬ (c.toNat : Int) = 33) (h7 : ¬ (c.toNat : Int) = 38) (h8 : ¬ (c.toNat : Int) = 124) (h9 : ¬ quI (c.toNat : Int)) : isOp c = false := by
  cases e : isOp c with
  | false => rfl
  | true =>
    unfold quI at h9
    unfold isOp at e
    rw [decide_eq_true_eq] at e
    simp only [List.mem_cons, List.not_mem_nil, or_false] at e
    rcases e with e | e | e | e | e | e | e | e | e | e | e | e | e <;> rw [e] at h1 h2 h3 h4 h5 h6 h7 h8 h9 <;> simp at h1 h2 h3 h4 h5 h6 h7 h8 h9
theorem getD_drop {s : List UInt8} {k : Nat} : (s.drop k).getD 0 0 = s.getD k 0 := by
  rw [List.getD_eq_getElem?_getD, List.getElem?_drop, Nat.add_zero, ← List.getD_eq_getElem?_getD]
theorem take_drop1 {s : List UInt8} {k : Nat} (h : ¬ s.drop k = []) : (s.drop k).take 1 = [s.getD k 0] := by
  have h2 := (first_of h).2
  rw [getD_drop] at h2
  rw [h2]; rfl
theorem two_of {c : UInt8} {m n : Nat} (hm : m < 256) (hn : n < 256) (h : (c.toNat : Int) = (m : Int) ∨ (c.toNat : Int) = (n : Int)) : c = UInt8.ofNat m ∨ c = UInt8.ofNat n :=
  h.elim (fun e => .inl (u8_of hm e)) (fun e => .inr (u8_of hn e))
end Go.Wk
namespace Go.Wk
abbrev xD := @Ll.appendN1
abbrev xE := @Wk.unroll
end Go.Wk
namespace Go.Wk
open Go.RowKit
theorem or_lt16 {a b : Nat} (ha : a < 16) (hb : b < 16) : a ||| b < 16 := Nat.or_lt_two_pow (n := 4) ha hb
def ptrV (p : Nat) : Value := .pointer (some ⟨p, 0, none⟩)
def u8V (v : UInt8) : Value := .int .u8 (v.toNat : Int)
/-- a node: its letter, its variables, its parts, its free variables, all of them -/
def NodeC (T : TypeId) (w : World) (p : Nat) (c : UInt8) (vs : List UInt8) (ps : List Nat) (fr al : Nat) : Prop :=
  ∃ vv pv, w.heap[p]? = some (.cells #[u8V c, vv, pv, .int .i64 (fr : Int), .int .i64 (al : Int)] T (0, 0)) ∧ Row w vv (vs.map u8V) ∧ Row w pv (ps.map ptrV)
def Tree (T : TypeId) (w : World) : Fm → Nat → Prop
  | .leaf c vs, p => NodeC T w p c vs [] (frB (.leaf c vs)) (allB (.leaf c vs))
  | .one c vs q, p => ∃ q', NodeC T w p c vs [q'] (frB (.one c vs q)) (allB (.one c vs q)) ∧ Tree T w q q'
  | .two c q r, p => ∃ q' r', NodeC T w p c [] [q', r'] (frB (.two c q r)) (allB (.two c q r)) ∧ Tree T w q q' ∧ Tree T w r r'
theorem NodeC.own {T : TypeId} {w w' : World} {p : Nat} {c : UInt8} {vs : List UInt8} {ps : List Nat} {fr al : Nat} {hs : List (Nat × Obj)} (h : NodeC T w p c vs ps fr al) (hw : Own w.heap.size w hs w') : NodeC T w' p c vs ps fr al := by
  obtain ⟨vv, pv, h1, h2, h3⟩ := h
  refine ⟨vv, pv, ?_, h2.own hw, h3.own hw⟩
  rw [hw.below.block p ?_]
  · exact h1
  · rcases Nat.lt_or_ge p w.heap.size with h | h
    · exact h
    · rw [Array.getElem?_eq_none h] at h1; cases h1
theorem Tree.own {T : TypeId} {w w' : World} {hs : List (Nat × Obj)} (hw : Own w.heap.size w hs w') : ∀ {fm : Fm} {p : Nat}, Tree T w fm p → Tree T w' fm p
  | .leaf _ _, _, h => NodeC.own h hw
  | .one _ _ _, _, h => by obtain ⟨q', h1, h2⟩ := h; exact ⟨q', h1.own hw, Tree.own hw h2⟩
  | .two _ _ _, _, h => by obtain ⟨q', r', h1, h2, h3⟩ := h; exact ⟨q', r', h1.own hw, Tree.own hw h2, Tree.own hw h3⟩
theorem Tree.node {T : TypeId} {w : World} : ∀ {fm : Fm} {p : Nat}, Tree T w fm p → ∃ c vs ps, NodeC T w p c vs ps (frB fm) (allB fm)
  | .leaf c vs, _, h => ⟨c, vs, [], h⟩
  | .one c vs _, _, h => by obtain ⟨q', h1, _⟩ := h; exact ⟨c, vs, [q'], h1⟩
  | .two c _ _, _, h => by obtain ⟨q', r', h1, _⟩ := h; exact ⟨c, [], [q', r'], h1⟩
theorem Row.same {w : World} {v : Value} {vs us : List Value} (h : Row w v vs) (k : Row w v us) : vs = us := by
  obtain ⟨src, cap, h1, _, h3, h4⟩ := h
  obtain ⟨src', cap', k1, _, k3, k4⟩ := k
  rw [h1] at k1
  injection k1 with e1 e2 e3
  subst e1
  cases src with
  | none => rw [h3 rfl, k3 rfl]
  | some ad =>
    apply List.ext_getElem? ; intro j
    rcases Nat.lt_or_ge j vs.length with hj | hj
    · have a1 := (h4 ad rfl).2 j vs[j] (List.getElem?_eq_getElem hj)
      have a2 := (k4 ad rfl).2 j us[j] (List.getElem?_eq_getElem (by omega))
      rw [List.getElem?_eq_getElem hj, List.getElem?_eq_getElem (show j < us.length by omega)]
      exact a1.symm.trans a2
    · rw [List.getElem?_eq_none hj, List.getElem?_eq_none (by omega)]
theorem u8V_inj {a b : UInt8} (h : u8V a = u8V b) : a = b := by
  unfold u8V at h; injection h with _ h
  exact UInt8.toNat.inj (by omega)
theorem ptrV_inj {a b : Nat} (h : ptrV a = ptrV b) : a = b := by
  unfold ptrV at h; injection h with h; injection h with h; injection h
theorem map_inj' {α β : Type} {f : α → β} (hf : ∀ a b, f a = f b → a = b) : ∀ {xs ys : List α}, xs.map f = ys.map f → xs = ys
  | [], [], _ => rfl
  | [], _ :: _, h => by cases h
  | _ :: _, [], h => by cases h
  | x :: xs, y :: ys, h => by
    simp only [List.map_cons, List.cons.injEq] at h
    rw [hf x y h.1, map_inj' hf h.2]
theorem NodeC.same {T : TypeId} {w : World} {p : Nat} {c c' : UInt8} {vs vs' : List UInt8} {ps ps' : List Nat} {fr al fr' al' : Nat} (h : NodeC T w p c vs ps fr al) (k : NodeC T w p c' vs' ps' fr' al') : c = c' ∧ vs = vs' ∧ ps = ps' := by
  obtain ⟨vv, pv, h1, h2, h3⟩ := h
  obtain ⟨vv', pv', k1, k2, k3⟩ := k
  rw [h1] at k1
  have k4 := Option.some.inj k1
  injection k4 with k5
  have e1 : u8V c = u8V c' := by have := congrArg (fun a : Array Value => a[0]?) k5; exact Option.some.inj this
  have e2 : vv = vv' := by have := congrArg (fun a : Array Value => a[1]?) k5; exact Option.some.inj this
  have e3 : pv = pv' := by have := congrArg (fun a : Array Value => a[2]?) k5; exact Option.some.inj this
  subst e2; subst e3
  exact ⟨u8V_inj e1, map_inj' (fun _ _ => u8V_inj) (h2.same k2), map_inj' (fun _ _ => ptrV_inj) (h3.same k3)⟩
/-- what stands at a pointer is one formula -/
theorem Tree.same {T : TypeId} {w : World} : ∀ {fm fm' : Fm} {p : Nat}, Tree T w fm p → Tree T w fm' p → fm = fm'
  | .leaf c vs, .leaf c' vs', p, h, k => by obtain ⟨e1, e2, _⟩ := NodeC.same h k; rw [e1, e2]
  | .leaf c vs, .one c' vs' q, p, h, k => by obtain ⟨q', k1, _⟩ := k; have := (NodeC.same h k1).2.2; cases this
  | .leaf c vs, .two c' q r, p, h, k => by obtain ⟨q', r', k1, _⟩ := k; have := (NodeC.same h k1).2.2; cases this
  | .one c vs q, .leaf c' vs', p, h, k => by obtain ⟨q', h1, _⟩ := h; have := (NodeC.same h1 k).2.2; cases this
  | .one c vs q, .one c' vs' r, p, h, k => by
    obtain ⟨q', h1, h2⟩ := h
    obtain ⟨r', k1, k2⟩ := k
    obtain ⟨e1, e2, e3⟩ := NodeC.same h1 k1
    injection e3 with e3; subst e3
    rw [e1, e2, Tree.same h2 k2]
  | .one c vs q, .two c' r s, p, h, k => by obtain ⟨q', h1, _⟩ := h; obtain ⟨r', s', k1, _⟩ := k; have := (NodeC.same h1 k1).2.2; cases this
  | .two c q r, .leaf c' vs', p, h, k => by obtain ⟨q', r', h1, _⟩ := h; have := (NodeC.same h1 k).2.2; cases this
  | .two c q r, .one c' vs' s, p, h, k => by obtain ⟨q', r', h1, _⟩ := h; obtain ⟨s', k1, _⟩ := k; have := (NodeC.same h1 k1).2.2; cases this
  | .two c q r, .two c' q2 r2, p, h, k => by
    obtain ⟨q', r', h1, h2, h3⟩ := h
    obtain ⟨q2', r2', k1, k2, k3⟩ := k
    obtain ⟨e1, _, e3⟩ := NodeC.same h1 k1
    injection e3 with e3 e4; injection e4 with e4; subst e3; subst e4
    rw [e1, Tree.same h2 k2, Tree.same h3 k3]
theorem Tree.lt {T : TypeId} {w : World} {fm : Fm} {p : Nat} (h : Tree T w fm p) : p < w.heap.size := by
  obtain ⟨c, vs, ps, vv, pv, h1, _⟩ := h.node
  rcases Nat.lt_or_ge p w.heap.size with h | h
  · exact h
  · rw [Array.getElem?_eq_none h] at h1; cases h1
theorem cell_of {w : World} {p : Nat} {cs : Array Value} {T : TypeId} {v : Value} {off : Nat} (h : w.heap[p]? = some (.cells cs T (0, 0))) (hv : cs[off]? = some v) : w.cell? ⟨p, off, none⟩ = some v := at_box h (Own.start w) off hv
theorem tree_free {T : TypeId} {w : World} {fm : Fm} {p : Nat} (h : Tree T w fm p) : w.cell? ⟨p, 3, none⟩ = some (.int .i64 (frB fm : Int)) := by
  obtain ⟨c, vs, ps, vv, pv, h1, _⟩ := h.node
  exact cell_of h1 rfl
theorem tree_all {T : TypeId} {w : World} {fm : Fm} {p : Nat} (h : Tree T w fm p) : w.cell? ⟨p, 4, none⟩ = some (.int .i64 (allB fm : Int)) := by
  obtain ⟨c, vs, ps, vv, pv, h1, _⟩ := h.node
  exact cell_of h1 rfl
theorem vI_wrap {v : UInt8} (h : isV v = true) : IntKind.u8.wrap ((v.toNat : Int) - 97) = (vI v : Int) := by
  obtain ⟨h1, h2⟩ := vI_lt h
  rw [IntWalk.u8_in _ (by omega)]; omega
theorem heap_own {w0 w : World} {hs : List (Nat × Obj)} {g T : Nat} {cs : Array Value} (hg : w0.heap[g]? = some (.cells cs T (0, 0))) (hw : Own w0.heap.size w0 hs w) : w.heap[g]? = some (.cells cs T (0, 0)) := by
  rw [hw.below.block g ?_]
  · exact hg
  · rcases Nat.lt_or_ge g w0.heap.size with h | h
    · exact h
    · rw [Array.getElem?_eq_none h] at hg; cases hg
end Go.Wk
namespace Go.Wk
open Go.RowKit
def entP (x : (Nat × Nat) × Nat) : MapEntry := { key := ptrV x.1.1, val := .map (some x.1.2), born := x.2 }
def mapP (K : List (Nat × Nat)) : Obj := .map ((K.zipIdx.map entP).toArray) K.length
def entI (x : (Int × Bool) × Nat) : MapEntry := { key := .int .i64 x.1.1, val := .bool x.1.2, born := x.2 }
def mapI (L : List (Int × Bool)) : Obj := .map ((L.zipIdx.map entI).toArray) L.length
section
variable {P : Program} {w : World} {kt : TypeId} {k : Value}
theorem asking_no : ∀ (l : List MapEntry) (i : Nat), (∀ e ∈ l, (Op.equal kt k e.key).run P w = .ok false w) → (Instr.findAsking kt k l i).run P w = .ok none w
  | [], _, _ => rfl
  | e :: l, i, h => by
    unfold Instr.findAsking
    simp only [Sem.run_bind, h e (by simp), Result.andThen]
    exact asking_no l (i + 1) fun x hx => h x (List.mem_cons_of_mem _ hx)
theorem asking_at : ∀ (l : List MapEntry) (i j : Nat) {e : MapEntry}, l[j]? = some e → (Op.equal kt k e.key).run P w = .ok true w → (∀ (q : Nat) (x : MapEntry), q < j → l[q]? = some x → (Op.equal kt k x.key).run P w = .ok false w) → (Instr.findAsking kt k l i).run P w = .ok (some (i + j, e.val)) w
  | [], _, _, _, h, _, _ => by simp at h
  | x :: l, i, 0, e, h, h1, _ => by
    have hx : x = e := by simpa using h
    subst hx
    unfold Instr.findAsking
    simp only [Sem.run_bind, h1, Result.andThen]
    rfl
  | x :: l, i, j + 1, e, h, h1, h2 => by
    unfold Instr.findAsking
    simp only [Sem.run_bind, h2 0 x (by omega) rfl, Result.andThen]
    have := asking_at l (i + 1) j (e := e) (by simpa using h) h1 fun q y hq hy => h2 (q + 1) y (by omega) (by simpa using hy)
    rw [show i + (j + 1) = i + 1 + j from by omega]
    exact this
theorem findKeyP {te : TypeId} (hkt : P.underlying kt = some (.pointer te)) {l : List MapEntry} {r : Option (Nat × Value)} (h : (Instr.findAsking kt k l 0).run P w = .ok r w) : (Instr.findKey kt k l).run P w = .ok r w := by
  cases l with
  | nil =>
    have e : r = none := by
      have : Result.ok (none : Option (Nat × Value)) w = .ok r w := h
      injection this with this; exact this.symm
    subst e
    simp [Instr.findKey, run_underlying hkt, Result.andThen, Instr.findNow]
  | cons x l =>
    simp only [Instr.findKey, Sem.run_bind, run_underlying hkt, Result.andThen]
    simp only [Instr.findNow, Instr.sameNow]
    exact h
theorem ptr_same {te sz p : Nat} (hkt : P.underlying kt = some (.pointer te)) (hsz : ∀ w, (sizeOf te).run P w = .ok sz w) (h0 : sz ≠ 0) : (Op.equal kt (ptrV p) (ptrV p)).run P w = .ok true w := by
  have h : ∀ d : Nat, (Op.equalIn (d + 1) kt (ptrV p) (ptrV p)).run P w = .ok true w := fun d => by
    simp [Op.equalIn, ptrV, run_underlying hkt, hsz, h0, run_sameAddr_same, Result.andThen]
  exact h 9999
theorem ptr_other {te sz p q : Nat} {cp cq : Array Value} {tp tq : TypeId} (hkt : P.underlying kt = some (.pointer te)) (hsz : ∀ w, (sizeOf te).run P w = .ok sz w) (h0 : sz ≠ 0) (hne : p ≠ q)
    (hp : w.heap[p]? = some (.cells cp tp (0, 0))) (hq : w.heap[q]? = some (.cells cq tq (0, 0))) : (Op.equal kt (ptrV p) (ptrV q)).run P w = .ok false w := by
  have h : ∀ d : Nat, (Op.equalIn (d + 1) kt (ptrV p) (ptrV q)).run P w = .ok false w := fun d => by
    simp [Op.equalIn, ptrV, run_underlying hkt, hsz, h0, run_sameAddr_other w (a := ⟨p, 0, none⟩) (b := ⟨q, 0, none⟩) (fun e => hne (by injection e)) hp hq, Result.andThen]
  exact h 9999
theorem checkKeyP {te : TypeId} (hkt : P.underlying kt = some (.pointer te)) (p : Nat) (b : Bool) : (Instr.checkKey b 10000 kt (ptrV p)).run P w = .ok () w := by
  show (Instr.checkKey b (9999 + 1) kt (ptrV p)).run P w = .ok () w
  unfold Instr.checkKey
  simp only [Sem.run_bind, run_underlying hkt, Result.andThen, ptrV]
  rfl
end
theorem zip_get {α : Type} {K : List α} {j : Nat} {x : α} {g : α × Nat → MapEntry} (h : K[j]? = some x) : (K.zipIdx.map g)[j]? = some (g (x, j)) := by
  rw [List.getElem?_map, List.getElem?_zipIdx, h]; simp
theorem zip_mem {α : Type} {K : List α} {e : MapEntry} {g : α × Nat → MapEntry} (h : e ∈ K.zipIdx.map g) : ∃ x j, K[j]? = some x ∧ e = g (x, j) := by
  obtain ⟨⟨x, j⟩, h1, h2⟩ := List.mem_map.1 h
  exact ⟨x, j, List.mem_zipIdx_iff_getElem?.1 h1, h2.symm⟩
/-- a pointer's number among the keys: its place, or nowhere -/
theorem key_case (K : List (Nat × Nat)) (p : Nat) : (∀ x ∈ K, x.1 ≠ p) ∨ ∃ j m, K[j]? = some (p, m) ∧ ∀ (q : Nat) (x : Nat × Nat), q < j → K[q]? = some x → x.1 ≠ p := by
  induction K with
  | nil => exact .inl fun x hx => by cases hx
  | cons y K ih =>
    by_cases e : y.1 = p
    · exact .inr ⟨0, y.2, by rw [← e]; rfl, fun q x hq => by omega⟩
    · rcases ih with h | ⟨j, m, h1, h2⟩
      · exact .inl fun x hx => by
          rcases List.mem_cons.1 hx with rfl | hx
          · exact e
          · exact h x hx
      · refine .inr ⟨j + 1, m, h1, fun q x hq hx => ?_⟩
        cases q with
        | zero => rw [show x = y from by simpa using hx.symm]; exact e
        | succ q => exact h2 q x (by omega) (by simpa using hx)
section
variable {P : Program} {n : Nat} {B : Nat} {w0 : World} {hs : List (Nat × Obj)} {N R : Act → World → Prop} {X : List (Nat × (Act → World → Prop))} {e : Env} {ops : Array Oper} {l : List Oper} {o : Oper}
/-- where the keys of a map point to -/
def KeysIn (B : Nat) (w0 : World) (hs : List (Nat × Obj)) (p : Nat) : Prop := ∀ w, Own B w0 hs w → ∃ cs T, w.heap[p]? = some (.cells cs T (0, 0))
theorem findP_no {kt te sz p : Nat} {K : List (Nat × Nat)} {w : World} (hkt : P.underlying kt = some (.pointer te)) (hsz : ∀ w, (sizeOf te).run P w = .ok sz w) (h0 : sz ≠ 0) (hno : ∀ x ∈ K, x.1 ≠ p)
    (hK : ∀ x ∈ K, KeysIn B w0 hs x.1) (hp : KeysIn B w0 hs p) (hw : Own B w0 hs w) : (Instr.findKey kt (ptrV p) ((K.zipIdx.map entP).toArray).toList).run P w = .ok none w := by
  refine findKeyP hkt (asking_no _ 0 fun e he => ?_)
  obtain ⟨x, j, h1, rfl⟩ := zip_mem (show e ∈ K.zipIdx.map entP from he)
  have hm := List.mem_of_getElem? h1
  obtain ⟨c1, t1, g1⟩ := hp w hw
  obtain ⟨c2, t2, g2⟩ := hK x hm w hw
  exact ptr_other hkt hsz h0 (fun q => hno x hm q.symm) g1 g2
theorem findP_at {kt te sz p j m : Nat} {K : List (Nat × Nat)} {w : World} (hkt : P.underlying kt = some (.pointer te)) (hsz : ∀ w, (sizeOf te).run P w = .ok sz w) (h0 : sz ≠ 0) (hj : K[j]? = some (p, m)) (hf : ∀ (q : Nat) (x : Nat × Nat), q < j → K[q]? = some x → x.1 ≠ p)
    (hK : ∀ x ∈ K, KeysIn B w0 hs x.1) (hw : Own B w0 hs w) : (Instr.findKey kt (ptrV p) ((K.zipIdx.map entP).toArray).toList).run P w = .ok (some (j, .map (some m))) w := by
  have := findKeyP hkt (asking_at (P := P) (w := w) (kt := kt) (k := ptrV p) (K.zipIdx.map entP) 0 j (zip_get (g := entP) hj) (ptr_same hkt hsz h0) fun q x hq hx => ?_)
  · rw [Nat.zero_add] at this; exact this
  · obtain ⟨y, i, h1, rfl⟩ := zip_mem (List.mem_of_getElem? hx)
    have hq2 : (K.zipIdx.map entP)[q]? = some (entP (y, i)) := hx
    rw [List.getElem?_map, List.getElem?_zipIdx] at hq2
    cases hy : K[q]? with
    | none => rw [hy] at hq2; simp at hq2
    | some z =>
      rw [hy] at hq2
      have hz : z.1 = y.1 := by
        have := congrArg (Option.map fun u : MapEntry => u.key) hq2
        simp [entP] at this
        exact ptrV_inj this
      obtain ⟨c1, t1, g1⟩ := hK _ (List.mem_of_getElem? hj) w hw
      obtain ⟨c2, t2, g2⟩ := hK _ (List.mem_of_getElem? h1) w hw
      exact ptr_other hkt hsz h0 (fun u => hf q z hq hy (by rw [hz]; exact u.symm)) g1 g2
theorem OpQ.lookP_no {t kt et te sz r p : Nat} {x y : Operand} {K : List (Nat × Nat)} (i : Nat) (h : o.op = .lookup t x y false) (hm : P.underlying t = some (.map kt et)) (hkt : P.underlying kt = some (.pointer te)) (hsz : ∀ w, (sizeOf te).run P w = .ok sz w) (h0 : sz ≠ 0) (hz : ∀ w, (zeroValue et).run P w = .ok (.map none) w)
    (hx : opd e x = some (.map (some r))) (hy : opd e y = some (ptrV p)) (hi : hs[i]? = some (r, mapP K)) (hno : ∀ x ∈ K, x.1 ≠ p) (hK : ∀ x ∈ K, KeysIn B w0 hs x.1) (hp : KeysIn B w0 hs p) : OpQ P n (Own B w0 hs) e o (.map none) := by
  unfold OpQ
  intro a hF w hw
  have hb : w.heap[r]? = some (.map ((K.zipIdx.map entP).toArray) K.length) := (hw.has i r _ hi).2
  unfold Oper.quietAt execOp; rw [h]
  simp only [hF.opd hx, hF.opd hy, Instr.lookup, Sem.run_bind, run_underlying hm, MapKept.run_getObj_map hb, checkKeyP hkt, findP_no hkt hsz h0 hno hK hp hw, hz, Sem.run_pure, Result.andThen]
  exact ⟨rfl, rfl⟩
theorem OpQ.lookP_at {t kt et te sz r p j m : Nat} {x y : Operand} {K : List (Nat × Nat)} (i : Nat) (h : o.op = .lookup t x y false) (hm : P.underlying t = some (.map kt et)) (hkt : P.underlying kt = some (.pointer te)) (hsz : ∀ w, (sizeOf te).run P w = .ok sz w) (h0 : sz ≠ 0)
    (hx : opd e x = some (.map (some r))) (hy : opd e y = some (ptrV p)) (hi : hs[i]? = some (r, mapP K)) (hj : K[j]? = some (p, m)) (hf : ∀ (q : Nat) (x : Nat × Nat), q < j → K[q]? = some x → x.1 ≠ p) (hK : ∀ x ∈ K, KeysIn B w0 hs x.1) : OpQ P n (Own B w0 hs) e o (.map (some m)) := by
  unfold OpQ
  intro a hF w hw
  have hb : w.heap[r]? = some (.map ((K.zipIdx.map entP).toArray) K.length) := (hw.has i r _ hi).2
  unfold Oper.quietAt execOp; rw [h]
  simp only [hF.opd hx, hF.opd hy, Instr.lookup, Sem.run_bind, run_underlying hm, MapKept.run_getObj_map hb, checkKeyP hkt, findP_at hkt hsz h0 hj hf hK hw, Sem.run_pure, Result.andThen]
  exact ⟨rfl, rfl⟩
/-- one more key -/
theorem mapP_add (K : List (Nat × Nat)) (p m : Nat) : mapP (K ++ [(p, m)]) = .map (((K.zipIdx.map entP).toArray).push { key := ptrV p, val := .map (some m), born := K.length }) (K.length + 1) := by
  unfold mapP
  rw [List.zipIdx_append, List.map_append, List.push_toArray]
  simp [entP]
theorem Ll.mapSetP {t kt et te sz r p m : Nat} {x y z : Operand} {K : List (Nat × Nat)} (i : Nat) (hdst : o.dst = none) (hg : wantE ops e o.guard = some true) (h : o.op = .mapUpdate t x y z) (hm : P.underlying t = some (.map kt et)) (hkt : P.underlying kt = some (.pointer te)) (hsz : ∀ w, (sizeOf te).run P w = .ok sz w) (h0 : sz ≠ 0)
    (hx : opd e x = some (.map (some r))) (hy : opd e y = some (ptrV p)) (hz : opd e z = some (.map (some m))) (hi : hs[i]? = some (r, mapP K)) (hno : ∀ x ∈ K, x.1 ≠ p) (hK : ∀ x ∈ K, KeysIn B w0 hs x.1) (hp : KeysIn B w0 hs p)
    (k : Ll P n (Own B w0 (hs.set i (r, mapP (K ++ [(p, m)])))) ops l e N R X) : Ll P n (Own B w0 hs) ops (o :: l) e N R X :=
  Ll.turnN hdst hg fun a w hF hw => by
    have hb : w.heap[r]? = some (.map ((K.zipIdx.map entP).toArray) K.length) := (hw.has i r _ hi).2
    refine ⟨{ w with heap := w.heap.setIfInBounds r (mapP (K ++ [(p, m)])) }, ?_, fun a' ha => ?_⟩
    · unfold execOp; rw [h]; simp only [hF.opd hx, hF.opd hy, hF.opd hz]
      have run : (Instr.mapUpdate t (.map (some r)) (ptrV p) (.map (some m))).run P w = .ok () { w with heap := w.heap.setIfInBounds r (mapP (K ++ [(p, m)])) } := by
        rw [mapP_add]
        simp [Instr.mapUpdate, run_underlying hm, MapKept.run_getObj_map hb, checkKeyP hkt, findP_no hkt hsz h0 hno hK hp hw, MapKept.run_setObj_map _ hb, Result.andThen]
      simp only [Sem.run_bind, run, Result.andThen]
      rfl
    · unfold Ll at k
      exact k a' _ ha (hw.setObj hi _)
theorem Ll.makeMapP {d t : Nat} (hd : Nat.blt d n = true) (hdst : o.dst = some d) (hg : wantE ops e o.guard = some true) (h : o.op = .makeMap t none)
    (k : ∀ p, B ≤ p → Ll P n (Own B w0 ((p, mapP []) :: hs)) ops l ((d, .map (some p)) :: e) N R X) : Ll P n (Own B w0 hs) ops (o :: l) e N R X := Ll.makeMap hd hdst hg h k
theorem Ll.makeMapI {d t : Nat} (hd : Nat.blt d n = true) (hdst : o.dst = some d) (hg : wantE ops e o.guard = some true) (h : o.op = .makeMap t none)
    (k : ∀ p, B ≤ p → Ll P n (Own B w0 ((p, mapI []) :: hs)) ops l ((d, .map (some p)) :: e) N R X) : Ll P n (Own B w0 hs) ops (o :: l) e N R X := Ll.makeMap hd hdst hg h k
theorem keyI (k : Int) : MapKept.IsKey (.int .i64) (.int .i64 k) := rfl
theorem keysI (L : List (Int × Bool)) : ∀ x ∈ ((L.zipIdx.map entI).toArray).toList, MapKept.IsKey (.int .i64) x.key := fun x hx => by
  obtain ⟨y, j, _, rfl⟩ := zip_mem (show x ∈ L.zipIdx.map entI from hx)
  rfl
theorem findI (k : Int) (L : List (Int × Bool)) : (Instr.findNow (.int .i64) (.int .i64 k) ((L.zipIdx.map entI).toArray).toList 0 = some none ∧ ∀ x ∈ L, x.1 ≠ k) ∨ ∃ j b, Instr.findNow (.int .i64) (.int .i64 k) ((L.zipIdx.map entI).toArray).toList 0 = some (some (j, .bool b)) ∧ L[j]? = some (k, b) := by
  rcases MapKept.findNow_spec (keyI k) ((L.zipIdx.map entI).toArray).toList 0 (keysI L) with ⟨h1, h2⟩ | ⟨j, e, h1, h2, h3⟩
  · refine .inl ⟨h1, fun x hx q => ?_⟩
    obtain ⟨j, hj⟩ := List.mem_iff_getElem?.1 hx
    exact h2 (entI (x, j)) (List.mem_of_getElem? (zip_get (g := entI) hj)) (by rw [← q]; rfl)
  · have h2' : (L.zipIdx.map entI)[j]? = some e := by simpa using h2
    rw [List.getElem?_map, List.getElem?_zipIdx] at h2'
    cases hy : L[j]? with
    | none => rw [hy] at h2'; simp at h2'
    | some z =>
      rw [hy] at h2'
      simp at h2'
      subst h2'
      have hz : z.1 = k := by
        have : Value.int .i64 z.1 = .int .i64 k := h3
        injection this
      refine .inr ⟨j, z.2, by rw [h1, Nat.zero_add]; rfl, by rw [← hz]; exact hy⟩
theorem OpQ.lookI_nil {t kt et : Nat} {x y : Operand} {k : Int} (h : o.op = .lookup t x y true) (hm : P.underlying t = some (.map kt et)) (hkt : P.underlying kt = some (.int .i64)) (hz : ∀ w, (zeroValue et).run P w = .ok (.bool false) w)
    (hx : opd e x = some (.map none)) (hy : opd e y = some (.int .i64 k)) : OpQ P n (Own B w0 hs) e o (.tuple #[.bool false, .bool false]) := by
  unfold OpQ
  intro a hF w hw
  unfold Oper.quietAt execOp; rw [h]
  simp only [hF.opd hx, hF.opd hy, Instr.lookup, Sem.run_bind, run_underlying hm, MapKept.run_checkKey hkt (keyI k), MapKept.run_findKey hkt (show Instr.findNow (.int .i64) (.int .i64 k) (#[] : Array MapEntry).toList 0 = some none from rfl), hz, Sem.run_pure, Result.andThen]
  exact ⟨rfl, rfl⟩
theorem OpQ.lookI_no {t kt et r : Nat} {x y : Operand} {k : Int} {L : List (Int × Bool)} (i : Nat) (h : o.op = .lookup t x y true) (hm : P.underlying t = some (.map kt et)) (hkt : P.underlying kt = some (.int .i64)) (hz : ∀ w, (zeroValue et).run P w = .ok (.bool false) w)
    (hx : opd e x = some (.map (some r))) (hy : opd e y = some (.int .i64 k)) (hi : hs[i]? = some (r, mapI L)) (hno : ∀ x ∈ L, x.1 ≠ k) : OpQ P n (Own B w0 hs) e o (.tuple #[.bool false, .bool false]) := by
  unfold OpQ
  intro a hF w hw
  have hb : w.heap[r]? = some (.map ((L.zipIdx.map entI).toArray) L.length) := (hw.has i r _ hi).2
  unfold Oper.quietAt execOp; rw [h]
  rcases findI k L with ⟨h1, _⟩ | ⟨j, b, h1, h2⟩
  · simp only [hF.opd hx, hF.opd hy, Instr.lookup, Sem.run_bind, run_underlying hm, MapKept.run_getObj_map hb, MapKept.run_checkKey hkt (keyI k), MapKept.run_findKey hkt h1, hz, Sem.run_pure, Result.andThen]
    exact ⟨rfl, rfl⟩
  · exact absurd rfl (hno _ (List.mem_of_getElem? h2))
theorem OpQ.lookI_at {t kt et r : Nat} {x y : Operand} {k : Int} {b : Bool} {L : List (Int × Bool)} (i : Nat) (h : o.op = .lookup t x y true) (hm : P.underlying t = some (.map kt et)) (hkt : P.underlying kt = some (.int .i64))
    (hx : opd e x = some (.map (some r))) (hy : opd e y = some (.int .i64 k)) (hi : hs[i]? = some (r, mapI L)) (hin : ∃ x ∈ L, x.1 = k) (hu : ∀ c, (k, c) ∈ L → c = b) : OpQ P n (Own B w0 hs) e o (.tuple #[.bool b, .bool true]) := by
  unfold OpQ
  intro a hF w hw
  have hb : w.heap[r]? = some (.map ((L.zipIdx.map entI).toArray) L.length) := (hw.has i r _ hi).2
  unfold Oper.quietAt execOp; rw [h]
  rcases findI k L with ⟨h1, h2⟩ | ⟨j, c, h1, h2⟩
  · obtain ⟨x, hx, q⟩ := hin
    exact absurd q (h2 x hx)
  · have := hu c (List.mem_of_getElem? h2)
    subst this
    simp only [hF.opd hx, hF.opd hy, Instr.lookup, Sem.run_bind, run_underlying hm, MapKept.run_getObj_map hb, MapKept.run_checkKey hkt (keyI k), MapKept.run_findKey hkt h1, Sem.run_pure, Result.andThen]
    exact ⟨rfl, rfl⟩
theorem mapI_add (L : List (Int × Bool)) (k : Int) (b : Bool) : mapI (L ++ [(k, b)]) = .map (((L.zipIdx.map entI).toArray).push { key := .int .i64 k, val := .bool b, born := L.length }) (L.length + 1) := by
  unfold mapI
  rw [List.zipIdx_append, List.map_append, List.push_toArray]
  simp [entI]
theorem mapI_set {L : List (Int × Bool)} {k : Int} {b : Bool} {j : Nat} : mapI (L.set j (k, b)) = .map (((L.zipIdx.map entI).toArray).modify j fun e => { e with key := .int .i64 k, val := .bool b }) L.length := by
  unfold mapI
  rw [List.length_set]
  congr 1
  apply Array.ext
  · simp
  · intro q h1 h2
    rw [Array.getElem_modify]
    simp only [List.getElem_toArray, List.getElem_map, List.getElem_zipIdx, List.getElem_set, entI]
    split
    · rename_i h; subst h; rfl
    · rfl
theorem Ll.mapSetI {t kt et r : Nat} {x y z : Operand} {k : Int} {b : Bool} {L : List (Int × Bool)} (i : Nat) (hdst : o.dst = none) (hg : wantE ops e o.guard = some true) (h : o.op = .mapUpdate t x y z) (hm : P.underlying t = some (.map kt et)) (hkt : P.underlying kt = some (.int .i64))
    (hx : opd e x = some (.map (some r))) (hy : opd e y = some (.int .i64 k)) (hz : opd e z = some (.bool b)) (hi : hs[i]? = some (r, mapI L))
    (kk : ∀ L' : List (Int × Bool), (∀ x ∈ L', x ∈ L ∨ x = (k, b)) → Ll P n (Own B w0 (hs.set i (r, mapI L'))) ops l e N R X) : Ll P n (Own B w0 hs) ops (o :: l) e N R X :=
  Ll.turnN hdst hg fun a w hF hw => by
    have hb : w.heap[r]? = some (.map ((L.zipIdx.map entI).toArray) L.length) := (hw.has i r _ hi).2
    rcases findI k L with ⟨h1, h2⟩ | ⟨j, c, h1, h2⟩
    · refine ⟨{ w with heap := w.heap.setIfInBounds r (mapI (L ++ [(k, b)])) }, ?_, fun a' ha => ?_⟩
      · unfold execOp; rw [h]; simp only [hF.opd hx, hF.opd hy, hF.opd hz]
        have run : (Instr.mapUpdate t (.map (some r)) (.int .i64 k) (.bool b)).run P w = .ok () { w with heap := w.heap.setIfInBounds r (mapI (L ++ [(k, b)])) } := by
          rw [mapI_add]
          simp [Instr.mapUpdate, run_underlying hm, MapKept.run_getObj_map hb, MapKept.run_checkKey hkt (keyI k), MapKept.run_findKey hkt h1, MapKept.run_setObj_map _ hb, Result.andThen]
        simp only [Sem.run_bind, run, Result.andThen]
        rfl
      · have := kk (L ++ [(k, b)]) fun x hx => by
          rcases List.mem_append.1 hx with hx | hx
          · exact .inl hx
          · exact .inr (List.mem_singleton.1 hx)
        unfold Ll at this
        exact this a' _ ha (hw.setObj hi _)
    · refine ⟨{ w with heap := w.heap.setIfInBounds r (mapI (L.set j (k, b))) }, ?_, fun a' ha => ?_⟩
      · unfold execOp; rw [h]; simp only [hF.opd hx, hF.opd hy, hF.opd hz]
        have hj : ((L.zipIdx.map entI).toArray)[j]? = some (entI ((k, c), j)) := by
          have := zip_get (g := entI) h2
          simpa using this
        have run : (Instr.mapUpdate t (.map (some r)) (.int .i64 k) (.bool b)).run P w = .ok () { w with heap := w.heap.setIfInBounds r (mapI (L.set j (k, b))) } := by
          rw [mapI_set]
          simp only [Instr.mapUpdate, Sem.run_bind, run_underlying hm, MapKept.run_getObj_map hb, MapKept.run_checkKey hkt (keyI k), MapKept.run_findKey hkt h1, Result.andThen]
          rw [hj]
          simp only [Option.map_some, Option.getD_some]
          rw [show (entI ((k, c), j)).key = .int .i64 k from rfl]
          simp only [MapKept.run_keyThatStays (keyI k), MapKept.run_setObj_map _ hb]
        simp only [Sem.run_bind, run, Result.andThen]
        rfl
      · have := kk (L.set j (k, b)) fun x hx => by
          rcases List.mem_or_eq_of_mem_set hx with hx | hx
          · exact .inl hx
          · exact .inr hx
        unfold Ll at this
        exact this a' _ ha (hw.setObj hi _)
theorem OpQ.eqNilM {C : World → Prop} {t t' kt et : TypeId} {x y : Operand} {p : Option Nat} (h : o.op = .binOp .eql t x y t') (hu : P.underlying t = some (.map kt et)) (hx : opd e x = some (.map p)) (hy : opd e y = some (.map none)) : OpQ P n C e o (.bool p.isNone) := OpQ.val fun A hf w => by
  unfold execOp; rw [h]; simp only [hf.opd hx, hf.opd hy]
  rw [show eqGuard .eql t x y (Value.map p) (Value.map none) = pure () from rfl]
  have h1 : ∀ d : Nat, (Op.equalIn (d + 1) t (.map p) (.map none)).run P w = .ok p.isNone w := fun d => by
    cases p <;> simp [Op.equalIn, run_underlying hu, Result.andThen]
  simp only [Sem.run_bind, Sem.run_pure, Result.andThen, binOp]
  simp [Op.equal, Op.maxDepth, h1 9999]
end
end Go.Wk
namespace Go.Wk
abbrev xN := @OpQ.lookP_at
end Go.Wk
namespace Go.Wk
open Go.RowKit
/-- a row that stands among blocks -/
def RowB (hs : List (Nat × Obj)) (v : Value) (vs : List Value) : Prop :=
  (v = .slice none 0 0 ∧ vs = []) ∨ ∃ g cap cur el, v = .slice (some ⟨g, 0, none⟩) vs.length cap ∧ (g, Obj.cells cur el (0, 0)) ∈ hs ∧ cur.toList.take vs.length = vs ∧ vs.length ≤ cap
theorem RowB.row {B : Nat} {w0 w : World} {hs : List (Nat × Obj)} {v : Value} {vs : List Value} (h : RowB hs v vs) (hw : Own B w0 hs w) : Row w v vs := by
  rcases h with ⟨rfl, rfl⟩ | ⟨g, cap, cur, el, rfl, h1, h2, h3⟩
  · exact Ints.nil
  · obtain ⟨i, hi⟩ := List.mem_iff_getElem?.1 h1
    exact Own.row hw hi h2 rfl h3
theorem RowB.more {hs hs' : List (Nat × Obj)} {v : Value} {vs : List Value} (k : ∀ x ∈ hs, x ∈ hs') (h : RowB hs v vs) : RowB hs' v vs := by
  rcases h with h | ⟨g, cap, cur, el, h0, h1, h2, h3⟩
  · exact .inl h
  · exact .inr ⟨g, cap, cur, el, h0, k _ h1, h2, h3⟩
theorem RowB.nil {hs : List (Nat × Obj)} : RowB hs (.slice none 0 0) [] := .inl ⟨rfl, rfl⟩
theorem RowB.at {hs : List (Nat × Obj)} {g n cap el : Nat} {cur : Array Value} {vs : List Value} (hm : (g, Obj.cells cur el (0, 0)) ∈ hs) (ht : cur.toList.take n = vs) (hn : vs.length = n) (hc : n ≤ cap) : RowB hs (.slice (some ⟨g, 0, none⟩) n cap) vs := by
  subst hn
  exact .inr ⟨g, cap, cur, el, rfl, hm, ht, hc⟩
def NodeB (T : TypeId) (hs : List (Nat × Obj)) (p : Nat) (c : UInt8) (vs : List UInt8) (ps : List Nat) (fr al : Nat) : Prop :=
  ∃ vv pv, (p, Obj.cells #[u8V c, vv, pv, .int .i64 (fr : Int), .int .i64 (al : Int)] T (0, 0)) ∈ hs ∧ RowB hs vv (vs.map u8V) ∧ RowB hs pv (ps.map ptrV)
def TreeB (T : TypeId) (hs : List (Nat × Obj)) : Fm → Nat → Prop
  | .leaf c vs, p => NodeB T hs p c vs [] (frB (.leaf c vs)) (allB (.leaf c vs))
  | .one c vs q, p => ∃ q', NodeB T hs p c vs [q'] (frB (.one c vs q)) (allB (.one c vs q)) ∧ TreeB T hs q q'
  | .two c q r, p => ∃ q' r', NodeB T hs p c [] [q', r'] (frB (.two c q r)) (allB (.two c q r)) ∧ TreeB T hs q q' ∧ TreeB T hs r r'
theorem NodeB.more {T : TypeId} {hs hs' : List (Nat × Obj)} {p : Nat} {c : UInt8} {vs : List UInt8} {ps : List Nat} {fr al : Nat} (k : ∀ x ∈ hs, x ∈ hs') (h : NodeB T hs p c vs ps fr al) : NodeB T hs' p c vs ps fr al := by
  obtain ⟨vv, pv, h1, h2, h3⟩ := h
  exact ⟨vv, pv, k _ h1, h2.more k, h3.more k⟩
theorem TreeB.more {T : TypeId} {hs hs' : List (Nat × Obj)} (k : ∀ x ∈ hs, x ∈ hs') : ∀ {fm : Fm} {p : Nat}, TreeB T hs fm p → TreeB T hs' fm p
  | .leaf _ _, _, h => NodeB.more k h
  | .one _ _ _, _, h => by obtain ⟨q', h1, h2⟩ := h; exact ⟨q', h1.more k, TreeB.more k h2⟩
  | .two _ _ _, _, h => by obtain ⟨q', r', h1, h2, h3⟩ := h; exact ⟨q', r', h1.more k, TreeB.more k h2, TreeB.more k h3⟩
theorem TreeB.left {T : TypeId} {hs hs' : List (Nat × Obj)} {fm : Fm} {p : Nat} (h : TreeB T hs fm p) : TreeB T (hs ++ hs') fm p := h.more fun _ hx => List.mem_append_left _ hx
theorem TreeB.right {T : TypeId} {hs hs' : List (Nat × Obj)} {fm : Fm} {p : Nat} (h : TreeB T hs fm p) : TreeB T (hs' ++ hs) fm p := h.more fun _ hx => List.mem_append_right _ hx
theorem NodeB.node {T : TypeId} {B : Nat} {w0 w : World} {hs : List (Nat × Obj)} {p : Nat} {c : UInt8} {vs : List UInt8} {ps : List Nat} {fr al : Nat} (h : NodeB T hs p c vs ps fr al) (hw : Own B w0 hs w) : NodeC T w p c vs ps fr al := by
  obtain ⟨vv, pv, h1, h2, h3⟩ := h
  exact ⟨vv, pv, (hw.mem h1).2, h2.row hw, h3.row hw⟩
theorem TreeB.tree {T : TypeId} {B : Nat} {w0 w : World} {hs : List (Nat × Obj)} (hw : Own B w0 hs w) : ∀ {fm : Fm} {p : Nat}, TreeB T hs fm p → Tree T w fm p
  | .leaf _ _, _, h => NodeB.node h hw
  | .one _ _ _, _, h => by obtain ⟨q', h1, h2⟩ := h; exact ⟨q', h1.node hw, TreeB.tree hw h2⟩
  | .two _ _ _, _, h => by obtain ⟨q', r', h1, h2, h3⟩ := h; exact ⟨q', r', h1.node hw, TreeB.tree hw h2, TreeB.tree hw h3⟩
theorem TreeB.node {T : TypeId} {hs : List (Nat × Obj)} : ∀ {fm : Fm} {p : Nat}, TreeB T hs fm p → ∃ c vs ps, NodeB T hs p c vs ps (frB fm) (allB fm)
  | .leaf c vs, _, h => ⟨c, vs, [], h⟩
  | .one c vs _, _, h => by obtain ⟨q', h1, _⟩ := h; exact ⟨c, vs, [q'], h1⟩
  | .two c _ _, _, h => by obtain ⟨q', r', h1, _⟩ := h; exact ⟨c, [], [q', r'], h1⟩
theorem TreeB.same {T : TypeId} {B : Nat} {w0 w : World} {hs : List (Nat × Obj)} (hw : Own B w0 hs w) {fm fm' : Fm} {p : Nat} (h : TreeB T hs fm p) (k : TreeB T hs fm' p) : fm = fm' := (TreeB.tree hw h).same (TreeB.tree hw k)
theorem mem_at {α : Type} {l : List α} {i : Nat} {x : α} (h : l[i]? = some x) : x ∈ l := List.mem_of_getElem? h
theorem mem_atL {α : Type} {l r : List α} {i : Nat} {x : α} (h : l[i]? = some x) : x ∈ l ++ r := List.mem_append_left _ (List.mem_of_getElem? h)
abbrev Memo := List (Nat × Nat × List (Int × Bool))
def memoK (K : Memo) : List (Nat × Nat) := K.map fun x => (x.1, x.2.1)
def memoB (K : Memo) : List (Nat × Obj) := K.map fun x => (x.2.1, mapI x.2.2)
def MemoOk (T : TypeId) (a : St) (hs : List (Nat × Obj)) (K : Memo) : Prop := ∀ x ∈ K, ∃ fm, wfF fm ∧ TreeB T hs fm x.1 ∧ ∀ y ∈ x.2.2, ∃ e, EnvA a e ∧ keyF fm e = y.1 ∧ ev a fm e = y.2
theorem MemoOk.nil {T : TypeId} {a : St} {hs : List (Nat × Obj)} : MemoOk T a hs [] := fun x hx => by cases hx
theorem EnvA.ok {a : St} {e : List Int} (h : EnvA a e) (ha : a.Fine) : EnvOk e := ⟨h.1, fun i hi => by
  have h1 := h.2 i hi
  have h2 := ha.hi
  unfold St.El at h1
  omega⟩
/-- what is kept is right -/
theorem memo_ev {T : TypeId} {a : St} {B : Nat} {w0 w : World} {hs ts : List (Nat × Obj)} {K : Memo} {fm : Fm} {p j m : Nat} {L : List (Int × Bool)} {en : List Int} (ha : a.Fine) (hK : MemoOk T a ts K) (hts : ∀ x ∈ ts, x ∈ hs) (hw : Own B w0 hs w) (hT : TreeB T ts fm p) (hwf : wfF fm) (hE : EnvA a en) (hj : K[j]? = some (p, m, L)) :
    ∀ c, (keyF fm en, c) ∈ L → c = ev a fm en := fun c hc => by
  obtain ⟨fm', h1, h2, h3⟩ := hK _ (List.mem_of_getElem? hj)
  have e := TreeB.same hw (h2.more hts) (hT.more hts)
  subst e
  obtain ⟨e, g1, g2, g3⟩ := h3 _ hc
  exact g3.symm.trans (key_ev hwf (g1.ok ha) (hE.ok ha) g2)
theorem memoK_get {K : Memo} {j p m : Nat} {L : List (Int × Bool)} (h : K[j]? = some (p, m, L)) : (memoK K)[j]? = some (p, m) := by unfold memoK; rw [List.getElem?_map, h]; rfl
theorem memoB_get {K : Memo} {j p m : Nat} {L : List (Int × Bool)} (h : K[j]? = some (p, m, L)) : (memoB K)[j]? = some (m, mapI L) := by unfold memoB; rw [List.getElem?_map, h]; rfl
theorem memoB_at {K : Memo} {j p m : Nat} {L : List (Int × Bool)} {r : List (Nat × Obj)} (h : K[j]? = some (p, m, L)) : (memoB K ++ r)[j]? = some (m, mapI L) := by
  have := memoB_get h
  rw [List.getElem?_append_left (List.getElem?_eq_some_iff.1 this).1]; exact this
theorem memoB_set {K : Memo} {j p m : Nat} {L L' : List (Int × Bool)} {r : List (Nat × Obj)} (h : K[j]? = some (p, m, L)) : (memoB K ++ r).set j (m, mapI L') = memoB (K.set j (p, m, L')) ++ r := by
  have h1 := (List.getElem?_eq_some_iff.1 (memoB_get h)).1
  rw [List.set_append_left _ _ h1]
  unfold memoB
  rw [List.map_set]
theorem memoK_set {K : Memo} {j p m : Nat} {L L' : List (Int × Bool)} (h : K[j]? = some (p, m, L)) : memoK (K.set j (p, m, L')) = memoK K := by
  unfold memoK
  rw [List.map_set]
  exact set_same (by rw [List.getElem?_map, h]; rfl)
theorem memoB_add (K : Memo) (p m : Nat) : memoB (K ++ [(p, m, [])]) = memoB K ++ [(m, mapI [])] := by unfold memoB; rw [List.map_append]; rfl
theorem memoK_add (K : Memo) (p m : Nat) : memoK (K ++ [(p, m, [])]) = memoK K ++ [(p, m)] := by unfold memoK; rw [List.map_append]; rfl
/-- is a pointer among the keys, and what is kept of it? -/
theorem memo_case (K : Memo) (p : Nat) : (∀ x ∈ memoK K, x.1 ≠ p) ∨ ∃ j m L, K[j]? = some (p, m, L) ∧ ∀ (q : Nat) (x : Nat × Nat), q < j → (memoK K)[q]? = some x → x.1 ≠ p := by
  rcases key_case (memoK K) p with h | ⟨j, m, h1, h2⟩
  · exact .inl h
  · unfold memoK at h1
    rw [List.getElem?_map] at h1
    cases e : K[j]? with
    | none => rw [e] at h1; cases h1
    | some y =>
      rw [e] at h1
      have h3 : (y.1, y.2.1) = (p, m) := by simpa using h1
      injection h3 with h3 h4
      exact .inr ⟨j, m, y.2.2, by rw [e, ← h3, ← h4], h2⟩
theorem has_case (L : List (Int × Bool)) (k : Int) : (∀ x ∈ L, x.1 ≠ k) ∨ ∃ x ∈ L, x.1 = k := by
  rcases Classical.em (∃ x ∈ L, x.1 = k) with h | h
  · exact .inr h
  · exact .inl fun x hx e => h ⟨x, hx, e⟩
theorem TreeB.key {T : TypeId} {B : Nat} {w0 : World} {hs hs' : List (Nat × Obj)} {fm : Fm} {p : Nat} (h : TreeB T hs fm p) (hsub : ∀ x ∈ hs, x ∈ hs') : KeysIn B w0 hs' p := fun w hw => by
  obtain ⟨c, vs, ps, vv, pv, h1, _⟩ := h.node
  exact ⟨_, _, (hw.mem (hsub _ h1)).2⟩
theorem MemoOk.keys {T : TypeId} {a : St} {B : Nat} {w0 : World} {hs hs' : List (Nat × Obj)} {K : Memo} (h : MemoOk T a hs K) (hsub : ∀ x ∈ hs, x ∈ hs') : ∀ x ∈ memoK K, KeysIn B w0 hs' x.1 := fun x hx => by
  obtain ⟨y, hy, rfl⟩ := List.mem_map.1 hx
  obtain ⟨fm, _, h2, _⟩ := h y hy
  exact h2.key hsub
theorem MemoOk.add {T : TypeId} {a : St} {hs : List (Nat × Obj)} {K : Memo} {fm : Fm} {p m : Nat} (h : MemoOk T a hs K) (hT : TreeB T hs fm p) (hwf : wfF fm) : MemoOk T a hs (K ++ [(p, m, [])]) := fun x hx => by
  rcases List.mem_append.1 hx with hx | hx
  · exact h x hx
  · rw [List.mem_singleton.1 hx]
    exact ⟨fm, hwf, hT, fun y hy => by cases hy⟩
theorem MemoOk.set {T : TypeId} {a : St} {B : Nat} {w0 w : World} {hs ts : List (Nat × Obj)} {K : Memo} {fm : Fm} {p j m : Nat} {L L' : List (Int × Bool)} {en : List Int} (h : MemoOk T a ts K) (hts : ∀ x ∈ ts, x ∈ hs) (hw : Own B w0 hs w) (hT : TreeB T ts fm p) (hwf : wfF fm) (hE : EnvA a en) (hj : K[j]? = some (p, m, L)) (hL : ∀ x ∈ L', x ∈ L ∨ x = (keyF fm en, ev a fm en)) : MemoOk T a ts (K.set j (p, m, L')) := fun x hx => by
  rcases List.mem_or_eq_of_mem_set hx with hx | rfl
  · exact h x hx
  · obtain ⟨fm', h1, h2, h3⟩ := h _ (List.mem_of_getElem? hj)
    have e := TreeB.same hw (h2.more hts) (hT.more hts)
    subst e
    refine ⟨fm', hwf, hT, fun y hy => ?_⟩
    rcases hL y hy with hy | rfl
    · exact h3 y hy
    · exact ⟨en, hE, rfl, rfl⟩
end Go.Wk
namespace Go.Wk
open Go.RowKit
theorem formO_none {f : List UInt8} (h : parse f = none) : formO f = none := by unfold formO; rw [h]; simp
theorem formO_rest {f r : List UInt8} {p : Fm} (h : parse f = some (p, r)) (hr : ¬ r = []) : formO f = none := by
  unfold formO; rw [h]
  cases r with
  | nil => exact absurd rfl hr
  | cons c r => simp
def szF : Fm → Nat
  | .leaf _ _ => 0
  | .one _ _ p => szF p + 1
  | .two _ p q => szF p + szF q + 1
theorem rank_sub1 {c : UInt8} {vs : List UInt8} {q : Fm} : rankF q ≤ rankF (.one c vs q) := by
  show _ ≤ (if c = 33 then rankF q else if c = 65 ∨ c = 83 then rankF q + 1 else rankF q + (c.toNat - 48))
  split
  · exact Nat.le_refl _
  · split <;> omega
theorem rank_sub2 {c : UInt8} {q r : Fm} : rankF q ≤ rankF (.two c q r) ∧ rankF r ≤ rankF (.two c q r) := by
  show _ ≤ max _ _ ∧ _ ≤ max _ _
  omega
def cntI (c : UInt8) : Prop := (c.toNat : Int) = 50 ∨ (c.toNat : Int) = 51 ∨ (c.toNat : Int) = 52
theorem leaf_letter {c : UInt8} {vs : List UInt8} (h : wfF (.leaf c vs)) : ¬ quI (c.toNat : Int) ∧ ¬ cntI c := by
  unfold quI cntI
  rcases leaf_op h with hc | ⟨rfl, _⟩ | ⟨hc, _⟩
  · rcases hc with rfl | rfl <;> decide
  · decide
  · rcases hc with rfl | rfl <;> decide
theorem two_letter {c : UInt8} {p q : Fm} (h : wfF (.two c p q)) : ¬ quI (c.toNat : Int) ∧ ¬ cntI c := by
  unfold quI cntI
  rcases two_op h with rfl | rfl <;> decide
theorem one_letter {c : UInt8} {vs : List UInt8} {q : Fm} (h : wfF (.one c vs q)) : (quI (c.toNat : Int) ∧ ∃ v, vs = [v] ∧ isV v = true) ∨ (c = 33 ∧ vs = []) := by
  cases vs with
  | nil => exact .inr ⟨one_no_var h, rfl⟩
  | cons v vs =>
    obtain ⟨h1, rfl, h3⟩ := one_var h
    refine .inl ⟨?_, v, rfl, h3⟩
    unfold quI
    rcases h1 with rfl | rfl | rfl | rfl | rfl <;> decide
theorem rank_end1 {c : UInt8} {vs : List UInt8} {q : Fm} (hc : cntI c) : (rankF q : Int) + ((c.toNat : Int) - 48) = ((rankF (.one c vs q) : Nat) : Int) := by
  have hq : quI (c.toNat : Int) := by unfold cntI at hc; unfold quI; omega
  rw [rank_cnt hq (by unfold cntI at hc; omega)]; omega
theorem rank_end2 {c : UInt8} {vs : List UInt8} {q : Fm} (hc : ¬ cntI c) (hq : quI (c.toNat : Int)) : (rankF q : Int) + 1 = ((rankF (.one c vs q) : Nat) : Int) := by
  rw [rank_one (by unfold cntI at hc; unfold quI at hq; omega)]
theorem rank_end3 {c : UInt8} {vs : List UInt8} {q : Fm} (h : wfF (.one c vs q)) (hq : ¬ quI (c.toNat : Int)) : (rankF q : Int) = ((rankF (.one c vs q) : Nat) : Int) := by
  rcases one_letter h with ⟨h1, _⟩ | ⟨rfl, rfl⟩
  · exact absurd h1 hq
  · rfl
end Go.Wk
namespace Go.Wk
open Go.RowKit
section
variable {P : Program} {n : Nat} {C : World → Prop} {B : Nat} {w0 : World} {hs hs' : List (Nat × Obj)} {N R : Act → World → Prop} {X : List (Nat × (Act → World → Prop))} {e : Env} {ops : Array Oper} {l : List Oper} {o : Oper}
theorem OpQ.indexAgg {t el : TypeId} {m : Nat} {x y : Operand} {xs : List Int} {k : IntKind} {i : Int} (h : o.op = .index t x y) (hu : ∀ w, (underlying t).run P w = .ok (.array m el) w) (hag : ∀ w, (isAgg el).run P w = .ok false w) (hz : ∀ w, (sizeOf el).run P w = .ok 1 w)
    (hx : opd e x = some (.agg (ints xs).toArray)) (hy : opd e y = some (.int k i)) (h0 : 0 ≤ i) (h1 : i < m) (hl : xs.length = m) : OpQ P n C e o (.int .i64 (xs.getD i.toNat 0)) := OpQ.val fun A hF w => by
  unfold execOp; rw [h]; simp only [hF.opd hx, hF.opd hy]
  have hc : ((ints xs).toArray)[i.toNat]? = some (.int .i64 (xs.getD i.toNat 0)) := by
    have hi : i.toNat < xs.length := by omega
    rw [List.getElem?_toArray]
    unfold ints
    rw [List.getElem?_map, List.getElem?_eq_getElem hi, getD_at hi]; rfl
  simp only [Instr.index, asIntOf, Sem.run_bind, Sem.run_pure, hu, Result.andThen, if_pos (And.intro h0 h1), hz, part, hag, Nat.mul_one]
  simp [hc]
/-- a structure out of a holder -/
theorem OpQ.loadHold {t : TypeId} {x : Operand} {p : Nat} {a : St} {k : Value} {T : TypeId} {fr : Nat × Nat} (i : Nat) (h : o.op = .load t x) (hag : ∀ w, (isAgg t).run P w = .ok true w) (hsz : ∀ w, (sizeOf t).run P w = .ok 3 w) (hx : opd e x = some (.pointer (some ⟨p, 0, none⟩)))
    (hi : hs[i]? = some (p, .cells #[.int .i64 a.n, str a.set, str a.rel, k] T fr)) : OpQ P n (Own B w0 hs) e o (vS a) :=
  OpQ.loadN (cs := #[.int .i64 a.n, str a.set, str a.rel]) h hag hsz hx fun w hw j v hj => by
    rw [Addr.add_lit, hw.cell hi, Nat.zero_add]
    match j, hj with
    | 0, hj => exact hj
    | 1, hj => exact hj
    | 2, hj => exact hj
    | j + 3, hj => simp at hj
theorem Row.u8 {w : World} {v : Value} {vs : List UInt8} (h : Row w v (vs.map u8V)) {i : Int} (h0 : 0 ≤ i) (h1 : i < vs.length) : w.cell? (sAt v i) = some (.int .u8 ((vs.getD i.toNat 0).toNat : Int)) := by
  have hi : i.toNat < vs.length := by omega
  rw [Row.cell h h0 (by rw [List.length_map]; exact h1), getD_at hi]
  congr 1
  rw [List.getD_eq_getElem?_getD, List.getElem?_map, List.getElem?_eq_getElem hi]; rfl
/-- the blocks of a holder ahead of others -/
abbrev memoF (TH h M : Nat) (a : St) (K : Memo) (r : List (Nat × Obj)) : List (Nat × Obj) := (h, .cells #[.int .i64 a.n, str a.set, str a.rel, .map (some M)] TH (0, 0)) :: (M, mapP (memoK K)) :: (memoB K ++ r)
theorem Own.offMemo {w : World} {M : Nat} {K : Memo} {f : List (Nat × Obj)} (h : Own B w0 (f ++ ((M, mapP (memoK K)) :: (memoB K ++ hs))) w) : Own B w0 (f ++ hs) w :=
  h.sub (List.Sublist.append_left (List.Sublist.cons _ (List.sublist_append_right _ _)) f)
theorem memo_perm {TH h M : Nat} {a : St} {K : Memo} (f r : List (Nat × Obj)) : (f ++ memoF TH h M a K r).Perm (memoF TH h M a K (f ++ r)) := by
  have e : ∀ r, memoF TH h M a K r = ((h, Obj.cells #[.int .i64 a.n, str a.set, str a.rel, .map (some M)] TH (0, 0)) :: (M, mapP (memoK K)) :: memoB K) ++ r := fun _ => rfl
  rw [e, e]
  exact perm_back f _ r
theorem Ll.callMemo {TH h M d f : Nat} {a : St} {K : Memo} {ok : Memo → Prop} {b : Bool} {xs : List Operand} {ts : Array TypeId} {vs : List Value} (front : List (Nat × Obj)) (hd : Nat.blt d n = true) (hdst : o.dst = some d) (hg : wantE ops e o.guard = some true) (ho : o.op = .call ⟨.value (.func f), xs.toArray, ts⟩)
    (hcf : ∀ args w, (callFunc f args).run P w = .ok (.enter f args) w) (hx : opds e xs = some vs)
    (hc : ∀ w, Own B w0 (memoF TH h M a K (front ++ hs)) w → Calls P f vs.toArray w fun en w' => ∃ K', en = .returned (.bool b) ∧ ok K' ∧ Own B w0 (memoF TH h M a K' (front ++ hs)) w')
    (k : ∀ K', ok K' → Ll P n (Own B w0 (front ++ memoF TH h M a K' hs)) ops l ((d, .bool b) :: e) N R X) : Ll P n (Own B w0 (front ++ memoF TH h M a K hs)) ops (o :: l) e N R X :=
  Ll.call hd hdst hg ho hcf hx fun w hw => (hc w (hw.perm (memo_perm _ _))).mono fun en w' ⟨K', h1, h2, h3⟩ => ⟨_, h1, fun a' ha => by
    have := k K' h2
    unfold Ll at this
    exact this a' w' ha (h3.perm (memo_perm _ _).symm)⟩
end
theorem memo_new {M m p : Nat} {K : Memo} (f r : List (Nat × Obj)) : ((m, mapI []) :: (f ++ ((M, mapP (memoK K ++ [(p, m)])) :: (memoB K ++ r)))).Perm (f ++ ((M, mapP (memoK (K ++ [(p, m, [])]))) :: (memoB (K ++ [(p, m, [])]) ++ r))) := by
  rw [memoK_add, memoB_add, List.append_assoc]
  refine (List.perm_middle (a := (m, mapI [])) (l₁ := f) (l₂ := ((M, mapP (memoK K ++ [(p, m)])) :: (memoB K ++ r)))).symm.trans (List.Perm.append_left f ?_)
  refine (List.Perm.swap _ _ _).trans (List.Perm.cons _ ?_)
  exact (List.perm_middle (a := (m, mapI [])) (l₁ := memoB K) (l₂ := r)).symm
theorem memo_set2 {M m p j : Nat} {K : Memo} {x y : Nat × Obj} {r : List (Nat × Obj)} {L L' : List (Int × Bool)} (hj : K[j]? = some (p, m, L)) : (x :: y :: (M, mapP (memoK K)) :: (memoB K ++ r)).set (j + 3) (m, mapI L') = x :: y :: (M, mapP (memoK (K.set j (p, m, L')))) :: (memoB (K.set j (p, m, L')) ++ r) := by
  rw [memoK_set hj, ← memoB_set hj]; rfl
theorem memo_last {K : Memo} {p m : Nat} (h : ∀ x ∈ memoK K, x.1 ≠ p) : (K ++ [(p, m, [])])[K.length]? = some (p, m, []) ∧ ∀ (q : Nat) (x : Nat × Nat), q < K.length → (memoK (K ++ [(p, m, [])]))[q]? = some x → x.1 ≠ p := by
  refine ⟨by simp, fun q x hq hx => ?_⟩
  rw [memoK_add, List.getElem?_append_left (by unfold memoK; rw [List.length_map]; exact hq)] at hx
  exact h x (List.mem_of_getElem? hx)
theorem memo_case3 (K : Memo) (p : Nat) (k : Int) : (∀ x ∈ memoK K, x.1 ≠ p) ∨ (∃ j m L, K[j]? = some (p, m, L) ∧ (∀ (q : Nat) (x : Nat × Nat), q < j → (memoK K)[q]? = some x → x.1 ≠ p) ∧ ∀ x ∈ L, x.1 ≠ k) ∨ ∃ j m L, K[j]? = some (p, m, L) ∧ (∀ (q : Nat) (x : Nat × Nat), q < j → (memoK K)[q]? = some x → x.1 ≠ p) ∧ ∃ x ∈ L, x.1 = k := by
  rcases memo_case K p with h | ⟨j, m, L, h1, h2⟩
  · exact .inl h
  · rcases has_case L k with h3 | h3
    · exact .inr (.inl ⟨j, m, L, h1, h2, h3⟩)
    · exact .inr (.inr ⟨j, m, L, h1, h2, h3⟩)
theorem leaf_by {c : UInt8} {vs : List UInt8} (h : wfF (.leaf c vs)) : (((c.toNat : Int) = 116 ∨ (c.toNat : Int) = 102) ∧ vs = []) ∨ ((c.toNat : Int) = 80 ∧ ∃ v, vs = [v] ∧ isV v = true) ∨ (((c.toNat : Int) = 61 ∨ (c.toNat : Int) = 69) ∧ ∃ v u, vs = [v, u] ∧ isV v = true ∧ isV u = true) := by
  have hv := h.2.2.2
  have hl := h.2.2.1
  rcases leaf_op h with hc | ⟨rfl, v, rfl⟩ | ⟨hc, v, u, rfl⟩
  · refine .inl ⟨?_, ?_⟩
    · rcases hc with rfl | rfl <;> decide
    · have e : arV c = 0 := by rcases hc with rfl | rfl <;> rfl
      exact List.length_eq_zero_iff.1 (by omega)
  · exact .inr (.inl ⟨by decide, v, rfl, hv v (by simp)⟩)
  · refine .inr (.inr ⟨?_, v, u, rfl, hv v (by simp), hv u (by simp)⟩)
    rcases hc with rfl | rfl <;> decide
theorem one_by {c : UInt8} {vs : List UInt8} {q : Fm} (h : wfF (.one c vs q)) : ((c.toNat : Int) = 33 ∧ vs = []) ∨ (quI (c.toNat : Int) ∧ ∃ v, vs = [v] ∧ isV v = true) := by
  rcases one_letter h with ⟨h1, v, h2, h3⟩ | ⟨rfl, h2⟩
  · exact .inr ⟨h1, v, h2, h3⟩
  · exact .inl ⟨by decide, h2⟩
theorem two_by {c : UInt8} {p q : Fm} (h : wfF (.two c p q)) : (c.toNat : Int) = 38 ∨ (c.toNat : Int) = 124 := by
  rcases two_op h with rfl | rfl <;> decide
theorem fm_by {fm : Fm} (h : wfF fm) : (∃ c, fm = .leaf c [] ∧ ((c.toNat : Int) = 116 ∨ (c.toNat : Int) = 102)) ∨ (∃ c v, fm = .leaf c [v] ∧ (c.toNat : Int) = 80 ∧ isV v = true) ∨ (∃ c v u, fm = .leaf c [v, u] ∧ ((c.toNat : Int) = 61 ∨ (c.toNat : Int) = 69) ∧ isV v = true ∧ isV u = true) ∨
    (∃ c q, fm = .one c [] q ∧ (c.toNat : Int) = 33) ∨ (∃ c v q, fm = .one c [v] q ∧ quI (c.toNat : Int) ∧ isV v = true) ∨ ∃ c q r, fm = .two c q r ∧ ((c.toNat : Int) = 38 ∨ (c.toNat : Int) = 124) := by
  cases fm with
  | leaf c vs =>
    rcases leaf_by h with ⟨h1, rfl⟩ | ⟨h1, v, rfl, h2⟩ | ⟨h1, v, u, rfl, h2, h3⟩
    · exact .inl ⟨c, rfl, h1⟩
    · exact .inr (.inl ⟨c, v, rfl, h1, h2⟩)
    · exact .inr (.inr (.inl ⟨c, v, u, rfl, h1, h2, h3⟩))
  | one c vs q =>
    rcases one_by h with ⟨h1, rfl⟩ | ⟨h1, v, rfl, h2⟩
    · exact .inr (.inr (.inr (.inl ⟨c, q, rfl, h1⟩)))
    · exact .inr (.inr (.inr (.inr (.inl ⟨c, v, q, rfl, h1, h2⟩))))
  | two c q r => exact .inr (.inr (.inr (.inr (.inr ⟨c, q, r, rfl, two_by h⟩))))
section
variable {a : St} {en : List Int} {c v u : UInt8} {q r : Fm}
theorem ev116 (h : (c.toNat : Int) = 116) : true = ev a (.leaf c []) en := by
  obtain rfl : c = 116 := u8_of (n := 116) (by decide) h
  rfl
theorem ev102 (h : (c.toNat : Int) = 102) : false = ev a (.leaf c []) en := by
  obtain rfl : c = 102 := u8_of (n := 102) (by decide) h
  rfl
theorem ev80 (h : (c.toNat : Int) = 80) : a.inSet (en.getD (vI v) 0) = ev a (.leaf c [v]) en := by
  obtain rfl : c = 80 := u8_of (n := 80) (by decide) h
  rfl
theorem ev33 (h : (c.toNat : Int) = 33) : (!ev a q en) = ev a (.one c [] q) en := by
  obtain rfl : c = 33 := u8_of (n := 33) (by decide) h
  rfl
theorem ev38 (h : (c.toNat : Int) = 38) : (ev a q en && ev a r en) = ev a (.two c q r) en := by
  obtain rfl : c = 38 := u8_of (n := 38) (by decide) h
  rfl
theorem ev124 (h : (c.toNat : Int) = 124) : (ev a q en || ev a r en) = ev a (.two c q r) en := by
  obtain rfl : c = 124 := u8_of (n := 124) (by decide) h
  rfl
theorem and_t {x y z : Bool} (h : (x && y) = z) (hx : x = true) : y = z := by rw [hx] at h; exact h
theorem and_f {x y z : Bool} (h : (x && y) = z) (hx : x = false) : false = z := by rw [hx] at h; exact h
theorem or_t {x y z : Bool} (h : (x || y) = z) (hx : x = true) : true = z := by rw [hx] at h; exact h
theorem or_f {x y z : Bool} (h : (x || y) = z) (hx : x = false) : y = z := by rw [hx] at h; exact h
theorem ev_qu (h : quI (c.toNat : Int)) : ev a (.one c [v] q) en = decide (need c a.n.toNat ≤ cntT (evC a v q en) a.n.toNat) := by
  unfold ev
  rw [if_neg (fun e => by subst e; revert h; decide)]; rfl
theorem ev65 (h : (c.toNat : Int) = 65) {x : Nat} (hx : (x : Int) = a.n) : decide ((cntT (evC a v q en) x : Int) = a.n) = ev a (.one c [v] q) en := by
  rw [ev_qu (by unfold quI; omega), decide_eq_decide]
  have hn := need65 h (show 0 ≤ a.n by omega)
  have hl := cntT_le (evC a v q en) x
  obtain rfl : x = a.n.toNat := by omega
  omega
theorem ev83 (h : (c.toNat : Int) = 83) {x : Nat} (hx : (x : Int) = a.n) : decide ((0 : Int) < (cntT (evC a v q en) x : Int)) = ev a (.one c [v] q) en := by
  rw [ev_qu (by unfold quI; omega), decide_eq_decide]
  have hn := need83 (n := a.n.toNat) h
  obtain rfl : x = a.n.toNat := by omega
  omega
theorem ev234 (hq : quI (c.toNat : Int)) (h65 : ¬ (c.toNat : Int) = 65) (h83 : ¬ (c.toNat : Int) = 83) {x : Nat} (hx : (x : Int) = a.n) : decide ((c.toNat : Int) - 48 ≤ (cntT (evC a v q en) x : Int)) = ev a (.one c [v] q) en := by
  rw [ev_qu hq, decide_eq_decide]
  have hn := need234 (c := c) (n := a.n.toNat) (by unfold quI at hq; omega)
  obtain rfl : x = a.n.toNat := by omega
  omega
end
theorem bit_and {b i : Nat} : decide (((b / 2 ^ i &&& 1 : Nat) : Int) = 1) = b.testBit i := by
  rw [Nat.testBit_eq_decide_div_mod_eq, decide_eq_decide, Nat.and_one_is_mod]
  omega
theorem key_bound {a : St} {en : List Int} (hE : EnvA a en) (ha : a.Fine) {b i : Nat} (hi : i ≤ 4) : kSum b en i < 4096 := by
  have h1 := kSum_lt (b := b) (hE.ok ha) hi
  have h2 : (8 : Nat) ^ i ≤ 8 ^ 4 := Nat.pow_le_pow_right (by decide) hi
  omega
theorem key_yes {a : St} {en : List Int} (hE : EnvA a en) (ha : a.Fine) {b i : Nat} (hi : i < 4) (hb : b.testBit i = true) : kSum b en i ||| (en.getD i 0).toNat * 2 ^ (3 * i) = kSum b en (i + 1) := by
  rw [Nat.pow_mul, show (2 : Nat) ^ 3 = 8 from rfl]
  exact kSum_or (hE.ok ha) hi hb
theorem key_no {en : List Int} {b i : Nat} (hb : b.testBit i = false) : kSum b en i = kSum b en (i + 1) := by
  rw [show kSum b en (i + 1) = kSum b en i + (if b.testBit i then (en.getD i 0).toNat * 8 ^ i else 0) from rfl, hb]; rfl
theorem key_val {a : St} {en : List Int} (hE : EnvA a en) (ha : a.Fine) {i : Nat} (hi : i < 4) : en.getD i 0 = ((en.getD i 0).toNat : Int) ∧ (en.getD i 0).toNat < 8 := by
  have := (hE.ok ha).2 i hi
  omega
theorem shl_bound {x i : Nat} (hx : x < 8) (hi : i < 4) : x * 2 ^ (3 * i) < 4611686018427387904 := by
  have h2 : (2 : Nat) ^ (3 * i) ≤ 2 ^ 9 := Nat.pow_le_pow_right (by decide) (by omega)
  have := Nat.mul_le_mul (show x ≤ 7 by omega) h2
  omega
end Go.Wk
namespace Go.Wk
abbrev zU := @Own.offMemo
abbrev xI := @Ll.callMemo
end Go.Wk
namespace Go.Wk
open Go.RowKit
section
variable {P : Program} {n : Nat} {C : World → Prop} {B : Nat} {w0 : World} {hs hs' : List (Nat × Obj)} {N R : Act → World → Prop} {X : List (Nat × (Act → World → Prop))} {e : Env} {ops : Array Oper} {l : List Oper} {o : Oper}
theorem OpQ.sliceAll {t el : TypeId} {m : Nat} {x : Operand} {b : Nat} (h : o.op = .slice t x none none none) (hu : ∀ w, (underlying t).run P w = .ok (.array m el) w) (hz : ∀ w, (sizeOf el).run P w = .ok 1 w)
    (hx : opd e x = some (.pointer (some ⟨b, 0, none⟩))) : OpQ P n C e o (.slice (some ⟨b, 0, none⟩) m m) := OpQ.val fun A hF w => by
  unfold execOp; rw [h]; simp only [hF.opd hx, Option.map_none]
  simp only [Instr.sliceAt, Instr.sureAddr, Instr.sliceBounds, Sem.run_bind, Sem.run_pure, hu, hz, Result.andThen]
  simp [Addr.add]
theorem Ll.copyEnv {dT sT elem T : TypeId} {d g : Nat} {x y : Operand} {v : Value} {xs : List Int} (i : Nat) (hd : Nat.blt d n = true) (hdst : o.dst = some d) (hg : wantE ops e o.guard = some true) (h : o.op = .call ⟨.builtin .copy, #[x, y], #[dT, sT]⟩)
    (hu : P.underlying dT = some (.slice elem)) (hsz : (P.info? elem).map (·.size) = some 1) (hx : opd e x = some (.slice (some ⟨g, 0, none⟩) 4 4)) (hy : opd e y = some v) (hi : hs[i]? = some (g, .cells (ints [0, 0, 0, 0]).toArray T (0, 0))) (hr : ∀ w, Own B w0 hs w → Ints w v xs) (hl : xs.length ≤ 4)
    (k : Ll P n (Own B w0 (hs.set i (g, .cells (ints (envL xs)).toArray T (0, 0)))) ops l ((d, .int .i64 (xs.length : Int)) :: e) N R X) : Ll P n (Own B w0 hs) ops (o :: l) e N R X :=
  Ll.turn hd hdst hg fun a w hF hw => by
    obtain ⟨src, cap, rfl, _, h3, h4⟩ := hr w hw
    have hlen : (ints xs).length = xs.length := ints_length _
    have hgc := (hw.has i g _ hi).2
    by_cases h0 : xs = []
    · subst h0
      refine ⟨.int .i64 (([] : List Int).length : Int), w, ?_, fun a' ha => ?_⟩
      · unfold execOp; rw [h]
        simp only [resolve, invoke, BigFrame.builtin_copy, List.map_toArray, List.map_cons, List.map_nil, hF.opd hx, hF.opd hy, Sem.run_bind, Sem.run_pure, Result.andThen]
        rw [run_copy_none w dT sT _ elem (some ⟨g, 0, none⟩) src 4 4 (ints ([] : List Int)).length cap hu hsz (by rw [ints_length]; rfl)]
        rfl
      · unfold Ll at k
        refine k a' w ha ?_
        rw [show envL [] = [0, 0, 0, 0] from rfl, set_same hi]; exact hw
    · have hone : ∀ v ∈ ints xs, v.oneCell' = true := fun v hv => by
        obtain ⟨z, _, rfl⟩ := List.mem_map.1 hv; rfl
      obtain ⟨ad, rfl⟩ : ∃ ad, src = some ad := by
        cases src with
        | none =>
          have := h3 rfl
          exact absurd (List.map_eq_nil_iff.1 this) h0
        | some ad => exact ⟨ad, rfl⟩
      obtain ⟨bk, off, sp⟩ := ad
      obtain rfl : sp = none := (h4 _ rfl).1
      have hcells : ∀ (j : Nat) (u : Value), (ints xs)[j]? = some u → w.cell? ((⟨bk, off, none⟩ : Addr).add j) = some u := fun j u hu => by rw [Addr.add_lit]; exact (h4 _ rfl).2 j u hu
      have e1 : ((ints [0, 0, 0, 0]).toArray.toList.take 0 ++ ints xs ++ (ints [0, 0, 0, 0]).toArray.toList.drop (0 + (ints xs).length)).toArray = (ints (envL xs)).toArray := by
        have e2 : (ints [0, 0, 0, 0]).drop xs.length = ints (List.replicate (4 - xs.length) 0) := by
          rw [show ([0, 0, 0, 0] : List Int) = List.replicate 4 0 from rfl]
          unfold ints
          rw [List.map_replicate, List.map_replicate, List.drop_replicate]
        rw [Nat.zero_add, hlen, List.take_zero, List.nil_append]
        show (ints xs ++ (ints [0, 0, 0, 0]).drop xs.length).toArray = _
        rw [e2]
        unfold envL ints
        rw [List.map_append]
      refine ⟨.int .i64 (xs.length : Int), w.setRow g (ints (envL xs)).toArray, ?_, fun a' ha => ?_⟩
      · unfold execOp; rw [h]
        simp only [resolve, invoke, BigFrame.builtin_copy, List.map_toArray, List.map_cons, List.map_nil, hF.opd hx, hF.opd hy, Sem.run_bind, Sem.run_pure, Result.andThen]
        rw [run_copy_row (P := P) w dT sT _ elem g 0 4 4 ⟨bk, off, none⟩ (ints xs).length cap (ints [0, 0, 0, 0]).toArray T (ints xs) hu hsz hgc (by rw [hlen]; exact (Nat.min_eq_left hl).symm) hcells (by rw [hlen, List.size_toArray, ints_length]; simpa using hl) hone, e1]
        show Result.ok _ _ = _
        rw [hlen]; rfl
      · unfold Ll at k
        exact k a' _ ha (hw.setRow hi _)
end
theorem hold_none {a : St} {f : List UInt8} {xs : List Int} (h : formO f = none) : holdO a f xs = none := holdO_none fun p e _ => by rw [h] at e; cases e
theorem hold_bad {a : St} {f : List UInt8} {xs : List Int} {fm : Fm} (h : formO f = some fm) (k : validB a = false ∨ 4 < (xs.length : Int) ∨ xs.all (elB a) = false ∨ ¬ ((frB fm / 2 ^ xs.length : Nat) : Int) = 0) : holdO a f xs = none := holdO_none fun p e ⟨h1, h2, h3, h4⟩ => by
  rw [h] at e
  injection e with e
  subst e
  rcases k with k | k | k | k
  · rw [k] at h1; cases h1
  · omega
  · have : xs.all (elB a) = true := List.all_eq_true.2 fun x hx => elB_true.2 (h3 x hx)
    rw [k] at this; cases this
  · omega
theorem hold_good {a : St} {f : List UInt8} {xs : List Int} {fm : Fm} (h : formO f = some fm) (h1 : validB a = true) (h2 : xs.length ≤ 4) (h3 : xs.all (elB a) = true) (h4 : ((frB fm / 2 ^ xs.length : Nat) : Int) = 0) : holdO a f xs = some (ev a fm (envL xs)) :=
  holdO_some h ⟨h1, h2, fun x hx => elB_true.1 (List.all_eq_true.1 h3 x hx), by omega⟩
theorem hold_ret {a : St} {f : List UInt8} {xs : List Int} {o : Option Bool} (h : holdO a f xs = o) : (Value.tuple #[.bool (o.getD false), .bool o.isSome]) = .tuple #[.bool (holdV a f xs), .bool (holdK a f xs)] := by
  unfold holdV holdK; rw [h]
end Go.Wk
namespace Go.Wk
open Go.RowKit
theorem bool_no {b : Bool} (h : b = true) (k : b = false) : false = true := by rw [← k, h]
theorem bne_no {b : Bool} (h : (b != b) = true) : false = true := by simp at h
theorem dec_no {x y : Int} (h : (decide (x = y) != decide (y = x)) = true) : false = true := by
  rw [show decide (x = y) = decide (y = x) from decide_eq_decide.2 eq_comm] at h; exact bne_no h
theorem low_bits {x k : Nat} (h : x < 16) (hb : ∀ i : Nat, i < 4 → x.testBit i = true → i < k) : x / 2 ^ k = 0 := by
  have h1 : x < 2 ^ k := Nat.lt_pow_two_of_testBit x fun i hi => by
    cases e : x.testBit i with
    | false => rfl
    | true =>
      rcases Nat.lt_or_ge i 4 with h4 | h4
      · have := hb i h4 e; omega
      · have h5 : (16 : Nat) ≤ 2 ^ i := by
          have := Nat.pow_le_pow_right (n := 2) (by decide) h4
          simpa using this
        rw [Nat.testBit_lt_two_pow (by omega)] at e; cases e
  exact Nat.div_eq_of_lt h1
theorem envL_take (ys : List Int) : (envL ys).take ys.length = ys := by unfold envL; rw [List.take_left' rfl]
/-- a text asked of elements -/
theorem tx_hold {s : List UInt8} {lo hi k w : Nat} {φ : St → List Int → Prop} (h : Tx s lo hi k w φ) (hs : s.length ≤ 4000) {b : St} {ys : List Int} (hb : validB b = true) (hl : ys.length = k) (h4 : k ≤ 4) (hy : b.Els ys) : holdK b s ys = true ∧ (holdV b s ys = true ↔ φ b (envL ys)) := by
  obtain ⟨p, g0, g1, g2, g3, g4, g5, g6⟩ := h.ex
  have hO : holdO b s ys = some (ev b p (envL ys)) := holdO_some (g0.formO hs) ⟨hb, by omega, hy, by rw [hl]; exact low_bits (frB_lt g0.wf) g3⟩
  obtain ⟨e1, e2⟩ := hold_yes hO
  refine ⟨e2, ?_⟩
  rw [e1]
  exact g6 b _ (envL_len (by omega))
theorem tx_rank {s : List UInt8} {lo hi k w : Nat} {φ : St → List Int → Prop} (h : Tx s lo hi k w φ) (hs : s.length ≤ 4000) : (lo : Int) ≤ rankI s ∧ rankI s ≤ (hi : Int) := by
  obtain ⟨p, g0, g1, g2, _⟩ := h.ex
  unfold rankI
  rw [g0.formO hs]
  exact ⟨by dsimp only; omega, by dsimp only; omega⟩
theorem ways_by {a b : St} {xs ys : List Int} (ha : listB a xs = true) (hb : listB b ys = true) (hl : xs.length = ys.length) : wayB a xs b ys = sameB a xs b ys := by
  unfold wayB listsB
  rw [ha, hb, decide_eq_true (show (xs.length : Int) = ys.length by omega)]; rfl
theorem way_holds {a b : St} {xs ys : List Int} (ha : listB a xs = true) (hb : listB b ys = true) (hl : xs.length = ys.length) : wayB a xs b ys = holdV b (formOut a xs) ys := by
  have h1 := listB_true ha
  have h2 := listB_true hb
  rw [ways_by ha hb hl, formOut_yes ha, Bool.eq_iff_iff]
  have := (tx_hold (form_same (a := a) (xs := xs) h1.len) (formB_len h1.len) (b := b) (ys := ys) h2.valid hl.symm h1.len h2.els).2
  rw [this, hl, envL_take]
theorem way_self {a : St} {xs : List Int} (ha : listB a xs = true) : wayB a xs a xs = true := by
  rw [ways_by ha ha rfl]; exact same_refl a xs
theorem form_holds {a : St} {xs : List Int} (ha : listB a xs = true) : holdV a (formOut a xs) xs = true := by
  rw [← way_holds ha ha rfl]; exact way_self ha
theorem form_rank {a : St} {xs : List Int} (ha : listB a xs = true) : rankI (formOut a xs) = 0 := by
  have h1 := listB_true ha
  rw [formOut_yes ha]
  have := tx_rank (form_same (a := a) (xs := xs) h1.len) (formB_len h1.len)
  omega
theorem bitS_one (b : Bool) : bitS b = [if b then 49 else 48] := by cases b <;> rfl
theorem atoms_at : ∀ {l : List (List UInt8 × Bool)} {j : Nat}, j < l.length → (atomsT l).getD j 0 = if (l.getD j ([], false)).2 then 49 else 48
  | [], _, h => by simp at h
  | f :: l, 0, _ => by
    unfold atomsT
    rw [List.flatMap_cons, bitS_one]; rfl
  | f :: l, j + 1, h => by
    have e : atomsT (f :: l) = bitS f.2 ++ atomsT l := by unfold atomsT; rw [List.flatMap_cons]
    rw [e, bitS_one]
    show (atomsT l).getD j 0 = _
    rw [atoms_at (by simpa using h)]; rfl
theorem bit_is {b c : Bool} (h : b = c) : (decide ((((if b then 49 else 48 : UInt8).toNat : Nat) : Int) = 49)) = c := by subst h; cases b <;> rfl
/-- where the facts of an element begin -/
def offF (i : Nat) : Nat := (factsA i).length
theorem moreA_len (i : Nat) : ∀ k : Nat, (moreA i k).length = 3 * k
  | 0 => rfl
  | k + 1 => by unfold moreA; rw [List.length_append, moreA_len i k]; simp only [List.length_cons, List.length_nil]; omega
theorem offF_step (i : Nat) : offF (i + 1) = offF i + 2 + 3 * i := by
  show (factsA i ++ ([At.P i, At.E i i] ++ moreA i i)).length = (factsA i).length + 2 + 3 * i
  rw [List.length_append, List.length_append, moreA_len]
  simp only [List.length_cons, List.length_nil]; omega
theorem moreA_at (i : Nat) : ∀ {k j : Nat}, j < k → (moreA i k)[3 * j]? = some (.Q j i) ∧ (moreA i k)[3 * j + 1]? = some (.E j i) ∧ (moreA i k)[3 * j + 2]? = some (.E i j)
  | 0, j, h => by omega
  | k + 1, j, h => by
    have hl := moreA_len i k
    unfold moreA
    rcases Nat.lt_or_ge j k with h1 | h1
    · obtain ⟨e1, e2, e3⟩ := moreA_at i h1
      rw [List.getElem?_append_left (by omega), List.getElem?_append_left (by omega), List.getElem?_append_left (by omega)]
      exact ⟨e1, e2, e3⟩
    · obtain rfl : j = k := by omega
      rw [List.getElem?_append_right (by omega), List.getElem?_append_right (by omega), List.getElem?_append_right (by omega), hl]
      rw [show 3 * j - 3 * j = 0 from by omega, show 3 * j + 1 - 3 * j = 1 from by omega, show 3 * j + 2 - 3 * j = 2 from by omega]
      exact ⟨rfl, rfl, rfl⟩
theorem factsA_pre : ∀ {n i : Nat}, i < n → ∀ {m : Nat} {t : At}, (factA i)[m]? = some t → (factsA n)[offF i + m]? = some t
  | 0, i, h, _, _, _ => by omega
  | n + 1, i, h, m, t, ht => by
    unfold factsA
    rcases Nat.lt_or_ge i n with h1 | h1
    · have := factsA_pre h1 ht
      rw [List.getElem?_append_left (List.getElem?_eq_some_iff.1 this).1]; exact this
    · obtain rfl : i = n := by omega
      rw [List.getElem?_append_right (by unfold offF; omega)]
      rw [show offF i + m - (factsA i).length = m from by unfold offF; omega]; exact ht
theorem fact_heads (i : Nat) : (factA i)[0]? = some (.P i) ∧ (factA i)[1]? = some (.E i i) := ⟨rfl, rfl⟩
theorem fact_more {i j m : Nat} {t : At} (h : (moreA i i)[3 * j + m]? = some t) : (factA i)[2 + 3 * j + m]? = some t := by
  unfold factA
  rw [List.getElem?_append_right (by simp only [List.length_cons, List.length_nil]; omega)]
  simp only [List.length_cons, List.length_nil]
  rw [show 2 + 3 * j + m - (0 + 1 + 1) = 3 * j + m from by omega]; exact h
/-- the bit of an atom -/
theorem atom_bit {a : St} {xs : List Int} (ha : listB a xs = true) {i m : Nat} {t : At} (hi : i < xs.length) (h : (factA i)[m]? = some t) : offF i + m < (atomsOut a xs).length ∧ decide ((((atomsOut a xs).getD (offF i + m) 0).toNat : Int) = 49) = t.val a xs := by
  have h1 := factsA_pre hi h
  have hlen := (List.getElem?_eq_some_iff.1 h1).1
  rw [atomsOut_yes ha]
  have hl : (factsL a xs xs.length).length = (factsA xs.length).length := by rw [factsA_is, List.length_map]
  refine ⟨by rw [atomsT_length, hl]; exact hlen, ?_⟩
  rw [atoms_at (by rw [hl]; exact hlen)]
  refine bit_is ?_
  rw [factsA_is, List.getD_eq_getElem?_getD, List.getElem?_map, h1]; rfl
theorem atoms_end {a : St} {xs : List Int} (ha : listB a xs = true) : (offF xs.length : Int) = ((atomsOut a xs).length : Int) := by
  rw [atomsOut_yes ha, atomsT_length, factsA_is, List.length_map]; rfl
theorem atoms_le {a : St} {xs : List Int} (ha : listB a xs = true) : (atomsOut a xs).length ≤ 26 := by
  rw [atomsOut_yes ha, atomsT_length]; exact factsL_length a xs xs.length (listB_true ha).len
end Go.Wk
namespace Go.Proofs
open Go.Shelf
def Tryd.lays137_ren : Go.Shelf.Ren := ⟨fun | 137 => 175 | 217 => 199 | 266 => 214 | n => n, fun | 9 => 9 | 5 => 5 | 3 => 3 | n => n, fun | n => n⟩
theorem Tryd.lays137 : Go.Proofs.Lays.n137 Tryd.prog Tryd.lays137_ren := {
  mixed := by kernel_rfl
  f137 := Tryd.func175.trans (congrArg some (by kernel_rfl))
  f217 := Tryd.func199.trans (congrArg some (by kernel_rfl))
  f266 := Tryd.func214.trans (congrArg some (by kernel_rfl))
  t3 := Tryd.underlying3
  a3 := Tryd.isAgg3
  z3 := Tryd.sizeOf3
  v3 := Tryd.zeroValue3
  t5 := Tryd.underlying5
  a5 := Tryd.isAgg5
  z5 := Tryd.sizeOf5
  v5 := Tryd.zeroValue5
  t9 := Tryd.underlying9
  a9 := Tryd.isAgg9
  z9 := Tryd.sizeOf9
  v9 := Tryd.zeroValue9 }
open Go.RowKit in
theorem Tryd.strings_IndexByte (s : ByteArray) (c : Int) (w : World) :
    Calls Tryd.prog 175 #[.string s, .int .u8 c] w fun e w' => e = .returned (.int .i64 (Lib.indexByte s.data.toList c.toNat.toUInt8)) ∧ w' = w := Any.strings_IndexByte Tryd.lays137 s c w
def Tryd.lays144_ren : Go.Shelf.Ren := ⟨fun | 144 => 167 | 143 => 197 | 219 => 213 | 217 => 199 | 225 => 223 | 224 => 224 | 267 => 225 | 266 => 214 | 314 => 227 | n => n, fun | 9 => 9 | 4 => 4 | 3 => 3 | 5 => 5 | 46 => 85 | 146 => 234 | 51 => 191 | n => n, fun | 1 => 2 | n => n⟩
theorem Tryd.lays144 : Go.Proofs.Lays.n144 Tryd.prog Tryd.lays144_ren := {
  mixed := by kernel_rfl
  f143 := Tryd.func197.trans (congrArg some (by kernel_rfl))
  f144 := Tryd.func167.trans (congrArg some (by kernel_rfl))
  f217 := Tryd.func199.trans (congrArg some (by kernel_rfl))
  f219 := Tryd.func213.trans (congrArg some (by kernel_rfl))
  f224 := Tryd.func224.trans (congrArg some (by kernel_rfl))
  f225 := Tryd.func223.trans (congrArg some (by kernel_rfl))
  f266 := Tryd.func214.trans (congrArg some (by kernel_rfl))
  f267 := Tryd.func225.trans (congrArg some (by kernel_rfl))
  f314 := Tryd.func227.trans (congrArg some (by kernel_rfl))
  t3 := Tryd.underlying3
  a3 := Tryd.isAgg3
  z3 := Tryd.sizeOf3
  v3 := Tryd.zeroValue3
  t4 := Tryd.underlying4
  a4 := Tryd.isAgg4
  z4 := Tryd.sizeOf4
  v4 := Tryd.zeroValue4
  t5 := Tryd.underlying5
  a5 := Tryd.isAgg5
  z5 := Tryd.sizeOf5
  v5 := Tryd.zeroValue5
  t9 := Tryd.underlying9
  a9 := Tryd.isAgg9
  z9 := Tryd.sizeOf9
  v9 := Tryd.zeroValue9
  t46 := Tryd.underlying85
  a46 := Tryd.isAgg85
  z46 := Tryd.sizeOf85
  v46 := Tryd.zeroValue85
  t51 := Tryd.underlying191
  a51 := Tryd.isAgg191
  z51 := Tryd.sizeOf191
  v51 := Tryd.zeroValue191
  t146 := Tryd.underlying234
  a146 := Tryd.isAgg234
  z146 := Tryd.sizeOf234
  v146 := Tryd.zeroValue234
  g1 := by kernel_rfl }
open Go.RowKit Go.Lib in
theorem Tryd.strings_Contains_one (s : ByteArray) (c : UInt8) (w : World) :
    Calls Tryd.prog 167 #[.string s, .string ⟨#[c]⟩] w fun e w' => e = .returned (.bool (decide (0 ≤ Lib.indexByte s.data.toList c))) ∧ w' = w := Any.strings_Contains_one Tryd.lays144 s c w
end Go.Proofs
namespace Go.Proofs
open Go.Shelf
def Tryd.lays160_ren : Go.Shelf.Ren := ⟨fun | 160 => 160 | 232 => 191 | 231 => 190 | 227 => 192 | 234 => 194 | 233 => 193 | 236 => 196 | 235 => 195 | 228 => 209 | 271 => 212 | 151 => 211 | 197 => 210 | 120 => 222 | 152 => 221 | 260 => 220 | 137 => 175 | 119 => 226 | 224 => 224 | 225 => 223 | 217 => 199 | 266 => 214 | n => n, fun | 9 => 9 | 4 => 4 | 3 => 3 | 5 => 5 | 117 => 201 | 116 => 200 | 0 => 0 | 124 => 204 | 21 => 21 | 105 => 222 | 46 => 85 | 119 => 160 | 139 => 233 | 138 => 232 | n => n, fun | 3 => 3 | 4 => 4 | n => n⟩
theorem Tryd.lays160 : Go.Proofs.Lays.n160 Tryd.prog Tryd.lays160_ren := {
  mixed := by kernel_rfl
  f119 := Tryd.func226.trans (congrArg some (by kernel_rfl))
  f120 := Tryd.func222.trans (congrArg some (by kernel_rfl))
  f137 := Tryd.func175.trans (congrArg some (by kernel_rfl))
  f151 := Tryd.func211.trans (congrArg some (by kernel_rfl))
  f152 := Tryd.func221.trans (congrArg some (by kernel_rfl))
  f160 := Tryd.func160.trans (congrArg some (by kernel_rfl))
  f197 := Tryd.func210.trans (congrArg some (by kernel_rfl))
  f217 := Tryd.func199.trans (congrArg some (by kernel_rfl))
  f224 := Tryd.func224.trans (congrArg some (by kernel_rfl))
  f225 := Tryd.func223.trans (congrArg some (by kernel_rfl))
  f227 := Tryd.func192.trans (congrArg some (by kernel_rfl))
  f228 := Tryd.func209.trans (congrArg some (by kernel_rfl))
  f231 := Tryd.func190.trans (congrArg some (by kernel_rfl))
  f232 := Tryd.func191.trans (congrArg some (by kernel_rfl))
  f233 := Tryd.func193.trans (congrArg some (by kernel_rfl))
  f234 := Tryd.func194.trans (congrArg some (by kernel_rfl))
  f235 := Tryd.func195.trans (congrArg some (by kernel_rfl))
  f236 := Tryd.func196.trans (congrArg some (by kernel_rfl))
  f260 := Tryd.func220.trans (congrArg some (by kernel_rfl))
  f266 := Tryd.func214.trans (congrArg some (by kernel_rfl))
  f271 := Tryd.func212.trans (congrArg some (by kernel_rfl))
  t0 := Tryd.underlying0
  a0 := Tryd.isAgg0
  z0 := Tryd.sizeOf0
  v0 := Tryd.zeroValue0
  t3 := Tryd.underlying3
  a3 := Tryd.isAgg3
  z3 := Tryd.sizeOf3
  v3 := Tryd.zeroValue3
  t4 := Tryd.underlying4
  a4 := Tryd.isAgg4
  z4 := Tryd.sizeOf4
  v4 := Tryd.zeroValue4
  t5 := Tryd.underlying5
  a5 := Tryd.isAgg5
  z5 := Tryd.sizeOf5
  v5 := Tryd.zeroValue5
  t9 := Tryd.underlying9
  a9 := Tryd.isAgg9
  z9 := Tryd.sizeOf9
  v9 := Tryd.zeroValue9
  t21 := Tryd.underlying21
  a21 := Tryd.isAgg21
  z21 := Tryd.sizeOf21
  v21 := Tryd.zeroValue21
  t46 := Tryd.underlying85
  a46 := Tryd.isAgg85
  z46 := Tryd.sizeOf85
  v46 := Tryd.zeroValue85
  t105 := Tryd.underlying222
  a105 := Tryd.isAgg222
  z105 := Tryd.sizeOf222
  v105 := Tryd.zeroValue222
  t116 := Tryd.underlying200
  a116 := Tryd.isAgg200
  z116 := Tryd.sizeOf200
  t117 := Tryd.underlying201
  a117 := Tryd.isAgg201
  z117 := Tryd.sizeOf201
  v117 := Tryd.zeroValue201
  t119 := Tryd.underlying160
  a119 := Tryd.isAgg160
  z119 := Tryd.sizeOf160
  t124 := Tryd.underlying204
  a124 := Tryd.isAgg204
  z124 := Tryd.sizeOf204
  v124 := Tryd.zeroValue204
  t138 := Tryd.underlying232
  a138 := Tryd.isAgg232
  z138 := Tryd.sizeOf232
  v138 := Tryd.zeroValue232
  t139 := Tryd.underlying233
  a139 := Tryd.isAgg233
  z139 := Tryd.sizeOf233
  v139 := Tryd.zeroValue233
  g3 := by kernel_rfl
  g4 := by kernel_rfl }
end Go.Proofs
namespace Go.Proofs.YtefiibghfgfdnaaDoor
open Go.RowKit Go.Wk
theorem Base.mixed : Tryd.prog.follows .mixedOrders = true := by kernel_rfl
theorem Base.elem22 : Elem Tryd.prog 22 5 1 := ⟨Tryd.underlying22, Tryd.t5, _, by kernel_rfl, rfl, rfl, by decide, rfl, by decide⟩
theorem Base.elem25 : Elem Tryd.prog 25 9 1 := ⟨Tryd.underlying25, Tryd.t9, _, by kernel_rfl, rfl, rfl, by decide, rfl, by decide⟩
theorem Base.elem30 : Elem Tryd.prog 30 3 1 := ⟨Tryd.underlying30, Tryd.t3, _, by kernel_rfl, rfl, rfl, by decide, rfl, by decide⟩
theorem Base.elem82 : Elem Tryd.prog 82 80 1 := ⟨Tryd.underlying82, Tryd.t80, _, by kernel_rfl, rfl, rfl, by decide, rfl, by decide⟩
theorem Base.elem124 : Elem Tryd.prog 124 4 1 := ⟨Tryd.underlying124, Tryd.t4, _, by kernel_rfl, rfl, rfl, by decide, rfl, by decide⟩
theorem trim_ok (s : List UInt8) (w : World) (hs : s.length ≤ 1048576) :
    Calls Tryd.prog 160 [str s, str [48, 49]].toArray w fun en w' => en = .returned (str (Lib.trimS s [48, 49])) ∧ Below w.heap.size w w' :=
  Any.strings_Trim_laid Tryd.lays160 (by kernel_rfl) ⟨⟨s⟩⟩ ⟨⟨[48, 49]⟩⟩ w (by show s.length ≤ 9223372036854775807; omega) (by decide) (ascii_of_all (by decide))
end Go.Proofs.YtefiibghfgfdnaaDoor
namespace Go.Proofs.YtefiibghfgfdnaaDoor
abbrev qT := @Base.mixed
abbrev qW := @Base.elem30
abbrev yJ := @Base.elem22
abbrev xC := @Base.elem25
abbrev xP := @Base.elem82
end Go.Proofs.YtefiibghfgfdnaaDoor
