/-
  FnExactAgreeUpTo: all that its proof names (part 2)
-/
import Derived.Test.YtnfkmfdhmlombaaDoorKFnExactAgreeUpToa
import Derived.MapKept
import Derived.Laws.Cover3
import Derived.LoopN
import Derived.Lib.Bytealg
import Derived.LaidEqlPtr
import Derived.Shelf.Strings.SlTrimAscii
import Derived.Shelf.Strings.Trim
import Derived.Test.YtnfkmfdhmlombaaDoorProg
import Derived.Shelf.Small.Strs
import Derived.Shelf.Strings.Search3
namespace Go.Wk
open Go.RowKit
section
variable {P : Program} {n : Nat} {C : World → Prop} {e : Env} {o : Oper}
theorem bits_nat {op : BinOp} {f : BitVec 64 → BitVec 64 → BitVec 64} {g : Nat → Nat → Nat} {a b : Nat} (ha : a < 4611686018427387904) (hb : b < 4611686018427387904) (hf : ∀ x y : BitVec 64, x.toNat = a → y.toNat = b → (f x y).toNat = g a b) (hg : g a b < 4611686018427387904) (h : bits op .i64 (a : Int) (b : Int) = IntKind.i64.wrap ((f (BitVec.ofInt 64 (a : Int)) (BitVec.ofInt 64 (b : Int))).toNat : Int)) : bits op .i64 (a : Int) (b : Int) = (g a b : Int) := by
  rw [h, hf _ _ (by rw [BitVec.toNat_ofInt]; omega) (by rw [BitVec.toNat_ofInt]; omega), IntWalk.i64_in _ (by omega)]
theorem or_lt62 {a b : Nat} (ha : a < 4611686018427387904) (hb : b < 4611686018427387904) : a ||| b < 4611686018427387904 := Nat.or_lt_two_pow (n := 62) ha hb
theorem OpQ.or {t t' : TypeId} {x y : Operand} {a b : Nat} (h : o.op = .binOp .or t x y t') (hx : opd e x = some (.int .i64 (a : Int))) (hy : opd e y = some (.int .i64 (b : Int))) (ha : a < 4611686018427387904) (hb : b < 4611686018427387904) : OpQ P n C e o (.int .i64 ((a ||| b : Nat) : Int)) := OpQ.val fun A hf w => by
  unfold execOp; rw [h]; simp only [hf.opd hx, hf.opd hy]
  have := bits_nat (op := .or) (f := (· ||| ·)) (g := (· ||| ·)) ha hb (fun x y h1 h2 => by rw [BitVec.toNat_or, h1, h2]) (or_lt62 ha hb) rfl
  simp [go_sem, this]
theorem OpQ.and {t t' : TypeId} {x y : Operand} {a b : Nat} (h : o.op = .binOp .and t x y t') (hx : opd e x = some (.int .i64 (a : Int))) (hy : opd e y = some (.int .i64 (b : Int))) (ha : a < 4611686018427387904) (hb : b < 4611686018427387904) : OpQ P n C e o (.int .i64 ((a &&& b : Nat) : Int)) := OpQ.val fun A hf w => by
  unfold execOp; rw [h]; simp only [hf.opd hx, hf.opd hy]
  have := bits_nat (op := .and) (f := (· &&& ·)) (g := (· &&& ·)) ha hb (fun x y h1 h2 => by rw [BitVec.toNat_and, h1, h2]) (Nat.lt_of_le_of_lt Nat.and_le_left ha) rfl
  simp [go_sem, this]
theorem strike16 : ∀ a b : Fin 16, bits .andNot .i64 (a.val : Int) (b.val : Int) = ((a.val &&& (15 ^^^ b.val) : Nat) : Int) := by decide
theorem OpQ.strike {t t' : TypeId} {x y : Operand} {a b : Nat} (h : o.op = .binOp .andNot t x y t') (hx : opd e x = some (.int .i64 (a : Int))) (hy : opd e y = some (.int .i64 (b : Int))) (ha : a < 16) (hb : b < 16) : OpQ P n C e o (.int .i64 ((a &&& (15 ^^^ b) : Nat) : Int)) := OpQ.val fun A hf w => by
  unfold execOp; rw [h]; simp only [hf.opd hx, hf.opd hy]
  have := strike16 ⟨a, ha⟩ ⟨b, hb⟩
  simp only at this
  simp [go_sem, this]
theorem OpQ.shl {t t' : TypeId} {x y : Operand} {k : IntKind} {a b : Nat} (h : o.op = .binOp .shl t x y t') (hx : opd e x = some (.int .i64 (a : Int))) (hy : opd e y = some (.int k (b : Int))) (hb : b ≤ 62) (hr : a * 2 ^ b < 4611686018427387904) : OpQ P n C e o (.int .i64 ((a * 2 ^ b : Nat) : Int)) := OpQ.val fun A hf w => by
  unfold execOp; rw [h]; simp only [hf.opd hx, hf.opd hy]
  have e2 : IntKind.i64.wrap ((a : Int) * 2 ^ b) = ((a * 2 ^ b : Nat) : Int) := by
    have : ((a : Int) * 2 ^ b) = ((a * 2 ^ b : Nat) : Int) := by rw [Int.natCast_mul, Int.natCast_pow]; rfl
    rw [this, IntWalk.i64_in _ (by omega)]
  simp [go_sem, e2]
theorem OpQ.shr {t t' : TypeId} {x y : Operand} {k : IntKind} {a b : Nat} (h : o.op = .binOp .shr t x y t') (hx : opd e x = some (.int .i64 (a : Int))) (hy : opd e y = some (.int k (b : Int))) (hb : b ≤ 62) : OpQ P n C e o (.int .i64 ((a / 2 ^ b : Nat) : Int)) := OpQ.val fun A hf w => by
  unfold execOp; rw [h]; simp only [hf.opd hx, hf.opd hy]
  simp [go_sem]
end
end Go.Wk
namespace Go.Wk
open Go.RowKit
theorem varI_out {f : List UInt8} {i : Int} (h : i < 0 ∨ (f.length : Int) ≤ i) : varI f i = -1 := by
  unfold varI; rw [if_neg (by omega)]
theorem find_abcd (c : UInt8) : findS [97, 98, 99, 100] (c.toNat : Int) = if isV c = true then (vI c : Int) else -1 := by
  by_cases h : isV c = true
  · rw [if_pos h]
    obtain ⟨h1, h2⟩ := vI_lt h
    rw [h2]
    rcases (by omega : vI c = 0 ∨ vI c = 1 ∨ vI c = 2 ∨ vI c = 3) with e | e | e | e <;> rw [e] <;> decide
  · rw [if_neg h]
    refine findS_none fun i hi e => h ?_
    unfold isV
    simp only [Bool.and_eq_true, decide_eq_true_eq]
    have hi4 : i < 4 := hi
    rcases (by omega : i = 0 ∨ i = 1 ∨ i = 2 ∨ i = 3) with e1 | e1 | e1 | e1 <;> subst e1
    · have : (97 : Int) = c.toNat := e
      omega
    · have : (98 : Int) = c.toNat := e
      omega
    · have : (99 : Int) = c.toNat := e
      omega
    · have : (100 : Int) = c.toNat := e
      omega
theorem varI_find {f : List UInt8} {i : Int} (h0 : 0 ≤ i) (h1 : i < (f.length : Int)) : findS [97, 98, 99, 100] ((f.getD i.toNat 0).toNat : Int) = varI f i := by
  rw [find_abcd]
  unfold varI
  by_cases h : isV (f.getD i.toNat 0) = true
  · rw [if_pos h, if_pos ⟨h0, h1, h⟩]
  · rw [if_neg h, if_neg fun e => h e.2.2]
def endM (f : List UInt8) (j : Int) : Nat := if j < 0 then 0 else ((f.length : Int) + 4 - j).toNat
theorem endM_lt {f : List UInt8} {i j : Int} (h : 0 ≤ i ∧ i < (f.length : Int)) (hj : j < 0 ∨ i < j) : endM f j < endM f i := by
  unfold endM
  rw [if_neg (show ¬ i < 0 by omega)]
  split <;> omega
theorem endI_gt {f : List UInt8} {i j : Int} (h : j < i) : endI f i < 0 ∨ j < endI f i := by
  rcases endI_ahead (f := f) (i := i) with e | e
  · exact .inl (by omega)
  · exact .inr (by omega)
theorem Pa.i0 {f : List UInt8} {n e : Nat} {p : Fm} (h : Pa f n p e) (hc : ((f.getD (n : Int).toNat 0).toNat : Int) = 116 ∨ ((f.getD (n : Int).toNat 0).toNat : Int) = 102) : p = .leaf (f.getD n 0) [] ∧ e = n + 1 :=
  h.leaf0 (hc.elim (fun c => .inl (u8_of (n := 116) (by decide) c)) (fun c => .inr (u8_of (n := 102) (by decide) c)))
theorem Pa.i1 {f : List UInt8} {n e : Nat} {p : Fm} (h : Pa f n p e) (hc : ((f.getD (n : Int).toNat 0).toNat : Int) = 80) : n + 1 < f.length ∧ isV (f.getD (n + 1) 0) = true ∧ p = .leaf 80 [f.getD (n + 1) 0] ∧ e = n + 2 :=
  h.leaf1 (u8_of (n := 80) (by decide) hc)
theorem Pa.i2 {f : List UInt8} {n e : Nat} {p : Fm} (h : Pa f n p e) (hc : ((f.getD (n : Int).toNat 0).toNat : Int) = 61 ∨ ((f.getD (n : Int).toNat 0).toNat : Int) = 69) : n + 2 < f.length ∧ isV (f.getD (n + 1) 0) = true ∧ isV (f.getD (n + 2) 0) = true ∧ p = .leaf (f.getD n 0) [f.getD (n + 1) 0, f.getD (n + 2) 0] ∧ e = n + 3 :=
  h.leaf2 (hc.elim (fun c => .inl (u8_of (n := 61) (by decide) c)) (fun c => .inr (u8_of (n := 69) (by decide) c)))
theorem Pa.i3 {f : List UInt8} {n e : Nat} {p : Fm} (h : Pa f n p e) (hc : ((f.getD (n : Int).toNat 0).toNat : Int) = 33) : ∃ q, Pa f (n + 1) q e ∧ p = .one 33 [] q :=
  h.one0 (u8_of (n := 33) (by decide) hc)
theorem Pa.i4 {f : List UInt8} {n e : Nat} {p : Fm} (h : Pa f n p e) (hc : ((f.getD (n : Int).toNat 0).toNat : Int) = 38 ∨ ((f.getD (n : Int).toNat 0).toNat : Int) = 124) : ∃ q m q2, Pa f (n + 1) q m ∧ Pa f m q2 e ∧ p = .two (f.getD n 0) q q2 :=
  h.two0 (hc.elim (fun c => .inl (u8_of (n := 38) (by decide) c)) (fun c => .inr (u8_of (n := 124) (by decide) c)))
def quI (c : Int) : Prop := c = 65 ∨ c = 83 ∨ c = 50 ∨ c = 51 ∨ c = 52
instance (c : Int) : Decidable (quI c) := by unfold quI; exact inferInstance
theorem quI_of {c : UInt8} (h : quI (c.toNat : Int)) : c = 65 ∨ c = 83 ∨ c = 50 ∨ c = 51 ∨ c = 52 := by
  rcases h with c | c | c | c | c
  · exact .inl (u8_of (n := 65) (by decide) c)
  · exact .inr (.inl (u8_of (n := 83) (by decide) c))
  · exact .inr (.inr (.inl (u8_of (n := 50) (by decide) c)))
  · exact .inr (.inr (.inr (.inl (u8_of (n := 51) (by decide) c))))
  · exact .inr (.inr (.inr (.inr (u8_of (n := 52) (by decide) c))))
theorem Pa.i5 {f : List UInt8} {n e : Nat} {p : Fm} (h : Pa f n p e) (hc : quI ((f.getD (n : Int).toNat 0).toNat : Int)) : n + 1 < f.length ∧ isV (f.getD (n + 1) 0) = true ∧ ∃ q, Pa f (n + 2) q e ∧ p = .one (f.getD n 0) [f.getD (n + 1) 0] q :=
  h.one1 (quI_of hc)
theorem Pa.io {f : List UInt8} {n e : Nat} {p : Fm} (h : Pa f n p e) : (((f.getD (n : Int).toNat 0).toNat : Int) = 116 ∨ ((f.getD (n : Int).toNat 0).toNat : Int) = 102) ∨ ((f.getD (n : Int).toNat 0).toNat : Int) = 80 ∨ (((f.getD (n : Int).toNat 0).toNat : Int) = 61 ∨ ((f.getD (n : Int).toNat 0).toNat : Int) = 69) ∨ ((f.getD (n : Int).toNat 0).toNat : Int) = 33 ∨ (((f.getD (n : Int).toNat 0).toNat : Int) = 38 ∨ ((f.getD (n : Int).toNat 0).toNat : Int) = 124) ∨ (((f.getD (n : Int).toNat 0).toNat : Int) = 65 ∨ ((f.getD (n : Int).toNat 0).toNat : Int) = 83 ∨ ((f.getD (n : Int).toNat 0).toNat : Int) = 50 ∨ ((f.getD (n : Int).toNat 0).toNat : Int) = 51 ∨ ((f.getD (n : Int).toNat 0).toNat : Int) = 52) := by
  rw [Int.toNat_natCast]
  rcases h.other with (c | c) | c | (c | c) | c | (c | c) | c | c | c | c | c <;> rw [c] <;> decide
theorem find_quant (c : UInt8) : decide ((0 : Int) ≤ findS [65, 83, 50, 51, 52] (c.toNat : Int)) = decide (quI (c.toNat : Int)) := by
  rw [decide_eq_decide]
  by_cases h : quI (c.toNat : Int)
  · rcases quI_of h with e | e | e | e | e <;> rw [e] <;> decide
  · rw [findS_none fun i hi e => h ?_]
    · exact ⟨fun e => absurd e (by decide), fun e => absurd e h⟩
    · have hi4 : i < 5 := hi
      unfold quI
      rcases (by omega : i = 0 ∨ i = 1 ∨ i = 2 ∨ i = 3 ∨ i = 4) with e1 | e1 | e1 | e1 | e1 <;> subst e1
      · exact .inl e.symm
      · exact .inr (.inl e.symm)
      · exact .inr (.inr (.inl e.symm))
      · exact .inr (.inr (.inr (.inl e.symm)))
      · exact .inr (.inr (.inr (.inr e.symm)))
theorem fre1 (c v : UInt8) : (1 * 2 ^ vI v : Nat) = frB (.leaf c [v]) := by simp [frB, vBits, vBit]
theorem fre2 (c v u : UInt8) : (1 * 2 ^ vI v ||| 1 * 2 ^ vI u : Nat) = frB (.leaf c [v, u]) := by simp [frB, vBits, vBit]
theorem freq (c v : UInt8) (q : Fm) : (frB q &&& (15 ^^^ 1 * 2 ^ vI v) : Nat) = frB (.one c [v] q) := by simp [frB, vBit]
theorem bit_lt {v : UInt8} (h : vI v < 4) : 1 * 2 ^ vI v < 16 := by
  have := Nat.pow_le_pow_right (n := 2) (by decide) (show vI v ≤ 3 by omega)
  omega
def EnvA (a : St) (e : List Int) : Prop := e.length = 4 ∧ ∀ i : Nat, i < 4 → a.El (e.getD i 0)
theorem EnvA.set {a : St} {e : List Int} (h : EnvA a e) {k : Nat} {x : Int} (hx : a.El x) : EnvA a (e.set k x) := by
  refine ⟨by rw [List.length_set]; exact h.1, fun i hi => ?_⟩
  rw [List.getD_eq_getElem?_getD, List.getElem?_set]
  by_cases e1 : k = i
  · subst e1
    have h9 := h.1
    rw [if_pos rfl, if_pos (by omega)]; exact hx
  · rw [if_neg e1, ← List.getD_eq_getElem?_getD]; exact h.2 i hi
theorem EnvA.at {a : St} {e : List Int} (h : EnvA a e) {v : UInt8} (hv : vI v < 4) : a.El (e.getD (vI v) 0) := h.2 _ hv
theorem two_short {a : St} {q q2 : Fm} {en : List Int} {c : UInt8} (hc : (c.toNat : Int) = 38 ∨ (c.toNat : Int) = 124) (h : (ev a q en == decide ((c.toNat : Int) = 124)) = true) : ev a q en = ev a (.two c q q2) en := by
  rcases hc with e | e
  · have : c = 38 := u8_of (n := 38) (by decide) e
    subst this
    have h2 : ev a q en = false := by simpa using h
    rw [show ev a (.two 38 q q2) en = (ev a q en && ev a q2 en) from rfl, h2]; rfl
  · have : c = 124 := u8_of (n := 124) (by decide) e
    subst this
    have h2 : ev a q en = true := by simpa using h
    rw [show ev a (.two 124 q q2) en = (ev a q en || ev a q2 en) from rfl, h2]; rfl
theorem two_long {a : St} {q q2 : Fm} {en : List Int} {c : UInt8} (hc : (c.toNat : Int) = 38 ∨ (c.toNat : Int) = 124) (h : (ev a q en == decide ((c.toNat : Int) = 124)) = false) : ev a q2 en = ev a (.two c q q2) en := by
  rcases hc with e | e
  · have : c = 38 := u8_of (n := 38) (by decide) e
    subst this
    have h2 : ev a q en = true := by simpa using h
    rw [show ev a (.two 38 q q2) en = (ev a q en && ev a q2 en) from rfl, h2]; rfl
  · have : c = 124 := u8_of (n := 124) (by decide) e
    subst this
    have h2 : ev a q en = false := by simpa using h
    rw [show ev a (.two 124 q q2) en = (ev a q en || ev a q2 en) from rfl, h2]; rfl
theorem need65 {c : UInt8} {n : Int} (hc : (c.toNat : Int) = 65) (hn : 0 ≤ n) : ((need c n.toNat : Nat) : Int) = n := by
  have : c = 65 := u8_of (n := 65) (by decide) hc
  subst this
  show ((n.toNat : Nat) : Int) = n
  omega
theorem need234 {c : UInt8} {n : Nat} (hc : (c.toNat : Int) = 50 ∨ (c.toNat : Int) = 51 ∨ (c.toNat : Int) = 52) : ((need c n : Nat) : Int) = (c.toNat : Int) - 48 := by
  unfold need
  have h1 : ¬ c = 65 := fun e => by subst e; revert hc; decide
  have h2 : ¬ c = 83 := fun e => by subst e; revert hc; decide
  rw [if_neg h1, if_neg h2]; omega
theorem need83 {c : UInt8} {n : Nat} (hc : (c.toNat : Int) = 83) : ((need c n : Nat) : Int) = 1 := by
  have : c = 83 := u8_of (n := 83) (by decide) hc
  subst this; rfl
def evC (a : St) (v : UInt8) (q : Fm) (en : List Int) : Nat → Bool := fun x => ev a q (en.set (vI v) (x : Int))
theorem cnt_step (F : Nat → Bool) (x : Nat) : cntT F (x + 1) = cntT F x + (if F x then 1 else 0) := rfl
theorem ev_quant {a : St} {c v : UInt8} {q : Fm} {en : List Int} (hc : quI (c.toNat : Int)) {k : Nat} (h : decide (((need c a.n.toNat : Nat) : Int) ≤ (k : Int)) = decide (need c a.n.toNat ≤ cntT (evC a v q en) a.n.toNat)) : decide (((need c a.n.toNat : Nat) : Int) ≤ (k : Int)) = ev a (.one c [v] q) en := by
  rw [h]
  unfold ev
  rw [if_neg (fun e => by subst e; revert hc; decide)]
  rfl
theorem quant_end {F : Nat → Bool} {m x N : Nat} (hx : x ≤ N) (h : N ≤ x ∨ m ≤ cntT F x ∨ cntT F x + (N - x) < m) : decide ((m : Int) ≤ (cntT F x : Int)) = decide (m ≤ cntT F N) := by
  obtain ⟨h1, h2⟩ := cntT_mono F hx
  rw [decide_eq_decide]
  rcases h with h | h | h
  · obtain rfl : x = N := by omega
    omega
  · omega
  · omega
theorem ev_tf {a : St} {en : List Int} {c : UInt8} (hc : (c.toNat : Int) = 116 ∨ (c.toNat : Int) = 102) : decide ((c.toNat : Int) = 116) = ev a (.leaf c []) en := by
  rcases hc with e | e
  · have : c = 116 := u8_of (n := 116) (by decide) e
    subst this; rfl
  · have : c = 102 := u8_of (n := 102) (by decide) e
    subst this; rfl
theorem ev_eq {a : St} {en : List Int} {c v u : UInt8} (hc : (c.toNat : Int) = 61) : decide (en.getD (vI v) 0 = en.getD (vI u) 0) = ev a (.leaf c [v, u]) en := by
  have : c = 61 := u8_of (n := 61) (by decide) hc
  subst this; rfl
theorem ev_rel {a : St} {en : List Int} {c v u : UInt8} (hc : (c.toNat : Int) = 69) : a.inRel (en.getD (vI v) 0) (en.getD (vI u) 0) = ev a (.leaf c [v, u]) en := by
  have : c = 69 := u8_of (n := 69) (by decide) hc
  subst this; rfl
theorem evC_of {a : St} {v : UInt8} {q : Fm} {en E : List Int} (h : ∀ z : Int, E.set (vI v) z = en.set (vI v) z) {x : Nat} {b : Bool} (hb : ev a q (E.set (vI v) (x : Int)) = b) : evC a v q en x = b := by
  unfold evC; rw [← h]; exact hb
theorem cnt_yes {F : Nat → Bool} {x : Nat} (h : F x = true) : (cntT F x : Int) + 1 = ((cntT F (x + 1) : Nat) : Int) := by rw [cnt_step, h]; rfl
theorem cnt_no {F : Nat → Bool} {x : Nat} (h : F x = false) : cntT F (x + 1) = cntT F x := by rw [cnt_step, h]; rfl
end Go.Wk
namespace Go.Wk
open Go.RowKit
/-- the formula that a whole text is -/
def formO (f : List UInt8) : Option Fm := if f.length ≤ 4000 then (match parse f with | some (p, []) => some p | _ => none) else none
theorem formO_long {f : List UInt8} (h : ¬ f.length ≤ 4000) : formO f = none := by unfold formO; rw [if_neg h]
theorem formO_parse {f : List UInt8} {p : Fm} (h : formO f = some p) : f.length ≤ 4000 ∧ parse f = some (p, []) := by
  unfold formO at h
  by_cases hl : f.length ≤ 4000
  · rw [if_pos hl] at h
    refine ⟨hl, ?_⟩
    split at h
    · injection h with h; subst h; assumption
    · cases h
  · rw [if_neg hl] at h; cases h
theorem parse_formO {f : List UInt8} {p : Fm} (hl : f.length ≤ 4000) (h : parse f = some (p, [])) : formO f = some p := by
  unfold formO; rw [if_pos hl, h]
theorem formO_pa {f : List UInt8} {p : Fm} (h : formO f = some p) : Pa f 0 p f.length := by
  obtain ⟨_, h⟩ := formO_parse h
  refine ⟨by rw [List.drop_zero, h, List.drop_length], ?_, Nat.le_refl _⟩
  cases f with
  | nil => cases h
  | cons c s => simp
theorem formO_some {f : List UInt8} : (formO f).isSome = (decide ((f.length : Int) ≤ 4000) && decide (endI f 0 = (f.length : Int))) := by
  unfold formO
  by_cases hl : f.length ≤ 4000
  · rw [if_pos hl, decide_eq_true (show (f.length : Int) ≤ 4000 by omega), Bool.true_and]
    have e0 : endI f 0 = endI f ((0 : Nat) : Int) := rfl
    rw [e0]
    cases e : parse f with
    | none =>
      have h1 := endI_none (f := f) (i := 0) (by rw [List.drop_zero]; exact e)
      rw [h1, decide_eq_false (by omega)]; rfl
    | some x =>
      obtain ⟨p, r⟩ := x
      have h1 := endI_some (f := f) (i := 0) (by rw [List.drop_zero]; exact e)
      have h2 := parse_rest (f := f) (i := 0) (by rw [List.drop_zero]; exact e)
      rw [h1]
      cases r with
      | nil => rw [decide_eq_true (by simp)]; rfl
      | cons z r =>
        have h3 := h2.2.2
        simp only [List.length_cons] at h3
        rw [decide_eq_false (by simp only [List.length_cons]; omega)]; rfl
  · rw [if_neg hl, decide_eq_false (by omega)]; rfl
theorem formO_wf {f : List UInt8} {p : Fm} (h : formO f = some p) : wfF p := (formO_pa h).wf
/-- elements for the first variables, the others 0 -/
def envL (xs : List Int) : List Int := xs ++ List.replicate (4 - xs.length) 0
def envP (xs : List Int) (k : Nat) : List Int := xs.take k ++ List.replicate (4 - k) 0
theorem envP_len {xs : List Int} {k : Nat} (h : k ≤ 4) (hk : k ≤ xs.length) : (envP xs k).length = 4 := by
  unfold envP; rw [List.length_append, List.length_take, List.length_replicate]; omega
theorem envP_zero (xs : List Int) : envP xs 0 = [0, 0, 0, 0] := by unfold envP; rw [List.take_zero]; rfl
theorem envP_all (xs : List Int) : envP xs xs.length = envL xs := by unfold envP envL; rw [List.take_length]
theorem envP_set {xs : List Int} {k : Nat} (hk : k < xs.length) (h4 : k < 4) : (envP xs k).set k (xs.getD k 0) = envP xs (k + 1) := by
  unfold envP
  rw [List.set_append_right _ _ (by rw [List.length_take]; omega), List.length_take, Nat.min_eq_left (by omega), Nat.sub_self, show 4 - k = (4 - (k + 1)) + 1 from by omega, List.replicate_succ, List.set_cons_zero, List.take_add_one, List.append_assoc, getD_at hk, List.getElem?_eq_getElem hk]
  rfl
theorem envL_len {xs : List Int} (h : xs.length ≤ 4) : (envL xs).length = 4 := by unfold envL; rw [List.length_append, List.length_replicate]; omega
theorem envL_ok {a : St} {xs : List Int} (h1 : 1 ≤ a.n) (h : xs.length ≤ 4) (hx : a.Els xs) : EnvA a (envL xs) := by
  refine ⟨envL_len h, fun i hi => ?_⟩
  unfold envL
  rw [List.getD_eq_getElem?_getD, List.getElem?_append]
  split
  · rename_i hl
    rw [List.getElem?_eq_getElem hl]
    exact hx _ (List.getElem_mem _)
  · rename_i hl
    rw [List.getElem?_replicate, if_pos (by omega)]
    exact ⟨by decide, by show (0 : Int) < a.n; omega⟩
open Classical in
noncomputable def holdO (a : St) (f : List UInt8) (xs : List Int) : Option Bool :=
  match formO f with
  | none => none
  | some p => if validB a = true ∧ xs.length ≤ 4 ∧ (∀ x ∈ xs, a.El x) ∧ frB p / 2 ^ xs.length = 0 then some (ev a p (envL xs)) else none
noncomputable def holdV (a : St) (f : List UInt8) (xs : List Int) : Bool := (holdO a f xs).getD false
noncomputable def holdK (a : St) (f : List UInt8) (xs : List Int) : Bool := (holdO a f xs).isSome
theorem holdO_none {a : St} {f : List UInt8} {xs : List Int} (h : ∀ p, formO f = some p → ¬ (validB a = true ∧ xs.length ≤ 4 ∧ (∀ x ∈ xs, a.El x) ∧ frB p / 2 ^ xs.length = 0)) : holdO a f xs = none := by
  unfold holdO
  cases e : formO f with
  | none => rfl
  | some p => dsimp only; rw [if_neg (h p e)]
theorem holdO_some {a : St} {f : List UInt8} {xs : List Int} {p : Fm} (e : formO f = some p) (h : validB a = true ∧ xs.length ≤ 4 ∧ (∀ x ∈ xs, a.El x) ∧ frB p / 2 ^ xs.length = 0) : holdO a f xs = some (ev a p (envL xs)) := by
  unfold holdO; rw [e]; dsimp only; rw [if_pos h]
theorem hold_no {a : St} {f : List UInt8} {xs : List Int} (h : holdO a f xs = none) : holdV a f xs = false ∧ holdK a f xs = false := by
  unfold holdV holdK; rw [h]; exact ⟨rfl, rfl⟩
theorem hold_yes {a : St} {f : List UInt8} {xs : List Int} {b : Bool} (h : holdO a f xs = some b) : holdV a f xs = b ∧ holdK a f xs = true := by
  unfold holdV holdK; rw [h]; exact ⟨rfl, rfl⟩
theorem rank_two (c : UInt8) (q q2 : Fm) : ((rankF (.two c q q2) : Nat) : Int) = if (rankF q2 : Int) > (rankF q : Int) then (rankF q2 : Int) else (rankF q : Int) := by
  show ((max (rankF q) (rankF q2) : Nat) : Int) = _
  split <;> omega
theorem rank_one {c : UInt8} {vs : List UInt8} {q : Fm} (hc : (c.toNat : Int) = 65 ∨ (c.toNat : Int) = 83) : ((rankF (.one c vs q) : Nat) : Int) = (rankF q : Int) + 1 := by
  have h : c = 65 ∨ c = 83 := hc.elim (fun e => .inl (u8_of (n := 65) (by decide) e)) (fun e => .inr (u8_of (n := 83) (by decide) e))
  show (((if c = 33 then rankF q else if c = 65 ∨ c = 83 then rankF q + 1 else rankF q + (c.toNat - 48) : Nat)) : Int) = _
  rw [if_neg (by rcases h with e | e <;> rw [e] <;> decide), if_pos h]; rfl
theorem rank_cnt {c : UInt8} {vs : List UInt8} {q : Fm} (hq : quI (c.toNat : Int)) (hc : ¬ ((c.toNat : Int) = 65 ∨ (c.toNat : Int) = 83)) : ((rankF (.one c vs q) : Nat) : Int) = (rankF q : Int) + (c.toNat : Int) - 48 := by
  have h1 : ¬ (c = 65 ∨ c = 83) := fun e => hc (e.elim (fun e => .inl (by rw [e]; rfl)) (fun e => .inr (by rw [e]; rfl)))
  have h2 : ¬ c = 33 := fun e => by subst e; revert hq; decide
  have h3 : (48 : Int) ≤ c.toNat := by rcases hq with e | e | e | e | e <;> omega
  show (((if c = 33 then rankF q else if c = 65 ∨ c = 83 then rankF q + 1 else rankF q + (c.toNat - 48) : Nat)) : Int) = _
  rw [if_neg h2, if_neg h1]; omega
theorem rank_le : ∀ {p : Fm}, rankF p ≤ 255 * (fT p).length
  | .leaf _ _ => Nat.zero_le _
  | .one c vs q => by
    have h1 := rank_le (p := q)
    have h2 := c.toNat_lt
    have h3 : (fT (.one c vs q)).length = (vs.length + (fT q).length) + 1 := by simp [fT]
    unfold rankF
    split
    · omega
    · split <;> omega
  | .two c p q => by
    have h1 := rank_le (p := p)
    have h2 := rank_le (p := q)
    have h3 : (fT (.two c p q)).length = ((fT p).length + (fT q).length) + 1 := by simp [fT]
    unfold rankF
    omega
theorem rank_pa {f : List UInt8} {n e : Nat} {p : Fm} (h : Pa f n p e) : rankF p ≤ 255 * f.length := by
  have h1 := parse_text _ (Nat.le_refl _) h.1
  have h2 := congrArg List.length h1
  rw [List.length_append, List.length_drop] at h2
  have h3 := rank_le (p := p)
  have h4 : (fT p).length ≤ f.length := by omega
  omega
def rankI (f : List UInt8) : Int := match formO f with | some p => (rankF p : Int) | none => -1
theorem rank_leaf {f : List UInt8} {n e : Nat} {p : Fm} (h : Pa f n p e) (hq : ¬ quI ((f.getD (n : Int).toNat 0).toNat : Int)) (h33 : ¬ ((f.getD n 0).toNat : Int) = 33) (h2 : ¬ (((f.getD n 0).toNat : Int) = 38 ∨ ((f.getD n 0).toNat : Int) = 124)) : rankF p = 0 := by
  have hcn : ((f.getD (n : Int).toNat 0).toNat : Int) = ((f.getD n 0).toNat : Int) := rfl
  unfold quI at hq
  have ho := h.io
  by_cases c1 : ((f.getD (n : Int).toNat 0).toNat : Int) = 116 ∨ ((f.getD (n : Int).toNat 0).toNat : Int) = 102
  · rw [(h.i0 c1).1]; rfl
  · by_cases c2 : ((f.getD (n : Int).toNat 0).toNat : Int) = 80
    · rw [(h.i1 c2).2.2.1]; rfl
    · by_cases c3 : ((f.getD (n : Int).toNat 0).toNat : Int) = 61 ∨ ((f.getD (n : Int).toNat 0).toNat : Int) = 69
      · rw [(h.i2 c3).2.2.2.1]; rfl
      · exfalso; omega
theorem els_take {a : St} {xs : List Int} {k : Nat} (hk : k < xs.length) (h : ∀ x ∈ xs.take k, a.El x) (hx : a.El (xs.getD k 0)) : ∀ x ∈ xs.take (k + 1), a.El x := by
  intro x hm
  rw [List.take_add_one, List.mem_append] at hm
  rcases hm with hm | hm
  · exact h x hm
  · rw [List.getElem?_eq_getElem hk] at hm
    have : x = xs[k] := by simpa using hm
    rw [this, ← getD_at hk]; exact hx
theorem in_el {a : St} {x : Int} : inB x 0 (a.n - 1) = true ↔ a.El x := by
  unfold inB St.El
  simp only [Bool.and_eq_true, decide_eq_true_eq]
  omega
/-- the letters of a formula -/
theorem op_cases {c : UInt8} (h : isOp c = true) : c = 116 ∨ c = 102 ∨ c = 80 ∨ c = 61 ∨ c = 69 ∨ c = 33 ∨ c = 38 ∨ c = 124 ∨ c = 65 ∨ c = 83 ∨ c = 50 ∨ c = 51 ∨ c = 52 := by
  unfold isOp at h
  rw [decide_eq_true_eq] at h
  simpa only [List.mem_cons, List.not_mem_nil, or_false] using h
theorem one_no_var {c : UInt8} {p : Fm} (h : wfF (.one c [] p)) : c = 33 := by
  obtain ⟨h1, h2, h3, _⟩ := h
  have h4 : arV c = 0 := h3.symm
  rcases op_cases h1 with rfl | rfl | rfl | rfl | rfl | rfl | rfl | rfl | rfl | rfl | rfl | rfl | rfl <;> first | rfl | exact absurd h2 (by decide) | exact absurd h4 (by decide)
theorem one_var {c : UInt8} {v : UInt8} {vs : List UInt8} {p : Fm} (h : wfF (.one c (v :: vs) p)) : (c = 65 ∨ c = 83 ∨ c = 50 ∨ c = 51 ∨ c = 52) ∧ vs = [] ∧ isV v = true := by
  obtain ⟨h1, h2, h3, h4, _⟩ := h
  have hv := h4 v (by simp)
  rw [List.length_cons] at h3
  rcases op_cases h1 with rfl | rfl | rfl | rfl | rfl | rfl | rfl | rfl | rfl | rfl | rfl | rfl | rfl <;> first | exact absurd h2 (by decide) | exact absurd h3 (fun e => by have e' : vs.length + 1 = 0 := e; omega) | exact ⟨by simp, List.length_eq_zero_iff.1 (by have : vs.length + 1 = 1 := h3; omega), hv⟩
theorem two_op {c : UInt8} {p q : Fm} (h : wfF (.two c p q)) : c = 38 ∨ c = 124 := by
  obtain ⟨h1, h2, h3, _⟩ := h
  rcases op_cases h1 with rfl | rfl | rfl | rfl | rfl | rfl | rfl | rfl | rfl | rfl | rfl | rfl | rfl <;> first | exact .inl rfl | exact .inr rfl | exact absurd rfl h2 | exact absurd rfl h3
theorem len_two {vs : List UInt8} (h : vs.length = 2) : ∃ v u, vs = [v, u] := by
  match vs, h with
  | [v, u], _ => exact ⟨v, u, rfl⟩
theorem leaf_op {c : UInt8} {vs : List UInt8} (h : wfF (.leaf c vs)) : (c = 116 ∨ c = 102) ∨ (c = 80 ∧ ∃ v, vs = [v]) ∨ ((c = 61 ∨ c = 69) ∧ ∃ v u, vs = [v, u]) := by
  obtain ⟨h1, h2, h3, h4⟩ := h
  rcases op_cases h1 with rfl | rfl | rfl | rfl | rfl | rfl | rfl | rfl | rfl | rfl | rfl | rfl | rfl <;> first | exact absurd h2 (by decide) | skip
  · exact .inl (.inl rfl)
  · exact .inl (.inr rfl)
  · exact .inr (.inl ⟨rfl, List.length_eq_one_iff.1 h3⟩)
  · exact .inr (.inr ⟨.inl rfl, len_two h3⟩)
  · exact .inr (.inr ⟨.inr rfl, len_two h3⟩)
end Go.Wk
namespace Go.Wk
open Go.RowKit
/-- the classes of the first things, and how many there are -/
def clsN (q : Nat → Nat → Bool) : Nat → List Int × Nat
  | 0 => ([], 0)
  | x + 1 => match (List.range x).find? (fun y => q y x) with
    | some y => ((clsN q x).1 ++ [(clsN q x).1.getD y 0], (clsN q x).2)
    | none => ((clsN q x).1 ++ [((clsN q x).2 : Int)], (clsN q x).2 + 1)
section
variable {q : Nat → Nat → Bool}
theorem cls_old {x y : Nat} (hy : y < x) (hall : ∀ i, i < y → q i x = false) (h : q y x = true) : clsN q (x + 1) = ((clsN q x).1 ++ [(clsN q x).1.getD y 0], (clsN q x).2) := by
  rw [clsN, find_at (f := fun y => q y x) hy hall h]
theorem cls_new {x : Nat} (hall : ∀ i, i < x → q i x = false) : clsN q (x + 1) = ((clsN q x).1 ++ [((clsN q x).2 : Int)], (clsN q x).2 + 1) := by
  have : (List.range x).find? (fun y => q y x) = none := by rw [List.find?_eq_none]; intro i hi; rw [hall i (List.mem_range.1 hi)]; simp
  rw [clsN, this]
theorem cls_cases (q : Nat → Nat → Bool) (x : Nat) : (∃ y, y < x ∧ (∀ i, i < y → q i x = false) ∧ q y x = true) ∨ ∀ i, i < x → q i x = false := by
  cases h : (List.range x).find? (fun y => q y x) with
  | none => exact .inr fun i hi => by simpa using List.find?_eq_none.1 h i (List.mem_range.2 hi)
  | some y =>
    rw [List.find?_range_eq_some] at h
    exact .inl ⟨y, List.mem_range.1 h.2.1, fun i hi => by simpa using h.2.2 i hi, h.1⟩
theorem cls_length (q : Nat → Nat → Bool) : ∀ x, (clsN q x).1.length = x
  | 0 => rfl
  | x + 1 => by
    rcases cls_cases q x with ⟨y, h1, h2, h3⟩ | h
    · rw [cls_old h1 h2 h3]; simp [cls_length q x]
    · rw [cls_new h]; simp [cls_length q x]
theorem cls_small (q : Nat → Nat → Bool) : ∀ x, (clsN q x).2 ≤ x ∧ ∀ m ∈ (clsN q x).1, 0 ≤ m ∧ m < ((clsN q x).2 : Int)
  | 0 => ⟨Nat.le_refl _, fun m hm => by cases hm⟩
  | x + 1 => by
    obtain ⟨i1, i2⟩ := cls_small q x
    rcases cls_cases q x with ⟨y, h1, h2, h3⟩ | h
    · rw [cls_old h1 h2 h3]
      refine ⟨by dsimp only; omega, fun m hm => ?_⟩
      rcases List.mem_append.1 hm with h4 | h4
      · exact i2 m h4
      · rw [List.mem_singleton.1 h4]
        have hl := cls_length q x
        rw [getD_at (by omega)]; exact i2 _ (List.getElem_mem _)
    · rw [cls_new h]
      refine ⟨by dsimp only; omega, fun m hm => ?_⟩
      rcases List.mem_append.1 hm with h4 | h4
      · have := i2 m h4; dsimp only; omega
      · rw [List.mem_singleton.1 h4]; dsimp only; omega
end
/-- what the reference has seen: the numbers, in order of their coming -/
structure SeenL (T : List (List UInt8)) (n : Nat) (a : St) (x : Nat) (S O : List Int) : Prop where
  cls : clsN (fun y x => winB n a [(y : Int)] a [(x : Int)]) x = (O, S.length)
  nodup : S.Nodup
  out : ∀ y : Nat, y < x → ∃ m k : Nat, Means T n a [(y : Int)] m ∧ O.getD y 0 = (k : Int) ∧ S[k]? = some (m : Int)
  seen : ∀ s ∈ S, ∃ m y : Nat, s = (m : Int) ∧ y < x ∧ Means T n a [(y : Int)] m
theorem SeenL.zero {T : List (List UInt8)} {n : Nat} {a : St} : SeenL T n a 0 [] [] := ⟨rfl, List.nodup_nil, fun y hy => absurd hy (by omega), fun s hs => by cases hs⟩
theorem SeenL.len {T : List (List UInt8)} {n : Nat} {a : St} {x : Nat} {S O : List Int} (h : SeenL T n a x S O) : O.length = x ∧ S.length ≤ x := by
  have h1 := cls_length (fun y x => winB n a [(y : Int)] a [(x : Int)]) x
  have h2 := (cls_small (fun y x => winB n a [(y : Int)] a [(x : Int)]) x).1
  rw [h.cls] at h1 h2
  exact ⟨h1, h2⟩
theorem getD_app1 {l r : List Int} {i : Nat} (h : i < l.length) : (l ++ r).getD i 0 = l.getD i 0 := by
  rw [List.getD_eq_getElem?_getD, List.getElem?_append_left h, ← List.getD_eq_getElem?_getD]
theorem getD_app2 {l : List Int} {z : Int} : (l ++ [z]).getD l.length 0 = z := by
  rw [List.getD_eq_getElem?_getD]; simp
theorem nodup_at {S : List Int} (h : S.Nodup) {i j : Nat} {m : Int} (hi : S[i]? = some m) (hj : S[j]? = some m) : i = j :=
  (List.getElem?_inj (List.getElem?_eq_some_iff.1 hi).1 h).1 (hi.trans hj.symm)
theorem SeenL.old {T T' : List (List UInt8)} {n : Nat} {a : St} {x : Nat} {S O : List Int} (h : SeenL T n a x S O) (hp : T <+: T') (hT : T'.Nodup) {m k : Nat} (hm : Means T' n a [(x : Int)] m) (hk : S[k]? = some (m : Int)) : SeenL T' n a (x + 1) S (O ++ [(k : Int)]) := by
  obtain ⟨hOl, hSl⟩ := h.len
  have heq : ∀ (y : Nat) (m' : Nat), Means T' n a [(y : Int)] m' → (m' = m ↔ winB n a [(y : Int)] a [(x : Int)] = true) := fun y m' hm' => by
    rw [means_win hT n a [(y : Int)] a [(x : Int)] m' m rfl hm' hm, win_iff n a [(y : Int)] a [(x : Int)] rfl]
  refine ⟨?_, h.nodup, fun y hy => ?_, fun s hs => ?_⟩
  · rcases cls_cases (fun y x => winB n a [(y : Int)] a [(x : Int)]) x with ⟨y, h1, h2, h3⟩ | hno
    · rw [cls_old h1 h2 h3, h.cls]
      obtain ⟨m', k', e1, e2, e3⟩ := h.out y h1
      have e4 := (heq y m' (e1.mono hp _ _ _ _)).2 h3
      subst e4
      rw [e2, nodup_at h.nodup e3 hk]
    · exfalso
      obtain ⟨m', y, e1, e2, e3⟩ := h.seen _ (List.mem_of_getElem? hk)
      have e4 : m' = m := by omega
      have := hno y e2
      rw [(heq y m' (e3.mono hp _ _ _ _)).1 e4] at this
      cases this
  · rcases Nat.lt_or_ge y x with h1 | h1
    · obtain ⟨m', k', e1, e2, e3⟩ := h.out y h1
      exact ⟨m', k', e1.mono hp _ _ _ _, by rw [getD_app1 (by omega)]; exact e2, e3⟩
    · obtain rfl : y = x := by omega
      exact ⟨m, k, hm, by rw [← hOl, getD_app2], hk⟩
  · obtain ⟨m', y, e1, e2, e3⟩ := h.seen s hs
    exact ⟨m', y, e1, by omega, e3.mono hp _ _ _ _⟩
theorem SeenL.new {T T' : List (List UInt8)} {n : Nat} {a : St} {x : Nat} {S O : List Int} (h : SeenL T n a x S O) (hp : T <+: T') (hT : T'.Nodup) {m : Nat} (hm : Means T' n a [(x : Int)] m) (hk : ¬ (m : Int) ∈ S) : SeenL T' n a (x + 1) (S ++ [(m : Int)]) (O ++ [(S.length : Int)]) := by
  obtain ⟨hOl, hSl⟩ := h.len
  have heq : ∀ (y : Nat) (m' : Nat), Means T' n a [(y : Int)] m' → (m' = m ↔ winB n a [(y : Int)] a [(x : Int)] = true) := fun y m' hm' => by
    rw [means_win hT n a [(y : Int)] a [(x : Int)] m' m rfl hm' hm, win_iff n a [(y : Int)] a [(x : Int)] rfl]
  refine ⟨?_, ?_, fun y hy => ?_, fun s hs => ?_⟩
  · rw [cls_new fun y hy => ?_, h.cls]
    · simp
    · obtain ⟨m', k', e1, e2, e3⟩ := h.out y hy
      cases hq : winB n a [(y : Int)] a [(x : Int)] with
      | false => rfl
      | true =>
        have e4 := (heq y m' (e1.mono hp _ _ _ _)).2 hq
        subst e4
        exact absurd (List.mem_of_getElem? e3) hk
  · rw [List.nodup_append]
    exact ⟨h.nodup, by simp, fun z hz y hy e => hk (by rw [List.mem_singleton.1 hy] at e; exact e ▸ hz)⟩
  · rcases Nat.lt_or_ge y x with h1 | h1
    · obtain ⟨m', k', e1, e2, e3⟩ := h.out y h1
      refine ⟨m', k', e1.mono hp _ _ _ _, by rw [getD_app1 (by omega)]; exact e2, ?_⟩
      rw [List.getElem?_append_left (List.getElem?_eq_some_iff.1 e3).1]; exact e3
    · obtain rfl : y = x := by omega
      exact ⟨m, S.length, hm, by rw [← hOl, getD_app2], by simp⟩
  · rcases List.mem_append.1 hs with h1 | h1
    · obtain ⟨m', y, e1, e2, e3⟩ := h.seen s h1
      exact ⟨m', y, e1, by omega, e3.mono hp _ _ _ _⟩
    · exact ⟨m, x, List.mem_singleton.1 h1, by omega, hm⟩
end Go.Wk
namespace Go.Wk
open Go.RowKit
section
variable {P : Program} {n : Nat} {C : World → Prop} {B : Nat} {w0 : World} {hs hs' : List (Nat × Obj)} {N R : Act → World → Prop} {X : List (Nat × (Act → World → Prop))} {e : Env} {ops : Array Oper} {l : List Oper} {o : Oper}
theorem OpQ.indexArr {t el : TypeId} {m : Nat} {x y : Operand} {b : Nat} {k : IntKind} {i : Int} (h : o.op = .indexAddr t x y) (hu : ∀ w, (underlying t).run P w = .ok (.array m el) w) (hz : ∀ w, (sizeOf el).run P w = .ok 1 w)
    (hx : opd e x = some (.pointer (some ⟨b, 0, none⟩))) (hy : opd e y = some (.int k i)) (h0 : 0 ≤ i) (h1 : i < m) : OpQ P n C e o (.pointer (some ⟨b, i.toNat, none⟩)) := OpQ.val fun A hF w => by
  unfold execOp; rw [h]; simp only [hF.opd hx, hF.opd hy]
  simp only [Instr.indexAt, Instr.sureAddr, asIntOf, Sem.run_bind, Sem.run_pure, hu, Result.andThen, hz, if_pos (And.intro h0 h1), Addr.add_lit, Nat.mul_one, Nat.zero_add]
theorem OpQ.max2 {x y : Operand} {ts : Array TypeId} {i j : Int} (h : o.op = .call ⟨.builtin .max, #[x, y], ts⟩) (hx : opd e x = some (.int .i64 i)) (hy : opd e y = some (.int .i64 j)) : OpQ P n C e o (.int .i64 (if j > i then j else i)) := OpQ.val fun A hF w => by
  unfold execOp; rw [h]
  simp only [resolve, invoke, BigFrame.builtin_max, List.map_toArray, List.map_cons, List.map_nil, hF.opd hx, hF.opd hy, Sem.run_bind, Sem.run_pure, Result.andThen, Builtin.max_, List.foldlM_cons, List.foldlM_nil, Builtin.max2]
def entM (x : List UInt8 × Nat) : MapEntry := { key := str x.1, val := .bool true, born := x.2 }
def mapO (ks : List (List UInt8)) : Obj := .map ((ks.zipIdx.map entM).toArray) ks.length
def addK (ks : List (List UInt8)) (s : List UInt8) : List (List UInt8) := if s ∈ ks then ks else ks ++ [s]
theorem Own.setObj {w : World} (h : Own B w0 hs w) {i p : Nat} {u : Obj} (hi : hs[i]? = some (p, u)) (u' : Obj) : Own B w0 (hs.set i (p, u')) { w with heap := w.heap.setIfInBounds p u' } := by
  obtain ⟨hB, hp⟩ := h.has i p u hi
  obtain ⟨hh, hne⟩ := MapKept.heap_set (o' := u') hp
  have hil : i < hs.length := (List.getElem?_eq_some_iff.1 hi).1
  refine Own.of_mem ⟨h.below.os, h.below.tape, h.below.output, by have := h.below.size; simpa using this, fun k hk => ?_⟩ (by have := h.base; simpa using this) (fun x hx => ?_) ?_
  · have := h.below.block k hk
    rw [← this]; exact hne k (by omega)
  · obtain ⟨j, hj⟩ := List.mem_iff_getElem?.1 hx
    rw [List.getElem?_set] at hj
    split at hj
    · rename_i e1; subst e1
      injection hj with hj; subst hj
      exact ⟨hB, hh⟩
    · rename_i e1
      obtain ⟨h1, h2⟩ := h.has j x.1 x.2 hj
      exact ⟨h1, by rw [← h2]; exact hne _ (fun e2 => h.apart j i x.1 x.2 p u hj hi (fun e3 => e1 e3.symm) e2)⟩
  · have : (hs.set i (p, u')).map Prod.fst = hs.map Prod.fst := by
      rw [List.map_set]
      refine set_same ?_
      rw [List.getElem?_map, hi]; rfl
    rw [this]; exact h.nodup
theorem Ll.makeMap {d t : Nat} (hd : Nat.blt d n = true) (hdst : o.dst = some d) (hg : wantE ops e o.guard = some true) (h : o.op = .makeMap t none)
    (k : ∀ p, B ≤ p → Ll P n (Own B w0 ((p, mapO []) :: hs)) ops l ((d, .map (some p)) :: e) N R X) : Ll P n (Own B w0 hs) ops (o :: l) e N R X :=
  Ll.turn hd hdst hg fun a w hF hw => ⟨.map (some w.heap.size), w.alloc (mapO []), by
    unfold execOp; rw [h]; rfl, fun a' ha => by
    have := k _ hw.base
    unfold Ll at this
    exact this a' _ ha (hw.alloc _)⟩
end
structure RR where
  g : Nat
  cap : Nat
  cur : Array Value
  xs : List Int
def rd : RR := ⟨0, 0, #[], []⟩
def rv (r : RR) : Value := .slice (some ⟨r.g, 0, none⟩) r.xs.length r.cap
structure RR.Ok (r : RR) : Prop where
  size : r.cur.size = r.cap * 1
  len : r.xs.length ≤ r.cap
  vals : r.cur.toList.take r.xs.length = ints r.xs
def rvs (rr : List RR) : List Value := rr.map rv
@[simp] theorem rvs_length (rr : List RR) : (rvs rr).length = rr.length := by simp [rvs]
theorem rvs_at {rr : List RR} {i : Nat} (h : i < rr.length) : (rvs rr)[i]? = some (rv (rr.getD i rd)) := by
  rw [rvs, List.getElem?_map, List.getElem?_eq_getElem h, getD_at h]; rfl
section
variable {B : Nat} {w0 : World} {hs : List (Nat × Obj)}
end
structure RowsOk (rr : List RR) (u : Array Value) (c : Nat) : Prop where
  size : u.size = c * 1
  len : rr.length ≤ c
  vals : u.toList.take rr.length = rvs rr
  ok : ∀ r ∈ rr, r.Ok
theorem RowsOk.nil : RowsOk [] #[] 0 := ⟨rfl, Nat.le_refl 0, rfl, fun r hr => by cases hr⟩
theorem RowsOk.one (p : Nat) : RowsOk [⟨p, 0, #[], []⟩] #[.slice (some ⟨p, 0, none⟩) 0 0] 1 := ⟨rfl, Nat.le_refl 1, rfl, fun r hr => by rw [List.mem_singleton.1 hr]; exact ⟨rfl, Nat.le_refl 0, rfl⟩⟩
theorem RowsOk.add {rr : List RR} {u u' : Array Value} {c c' : Nat} {r : RR} (h : RowsOk rr u c) (hr : r.Ok) (hs : u'.size = c' * 1) (hl : rr.length + 1 ≤ c') (hv : u'.toList.take ((rr.length + 1) * 1) = u.toList.take (rr.length * 1) ++ [rv r]) : RowsOk (rr ++ [r]) u' c' := by
  refine ⟨hs, by simpa using hl, ?_, fun x hx => ?_⟩
  · have h1 := h.vals
    rw [Nat.mul_one, Nat.mul_one, h1] at hv
    rw [List.length_append, List.length_singleton, hv]; simp [rvs]
  · rcases List.mem_append.1 hx with h1 | h1
    · exact h.ok x h1
    · rw [List.mem_singleton.1 h1]; exact hr
def pointL (size : Nat) : Nat → Nat → List Int
  | 0, _ => []
  | w + 1, k => pointL size w (k / size) ++ [((k % size : Nat) : Int)]
@[simp] theorem pointL_length (size : Nat) : ∀ w k, (pointL size w k).length = w
  | 0, _ => rfl
  | w + 1, k => by simp [pointL, pointL_length size w]
/-- texts, each once -/
def dedup (l : List (List UInt8)) : List (List UInt8) := l.foldl addK []
end Go.Wk
namespace Go.Wk
open Go.RowKit
end Go.Wk
namespace Go.Wk
open Go.RowKit
theorem insS_mem {l : List Int} {n : Int} (h : l.Pairwise (· < ·)) (hn : n ∈ l) : insS l n = l :=
  sorted_ext (sorted_insS h) h fun x => by rw [mem_insS]; constructor; rintro (rfl | h1); exact hn; exact h1; exact .inr
theorem insS_new {n : Int} : ∀ {l : List Int}, n ∉ l → (insS l n).length = l.length + 1
  | [], _ => rfl
  | x :: l, h => by
    have h1 : x ≠ n := fun e => h (by simp [e])
    have h2 : n ∉ l := fun e => h (by simp [e])
    unfold insS
    rw [if_neg h1]
    split
    · rfl
    · rw [List.length_cons, insS_new h2, List.length_cons]
theorem cls_same {q : Nat → Nat → Bool} {k y : Nat} (hy : y < k) (h : q y k = true) : (clsN q (k + 1)).2 = (clsN q k).2 := by
  rcases cls_cases q k with ⟨z, h1, h2, h3⟩ | hno
  · rw [cls_old h1 h2 h3]
  · rw [hno y hy] at h; cases h
theorem cls_more {q : Nat → Nat → Bool} {k : Nat} (h : ∀ y, y < k → q y k = false) : (clsN q (k + 1)).2 = (clsN q k).2 + 1 := by rw [cls_new h]
def qP (a : St) (r w : Nat) (y x : Nat) : Bool := winB r a (pointL a.n.toNat w y) a (pointL a.n.toNat w x)
structure CountL (T : List (List UInt8)) (r : Nat) (a : St) (w k : Nat) (S : List Int) : Prop where
  cls : (clsN (qP a r w) k).2 = S.length
  sorted : S.Pairwise (· < ·)
  all : ∀ y : Nat, y < k → ∃ i : Nat, (i : Int) ∈ S ∧ Means T r a (pointL a.n.toNat w y) i
  only : ∀ m ∈ S, ∃ i y : Nat, m = i ∧ y < k ∧ Means T r a (pointL a.n.toNat w y) i
theorem CountL.zero {T : List (List UInt8)} {r : Nat} {a : St} {w : Nat} : CountL T r a w 0 [] := ⟨rfl, List.Pairwise.nil, fun y hy => absurd hy (by omega), fun m hm => by cases hm⟩
theorem CountL.len {T : List (List UInt8)} {r : Nat} {a : St} {w k : Nat} {S : List Int} (h : CountL T r a w k S) : S.length ≤ k := by rw [← h.cls]; exact (cls_small _ k).1
theorem CountL.step {T T' : List (List UInt8)} {r : Nat} {a : St} {w k i : Nat} {S : List Int} (h : CountL T r a w k S) (hp : T <+: T') (hT : T'.Nodup) (hm : Means T' r a (pointL a.n.toNat w k) i) : CountL T' r a w (k + 1) (insS S (i : Int)) := by
  have heq : ∀ (y j : Nat), Means T' r a (pointL a.n.toNat w y) j → (j = i ↔ qP a r w y k = true) := fun y j hj => by
    unfold qP
    rw [means_win hT r a (pointL a.n.toNat w y) a (pointL a.n.toNat w k) j i (by simp) hj hm, win_iff r a (pointL a.n.toNat w y) a (pointL a.n.toNat w k) (by simp)]
  refine ⟨?_, sorted_insS h.sorted, fun y hy => ?_, fun m hmem => ?_⟩
  · by_cases hi : (i : Int) ∈ S
    · rw [insS_mem h.sorted hi, ← h.cls]
      obtain ⟨j, y, e, hy, hM⟩ := h.only _ hi
      obtain rfl : i = j := by omega
      exact cls_same hy ((heq y i (hM.mono hp _ _ _ _)).1 rfl)
    · rw [insS_new hi, ← h.cls]
      refine cls_more fun y hy => ?_
      cases hq : qP a r w y k with
      | false => rfl
      | true =>
        obtain ⟨j, hj, hM⟩ := h.all y hy
        have := (heq y j (hM.mono hp _ _ _ _)).2 hq
        subst this
        exact absurd hj hi
  · rcases Nat.lt_or_ge y k with h1 | h1
    · obtain ⟨j, hj, hM⟩ := h.all y h1
      exact ⟨j, mem_insS.2 (.inr hj), hM.mono hp _ _ _ _⟩
    · obtain rfl : y = k := by omega
      exact ⟨i, mem_insS.2 (.inl rfl), hm⟩
  · rcases mem_insS.1 hmem with h1 | h1
    · exact ⟨i, k, h1, by omega, hm⟩
    · obtain ⟨j, y, e, hy, hM⟩ := h.only m h1
      exact ⟨j, y, e, by omega, hM.mono hp _ _ _ _⟩
end Go.Wk
namespace Go.Wk
open Go.RowKit
/-- the second player wins so many turns -/
def pW : Nat → St → List Int → St → List Int → Prop
  | 0, a, xs, b, ys => (∀ i : Nat, i < xs.length → (xs.getD i 0 < 0 ↔ ys.getD i 0 < 0)) ∧ sameB a (placed xs xs.length) b (placed ys ys.length) = true
  | n + 1, a, xs, b, ys => pW n a xs b ys ∧ ∀ i : Nat, i < xs.length → (∀ x : Nat, x < a.n.toNat → ∃ y : Nat, y < b.n.toNat ∧ pW n a (xs.set i (x : Int)) b (ys.set i (y : Int))) ∧
      (∀ y : Nat, y < b.n.toNat → ∃ x : Nat, x < a.n.toNat ∧ pW n a (xs.set i (x : Int)) b (ys.set i (y : Int)))
def idxP (size : Nat) (xs : List Int) : Nat := xs.foldl (fun n x => n * (size + 1) + (x + 1).toNat) 0
def atP (size : Nat) : Nat → Nat → List Int
  | 0, _ => []
  | k + 1, n => atP size k (n / (size + 1)) ++ [((n % (size + 1) : Nat) : Int) - 1]
/-- pebbles on a structure of a size: elements, or -1 -/
def Peb (size k : Nat) (xs : List Int) : Prop := xs.length = k ∧ ∀ x ∈ xs, -1 ≤ x ∧ x < (size : Int)
@[simp] theorem atP_len (size : Nat) : ∀ k n, (atP size k n).length = k
  | 0, _ => rfl
  | k + 1, n => by simp [atP, atP_len size k]
theorem peb_set {size k i : Nat} {xs : List Int} (h : Peb size k xs) {x : Nat} (hx : x < size) : Peb size k (xs.set i (x : Int)) := by
  refine ⟨by rw [List.length_set]; exact h.1, fun y hy => ?_⟩
  rcases List.mem_or_eq_of_mem_set hy with h1 | h1
  · exact h.2 y h1
  · rw [h1]; omega
def numP (size : Nat) (R : List Int) (xs : List Int) : Int := R.getD (idxP size xs) 0
/-- two rows of numbers tell who wins n turns -/
structure GoodP (n k : Nat) (a b : St) (Ra Rb : List Int) : Prop where
  aa : ∀ xs ys, Peb a.n.toNat k xs → Peb a.n.toNat k ys → (numP a.n.toNat Ra xs = numP a.n.toNat Ra ys ↔ pW n a xs a ys)
  ab : ∀ xs ys, Peb a.n.toNat k xs → Peb b.n.toNat k ys → (numP a.n.toNat Ra xs = numP b.n.toNat Rb ys ↔ pW n a xs b ys)
  bb : ∀ xs ys, Peb b.n.toNat k xs → Peb b.n.toNat k ys → (numP b.n.toNat Rb xs = numP b.n.toNat Rb ys ↔ pW n b xs b ys)
def NonNeg (R : List Int) : Prop := ∀ i : Nat, 0 ≤ R.getD i 0
/-- the numbers of descriptions -/
def NumOf (T : List (List UInt8)) (text : Nat → List UInt8) (R : List Int) (N : Nat) : Prop := R.length = N ∧ ∀ i : Nat, i < N → ∃ m : Nat, R.getD i 0 = (m : Int) ∧ T[m]? = some (text i)
theorem NumOf.mono {T T' : List (List UInt8)} {text : Nat → List UInt8} {R : List Int} {N : Nat} (h : NumOf T text R N) (hp : T <+: T') : NumOf T' text R N :=
  ⟨h.1, fun i hi => (h.2 i hi).elim fun m hm => ⟨m, hm.1, prefix_get hp hm.2⟩⟩
end Go.Wk
namespace Go.Wk
open Go.RowKit
end Go.Wk
namespace Go.Wk
open Go.RowKit
/-- numbers of descriptions, as far as they are told -/
def NumTo (T : List (List UInt8)) (text : Nat → List UInt8) (R : List Int) (N k : Nat) : Prop := R.length = N ∧ ∀ i : Nat, i < k → ∃ m : Nat, R.getD i 0 = (m : Int) ∧ T[m]? = some (text i)
theorem NumTo.zero (T : List (List UInt8)) (text : Nat → List UInt8) (N : Nat) : NumTo T text (List.replicate N 0) N 0 := ⟨by simp, fun i hi => absurd hi (by omega)⟩
theorem NumTo.step {T T' : List (List UInt8)} {text : Nat → List UInt8} {R : List Int} {N k m : Nat} (h : NumTo T text R N k) (hp : T <+: T') (hm : T'[m]? = some (text k)) (hk : k < N) : NumTo T' text (R.set k (m : Int)) N (k + 1) := by
  refine ⟨by rw [List.length_set]; exact h.1, fun i hi => ?_⟩
  by_cases e : i = k
  · subst e
    exact ⟨m, by rw [List.getD_eq_getElem?_getD, List.getElem?_set_self (by rw [h.1]; exact hk)]; rfl, hm⟩
  · obtain ⟨p, h1, h2⟩ := h.2 i (by omega)
    exact ⟨p, by rw [List.getD_eq_getElem?_getD, List.getElem?_set_ne (fun e' => e e'.symm), ← List.getD_eq_getElem?_getD]; exact h1, prefix_get hp h2⟩
theorem NumTo.all {T : List (List UInt8)} {text : Nat → List UInt8} {R : List Int} {N : Nat} (h : NumTo T text R N N) : NumOf T text R N := h
end Go.Wk
namespace Go.Wk
open Go.RowKit
/-- every new text of the table is some row's -/
def Onto (T0 T : List (List UInt8)) (R : List Int) (k : Nat) : Prop := ∀ m : Nat, T0.length ≤ m → m < T.length → ∃ i : Nat, i < k ∧ R.getD i 0 = (m : Int)
theorem Onto.zero (T : List (List UInt8)) (R : List Int) : Onto T T R 0 := fun m h1 h2 => absurd h1 (by omega)
theorem Onto.step {T0 T T' : List (List UInt8)} {R : List Int} {k m : Nat} {s : List UInt8} (h : Onto T0 T R k) (hd : T' = T ∨ T' = T ++ [s] ∧ m = T.length) (hk : k < R.length) : Onto T0 T' (R.set k (m : Int)) (k + 1) := fun p h1 h2 => by
  have old : ∀ i : Nat, i < k → (R.set k (m : Int)).getD i 0 = R.getD i 0 := fun i hi => by
    rw [List.getD_eq_getElem?_getD, List.getElem?_set_ne (by omega), ← List.getD_eq_getElem?_getD]
  have new : (R.set k (m : Int)).getD k 0 = (m : Int) := by rw [List.getD_eq_getElem?_getD, List.getElem?_set_self hk]; rfl
  rcases hd with e | ⟨e, e2⟩
  · subst e
    obtain ⟨i, hi, h3⟩ := h p h1 h2
    exact ⟨i, by omega, (old i hi).trans h3⟩
  · rw [e, List.length_append, List.length_singleton] at h2
    rcases Nat.lt_or_ge p T.length with h4 | h4
    · obtain ⟨i, hi, h3⟩ := h p h1 h4
      exact ⟨i, by omega, (old i hi).trans h3⟩
    · exact ⟨k, by omega, by rw [new, e2, show p = T.length from by omega]⟩
/-- the numbers of both structures' pebbles after some turns -/
structure LevP (n k : Nat) (a b : St) (Ra Rb : List Int) (K : Nat) : Prop where
  good : GoodP n k a b Ra Rb
  la : Ra.length = (a.n.toNat + 1) ^ k
  lb : Rb.length = (b.n.toNat + 1) ^ k
  sa : ∀ i : Nat, i < Ra.length → 0 ≤ Ra.getD i 0 ∧ Ra.getD i 0 < (K : Int)
  sb : ∀ i : Nat, i < Rb.length → 0 ≤ Rb.getD i 0 ∧ Rb.getD i 0 < (K : Int)
  onto : ∀ m : Nat, m < K → (∃ i : Nat, i < Ra.length ∧ Ra.getD i 0 = (m : Int)) ∨ ∃ i : Nat, i < Rb.length ∧ Rb.getD i 0 = (m : Int)
theorem LevP.na {n k : Nat} {a b : St} {Ra Rb : List Int} {K : Nat} (h : LevP n k a b Ra Rb K) : NonNeg Ra := fun i => by
  rcases Nat.lt_or_ge i Ra.length with h1 | h1
  · exact (h.sa i h1).1
  · rw [List.getD_eq_getElem?_getD, List.getElem?_eq_none h1]; exact Int.le_refl 0
theorem LevP.nb {n k : Nat} {a b : St} {Ra Rb : List Int} {K : Nat} (h : LevP n k a b Ra Rb K) : NonNeg Rb := fun i => by
  rcases Nat.lt_or_ge i Rb.length with h1 | h1
  · exact (h.sb i h1).1
  · rw [List.getD_eq_getElem?_getD, List.getElem?_eq_none h1]; exact Int.le_refl 0
def sS (a b : St) (s : Bool × List Int) : St := if s.1 then b else a
def sP (a b : St) (k : Nat) (s : Bool × List Int) : Prop := Peb (sS a b s).n.toNat k s.2
def Still (n k : Nat) (a b : St) : Prop := ∀ s t, sP a b k s → sP a b k t → pW n (sS a b s) s.2 (sS a b t) t.2 → pW (n + 1) (sS a b s) s.2 (sS a b t) t.2
theorem Still.next {n k : Nat} {a b : St} (h : Still n k a b) : Still (n + 1) k a b := fun s t hs ht e => by
  refine ⟨e, fun i hi => ?_⟩
  obtain ⟨h1, h2⟩ := e.2 i hi
  have put : ∀ {u : Bool × List Int} {x : Nat}, sP a b k u → x < (sS a b u).n.toNat → sP a b k (u.1, u.2.set i (x : Int)) := fun hu hx => peb_set hu hx
  refine ⟨fun x hx => ?_, fun y hy => ?_⟩
  · obtain ⟨y, hy, e2⟩ := h1 x hx
    exact ⟨y, hy, h (s.1, s.2.set i (x : Int)) (t.1, t.2.set i (y : Int)) (put hs hx) (put ht hy) e2⟩
  · obtain ⟨x, hx, e2⟩ := h2 y hy
    exact ⟨x, hx, h (s.1, s.2.set i (x : Int)) (t.1, t.2.set i (y : Int)) (put hs hx) (put ht hy) e2⟩
theorem Still.all {n k : Nat} {a b : St} (h : Still n k a b) : ∀ m : Nat, Still (n + m) k a b
  | 0 => h
  | m + 1 => (h.all m).next
theorem Still.up {n k : Nat} {a b : St} (h : Still n k a b) {s t : Bool × List Int} (hs : sP a b k s) (ht : sP a b k t) (e : pW n (sS a b s) s.2 (sS a b t) t.2) : ∀ m : Nat, pW (n + m) (sS a b s) s.2 (sS a b t) t.2
  | 0 => e
  | m + 1 => h.all m s t hs ht (h.up hs ht e m)
end Go.Wk
namespace Go.Wk
open Go.RowKit
/-- levels of numbers: so many, the kinds grow up to some level -/
structure Levs (k M : Nat) (a b : St) (A B : List (List Int)) (m g : Nat) : Prop where
  la : A.length = m + 1
  lb : B.length = m + 1
  lev : ∃ Ks : Nat → Nat, (∀ i : Nat, i ≤ m → Ks i ≤ 1458 ∧ LevP i k a b (A.getD i []) (B.getD i []) (Ks i)) ∧ (4 < M → ∀ i : Nat, i < g → Ks i < Ks (i + 1))
theorem getA1 {α : Type} {l : List α} {x d : α} {i : Nat} (h : i < l.length) : (l ++ [x]).getD i d = l.getD i d := by
  rw [List.getD_eq_getElem?_getD, List.getElem?_append_left h, ← List.getD_eq_getElem?_getD]
theorem Levs.at {k M m g : Nat} {a b : St} {A B : List (List Int)} (h : Levs k M a b A B m g) {i : Nat} (hi : i ≤ m) : ∃ K, K ≤ 1458 ∧ LevP i k a b (A.getD i []) (B.getD i []) K := by
  obtain ⟨_, _, Ks, h1, _⟩ := h
  exact ⟨Ks i, h1 i hi⟩
end Go.Wk
namespace Go.Wk
open Go.RowKit
theorem RowsOk.cell {rr : List RR} {u : Array Value} {c i : Nat} (h : RowsOk rr u c) (hi : i < rr.length) : u.toList[i]? = some (rv (rr.getD i rd)) := by
  have := rvs_at hi
  rw [← h.vals, List.getElem?_take, if_pos hi] at this
  exact this
theorem RowsOk.old {rr : List RR} {x : RR} {u : Array Value} {c i : Nat} (h : RowsOk (rr ++ [x]) u c) (hi : i < rr.length) : u.toList[i]? = some (rv (rr.getD i rd)) := by
  have := h.cell (i := i) (by rw [List.length_append]; omega)
  rwa [getA1 hi] at this
end Go.Wk
namespace Go.Wk
open Go.RowKit
end Go.Wk
namespace Go.Wk
open Go.RowKit
end Go.Wk
namespace Go.Wk
open Go.RowKit
end Go.Wk
namespace Go.Wk
open Go.RowKit
/-- a state's digit -/
def dig (pr s i : Nat) : Nat := s / pr ^ i % pr
/-- a state with a digit's pebble beside -/
def zer (pr s i : Nat) : Nat := s - pr ^ i * dig pr s i
def xOf (nb d : Nat) : Int := if d = 0 then -1 else (((d - 1) / nb : Nat) : Int)
def yOf (nb d : Nat) : Int := if d = 0 then -1 else (((d - 1) % nb : Nat) : Int)
def pX (nb pr k s : Nat) : List Int := (List.range k).map fun i => xOf nb (dig pr s i)
def pY (nb pr k s : Nat) : List Int := (List.range k).map fun i => yOf nb (dig pr s i)
@[simp] theorem pX_len (nb pr k s : Nat) : (pX nb pr k s).length = k := by simp [pX]
@[simp] theorem pY_len (nb pr k s : Nat) : (pY nb pr k s).length = k := by simp [pY]
def code (nb : Nat) (x y : Int) : Nat := if 0 ≤ x then 1 + x.toNat * nb + y.toNat else 0
end Go.Wk
namespace Go.Wk
open Go.RowKit
def prN (a b : St) : Nat := a.n.toNat * b.n.toNat + 1
/-- the elements of a state on either structure -/
def stX (a b : St) (k s : Nat) : List Int := pX b.n.toNat (prN a b) k s
def stY (a b : St) (k s : Nat) : List Int := pY b.n.toNat (prN a b) k s
@[simp] theorem stX_len (a b : St) (k s : Nat) : (stX a b k s).length = k := by unfold stX; simp
@[simp] theorem stY_len (a b : St) (k s : Nat) : (stY a b k s).length = k := by unfold stY; simp
open Classical in
noncomputable def winAt (n : Nat) (a b : St) (k s : Nat) : Bool := decide (pW n a (stX a b k s) b (stY a b k s))
noncomputable def WL (n : Nat) (a b : St) (k : Nat) : List Bool := (List.range (prN a b ^ k)).map (winAt n a b k)
@[simp] theorem WL_len (n : Nat) (a b : St) (k : Nat) : (WL n a b k).length = prN a b ^ k := by simp [WL]
/-- whether each choice with a pebble has an answer, from a winning list -/
def Ans (W : Nat → Bool) (na nb rest step : Nat) : Prop := (∀ x : Nat, x < na → ∃ y : Nat, y < nb ∧ W (rest + step * (1 + x * nb + y)) = true) ∧ ∀ y : Nat, y < nb → ∃ x : Nat, x < na ∧ W (rest + step * (1 + x * nb + y)) = true
end Go.Wk
namespace Go.Wk
open Go.RowKit
structure Marks (f : Nat → Nat → Bool) (na nb x y : Nat) (R C : List Bool) : Prop where
  rl : R.length = na
  cl : C.length = nb
  rows : ∀ i : Nat, i < na → (R.getD i false = true ↔ ∃ j : Nat, j < nb ∧ (i < x ∨ i = x ∧ j < y) ∧ f i j = true)
  cols : ∀ j : Nat, j < nb → (C.getD j false = true ↔ ∃ i : Nat, i < na ∧ (i < x ∨ i = x ∧ j < y) ∧ f i j = true)
end Go.Wk
namespace Go.Wk
open Go.RowKit
end Go.Wk
namespace Go.Wk
end Go.Wk
namespace Go.Wk
open Go.RowKit
structure TurnAt (fit W : Nat → Bool) (a b : St) (k i S : Nat) (X : List Bool) : Prop where
  len : X.length = prN a b ^ k
  at_ : ∀ s : Nat, s < prN a b ^ k → (X.getD s false = true ↔ fit s = true ∧ (∀ j : Nat, j < i → Ans W a.n.toNat b.n.toNat (zer (prN a b) s j) (prN a b ^ j)) ∧ (zer (prN a b) s i < S → Ans W a.n.toNat b.n.toNat (zer (prN a b) s i) (prN a b ^ i)))
/-- places cleared -/
structure Cleared (X0 X : List Bool) (S step Q : Nat) : Prop where
  len : X.length = X0.length
  at_ : ∀ s : Nat, s < X0.length → (X.getD s false = true ↔ X0.getD s false = true ∧ ¬ ∃ q, q < Q ∧ s = S + step * q)
end Go.Wk
namespace Go.Wk
open Go.RowKit
end Go.Wk
namespace Go.Wk
open Go.RowKit
end Go.Wk
namespace Go.Wk
open Go.RowKit
section
variable {P : Program} {n : Nat} {B : Nat} {w0 : World} {N R : Act → World → Prop} {X : List (Nat × (Act → World → Prop))} {e : Env} {ops : Array Oper} {l : List Oper} {o : Oper}
end
section
variable {P : Program} {n : Nat} {C : World → Prop} {e : Env} {o : Oper}
theorem OpQ.eqNilP {t t' q : TypeId} {x y : Operand} {p : Option Addr} (h : o.op = .binOp .eql t x y t') (hu : P.underlying t = some (.pointer q)) (hx : opd e x = some (.pointer p)) (hy : opd e y = some (.pointer none)) : OpQ P n C e o (.bool p.isNone) := OpQ.val fun A hf w => by
  have hu' : P.underlying t = some (.pointer (P.pointee t)) := by simp [Program.pointee, hu]
  unfold execOp; rw [h]; simp only [hf.opd hx, hf.opd hy]
  rw [show eqGuard .eql t x y (Value.pointer p) (Value.pointer none) = pure () from rfl]
  simp only [Sem.run_bind, run_eql_pointer_nil w t p hu', Sem.run_pure, Result.andThen]
end
end Go.Wk
namespace Go.Wk
open Go.RowKit
section
variable {P : Program} {n : Nat} {C : World → Prop} {N R : Act → World → Prop} {X : List (Nat × (Act → World → Prop))} {e : Env}
/-- some rounds more -/
def Rn (P : Program) (c : Code) (N R : Act → World → Prop) (X : List (Nat × (Act → World → Prop))) (k : Nat) : Act → World → Prop := fun a w => Code.rounds P c (post N R X) k a w
theorem then_post {Nn N R : Act → World → Prop} {X : List (Nat × (Act → World → Prop))} : ∀ (x : Exit) (a : Act) (w : World), post Nn R X x a w → Exit.then Nn (post N R X) x a w := fun x a w hh => by
  cases x <;> first | exact hh | exact hh.elim
theorem Wk.unroll {c : Code} (k : Nat) (h : Wk P n C c (Rn P c N R X k) R X e) : Wk P n C (.loop c) N R X e := by
  unfold Wk at h ⊢; intro a w hf hc
  exact wp_loop_rounds (k + 1) (by rw [rounds_succ]; exact Code.wp_mono then_post (h a w hf hc))
theorem Kt.round {c : Code} {k : Nat} {e' : Env} (hs : Sub e' e) (h : Wk P n C c (Rn P c N R X k) R X e') : Kt n C e (Rn P c N R X (k + 1)) := by
  unfold Wk at h; unfold Kt; intro a w hf hc; unfold Rn; rw [rounds_succ]; exact Code.wp_mono then_post (h a w (hf.sub hs) hc)
theorem Own.trans {B : Nat} {w0 w1 w : World} {hs : List (Nat × Obj)} (h : Own B w0 hs w1) (k : Below w1.heap.size w1 w) : Own B w0 hs w := h.calls k
end
section
variable {P : Program} {n : Nat} {B : Nat} {w0 : World} {hs : List (Nat × Obj)} {N R : Act → World → Prop} {X : List (Nat × (Act → World → Prop))} {e : Env} {ops : Array Oper} {l : List Oper} {o : Oper}
theorem new_one {i p : Nat} {V : Value} {T : TypeId} (hi : hs[i]? = some (p, .cells #[V] T (0, 0))) : ∀ w, Own B w0 hs w → ∀ ad, some (⟨p, 0, none⟩ : Addr) = some ad → ∀ j u, ([V])[j]? = some u → w.cell? (ad.add j) = some u := fun w1 hw1 ad had j u hj => by
  injection had with had; subst had
  rw [Addr.add_lit, Nat.zero_add, hw1.cell (i := i) hi]
  simpa using hj
theorem Ll.appendN1 {t el d p : Nat} {T : TypeId} {x y : Operand} {V : Value} (E : Elem P t el 1) (i : Nat) (hd : Nat.blt d n = true) (hdst : o.dst = some d) (hg : wantE ops e o.guard = some true)
    (h : o.op = .call ⟨.builtin .append, #[x, y], #[t, t]⟩) (hx : opd e x = some (.slice none 0 0)) (hy : opd e y = some (.slice (some ⟨p, 0, none⟩) 1 1)) (hi : hs[i]? = some (p, .cells #[V] T (0, 0)))
    (k : ∀ g' c' u', B ≤ g' → u'.size = c' * 1 → 1 ≤ c' → u'.toList.take 1 = [V] → Ll P n (Own B w0 ((g', .cells u' el (0, 0)) :: hs)) ops l ((d, .slice (some ⟨g', 0, none⟩) 1 c') :: e) N R X) : Ll P n (Own B w0 hs) ops (o :: l) e N R X :=
  Ll.appendNil E [V] hd hdst hg h hx hy (by decide) (by simp) rfl (new_one hi) (by decide) fun g' c' u' h1 h2 h3 h4 => k g' c' u' h1 h2 h3 h4
theorem Ll.append1 {t el d p g m cap : Nat} {cur : Array Value} {vs : List Value} {T : TypeId} {x y : Operand} {V : Value} (E : Elem P t el 1) (j i : Nat) (hd : Nat.blt d n = true) (hdst : o.dst = some d) (hg : wantE ops e o.guard = some true)
    (h : o.op = .call ⟨.builtin .append, #[x, y], #[t, t]⟩) (hx : opd e x = some (.slice (some ⟨g, 0, none⟩) m cap)) (hy : opd e y = some (.slice (some ⟨p, 0, none⟩) 1 1)) (hj : hs[j]? = some (g, .cells cur el (0, 0))) (hc : cur.size = cap * 1) (hl : m ≤ cap) (ht : cur.toList.take m = vs) (hi : hs[i]? = some (p, .cells #[V] T (0, 0))) (hV : V.oneCell' = true) (hb : m ≤ 1000000)
    (k : ∀ g' c' u', B ≤ g' → u'.size = c' * 1 → m + 1 ≤ c' → u'.toList.take (m + 1) = vs ++ [V] → Ll P n (Own B w0 (hs.set j (g', .cells u' el (0, 0)))) ops l ((d, .slice (some ⟨g', 0, none⟩) (m + 1) c') :: e) N R X) : Ll P n (Own B w0 hs) ops (o :: l) e N R X :=
  Ll.append E j [V] hd hdst hg h hx hy hj hc hl rfl (fun h => by cases h) (new_one hi) (by simpa using hV) (by omega) fun g' c' u' h1 h2 h3 h4 => k g' c' u' h1 h2 h3 (by rw [← ht]; simpa using h4)
end
theorem u8_beq (b c : UInt8) : (b == c) = decide (b.toNat = c.toNat) := by
  rw [Bool.eq_iff_iff, beq_iff_eq, decide_eq_true_eq]
  exact ⟨fun e => by rw [e], fun e => UInt8.toNat.inj e⟩
theorem idx_abcd (c : UInt8) : decide ((0 : Int) ≤ Lib.indexByte [97, 98, 99, 100] c) = isV c := by
  unfold isV
  have e : ∀ k : UInt8, (k == c) = decide (k.toNat = c.toNat) := fun k => u8_beq k c
  simp only [Lib.indexByte, e]
  have h1 : (97 : UInt8).toNat = 97 := rfl
  have h2 : (98 : UInt8).toNat = 98 := rfl
  have h3 : (99 : UInt8).toNat = 99 := rfl
  have h4 : (100 : UInt8).toNat = 100 := rfl
  rw [h1, h2, h3, h4, Bool.eq_iff_iff]
  simp only [decide_eq_true_eq, Bool.and_eq_true]
  by_cases c1 : 97 = c.toNat
  · simp [← c1]
  · by_cases c2 : 98 = c.toNat
    · simp [← c2]
    · by_cases c3 : 99 = c.toNat
      · simp [← c3]
      · by_cases c4 : 100 = c.toNat
        · simp [← c4]
        · simp [c1, c2, c3, c4]; omega
theorem idx_quant (c : UInt8) : decide ((0 : Int) ≤ Lib.indexByte [65, 83, 50, 51, 52] c) = decide (quI (c.toNat : Int)) := by
  rw [decide_eq_decide]
  unfold quI
  have e : ∀ k : UInt8, (k == c) = decide (k.toNat = c.toNat) := fun k => u8_beq k c
  simp only [Lib.indexByte, e]
  have h1 : (65 : UInt8).toNat = 65 := rfl
  have h2 : (83 : UInt8).toNat = 83 := rfl
  have h3 : (50 : UInt8).toNat = 50 := rfl
  have h4 : (51 : UInt8).toNat = 51 := rfl
  have h5 : (52 : UInt8).toNat = 52 := rfl
  rw [h1, h2, h3, h4, h5]
  simp only [decide_eq_true_eq]
  by_cases c1 : 65 = c.toNat
  · simp [← c1]
  · by_cases c2 : 83 = c.toNat
    · simp [← c2]
    · by_cases c3 : 50 = c.toNat
      · simp [← c3]
      · by_cases c4 : 51 = c.toNat
        · simp [← c4]
        · by_cases c5 : 52 = c.toNat
          · simp [← c5]
          · exact ⟨fun h => absurd h (by simp [c1, c2, c3, c4, c5]), fun h => by exfalso; rcases h with h | h | h | h | h <;> omega⟩
theorem idx_cnt (c : UInt8) : decide ((0 : Int) ≤ Lib.indexByte [50, 51, 52] c) = decide ((c.toNat : Int) = 50 ∨ (c.toNat : Int) = 51 ∨ (c.toNat : Int) = 52) := by
  have e : ∀ k : UInt8, (k == c) = decide (k.toNat = c.toNat) := fun k => u8_beq k c
  simp only [Lib.indexByte, e]
  have h3 : (50 : UInt8).toNat = 50 := rfl
  have h4 : (51 : UInt8).toNat = 51 := rfl
  have h5 : (52 : UInt8).toNat = 52 := rfl
  rw [h3, h4, h5, Bool.eq_iff_iff]
  simp only [decide_eq_true_eq]
  by_cases c3 : 50 = c.toNat
  · simp [← c3]
  · by_cases c4 : 51 = c.toNat
    · simp [← c4]
    · by_cases c5 : 52 = c.toNat
      · simp [← c5]
      · simp [c3, c4, c5]; omega
theorem first_of {s : List UInt8} (h : s ≠ []) : 0 < s.length ∧ s = s.getD 0 0 :: s.drop 1 := by
  cases s with
  | nil => exact absurd rfl h
  | cons c s => exact ⟨by simp, rfl⟩
theorem pp_by {s : List UInt8} (h : s ≠ []) : parse s = if isOp (s.getD 0 0) then
      match takeV (arV (s.getD 0 0)) (s.drop 1) with
      | none => none
      | some (vs, r) =>
        if arP (s.getD 0 0) = 0 then some (.leaf (s.getD 0 0) vs, r)
        else if arP (s.getD 0 0) = 1 then (match parse r with | some (p, r') => some (.one (s.getD 0 0) vs p, r') | none => none)
        else (match parse r with
          | some (p, r') => (match parse r' with | some (q, r2) => some (.two (s.getD 0 0) p q, r2) | none => none)
          | none => none)
    else none := by
  have := parse_cons (s.getD 0 0) (s.drop 1)
  rw [← (first_of h).2] at this
  exact this
def okV (s : List UInt8) (k : Nat) : Prop := ¬ s.drop k = [] ∧ isV (s.getD k 0) = true
theorem okV_iff {s : List UInt8} {k : Nat} : ¬ varI s (k : Int) < 0 ↔ okV s k := by
  rw [varI_neg, Classical.not_not, Int.toNat_natCast]
  unfold okV
  have h : ¬ s.drop k = [] ↔ k < s.length := by rw [List.drop_eq_nil_iff]; omega
  rw [h]
  exact ⟨fun e => ⟨by omega, e.2.2⟩, fun e => ⟨by omega, by omega, e.2⟩⟩
theorem pp0 {s : List UInt8} (h : s ≠ []) (hc : s.getD 0 0 = 116 ∨ s.getD 0 0 = 102) : parse s = some (.leaf (s.getD 0 0) [], s.drop 1) := by
  rw [pp_by h]; rcases hc with e | e <;> rw [e] <;> rfl
theorem pp1 {s : List UInt8} (h : s ≠ []) (hc : s.getD 0 0 = 80) : (okV s 1 → parse s = some (.leaf 80 [s.getD 1 0], s.drop 2)) ∧ (¬ okV s 1 → parse s = none) := by
  rw [pp_by h, hc, show arV 80 = 1 from rfl, takeV_one]
  refine ⟨fun hv => ?_, fun hv => ?_⟩
  · rw [if_neg (show ¬ varI s ((1 : Nat) : Int) < 0 from okV_iff.2 hv)]; rfl
  · rw [if_pos (show varI s ((1 : Nat) : Int) < 0 from Classical.byContradiction fun e => hv (okV_iff.1 e))]; rfl
theorem pp2 {s : List UInt8} (h : s ≠ []) (hc : s.getD 0 0 = 61 ∨ s.getD 0 0 = 69) : (okV s 1 → okV s 2 → parse s = some (.leaf (s.getD 0 0) [s.getD 1 0, s.getD 2 0], s.drop 3)) ∧ (¬ okV s 1 ∨ ¬ okV s 2 → parse s = none) := by
  have ha : arV (s.getD 0 0) = 2 ∧ arP (s.getD 0 0) = 0 ∧ isOp (s.getD 0 0) = true := by rcases hc with e | e <;> rw [e] <;> exact ⟨rfl, rfl, rfl⟩
  rw [pp_by h, if_pos ha.2.2, ha.1, takeV_two]
  refine ⟨fun h1 h2 => ?_, fun hv => ?_⟩
  · rw [if_neg (fun e => e.elim (fun e => okV_iff.2 h1 e) (fun e => okV_iff.2 h2 e))]
    dsimp only
    rw [if_pos ha.2.1]
  · rw [if_pos]
    rcases hv with e | e
    · exact .inl (Classical.byContradiction fun z => e (okV_iff.1 z))
    · exact .inr (Classical.byContradiction fun z => e (okV_iff.1 z))
theorem pp3 {s : List UInt8} (h : s ≠ []) (hc : s.getD 0 0 = 33) : (∀ q r, parse (s.drop 1) = some (q, r) → parse s = some (.one 33 [] q, r)) ∧ (parse (s.drop 1) = none → parse s = none) := by
  rw [pp_by h, hc]
  exact ⟨fun q r e => by rw [show takeV (arV 33) (s.drop 1) = some ([], s.drop 1) from rfl]; dsimp only; rw [e]; rfl, fun e => by rw [show takeV (arV 33) (s.drop 1) = some ([], s.drop 1) from rfl]; dsimp only; rw [e]; rfl⟩
theorem pp4 {s : List UInt8} (h : s ≠ []) (hc : s.getD 0 0 = 38 ∨ s.getD 0 0 = 124) : (∀ q r q2 r2, parse (s.drop 1) = some (q, r) → parse r = some (q2, r2) → parse s = some (.two (s.getD 0 0) q q2, r2)) ∧ (parse (s.drop 1) = none → parse s = none) ∧ (∀ q r, parse (s.drop 1) = some (q, r) → parse r = none → parse s = none) := by
  have ha : arV (s.getD 0 0) = 0 ∧ arP (s.getD 0 0) = 2 ∧ isOp (s.getD 0 0) = true := by rcases hc with e | e <;> rw [e] <;> exact ⟨rfl, rfl, rfl⟩
  have ht : takeV (arV (s.getD 0 0)) (s.drop 1) = some ([], s.drop 1) := by rw [ha.1]; rfl
  rw [pp_by h, if_pos ha.2.2, ht]
  dsimp only
  rw [if_neg (by omega), if_neg (by omega)]
  exact ⟨fun q r q2 r2 e1 e2 => by rw [e1]; dsimp only; rw [e2], fun e => by rw [e], fun q r e1 e2 => by rw [e1]; dsimp only; rw [e2]⟩
theorem pp5 {s : List UInt8} (h : s ≠ []) (hc : quI ((s.getD 0 0).toNat : Int)) : (∀ q r, okV s 1 → parse (s.drop 2) = some (q, r) → parse s = some (.one (s.getD 0 0) [s.getD 1 0] q, r)) ∧ (¬ okV s 1 → parse s = none) ∧ (parse (s.drop 2) = none → parse s = none) := by
  have ha : arV (s.getD 0 0) = 1 ∧ arP (s.getD 0 0) = 1 ∧ isOp (s.getD 0 0) = true := by rcases quI_of hc with e | e | e | e | e <;> rw [e] <;> exact ⟨rfl, rfl, rfl⟩
  rw [pp_by h, if_pos ha.2.2, ha.1, takeV_one]
  refine ⟨fun q r hv e => ?_, fun hv => ?_, fun e => ?_⟩
  · rw [if_neg (show ¬ varI s ((1 : Nat) : Int) < 0 from okV_iff.2 hv)]
    dsimp only
    rw [if_neg (by omega), if_pos ha.2.1, e]
  · rw [if_pos (show varI s ((1 : Nat) : Int) < 0 from Classical.byContradiction fun e => hv (okV_iff.1 e))]
  · split
    · rfl
    · rename_i vs r hh
      split at hh
      · cases hh
      · injection hh with hh; injection hh with _ hh; subst hh
        rw [if_neg (by omega), if_pos ha.2.1, e]
theorem ppX {s : List UInt8} (h : s ≠ []) (hc : isOp (s.getD 0 0) = false) : parse s = none := by
  rw [pp_by h, hc]; rfl
theorem isOp_no {c : UInt8} (h1 : ¬ (c.toNat : Int) = 116) (h2 : ¬ (c.toNat : Int) = 102) (h3 : ¬ (c.toNat : Int) = 80) (h4 : ¬ (c.toNat : Int) = 61) (h5 : ¬ (c.toNat : Int) = 69) (h6 : ¬ (c.toNat : Int) = 33) (h7 : ¬ (c.toNat : Int) = 38) (h8 : ¬ (c.toNat : Int) = 124) (h9 : ¬ quI (c.toNat : Int)) : isOp c = false := by
  cases e : isOp c with
  | false => rfl
  | true =>
    unfold quI at h9
    unfold isOp at e
    rw [decide_eq_true_eq] at e
    simp only [List.mem_cons, List.not_mem_nil, or_false] at e
    rcases e with e | e | e | e | e | e | e | e | e | e | e | e | e <;> rw [e] at h1 h2 h3 h4 h5 h6 h7 h8 h9 <;> simp at h1 h2 h3 h4 h5 h6 h7 h8 h9
theorem getD_drop {s : List UInt8} {k : Nat} : (s.drop k).getD 0 0 = s.getD k 0 := by
  rw [List.getD_eq_getElem?_getD, List.getElem?_drop, Nat.add_zero, ← List.getD_eq_getElem?_getD]
theorem take_drop1 {s : List UInt8} {k : Nat} (h : ¬ s.drop k = []) : (s.drop k).take 1 = [s.getD k 0] := by
  have h2 := (first_of h).2
  rw [getD_drop] at h2
  rw [h2]; rfl
theorem two_of {c : UInt8} {m n : Nat} (hm : m < 256) (hn : n < 256) (h : (c.toNat : Int) = (m : Int) ∨ (c.toNat : Int) = (n : Int)) : c = UInt8.ofNat m ∨ c = UInt8.ofNat n :=
  h.elim (fun e => .inl (u8_of hm e)) (fun e => .inr (u8_of hn e))
end Go.Wk
namespace Go.Wk
open Go.RowKit
theorem or_lt16 {a b : Nat} (ha : a < 16) (hb : b < 16) : a ||| b < 16 := Nat.or_lt_two_pow (n := 4) ha hb
def ptrV (p : Nat) : Value := .pointer (some ⟨p, 0, none⟩)
def u8V (v : UInt8) : Value := .int .u8 (v.toNat : Int)
/-- a node: its letter, its variables, its parts, its free variables, all of them -/
def NodeC (T : TypeId) (w : World) (p : Nat) (c : UInt8) (vs : List UInt8) (ps : List Nat) (fr al : Nat) : Prop :=
  ∃ vv pv, w.heap[p]? = some (.cells #[u8V c, vv, pv, .int .i64 (fr : Int), .int .i64 (al : Int)] T (0, 0)) ∧ Row w vv (vs.map u8V) ∧ Row w pv (ps.map ptrV)
def Tree (T : TypeId) (w : World) : Fm → Nat → Prop
  | .leaf c vs, p => NodeC T w p c vs [] (frB (.leaf c vs)) (allB (.leaf c vs))
  | .one c vs q, p => ∃ q', NodeC T w p c vs [q'] (frB (.one c vs q)) (allB (.one c vs q)) ∧ Tree T w q q'
  | .two c q r, p => ∃ q' r', NodeC T w p c [] [q', r'] (frB (.two c q r)) (allB (.two c q r)) ∧ Tree T w q q' ∧ Tree T w r r'
theorem NodeC.own {T : TypeId} {w w' : World} {p : Nat} {c : UInt8} {vs : List UInt8} {ps : List Nat} {fr al : Nat} {hs : List (Nat × Obj)} (h : NodeC T w p c vs ps fr al) (hw : Own w.heap.size w hs w') : NodeC T w' p c vs ps fr al := by
  obtain ⟨vv, pv, h1, h2, h3⟩ := h
  refine ⟨vv, pv, ?_, h2.own hw, h3.own hw⟩
  rw [hw.below.block p ?_]
  · exact h1
  · rcases Nat.lt_or_ge p w.heap.size with h | h
    · exact h
    · rw [Array.getElem?_eq_none h] at h1; cases h1
theorem Tree.own {T : TypeId} {w w' : World} {hs : List (Nat × Obj)} (hw : Own w.heap.size w hs w') : ∀ {fm : Fm} {p : Nat}, Tree T w fm p → Tree T w' fm p
  | .leaf _ _, _, h => NodeC.own h hw
  | .one _ _ _, _, h => by obtain ⟨q', h1, h2⟩ := h; exact ⟨q', h1.own hw, Tree.own hw h2⟩
  | .two _ _ _, _, h => by obtain ⟨q', r', h1, h2, h3⟩ := h; exact ⟨q', r', h1.own hw, Tree.own hw h2, Tree.own hw h3⟩
theorem Tree.node {T : TypeId} {w : World} : ∀ {fm : Fm} {p : Nat}, Tree T w fm p → ∃ c vs ps, NodeC T w p c vs ps (frB fm) (allB fm)
  | .leaf c vs, _, h => ⟨c, vs, [], h⟩
  | .one c vs _, _, h => by obtain ⟨q', h1, _⟩ := h; exact ⟨c, vs, [q'], h1⟩
  | .two c _ _, _, h => by obtain ⟨q', r', h1, _⟩ := h; exact ⟨c, [], [q', r'], h1⟩
theorem Row.same {w : World} {v : Value} {vs us : List Value} (h : Row w v vs) (k : Row w v us) : vs = us := by
  obtain ⟨src, cap, h1, _, h3, h4⟩ := h
  obtain ⟨src', cap', k1, _, k3, k4⟩ := k
  rw [h1] at k1
  injection k1 with e1 e2 e3
  subst e1
  cases src with
  | none => rw [h3 rfl, k3 rfl]
  | some ad =>
    apply List.ext_getElem? ; intro j
    rcases Nat.lt_or_ge j vs.length with hj | hj
    · have a1 := (h4 ad rfl).2 j vs[j] (List.getElem?_eq_getElem hj)
      have a2 := (k4 ad rfl).2 j us[j] (List.getElem?_eq_getElem (by omega))
      rw [List.getElem?_eq_getElem hj, List.getElem?_eq_getElem (show j < us.length by omega)]
      exact a1.symm.trans a2
    · rw [List.getElem?_eq_none hj, List.getElem?_eq_none (by omega)]
theorem u8V_inj {a b : UInt8} (h : u8V a = u8V b) : a = b := by
  unfold u8V at h; injection h with _ h
  exact UInt8.toNat.inj (by omega)
theorem ptrV_inj {a b : Nat} (h : ptrV a = ptrV b) : a = b := by
  unfold ptrV at h; injection h with h; injection h with h; injection h
theorem map_inj' {α β : Type} {f : α → β} (hf : ∀ a b, f a = f b → a = b) : ∀ {xs ys : List α}, xs.map f = ys.map f → xs = ys
  | [], [], _ => rfl
  | [], _ :: _, h => by cases h
  | _ :: _, [], h => by cases h
  | x :: xs, y :: ys, h => by
    simp only [List.map_cons, List.cons.injEq] at h
    rw [hf x y h.1, map_inj' hf h.2]
theorem NodeC.same {T : TypeId} {w : World} {p : Nat} {c c' : UInt8} {vs vs' : List UInt8} {ps ps' : List Nat} {fr al fr' al' : Nat} (h : NodeC T w p c vs ps fr al) (k : NodeC T w p c' vs' ps' fr' al') : c = c' ∧ vs = vs' ∧ ps = ps' := by
  obtain ⟨vv, pv, h1, h2, h3⟩ := h
  obtain ⟨vv', pv', k1, k2, k3⟩ := k
  rw [h1] at k1
  have k4 := Option.some.inj k1
  injection k4 with k5
  have e1 : u8V c = u8V c' := by have := congrArg (fun a : Array Value => a[0]?) k5; exact Option.some.inj this
  have e2 : vv = vv' := by have := congrArg (fun a : Array Value => a[1]?) k5; exact Option.some.inj this
  have e3 : pv = pv' := by have := congrArg (fun a : Array Value => a[2]?) k5; exact Option.some.inj this
  subst e2; subst e3
  exact ⟨u8V_inj e1, map_inj' (fun _ _ => u8V_inj) (h2.same k2), map_inj' (fun _ _ => ptrV_inj) (h3.same k3)⟩
/-- what stands at a pointer is one formula -/
theorem Tree.same {T : TypeId} {w : World} : ∀ {fm fm' : Fm} {p : Nat}, Tree T w fm p → Tree T w fm' p → fm = fm'
  | .leaf c vs, .leaf c' vs', p, h, k => by obtain ⟨e1, e2, _⟩ := NodeC.same h k; rw [e1, e2]
  | .leaf c vs, .one c' vs' q, p, h, k => by obtain ⟨q', k1, _⟩ := k; have := (NodeC.same h k1).2.2; cases this
  | .leaf c vs, .two c' q r, p, h, k => by obtain ⟨q', r', k1, _⟩ := k; have := (NodeC.same h k1).2.2; cases this
  | .one c vs q, .leaf c' vs', p, h, k => by obtain ⟨q', h1, _⟩ := h; have := (NodeC.same h1 k).2.2; cases this
  | .one c vs q, .one c' vs' r, p, h, k => by
    obtain ⟨q', h1, h2⟩ := h
    obtain ⟨r', k1, k2⟩ := k
    obtain ⟨e1, e2, e3⟩ := NodeC.same h1 k1
    injection e3 with e3; subst e3
    rw [e1, e2, Tree.same h2 k2]
  | .one c vs q, .two c' r s, p, h, k => by obtain ⟨q', h1, _⟩ := h; obtain ⟨r', s', k1, _⟩ := k; have := (NodeC.same h1 k1).2.2; cases this
  | .two c q r, .leaf c' vs', p, h, k => by obtain ⟨q', r', h1, _⟩ := h; have := (NodeC.same h1 k).2.2; cases this
  | .two c q r, .one c' vs' s, p, h, k => by obtain ⟨q', r', h1, _⟩ := h; obtain ⟨s', k1, _⟩ := k; have := (NodeC.same h1 k1).2.2; cases this
  | .two c q r, .two c' q2 r2, p, h, k => by
    obtain ⟨q', r', h1, h2, h3⟩ := h
    obtain ⟨q2', r2', k1, k2, k3⟩ := k
    obtain ⟨e1, _, e3⟩ := NodeC.same h1 k1
    injection e3 with e3 e4; injection e4 with e4; subst e3; subst e4
    rw [e1, Tree.same h2 k2, Tree.same h3 k3]
theorem Tree.lt {T : TypeId} {w : World} {fm : Fm} {p : Nat} (h : Tree T w fm p) : p < w.heap.size := by
  obtain ⟨c, vs, ps, vv, pv, h1, _⟩ := h.node
  rcases Nat.lt_or_ge p w.heap.size with h | h
  · exact h
  · rw [Array.getElem?_eq_none h] at h1; cases h1
theorem cell_of {w : World} {p : Nat} {cs : Array Value} {T : TypeId} {v : Value} {off : Nat} (h : w.heap[p]? = some (.cells cs T (0, 0))) (hv : cs[off]? = some v) : w.cell? ⟨p, off, none⟩ = some v := at_box h (Own.start w) off hv
theorem tree_free {T : TypeId} {w : World} {fm : Fm} {p : Nat} (h : Tree T w fm p) : w.cell? ⟨p, 3, none⟩ = some (.int .i64 (frB fm : Int)) := by
  obtain ⟨c, vs, ps, vv, pv, h1, _⟩ := h.node
  exact cell_of h1 rfl
theorem tree_all {T : TypeId} {w : World} {fm : Fm} {p : Nat} (h : Tree T w fm p) : w.cell? ⟨p, 4, none⟩ = some (.int .i64 (allB fm : Int)) := by
  obtain ⟨c, vs, ps, vv, pv, h1, _⟩ := h.node
  exact cell_of h1 rfl
theorem vI_wrap {v : UInt8} (h : isV v = true) : IntKind.u8.wrap ((v.toNat : Int) - 97) = (vI v : Int) := by
  obtain ⟨h1, h2⟩ := vI_lt h
  rw [IntWalk.u8_in _ (by omega)]; omega
theorem heap_own {w0 w : World} {hs : List (Nat × Obj)} {g T : Nat} {cs : Array Value} (hg : w0.heap[g]? = some (.cells cs T (0, 0))) (hw : Own w0.heap.size w0 hs w) : w.heap[g]? = some (.cells cs T (0, 0)) := by
  rw [hw.below.block g ?_]
  · exact hg
  · rcases Nat.lt_or_ge g w0.heap.size with h | h
    · exact h
    · rw [Array.getElem?_eq_none h] at hg; cases hg
end Go.Wk
namespace Go.Wk
open Go.RowKit
def entP (x : (Nat × Nat) × Nat) : MapEntry := { key := ptrV x.1.1, val := .map (some x.1.2), born := x.2 }
def mapP (K : List (Nat × Nat)) : Obj := .map ((K.zipIdx.map entP).toArray) K.length
def entI (x : (Int × Bool) × Nat) : MapEntry := { key := .int .i64 x.1.1, val := .bool x.1.2, born := x.2 }
def mapI (L : List (Int × Bool)) : Obj := .map ((L.zipIdx.map entI).toArray) L.length
section
variable {P : Program} {w : World} {kt : TypeId} {k : Value}
theorem asking_no : ∀ (l : List MapEntry) (i : Nat), (∀ e ∈ l, (Op.equal kt k e.key).run P w = .ok false w) → (Instr.findAsking kt k l i).run P w = .ok none w
  | [], _, _ => rfl
  | e :: l, i, h => by
    unfold Instr.findAsking
    simp only [Sem.run_bind, h e (by simp), Result.andThen]
    exact asking_no l (i + 1) fun x hx => h x (List.mem_cons_of_mem _ hx)
theorem asking_at : ∀ (l : List MapEntry) (i j : Nat) {e : MapEntry}, l[j]? = some e → (Op.equal kt k e.key).run P w = .ok true w → (∀ (q : Nat) (x : MapEntry), q < j → l[q]? = some x → (Op.equal kt k x.key).run P w = .ok false w) → (Instr.findAsking kt k l i).run P w = .ok (some (i + j, e.val)) w
  | [], _, _, _, h, _, _ => by simp at h
  | x :: l, i, 0, e, h, h1, _ => by
    have hx : x = e := by simpa using h
    subst hx
    unfold Instr.findAsking
    simp only [Sem.run_bind, h1, Result.andThen]
    rfl
  | x :: l, i, j + 1, e, h, h1, h2 => by
    unfold Instr.findAsking
    simp only [Sem.run_bind, h2 0 x (by omega) rfl, Result.andThen]
    have := asking_at l (i + 1) j (e := e) (by simpa using h) h1 fun q y hq hy => h2 (q + 1) y (by omega) (by simpa using hy)
    rw [show i + (j + 1) = i + 1 + j from by omega]
    exact this
theorem findKeyP {te : TypeId} (hkt : P.underlying kt = some (.pointer te)) {l : List MapEntry} {r : Option (Nat × Value)} (h : (Instr.findAsking kt k l 0).run P w = .ok r w) : (Instr.findKey kt k l).run P w = .ok r w := by
  cases l with
  | nil =>
    have e : r = none := by
      have : Result.ok (none : Option (Nat × Value)) w = .ok r w := h
      injection this with this; exact this.symm
    subst e
    simp [Instr.findKey, run_underlying hkt, Result.andThen, Instr.findNow]
  | cons x l =>
    simp only [Instr.findKey, Sem.run_bind, run_underlying hkt, Result.andThen]
    simp only [Instr.findNow, Instr.sameNow]
    exact h
theorem ptr_same {te sz p : Nat} (hkt : P.underlying kt = some (.pointer te)) (hsz : ∀ w, (sizeOf te).run P w = .ok sz w) (h0 : sz ≠ 0) : (Op.equal kt (ptrV p) (ptrV p)).run P w = .ok true w := by
  have h : ∀ d : Nat, (Op.equalIn (d + 1) kt (ptrV p) (ptrV p)).run P w = .ok true w := fun d => by
    simp [Op.equalIn, ptrV, run_underlying hkt, hsz, h0, run_sameAddr_same, Result.andThen]
  exact h 9999
theorem ptr_other {te sz p q : Nat} {cp cq : Array Value} {tp tq : TypeId} (hkt : P.underlying kt = some (.pointer te)) (hsz : ∀ w, (sizeOf te).run P w = .ok sz w) (h0 : sz ≠ 0) (hne : p ≠ q)
    (hp : w.heap[p]? = some (.cells cp tp (0, 0))) (hq : w.heap[q]? = some (.cells cq tq (0, 0))) : (Op.equal kt (ptrV p) (ptrV q)).run P w = .ok false w := by
  have h : ∀ d : Nat, (Op.equalIn (d + 1) kt (ptrV p) (ptrV q)).run P w = .ok false w := fun d => by
    simp [Op.equalIn, ptrV, run_underlying hkt, hsz, h0, run_sameAddr_other w (a := ⟨p, 0, none⟩) (b := ⟨q, 0, none⟩) (fun e => hne (by injection e)) hp hq, Result.andThen]
  exact h 9999
theorem checkKeyP {te : TypeId} (hkt : P.underlying kt = some (.pointer te)) (p : Nat) (b : Bool) : (Instr.checkKey b 10000 kt (ptrV p)).run P w = .ok () w := by
  show (Instr.checkKey b (9999 + 1) kt (ptrV p)).run P w = .ok () w
  unfold Instr.checkKey
  simp only [Sem.run_bind, run_underlying hkt, Result.andThen, ptrV]
  rfl
end
theorem zip_get {α : Type} {K : List α} {j : Nat} {x : α} {g : α × Nat → MapEntry} (h : K[j]? = some x) : (K.zipIdx.map g)[j]? = some (g (x, j)) := by
  rw [List.getElem?_map, List.getElem?_zipIdx, h]; simp
theorem zip_mem {α : Type} {K : List α} {e : MapEntry} {g : α × Nat → MapEntry} (h : e ∈ K.zipIdx.map g) : ∃ x j, K[j]? = some x ∧ e = g (x, j) := by
  obtain ⟨⟨x, j⟩, h1, h2⟩ := List.mem_map.1 h
  exact ⟨x, j, List.mem_zipIdx_iff_getElem?.1 h1, h2.symm⟩
/-- a pointer's number among the keys: its place, or nowhere -/
theorem key_case (K : List (Nat × Nat)) (p : Nat) : (∀ x ∈ K, x.1 ≠ p) ∨ ∃ j m, K[j]? = some (p, m) ∧ ∀ (q : Nat) (x : Nat × Nat), q < j → K[q]? = some x → x.1 ≠ p := by
  induction K with
  | nil => exact .inl fun x hx => by cases hx
  | cons y K ih =>
    by_cases e : y.1 = p
    · exact .inr ⟨0, y.2, by rw [← e]; rfl, fun q x hq => by omega⟩
    · rcases ih with h | ⟨j, m, h1, h2⟩
      · exact .inl fun x hx => by
          rcases List.mem_cons.1 hx with rfl | hx
          · exact e
          · exact h x hx
      · refine .inr ⟨j + 1, m, h1, fun q x hq hx => ?_⟩
        cases q with
        | zero => rw [show x = y from by simpa using hx.symm]; exact e
        | succ q => exact h2 q x (by omega) (by simpa using hx)
section
variable {P : Program} {n : Nat} {B : Nat} {w0 : World} {hs : List (Nat × Obj)} {N R : Act → World → Prop} {X : List (Nat × (Act → World → Prop))} {e : Env} {ops : Array Oper} {l : List Oper} {o : Oper}
/-- where the keys of a map point to -/
def KeysIn (B : Nat) (w0 : World) (hs : List (Nat × Obj)) (p : Nat) : Prop := ∀ w, Own B w0 hs w → ∃ cs T, w.heap[p]? = some (.cells cs T (0, 0))
theorem findP_no {kt te sz p : Nat} {K : List (Nat × Nat)} {w : World} (hkt : P.underlying kt = some (.pointer te)) (hsz : ∀ w, (sizeOf te).run P w = .ok sz w) (h0 : sz ≠ 0) (hno : ∀ x ∈ K, x.1 ≠ p)
    (hK : ∀ x ∈ K, KeysIn B w0 hs x.1) (hp : KeysIn B w0 hs p) (hw : Own B w0 hs w) : (Instr.findKey kt (ptrV p) ((K.zipIdx.map entP).toArray).toList).run P w = .ok none w := by
  refine findKeyP hkt (asking_no _ 0 fun e he => ?_)
  obtain ⟨x, j, h1, rfl⟩ := zip_mem (show e ∈ K.zipIdx.map entP from he)
  have hm := List.mem_of_getElem? h1
  obtain ⟨c1, t1, g1⟩ := hp w hw
  obtain ⟨c2, t2, g2⟩ := hK x hm w hw
  exact ptr_other hkt hsz h0 (fun q => hno x hm q.symm) g1 g2
theorem findP_at {kt te sz p j m : Nat} {K : List (Nat × Nat)} {w : World} (hkt : P.underlying kt = some (.pointer te)) (hsz : ∀ w, (sizeOf te).run P w = .ok sz w) (h0 : sz ≠ 0) (hj : K[j]? = some (p, m)) (hf : ∀ (q : Nat) (x : Nat × Nat), q < j → K[q]? = some x → x.1 ≠ p)
    (hK : ∀ x ∈ K, KeysIn B w0 hs x.1) (hw : Own B w0 hs w) : (Instr.findKey kt (ptrV p) ((K.zipIdx.map entP).toArray).toList).run P w = .ok (some (j, .map (some m))) w := by
  have := findKeyP hkt (asking_at (P := P) (w := w) (kt := kt) (k := ptrV p) (K.zipIdx.map entP) 0 j (zip_get (g := entP) hj) (ptr_same hkt hsz h0) fun q x hq hx => ?_)
  · rw [Nat.zero_add] at this; exact this
  · obtain ⟨y, i, h1, rfl⟩ := zip_mem (List.mem_of_getElem? hx)
    have hq2 : (K.zipIdx.map entP)[q]? = some (entP (y, i)) := hx
    rw [List.getElem?_map, List.getElem?_zipIdx] at hq2
    cases hy : K[q]? with
    | none => rw [hy] at hq2; simp at hq2
    | some z =>
      rw [hy] at hq2
      have hz : z.1 = y.1 := by
        have := congrArg (Option.map fun u : MapEntry => u.key) hq2
        simp [entP] at this
        exact ptrV_inj this
      obtain ⟨c1, t1, g1⟩ := hK _ (List.mem_of_getElem? hj) w hw
      obtain ⟨c2, t2, g2⟩ := hK _ (List.mem_of_getElem? h1) w hw
      exact ptr_other hkt hsz h0 (fun u => hf q z hq hy (by rw [hz]; exact u.symm)) g1 g2
theorem OpQ.lookP_no {t kt et te sz r p : Nat} {x y : Operand} {K : List (Nat × Nat)} (i : Nat) (h : o.op = .lookup t x y false) (hm : P.underlying t = some (.map kt et)) (hkt : P.underlying kt = some (.pointer te)) (hsz : ∀ w, (sizeOf te).run P w = .ok sz w) (h0 : sz ≠ 0) (hz : ∀ w, (zeroValue et).run P w = .ok (.map none) w)
    (hx : opd e x = some (.map (some r))) (hy : opd e y = some (ptrV p)) (hi : hs[i]? = some (r, mapP K)) (hno : ∀ x ∈ K, x.1 ≠ p) (hK : ∀ x ∈ K, KeysIn B w0 hs x.1) (hp : KeysIn B w0 hs p) : OpQ P n (Own B w0 hs) e o (.map none) := by
  unfold OpQ
  intro a hF w hw
  have hb : w.heap[r]? = some (.map ((K.zipIdx.map entP).toArray) K.length) := (hw.has i r _ hi).2
  unfold Oper.quietAt execOp; rw [h]
  simp only [hF.opd hx, hF.opd hy, Instr.lookup, Sem.run_bind, run_underlying hm, MapKept.run_getObj_map hb, checkKeyP hkt, findP_no hkt hsz h0 hno hK hp hw, hz, Sem.run_pure, Result.andThen]
  exact ⟨rfl, rfl⟩
theorem OpQ.lookP_at {t kt et te sz r p j m : Nat} {x y : Operand} {K : List (Nat × Nat)} (i : Nat) (h : o.op = .lookup t x y false) (hm : P.underlying t = some (.map kt et)) (hkt : P.underlying kt = some (.pointer te)) (hsz : ∀ w, (sizeOf te).run P w = .ok sz w) (h0 : sz ≠ 0)
    (hx : opd e x = some (.map (some r))) (hy : opd e y = some (ptrV p)) (hi : hs[i]? = some (r, mapP K)) (hj : K[j]? = some (p, m)) (hf : ∀ (q : Nat) (x : Nat × Nat), q < j → K[q]? = some x → x.1 ≠ p) (hK : ∀ x ∈ K, KeysIn B w0 hs x.1) : OpQ P n (Own B w0 hs) e o (.map (some m)) := by
  unfold OpQ
  intro a hF w hw
  have hb : w.heap[r]? = some (.map ((K.zipIdx.map entP).toArray) K.length) := (hw.has i r _ hi).2
  unfold Oper.quietAt execOp; rw [h]
  simp only [hF.opd hx, hF.opd hy, Instr.lookup, Sem.run_bind, run_underlying hm, MapKept.run_getObj_map hb, checkKeyP hkt, findP_at hkt hsz h0 hj hf hK hw, Sem.run_pure, Result.andThen]
  exact ⟨rfl, rfl⟩
/-- one more key -/
theorem mapP_add (K : List (Nat × Nat)) (p m : Nat) : mapP (K ++ [(p, m)]) = .map (((K.zipIdx.map entP).toArray).push { key := ptrV p, val := .map (some m), born := K.length }) (K.length + 1) := by
  unfold mapP
  rw [List.zipIdx_append, List.map_append, List.push_toArray]
  simp [entP]
theorem Ll.mapSetP {t kt et te sz r p m : Nat} {x y z : Operand} {K : List (Nat × Nat)} (i : Nat) (hdst : o.dst = none) (hg : wantE ops e o.guard = some true) (h : o.op = .mapUpdate t x y z) (hm : P.underlying t = some (.map kt et)) (hkt : P.underlying kt = some (.pointer te)) (hsz : ∀ w, (sizeOf te).run P w = .ok sz w) (h0 : sz ≠ 0)
    (hx : opd e x = some (.map (some r))) (hy : opd e y = some (ptrV p)) (hz : opd e z = some (.map (some m))) (hi : hs[i]? = some (r, mapP K)) (hno : ∀ x ∈ K, x.1 ≠ p) (hK : ∀ x ∈ K, KeysIn B w0 hs x.1) (hp : KeysIn B w0 hs p)
    (k : Ll P n (Own B w0 (hs.set i (r, mapP (K ++ [(p, m)])))) ops l e N R X) : Ll P n (Own B w0 hs) ops (o :: l) e N R X :=
  Ll.turnN hdst hg fun a w hF hw => by
    have hb : w.heap[r]? = some (.map ((K.zipIdx.map entP).toArray) K.length) := (hw.has i r _ hi).2
    refine ⟨{ w with heap := w.heap.setIfInBounds r (mapP (K ++ [(p, m)])) }, ?_, fun a' ha => ?_⟩
    · unfold execOp; rw [h]; simp only [hF.opd hx, hF.opd hy, hF.opd hz]
      have run : (Instr.mapUpdate t (.map (some r)) (ptrV p) (.map (some m))).run P w = .ok () { w with heap := w.heap.setIfInBounds r (mapP (K ++ [(p, m)])) } := by
        rw [mapP_add]
        simp [Instr.mapUpdate, run_underlying hm, MapKept.run_getObj_map hb, checkKeyP hkt, findP_no hkt hsz h0 hno hK hp hw, MapKept.run_setObj_map _ hb, Result.andThen]
      simp only [Sem.run_bind, run, Result.andThen]
      rfl
    · unfold Ll at k
      exact k a' _ ha (hw.setObj hi _)
theorem Ll.makeMapP {d t : Nat} (hd : Nat.blt d n = true) (hdst : o.dst = some d) (hg : wantE ops e o.guard = some true) (h : o.op = .makeMap t none)
    (k : ∀ p, B ≤ p → Ll P n (Own B w0 ((p, mapP []) :: hs)) ops l ((d, .map (some p)) :: e) N R X) : Ll P n (Own B w0 hs) ops (o :: l) e N R X := Ll.makeMap hd hdst hg h k
theorem Ll.makeMapI {d t : Nat} (hd : Nat.blt d n = true) (hdst : o.dst = some d) (hg : wantE ops e o.guard = some true) (h : o.op = .makeMap t none)
    (k : ∀ p, B ≤ p → Ll P n (Own B w0 ((p, mapI []) :: hs)) ops l ((d, .map (some p)) :: e) N R X) : Ll P n (Own B w0 hs) ops (o :: l) e N R X := Ll.makeMap hd hdst hg h k
theorem keyI (k : Int) : MapKept.IsKey (.int .i64) (.int .i64 k) := rfl
theorem keysI (L : List (Int × Bool)) : ∀ x ∈ ((L.zipIdx.map entI).toArray).toList, MapKept.IsKey (.int .i64) x.key := fun x hx => by
  obtain ⟨y, j, _, rfl⟩ := zip_mem (show x ∈ L.zipIdx.map entI from hx)
  rfl
theorem findI (k : Int) (L : List (Int × Bool)) : (Instr.findNow (.int .i64) (.int .i64 k) ((L.zipIdx.map entI).toArray).toList 0 = some none ∧ ∀ x ∈ L, x.1 ≠ k) ∨ ∃ j b, Instr.findNow (.int .i64) (.int .i64 k) ((L.zipIdx.map entI).toArray).toList 0 = some (some (j, .bool b)) ∧ L[j]? = some (k, b) := by
  rcases MapKept.findNow_spec (keyI k) ((L.zipIdx.map entI).toArray).toList 0 (keysI L) with ⟨h1, h2⟩ | ⟨j, e, h1, h2, h3⟩
  · refine .inl ⟨h1, fun x hx q => ?_⟩
    obtain ⟨j, hj⟩ := List.mem_iff_getElem?.1 hx
    exact h2 (entI (x, j)) (List.mem_of_getElem? (zip_get (g := entI) hj)) (by rw [← q]; rfl)
  · have h2' : (L.zipIdx.map entI)[j]? = some e := by simpa using h2
    rw [List.getElem?_map, List.getElem?_zipIdx] at h2'
    cases hy : L[j]? with
    | none => rw [hy] at h2'; simp at h2'
    | some z =>
      rw [hy] at h2'
      simp at h2'
      subst h2'
      have hz : z.1 = k := by
        have : Value.int .i64 z.1 = .int .i64 k := h3
        injection this
      refine .inr ⟨j, z.2, by rw [h1, Nat.zero_add]; rfl, by rw [← hz]; exact hy⟩
theorem OpQ.lookI_nil {t kt et : Nat} {x y : Operand} {k : Int} (h : o.op = .lookup t x y true) (hm : P.underlying t = some (.map kt et)) (hkt : P.underlying kt = some (.int .i64)) (hz : ∀ w, (zeroValue et).run P w = .ok (.bool false) w)
    (hx : opd e x = some (.map none)) (hy : opd e y = some (.int .i64 k)) : OpQ P n (Own B w0 hs) e o (.tuple #[.bool false, .bool false]) := by
  unfold OpQ
  intro a hF w hw
  unfold Oper.quietAt execOp; rw [h]
  simp only [hF.opd hx, hF.opd hy, Instr.lookup, Sem.run_bind, run_underlying hm, MapKept.run_checkKey hkt (keyI k), MapKept.run_findKey hkt (show Instr.findNow (.int .i64) (.int .i64 k) (#[] : Array MapEntry).toList 0 = some none from rfl), hz, Sem.run_pure, Result.andThen]
  exact ⟨rfl, rfl⟩
theorem OpQ.lookI_no {t kt et r : Nat} {x y : Operand} {k : Int} {L : List (Int × Bool)} (i : Nat) (h : o.op = .lookup t x y true) (hm : P.underlying t = some (.map kt et)) (hkt : P.underlying kt = some (.int .i64)) (hz : ∀ w, (zeroValue et).run P w = .ok (.bool false) w)
    (hx : opd e x = some (.map (some r))) (hy : opd e y = some (.int .i64 k)) (hi : hs[i]? = some (r, mapI L)) (hno : ∀ x ∈ L, x.1 ≠ k) : OpQ P n (Own B w0 hs) e o (.tuple #[.bool false, .bool false]) := by
  unfold OpQ
  intro a hF w hw
  have hb : w.heap[r]? = some (.map ((L.zipIdx.map entI).toArray) L.length) := (hw.has i r _ hi).2
  unfold Oper.quietAt execOp; rw [h]
  rcases findI k L with ⟨h1, _⟩ | ⟨j, b, h1, h2⟩
  · simp only [hF.opd hx, hF.opd hy, Instr.lookup, Sem.run_bind, run_underlying hm, MapKept.run_getObj_map hb, MapKept.run_checkKey hkt (keyI k), MapKept.run_findKey hkt h1, hz, Sem.run_pure, Result.andThen]
    exact ⟨rfl, rfl⟩
  · exact absurd rfl (hno _ (List.mem_of_getElem? h2))
theorem OpQ.lookI_at {t kt et r : Nat} {x y : Operand} {k : Int} {b : Bool} {L : List (Int × Bool)} (i : Nat) (h : o.op = .lookup t x y true) (hm : P.underlying t = some (.map kt et)) (hkt : P.underlying kt = some (.int .i64))
    (hx : opd e x = some (.map (some r))) (hy : opd e y = some (.int .i64 k)) (hi : hs[i]? = some (r, mapI L)) (hin : ∃ x ∈ L, x.1 = k) (hu : ∀ c, (k, c) ∈ L → c = b) : OpQ P n (Own B w0 hs) e o (.tuple #[.bool b, .bool true]) := by
  unfold OpQ
  intro a hF w hw
  have hb : w.heap[r]? = some (.map ((L.zipIdx.map entI).toArray) L.length) := (hw.has i r _ hi).2
  unfold Oper.quietAt execOp; rw [h]
  rcases findI k L with ⟨h1, h2⟩ | ⟨j, c, h1, h2⟩
  · obtain ⟨x, hx, q⟩ := hin
    exact absurd q (h2 x hx)
  · have := hu c (List.mem_of_getElem? h2)
    subst this
    simp only [hF.opd hx, hF.opd hy, Instr.lookup, Sem.run_bind, run_underlying hm, MapKept.run_getObj_map hb, MapKept.run_checkKey hkt (keyI k), MapKept.run_findKey hkt h1, Sem.run_pure, Result.andThen]
    exact ⟨rfl, rfl⟩
theorem mapI_add (L : List (Int × Bool)) (k : Int) (b : Bool) : mapI (L ++ [(k, b)]) = .map (((L.zipIdx.map entI).toArray).push { key := .int .i64 k, val := .bool b, born := L.length }) (L.length + 1) := by
  unfold mapI
  rw [List.zipIdx_append, List.map_append, List.push_toArray]
  simp [entI]
theorem mapI_set {L : List (Int × Bool)} {k : Int} {b : Bool} {j : Nat} : mapI (L.set j (k, b)) = .map (((L.zipIdx.map entI).toArray).modify j fun e => { e with key := .int .i64 k, val := .bool b }) L.length := by
  unfold mapI
  rw [List.length_set]
  congr 1
  apply Array.ext
  · simp
  · intro q h1 h2
    rw [Array.getElem_modify]
    simp only [List.getElem_toArray, List.getElem_map, List.getElem_zipIdx, List.getElem_set, entI]
    split
    · rename_i h; subst h; rfl
    · rfl
theorem Ll.mapSetI {t kt et r : Nat} {x y z : Operand} {k : Int} {b : Bool} {L : List (Int × Bool)} (i : Nat) (hdst : o.dst = none) (hg : wantE ops e o.guard = some true) (h : o.op = .mapUpdate t x y z) (hm : P.underlying t = some (.map kt et)) (hkt : P.underlying kt = some (.int .i64))
    (hx : opd e x = some (.map (some r))) (hy : opd e y = some (.int .i64 k)) (hz : opd e z = some (.bool b)) (hi : hs[i]? = some (r, mapI L))
    (kk : ∀ L' : List (Int × Bool), (∀ x ∈ L', x ∈ L ∨ x = (k, b)) → Ll P n (Own B w0 (hs.set i (r, mapI L'))) ops l e N R X) : Ll P n (Own B w0 hs) ops (o :: l) e N R X :=
  Ll.turnN hdst hg fun a w hF hw => by
    have hb : w.heap[r]? = some (.map ((L.zipIdx.map entI).toArray) L.length) := (hw.has i r _ hi).2
    rcases findI k L with ⟨h1, h2⟩ | ⟨j, c, h1, h2⟩
    · refine ⟨{ w with heap := w.heap.setIfInBounds r (mapI (L ++ [(k, b)])) }, ?_, fun a' ha => ?_⟩
      · unfold execOp; rw [h]; simp only [hF.opd hx, hF.opd hy, hF.opd hz]
        have run : (Instr.mapUpdate t (.map (some r)) (.int .i64 k) (.bool b)).run P w = .ok () { w with heap := w.heap.setIfInBounds r (mapI (L ++ [(k, b)])) } := by
          rw [mapI_add]
          simp [Instr.mapUpdate, run_underlying hm, MapKept.run_getObj_map hb, MapKept.run_checkKey hkt (keyI k), MapKept.run_findKey hkt h1, MapKept.run_setObj_map _ hb, Result.andThen]
        simp only [Sem.run_bind, run, Result.andThen]
        rfl
      · have := kk (L ++ [(k, b)]) fun x hx => by
          rcases List.mem_append.1 hx with hx | hx
          · exact .inl hx
          · exact .inr (List.mem_singleton.1 hx)
        unfold Ll at this
        exact this a' _ ha (hw.setObj hi _)
    · refine ⟨{ w with heap := w.heap.setIfInBounds r (mapI (L.set j (k, b))) }, ?_, fun a' ha => ?_⟩
      · unfold execOp; rw [h]; simp only [hF.opd hx, hF.opd hy, hF.opd hz]
        have hj : ((L.zipIdx.map entI).toArray)[j]? = some (entI ((k, c), j)) := by
          have := zip_get (g := entI) h2
          simpa using this
        have run : (Instr.mapUpdate t (.map (some r)) (.int .i64 k) (.bool b)).run P w = .ok () { w with heap := w.heap.setIfInBounds r (mapI (L.set j (k, b))) } := by
          rw [mapI_set]
          simp only [Instr.mapUpdate, Sem.run_bind, run_underlying hm, MapKept.run_getObj_map hb, MapKept.run_checkKey hkt (keyI k), MapKept.run_findKey hkt h1, Result.andThen]
          rw [hj]
          simp only [Option.map_some, Option.getD_some]
          rw [show (entI ((k, c), j)).key = .int .i64 k from rfl]
          simp only [MapKept.run_keyThatStays (keyI k), MapKept.run_setObj_map _ hb]
        simp only [Sem.run_bind, run, Result.andThen]
        rfl
      · have := kk (L.set j (k, b)) fun x hx => by
          rcases List.mem_or_eq_of_mem_set hx with hx | hx
          · exact .inl hx
          · exact .inr hx
        unfold Ll at this
        exact this a' _ ha (hw.setObj hi _)
theorem OpQ.eqNilM {C : World → Prop} {t t' kt et : TypeId} {x y : Operand} {p : Option Nat} (h : o.op = .binOp .eql t x y t') (hu : P.underlying t = some (.map kt et)) (hx : opd e x = some (.map p)) (hy : opd e y = some (.map none)) : OpQ P n C e o (.bool p.isNone) := OpQ.val fun A hf w => by
  unfold execOp; rw [h]; simp only [hf.opd hx, hf.opd hy]
  rw [show eqGuard .eql t x y (Value.map p) (Value.map none) = pure () from rfl]
  have h1 : ∀ d : Nat, (Op.equalIn (d + 1) t (.map p) (.map none)).run P w = .ok p.isNone w := fun d => by
    cases p <;> simp [Op.equalIn, run_underlying hu, Result.andThen]
  simp only [Sem.run_bind, Sem.run_pure, Result.andThen, binOp]
  simp [Op.equal, Op.maxDepth, h1 9999]
end
end Go.Wk
namespace Go.Wk
open Go.RowKit
/-- a row that stands among blocks -/
def RowB (hs : List (Nat × Obj)) (v : Value) (vs : List Value) : Prop :=
  (v = .slice none 0 0 ∧ vs = []) ∨ ∃ g cap cur el, v = .slice (some ⟨g, 0, none⟩) vs.length cap ∧ (g, Obj.cells cur el (0, 0)) ∈ hs ∧ cur.toList.take vs.length = vs ∧ vs.length ≤ cap
theorem RowB.row {B : Nat} {w0 w : World} {hs : List (Nat × Obj)} {v : Value} {vs : List Value} (h : RowB hs v vs) (hw : Own B w0 hs w) : Row w v vs := by
  rcases h with ⟨rfl, rfl⟩ | ⟨g, cap, cur, el, rfl, h1, h2, h3⟩
  · exact Ints.nil
  · obtain ⟨i, hi⟩ := List.mem_iff_getElem?.1 h1
    exact Own.row hw hi h2 rfl h3
theorem RowB.more {hs hs' : List (Nat × Obj)} {v : Value} {vs : List Value} (k : ∀ x ∈ hs, x ∈ hs') (h : RowB hs v vs) : RowB hs' v vs := by
  rcases h with h | ⟨g, cap, cur, el, h0, h1, h2, h3⟩
  · exact .inl h
  · exact .inr ⟨g, cap, cur, el, h0, k _ h1, h2, h3⟩
theorem RowB.nil {hs : List (Nat × Obj)} : RowB hs (.slice none 0 0) [] := .inl ⟨rfl, rfl⟩
theorem RowB.at {hs : List (Nat × Obj)} {g n cap el : Nat} {cur : Array Value} {vs : List Value} (hm : (g, Obj.cells cur el (0, 0)) ∈ hs) (ht : cur.toList.take n = vs) (hn : vs.length = n) (hc : n ≤ cap) : RowB hs (.slice (some ⟨g, 0, none⟩) n cap) vs := by
  subst hn
  exact .inr ⟨g, cap, cur, el, rfl, hm, ht, hc⟩
def NodeB (T : TypeId) (hs : List (Nat × Obj)) (p : Nat) (c : UInt8) (vs : List UInt8) (ps : List Nat) (fr al : Nat) : Prop :=
  ∃ vv pv, (p, Obj.cells #[u8V c, vv, pv, .int .i64 (fr : Int), .int .i64 (al : Int)] T (0, 0)) ∈ hs ∧ RowB hs vv (vs.map u8V) ∧ RowB hs pv (ps.map ptrV)
def TreeB (T : TypeId) (hs : List (Nat × Obj)) : Fm → Nat → Prop
  | .leaf c vs, p => NodeB T hs p c vs [] (frB (.leaf c vs)) (allB (.leaf c vs))
  | .one c vs q, p => ∃ q', NodeB T hs p c vs [q'] (frB (.one c vs q)) (allB (.one c vs q)) ∧ TreeB T hs q q'
  | .two c q r, p => ∃ q' r', NodeB T hs p c [] [q', r'] (frB (.two c q r)) (allB (.two c q r)) ∧ TreeB T hs q q' ∧ TreeB T hs r r'
theorem NodeB.more {T : TypeId} {hs hs' : List (Nat × Obj)} {p : Nat} {c : UInt8} {vs : List UInt8} {ps : List Nat} {fr al : Nat} (k : ∀ x ∈ hs, x ∈ hs') (h : NodeB T hs p c vs ps fr al) : NodeB T hs' p c vs ps fr al := by
  obtain ⟨vv, pv, h1, h2, h3⟩ := h
  exact ⟨vv, pv, k _ h1, h2.more k, h3.more k⟩
theorem TreeB.more {T : TypeId} {hs hs' : List (Nat × Obj)} (k : ∀ x ∈ hs, x ∈ hs') : ∀ {fm : Fm} {p : Nat}, TreeB T hs fm p → TreeB T hs' fm p
  | .leaf _ _, _, h => NodeB.more k h
  | .one _ _ _, _, h => by obtain ⟨q', h1, h2⟩ := h; exact ⟨q', h1.more k, TreeB.more k h2⟩
  | .two _ _ _, _, h => by obtain ⟨q', r', h1, h2, h3⟩ := h; exact ⟨q', r', h1.more k, TreeB.more k h2, TreeB.more k h3⟩
theorem TreeB.left {T : TypeId} {hs hs' : List (Nat × Obj)} {fm : Fm} {p : Nat} (h : TreeB T hs fm p) : TreeB T (hs ++ hs') fm p := h.more fun _ hx => List.mem_append_left _ hx
theorem TreeB.right {T : TypeId} {hs hs' : List (Nat × Obj)} {fm : Fm} {p : Nat} (h : TreeB T hs fm p) : TreeB T (hs' ++ hs) fm p := h.more fun _ hx => List.mem_append_right _ hx
theorem NodeB.node {T : TypeId} {B : Nat} {w0 w : World} {hs : List (Nat × Obj)} {p : Nat} {c : UInt8} {vs : List UInt8} {ps : List Nat} {fr al : Nat} (h : NodeB T hs p c vs ps fr al) (hw : Own B w0 hs w) : NodeC T w p c vs ps fr al := by
  obtain ⟨vv, pv, h1, h2, h3⟩ := h
  exact ⟨vv, pv, (hw.mem h1).2, h2.row hw, h3.row hw⟩
theorem TreeB.tree {T : TypeId} {B : Nat} {w0 w : World} {hs : List (Nat × Obj)} (hw : Own B w0 hs w) : ∀ {fm : Fm} {p : Nat}, TreeB T hs fm p → Tree T w fm p
  | .leaf _ _, _, h => NodeB.node h hw
  | .one _ _ _, _, h => by obtain ⟨q', h1, h2⟩ := h; exact ⟨q', h1.node hw, TreeB.tree hw h2⟩
  | .two _ _ _, _, h => by obtain ⟨q', r', h1, h2, h3⟩ := h; exact ⟨q', r', h1.node hw, TreeB.tree hw h2, TreeB.tree hw h3⟩
theorem TreeB.node {T : TypeId} {hs : List (Nat × Obj)} : ∀ {fm : Fm} {p : Nat}, TreeB T hs fm p → ∃ c vs ps, NodeB T hs p c vs ps (frB fm) (allB fm)
  | .leaf c vs, _, h => ⟨c, vs, [], h⟩
  | .one c vs _, _, h => by obtain ⟨q', h1, _⟩ := h; exact ⟨c, vs, [q'], h1⟩
  | .two c _ _, _, h => by obtain ⟨q', r', h1, _⟩ := h; exact ⟨c, [], [q', r'], h1⟩
theorem TreeB.same {T : TypeId} {B : Nat} {w0 w : World} {hs : List (Nat × Obj)} (hw : Own B w0 hs w) {fm fm' : Fm} {p : Nat} (h : TreeB T hs fm p) (k : TreeB T hs fm' p) : fm = fm' := (TreeB.tree hw h).same (TreeB.tree hw k)
theorem mem_at {α : Type} {l : List α} {i : Nat} {x : α} (h : l[i]? = some x) : x ∈ l := List.mem_of_getElem? h
theorem mem_atL {α : Type} {l r : List α} {i : Nat} {x : α} (h : l[i]? = some x) : x ∈ l ++ r := List.mem_append_left _ (List.mem_of_getElem? h)
abbrev Memo := List (Nat × Nat × List (Int × Bool))
def memoK (K : Memo) : List (Nat × Nat) := K.map fun x => (x.1, x.2.1)
def memoB (K : Memo) : List (Nat × Obj) := K.map fun x => (x.2.1, mapI x.2.2)
def MemoOk (T : TypeId) (a : St) (hs : List (Nat × Obj)) (K : Memo) : Prop := ∀ x ∈ K, ∃ fm, wfF fm ∧ TreeB T hs fm x.1 ∧ ∀ y ∈ x.2.2, ∃ e, EnvA a e ∧ keyF fm e = y.1 ∧ ev a fm e = y.2
theorem MemoOk.nil {T : TypeId} {a : St} {hs : List (Nat × Obj)} : MemoOk T a hs [] := fun x hx => by cases hx
theorem EnvA.ok {a : St} {e : List Int} (h : EnvA a e) (ha : a.Fine) : EnvOk e := ⟨h.1, fun i hi => by
  have h1 := h.2 i hi
  have h2 := ha.hi
  unfold St.El at h1
  omega⟩
/-- what is kept is right -/
theorem memo_ev {T : TypeId} {a : St} {B : Nat} {w0 w : World} {hs ts : List (Nat × Obj)} {K : Memo} {fm : Fm} {p j m : Nat} {L : List (Int × Bool)} {en : List Int} (ha : a.Fine) (hK : MemoOk T a ts K) (hts : ∀ x ∈ ts, x ∈ hs) (hw : Own B w0 hs w) (hT : TreeB T ts fm p) (hwf : wfF fm) (hE : EnvA a en) (hj : K[j]? = some (p, m, L)) :
    ∀ c, (keyF fm en, c) ∈ L → c = ev a fm en := fun c hc => by
  obtain ⟨fm', h1, h2, h3⟩ := hK _ (List.mem_of_getElem? hj)
  have e := TreeB.same hw (h2.more hts) (hT.more hts)
  subst e
  obtain ⟨e, g1, g2, g3⟩ := h3 _ hc
  exact g3.symm.trans (key_ev hwf (g1.ok ha) (hE.ok ha) g2)
theorem memoK_get {K : Memo} {j p m : Nat} {L : List (Int × Bool)} (h : K[j]? = some (p, m, L)) : (memoK K)[j]? = some (p, m) := by unfold memoK; rw [List.getElem?_map, h]; rfl
theorem memoB_get {K : Memo} {j p m : Nat} {L : List (Int × Bool)} (h : K[j]? = some (p, m, L)) : (memoB K)[j]? = some (m, mapI L) := by unfold memoB; rw [List.getElem?_map, h]; rfl
theorem memoB_at {K : Memo} {j p m : Nat} {L : List (Int × Bool)} {r : List (Nat × Obj)} (h : K[j]? = some (p, m, L)) : (memoB K ++ r)[j]? = some (m, mapI L) := by
  have := memoB_get h
  rw [List.getElem?_append_left (List.getElem?_eq_some_iff.1 this).1]; exact this
theorem memoB_set {K : Memo} {j p m : Nat} {L L' : List (Int × Bool)} {r : List (Nat × Obj)} (h : K[j]? = some (p, m, L)) : (memoB K ++ r).set j (m, mapI L') = memoB (K.set j (p, m, L')) ++ r := by
  have h1 := (List.getElem?_eq_some_iff.1 (memoB_get h)).1
  rw [List.set_append_left _ _ h1]
  unfold memoB
  rw [List.map_set]
theorem memoK_set {K : Memo} {j p m : Nat} {L L' : List (Int × Bool)} (h : K[j]? = some (p, m, L)) : memoK (K.set j (p, m, L')) = memoK K := by
  unfold memoK
  rw [List.map_set]
  exact set_same (by rw [List.getElem?_map, h]; rfl)
theorem memoB_add (K : Memo) (p m : Nat) : memoB (K ++ [(p, m, [])]) = memoB K ++ [(m, mapI [])] := by unfold memoB; rw [List.map_append]; rfl
theorem memoK_add (K : Memo) (p m : Nat) : memoK (K ++ [(p, m, [])]) = memoK K ++ [(p, m)] := by unfold memoK; rw [List.map_append]; rfl
/-- is a pointer among the keys, and what is kept of it? -/
theorem memo_case (K : Memo) (p : Nat) : (∀ x ∈ memoK K, x.1 ≠ p) ∨ ∃ j m L, K[j]? = some (p, m, L) ∧ ∀ (q : Nat) (x : Nat × Nat), q < j → (memoK K)[q]? = some x → x.1 ≠ p := by
  rcases key_case (memoK K) p with h | ⟨j, m, h1, h2⟩
  · exact .inl h
  · unfold memoK at h1
    rw [List.getElem?_map] at h1
    cases e : K[j]? with
    | none => rw [e] at h1; cases h1
    | some y =>
      rw [e] at h1
      have h3 : (y.1, y.2.1) = (p, m) := by simpa using h1
      injection h3 with h3 h4
      exact .inr ⟨j, m, y.2.2, by rw [e, ← h3, ← h4], h2⟩
theorem has_case (L : List (Int × Bool)) (k : Int) : (∀ x ∈ L, x.1 ≠ k) ∨ ∃ x ∈ L, x.1 = k := by
  rcases Classical.em (∃ x ∈ L, x.1 = k) with h | h
  · exact .inr h
  · exact .inl fun x hx e => h ⟨x, hx, e⟩
theorem TreeB.key {T : TypeId} {B : Nat} {w0 : World} {hs hs' : List (Nat × Obj)} {fm : Fm} {p : Nat} (h : TreeB T hs fm p) (hsub : ∀ x ∈ hs, x ∈ hs') : KeysIn B w0 hs' p := fun w hw => by
  obtain ⟨c, vs, ps, vv, pv, h1, _⟩ := h.node
  exact ⟨_, _, (hw.mem (hsub _ h1)).2⟩
theorem MemoOk.keys {T : TypeId} {a : St} {B : Nat} {w0 : World} {hs hs' : List (Nat × Obj)} {K : Memo} (h : MemoOk T a hs K) (hsub : ∀ x ∈ hs, x ∈ hs') : ∀ x ∈ memoK K, KeysIn B w0 hs' x.1 := fun x hx => by
  obtain ⟨y, hy, rfl⟩ := List.mem_map.1 hx
  obtain ⟨fm, _, h2, _⟩ := h y hy
  exact h2.key hsub
theorem MemoOk.add {T : TypeId} {a : St} {hs : List (Nat × Obj)} {K : Memo} {fm : Fm} {p m : Nat} (h : MemoOk T a hs K) (hT : TreeB T hs fm p) (hwf : wfF fm) : MemoOk T a hs (K ++ [(p, m, [])]) := fun x hx => by
  rcases List.mem_append.1 hx with hx | hx
  · exact h x hx
  · rw [List.mem_singleton.1 hx]
    exact ⟨fm, hwf, hT, fun y hy => by cases hy⟩
theorem MemoOk.set {T : TypeId} {a : St} {B : Nat} {w0 w : World} {hs ts : List (Nat × Obj)} {K : Memo} {fm : Fm} {p j m : Nat} {L L' : List (Int × Bool)} {en : List Int} (h : MemoOk T a ts K) (hts : ∀ x ∈ ts, x ∈ hs) (hw : Own B w0 hs w) (hT : TreeB T ts fm p) (hwf : wfF fm) (hE : EnvA a en) (hj : K[j]? = some (p, m, L)) (hL : ∀ x ∈ L', x ∈ L ∨ x = (keyF fm en, ev a fm en)) : MemoOk T a ts (K.set j (p, m, L')) := fun x hx => by
  rcases List.mem_or_eq_of_mem_set hx with hx | rfl
  · exact h x hx
  · obtain ⟨fm', h1, h2, h3⟩ := h _ (List.mem_of_getElem? hj)
    have e := TreeB.same hw (h2.more hts) (hT.more hts)
    subst e
    refine ⟨fm', hwf, hT, fun y hy => ?_⟩
    rcases hL y hy with hy | rfl
    · exact h3 y hy
    · exact ⟨en, hE, rfl, rfl⟩
end Go.Wk
namespace Go.Wk
open Go.RowKit
theorem formO_none {f : List UInt8} (h : parse f = none) : formO f = none := by unfold formO; rw [h]; simp
theorem formO_rest {f r : List UInt8} {p : Fm} (h : parse f = some (p, r)) (hr : ¬ r = []) : formO f = none := by
  unfold formO; rw [h]
  cases r with
  | nil => exact absurd rfl hr
  | cons c r => simp
def szF : Fm → Nat
  | .leaf _ _ => 0
  | .one _ _ p => szF p + 1
  | .two _ p q => szF p + szF q + 1
theorem rank_sub1 {c : UInt8} {vs : List UInt8} {q : Fm} : rankF q ≤ rankF (.one c vs q) := by
  show _ ≤ (if c = 33 then rankF q else if c = 65 ∨ c = 83 then rankF q + 1 else rankF q + (c.toNat - 48))
  split
  · exact Nat.le_refl _
  · split <;> omega
theorem rank_sub2 {c : UInt8} {q r : Fm} : rankF q ≤ rankF (.two c q r) ∧ rankF r ≤ rankF (.two c q r) := by
  show _ ≤ max _ _ ∧ _ ≤ max _ _
  omega
def cntI (c : UInt8) : Prop := (c.toNat : Int) = 50 ∨ (c.toNat : Int) = 51 ∨ (c.toNat : Int) = 52
theorem leaf_letter {c : UInt8} {vs : List UInt8} (h : wfF (.leaf c vs)) : ¬ quI (c.toNat : Int) ∧ ¬ cntI c := by
  unfold quI cntI
  rcases leaf_op h with hc | ⟨rfl, _⟩ | ⟨hc, _⟩
  · rcases hc with rfl | rfl <;> decide
  · decide
  · rcases hc with rfl | rfl <;> decide
theorem two_letter {c : UInt8} {p q : Fm} (h : wfF (.two c p q)) : ¬ quI (c.toNat : Int) ∧ ¬ cntI c := by
  unfold quI cntI
  rcases two_op h with rfl | rfl <;> decide
theorem one_letter {c : UInt8} {vs : List UInt8} {q : Fm} (h : wfF (.one c vs q)) : (quI (c.toNat : Int) ∧ ∃ v, vs = [v] ∧ isV v = true) ∨ (c = 33 ∧ vs = []) := by
  cases vs with
  | nil => exact .inr ⟨one_no_var h, rfl⟩
  | cons v vs =>
    obtain ⟨h1, rfl, h3⟩ := one_var h
    refine .inl ⟨?_, v, rfl, h3⟩
    unfold quI
    rcases h1 with rfl | rfl | rfl | rfl | rfl <;> decide
theorem rank_end1 {c : UInt8} {vs : List UInt8} {q : Fm} (hc : cntI c) : (rankF q : Int) + ((c.toNat : Int) - 48) = ((rankF (.one c vs q) : Nat) : Int) := by
  have hq : quI (c.toNat : Int) := by unfold cntI at hc; unfold quI; omega
  rw [rank_cnt hq (by unfold cntI at hc; omega)]; omega
theorem rank_end2 {c : UInt8} {vs : List UInt8} {q : Fm} (hc : ¬ cntI c) (hq : quI (c.toNat : Int)) : (rankF q : Int) + 1 = ((rankF (.one c vs q) : Nat) : Int) := by
  rw [rank_one (by unfold cntI at hc; unfold quI at hq; omega)]
theorem rank_end3 {c : UInt8} {vs : List UInt8} {q : Fm} (h : wfF (.one c vs q)) (hq : ¬ quI (c.toNat : Int)) : (rankF q : Int) = ((rankF (.one c vs q) : Nat) : Int) := by
  rcases one_letter h with ⟨h1, _⟩ | ⟨rfl, rfl⟩
  · exact absurd h1 hq
  · rfl
end Go.Wk
namespace Go.Wk
open Go.RowKit
section
variable {P : Program} {n : Nat} {C : World → Prop} {B : Nat} {w0 : World} {hs hs' : List (Nat × Obj)} {N R : Act → World → Prop} {X : List (Nat × (Act → World → Prop))} {e : Env} {ops : Array Oper} {l : List Oper} {o : Oper}
theorem OpQ.indexAgg {t el : TypeId} {m : Nat} {x y : Operand} {xs : List Int} {k : IntKind} {i : Int} (h : o.op = .index t x y) (hu : ∀ w, (underlying t).run P w = .ok (.array m el) w) (hag : ∀ w, (isAgg el).run P w = .ok false w) (hz : ∀ w, (sizeOf el).run P w = .ok 1 w)
    (hx : opd e x = some (.agg (ints xs).toArray)) (hy : opd e y = some (.int k i)) (h0 : 0 ≤ i) (h1 : i < m) (hl : xs.length = m) : OpQ P n C e o (.int .i64 (xs.getD i.toNat 0)) := OpQ.val fun A hF w => by
  unfold execOp; rw [h]; simp only [hF.opd hx, hF.opd hy]
  have hc : ((ints xs).toArray)[i.toNat]? = some (.int .i64 (xs.getD i.toNat 0)) := by
    have hi : i.toNat < xs.length := by omega
    rw [List.getElem?_toArray]
    unfold ints
    rw [List.getElem?_map, List.getElem?_eq_getElem hi, getD_at hi]; rfl
  simp only [Instr.index, asIntOf, Sem.run_bind, Sem.run_pure, hu, Result.andThen, if_pos (And.intro h0 h1), hz, part, hag, Nat.mul_one]
  simp [hc]
/-- a structure out of a holder -/
theorem OpQ.loadHold {t : TypeId} {x : Operand} {p : Nat} {a : St} {k : Value} {T : TypeId} {fr : Nat × Nat} (i : Nat) (h : o.op = .load t x) (hag : ∀ w, (isAgg t).run P w = .ok true w) (hsz : ∀ w, (sizeOf t).run P w = .ok 3 w) (hx : opd e x = some (.pointer (some ⟨p, 0, none⟩)))
    (hi : hs[i]? = some (p, .cells #[.int .i64 a.n, str a.set, str a.rel, k] T fr)) : OpQ P n (Own B w0 hs) e o (vS a) :=
  OpQ.loadN (cs := #[.int .i64 a.n, str a.set, str a.rel]) h hag hsz hx fun w hw j v hj => by
    rw [Addr.add_lit, hw.cell hi, Nat.zero_add]
    match j, hj with
    | 0, hj => exact hj
    | 1, hj => exact hj
    | 2, hj => exact hj
    | j + 3, hj => simp at hj
theorem Row.u8 {w : World} {v : Value} {vs : List UInt8} (h : Row w v (vs.map u8V)) {i : Int} (h0 : 0 ≤ i) (h1 : i < vs.length) : w.cell? (sAt v i) = some (.int .u8 ((vs.getD i.toNat 0).toNat : Int)) := by
  have hi : i.toNat < vs.length := by omega
  rw [Row.cell h h0 (by rw [List.length_map]; exact h1), getD_at hi]
  congr 1
  rw [List.getD_eq_getElem?_getD, List.getElem?_map, List.getElem?_eq_getElem hi]; rfl
/-- the blocks of a holder ahead of others -/
abbrev memoF (TH h M : Nat) (a : St) (K : Memo) (r : List (Nat × Obj)) : List (Nat × Obj) := (h, .cells #[.int .i64 a.n, str a.set, str a.rel, .map (some M)] TH (0, 0)) :: (M, mapP (memoK K)) :: (memoB K ++ r)
theorem Own.offMemo {w : World} {M : Nat} {K : Memo} {f : List (Nat × Obj)} (h : Own B w0 (f ++ ((M, mapP (memoK K)) :: (memoB K ++ hs))) w) : Own B w0 (f ++ hs) w :=
  h.sub (List.Sublist.append_left (List.Sublist.cons _ (List.sublist_append_right _ _)) f)
theorem memo_perm {TH h M : Nat} {a : St} {K : Memo} (f r : List (Nat × Obj)) : (f ++ memoF TH h M a K r).Perm (memoF TH h M a K (f ++ r)) := by
  have e : ∀ r, memoF TH h M a K r = ((h, Obj.cells #[.int .i64 a.n, str a.set, str a.rel, .map (some M)] TH (0, 0)) :: (M, mapP (memoK K)) :: memoB K) ++ r := fun _ => rfl
  rw [e, e]
  exact perm_back f _ r
theorem Ll.callMemo {TH h M d f : Nat} {a : St} {K : Memo} {ok : Memo → Prop} {b : Bool} {xs : List Operand} {ts : Array TypeId} {vs : List Value} (front : List (Nat × Obj)) (hd : Nat.blt d n = true) (hdst : o.dst = some d) (hg : wantE ops e o.guard = some true) (ho : o.op = .call ⟨.value (.func f), xs.toArray, ts⟩)
    (hcf : ∀ args w, (callFunc f args).run P w = .ok (.enter f args) w) (hx : opds e xs = some vs)
    (hc : ∀ w, Own B w0 (memoF TH h M a K (front ++ hs)) w → Calls P f vs.toArray w fun en w' => ∃ K', en = .returned (.bool b) ∧ ok K' ∧ Own B w0 (memoF TH h M a K' (front ++ hs)) w')
    (k : ∀ K', ok K' → Ll P n (Own B w0 (front ++ memoF TH h M a K' hs)) ops l ((d, .bool b) :: e) N R X) : Ll P n (Own B w0 (front ++ memoF TH h M a K hs)) ops (o :: l) e N R X :=
  Ll.call hd hdst hg ho hcf hx fun w hw => (hc w (hw.perm (memo_perm _ _))).mono fun en w' ⟨K', h1, h2, h3⟩ => ⟨_, h1, fun a' ha => by
    have := k K' h2
    unfold Ll at this
    exact this a' w' ha (h3.perm (memo_perm _ _).symm)⟩
end
theorem memo_new {M m p : Nat} {K : Memo} (f r : List (Nat × Obj)) : ((m, mapI []) :: (f ++ ((M, mapP (memoK K ++ [(p, m)])) :: (memoB K ++ r)))).Perm (f ++ ((M, mapP (memoK (K ++ [(p, m, [])]))) :: (memoB (K ++ [(p, m, [])]) ++ r))) := by
  rw [memoK_add, memoB_add, List.append_assoc]
  refine (List.perm_middle (a := (m, mapI [])) (l₁ := f) (l₂ := ((M, mapP (memoK K ++ [(p, m)])) :: (memoB K ++ r)))).symm.trans (List.Perm.append_left f ?_)
  refine (List.Perm.swap _ _ _).trans (List.Perm.cons _ ?_)
  exact (List.perm_middle (a := (m, mapI [])) (l₁ := memoB K) (l₂ := r)).symm
theorem memo_set2 {M m p j : Nat} {K : Memo} {x y : Nat × Obj} {r : List (Nat × Obj)} {L L' : List (Int × Bool)} (hj : K[j]? = some (p, m, L)) : (x :: y :: (M, mapP (memoK K)) :: (memoB K ++ r)).set (j + 3) (m, mapI L') = x :: y :: (M, mapP (memoK (K.set j (p, m, L')))) :: (memoB (K.set j (p, m, L')) ++ r) := by
  rw [memoK_set hj, ← memoB_set hj]; rfl
theorem memo_last {K : Memo} {p m : Nat} (h : ∀ x ∈ memoK K, x.1 ≠ p) : (K ++ [(p, m, [])])[K.length]? = some (p, m, []) ∧ ∀ (q : Nat) (x : Nat × Nat), q < K.length → (memoK (K ++ [(p, m, [])]))[q]? = some x → x.1 ≠ p := by
  refine ⟨by simp, fun q x hq hx => ?_⟩
  rw [memoK_add, List.getElem?_append_left (by unfold memoK; rw [List.length_map]; exact hq)] at hx
  exact h x (List.mem_of_getElem? hx)
theorem memo_case3 (K : Memo) (p : Nat) (k : Int) : (∀ x ∈ memoK K, x.1 ≠ p) ∨ (∃ j m L, K[j]? = some (p, m, L) ∧ (∀ (q : Nat) (x : Nat × Nat), q < j → (memoK K)[q]? = some x → x.1 ≠ p) ∧ ∀ x ∈ L, x.1 ≠ k) ∨ ∃ j m L, K[j]? = some (p, m, L) ∧ (∀ (q : Nat) (x : Nat × Nat), q < j → (memoK K)[q]? = some x → x.1 ≠ p) ∧ ∃ x ∈ L, x.1 = k := by
  rcases memo_case K p with h | ⟨j, m, L, h1, h2⟩
  · exact .inl h
  · rcases has_case L k with h3 | h3
    · exact .inr (.inl ⟨j, m, L, h1, h2, h3⟩)
    · exact .inr (.inr ⟨j, m, L, h1, h2, h3⟩)
theorem leaf_by {c : UInt8} {vs : List UInt8} (h : wfF (.leaf c vs)) : (((c.toNat : Int) = 116 ∨ (c.toNat : Int) = 102) ∧ vs = []) ∨ ((c.toNat : Int) = 80 ∧ ∃ v, vs = [v] ∧ isV v = true) ∨ (((c.toNat : Int) = 61 ∨ (c.toNat : Int) = 69) ∧ ∃ v u, vs = [v, u] ∧ isV v = true ∧ isV u = true) := by
  have hv := h.2.2.2
  have hl := h.2.2.1
  rcases leaf_op h with hc | ⟨rfl, v, rfl⟩ | ⟨hc, v, u, rfl⟩
  · refine .inl ⟨?_, ?_⟩
    · rcases hc with rfl | rfl <;> decide
    · have e : arV c = 0 := by rcases hc with rfl | rfl <;> rfl
      exact List.length_eq_zero_iff.1 (by omega)
  · exact .inr (.inl ⟨by decide, v, rfl, hv v (by simp)⟩)
  · refine .inr (.inr ⟨?_, v, u, rfl, hv v (by simp), hv u (by simp)⟩)
    rcases hc with rfl | rfl <;> decide
theorem one_by {c : UInt8} {vs : List UInt8} {q : Fm} (h : wfF (.one c vs q)) : ((c.toNat : Int) = 33 ∧ vs = []) ∨ (quI (c.toNat : Int) ∧ ∃ v, vs = [v] ∧ isV v = true) := by
  rcases one_letter h with ⟨h1, v, h2, h3⟩ | ⟨rfl, h2⟩
  · exact .inr ⟨h1, v, h2, h3⟩
  · exact .inl ⟨by decide, h2⟩
theorem two_by {c : UInt8} {p q : Fm} (h : wfF (.two c p q)) : (c.toNat : Int) = 38 ∨ (c.toNat : Int) = 124 := by
  rcases two_op h with rfl | rfl <;> decide
theorem fm_by {fm : Fm} (h : wfF fm) : (∃ c, fm = .leaf c [] ∧ ((c.toNat : Int) = 116 ∨ (c.toNat : Int) = 102)) ∨ (∃ c v, fm = .leaf c [v] ∧ (c.toNat : Int) = 80 ∧ isV v = true) ∨ (∃ c v u, fm = .leaf c [v, u] ∧ ((c.toNat : Int) = 61 ∨ (c.toNat : Int) = 69) ∧ isV v = true ∧ isV u = true) ∨
    (∃ c q, fm = .one c [] q ∧ (c.toNat : Int) = 33) ∨ (∃ c v q, fm = .one c [v] q ∧ quI (c.toNat : Int) ∧ isV v = true) ∨ ∃ c q r, fm = .two c q r ∧ ((c.toNat : Int) = 38 ∨ (c.toNat : Int) = 124) := by
  cases fm with
  | leaf c vs =>
    rcases leaf_by h with ⟨h1, rfl⟩ | ⟨h1, v, rfl, h2⟩ | ⟨h1, v, u, rfl, h2, h3⟩
    · exact .inl ⟨c, rfl, h1⟩
    · exact .inr (.inl ⟨c, v, rfl, h1, h2⟩)
    · exact .inr (.inr (.inl ⟨c, v, u, rfl, h1, h2, h3⟩))
  | one c vs q =>
    rcases one_by h with ⟨h1, rfl⟩ | ⟨h1, v, rfl, h2⟩
    · exact .inr (.inr (.inr (.inl ⟨c, q, rfl, h1⟩)))
    · exact .inr (.inr (.inr (.inr (.inl ⟨c, v, q, rfl, h1, h2⟩))))
  | two c q r => exact .inr (.inr (.inr (.inr (.inr ⟨c, q, r, rfl, two_by h⟩))))
section
variable {a : St} {en : List Int} {c v u : UInt8} {q r : Fm}
theorem ev116 (h : (c.toNat : Int) = 116) : true = ev a (.leaf c []) en := by
  obtain rfl : c = 116 := u8_of (n := 116) (by decide) h
  rfl
theorem ev102 (h : (c.toNat : Int) = 102) : false = ev a (.leaf c []) en := by
  obtain rfl : c = 102 := u8_of (n := 102) (by decide) h
  rfl
theorem ev80 (h : (c.toNat : Int) = 80) : a.inSet (en.getD (vI v) 0) = ev a (.leaf c [v]) en := by
  obtain rfl : c = 80 := u8_of (n := 80) (by decide) h
  rfl
theorem ev33 (h : (c.toNat : Int) = 33) : (!ev a q en) = ev a (.one c [] q) en := by
  obtain rfl : c = 33 := u8_of (n := 33) (by decide) h
  rfl
theorem ev38 (h : (c.toNat : Int) = 38) : (ev a q en && ev a r en) = ev a (.two c q r) en := by
  obtain rfl : c = 38 := u8_of (n := 38) (by decide) h
  rfl
theorem ev124 (h : (c.toNat : Int) = 124) : (ev a q en || ev a r en) = ev a (.two c q r) en := by
  obtain rfl : c = 124 := u8_of (n := 124) (by decide) h
  rfl
theorem and_t {x y z : Bool} (h : (x && y) = z) (hx : x = true) : y = z := by rw [hx] at h; exact h
theorem and_f {x y z : Bool} (h : (x && y) = z) (hx : x = false) : false = z := by rw [hx] at h; exact h
theorem or_t {x y z : Bool} (h : (x || y) = z) (hx : x = true) : true = z := by rw [hx] at h; exact h
theorem or_f {x y z : Bool} (h : (x || y) = z) (hx : x = false) : y = z := by rw [hx] at h; exact h
theorem ev_qu (h : quI (c.toNat : Int)) : ev a (.one c [v] q) en = decide (need c a.n.toNat ≤ cntT (evC a v q en) a.n.toNat) := by
  unfold ev
  rw [if_neg (fun e => by subst e; revert h; decide)]; rfl
theorem ev65 (h : (c.toNat : Int) = 65) {x : Nat} (hx : (x : Int) = a.n) : decide ((cntT (evC a v q en) x : Int) = a.n) = ev a (.one c [v] q) en := by
  rw [ev_qu (by unfold quI; omega), decide_eq_decide]
  have hn := need65 h (show 0 ≤ a.n by omega)
  have hl := cntT_le (evC a v q en) x
  obtain rfl : x = a.n.toNat := by omega
  omega
theorem ev83 (h : (c.toNat : Int) = 83) {x : Nat} (hx : (x : Int) = a.n) : decide ((0 : Int) < (cntT (evC a v q en) x : Int)) = ev a (.one c [v] q) en := by
  rw [ev_qu (by unfold quI; omega), decide_eq_decide]
  have hn := need83 (n := a.n.toNat) h
  obtain rfl : x = a.n.toNat := by omega
  omega
theorem ev234 (hq : quI (c.toNat : Int)) (h65 : ¬ (c.toNat : Int) = 65) (h83 : ¬ (c.toNat : Int) = 83) {x : Nat} (hx : (x : Int) = a.n) : decide ((c.toNat : Int) - 48 ≤ (cntT (evC a v q en) x : Int)) = ev a (.one c [v] q) en := by
  rw [ev_qu hq, decide_eq_decide]
  have hn := need234 (c := c) (n := a.n.toNat) (by unfold quI at hq; omega)
  obtain rfl : x = a.n.toNat := by omega
  omega
end
theorem bit_and {b i : Nat} : decide (((b / 2 ^ i &&& 1 : Nat) : Int) = 1) = b.testBit i := by
  rw [Nat.testBit_eq_decide_div_mod_eq, decide_eq_decide, Nat.and_one_is_mod]
  omega
theorem key_bound {a : St} {en : List Int} (hE : EnvA a en) (ha : a.Fine) {b i : Nat} (hi : i ≤ 4) : kSum b en i < 4096 := by
  have h1 := kSum_lt (b := b) (hE.ok ha) hi
  have h2 : (8 : Nat) ^ i ≤ 8 ^ 4 := Nat.pow_le_pow_right (by decide) hi
  omega
theorem key_yes {a : St} {en : List Int} (hE : EnvA a en) (ha : a.Fine) {b i : Nat} (hi : i < 4) (hb : b.testBit i = true) : kSum b en i ||| (en.getD i 0).toNat * 2 ^ (3 * i) = kSum b en (i + 1) := by
  rw [Nat.pow_mul, show (2 : Nat) ^ 3 = 8 from rfl]
  exact kSum_or (hE.ok ha) hi hb
theorem key_no {en : List Int} {b i : Nat} (hb : b.testBit i = false) : kSum b en i = kSum b en (i + 1) := by
  rw [show kSum b en (i + 1) = kSum b en i + (if b.testBit i then (en.getD i 0).toNat * 8 ^ i else 0) from rfl, hb]; rfl
theorem key_val {a : St} {en : List Int} (hE : EnvA a en) (ha : a.Fine) {i : Nat} (hi : i < 4) : en.getD i 0 = ((en.getD i 0).toNat : Int) ∧ (en.getD i 0).toNat < 8 := by
  have := (hE.ok ha).2 i hi
  omega
theorem shl_bound {x i : Nat} (hx : x < 8) (hi : i < 4) : x * 2 ^ (3 * i) < 4611686018427387904 := by
  have h2 : (2 : Nat) ^ (3 * i) ≤ 2 ^ 9 := Nat.pow_le_pow_right (by decide) (by omega)
  have := Nat.mul_le_mul (show x ≤ 7 by omega) h2
  omega
end Go.Wk
namespace Go.Wk
open Go.RowKit
section
variable {P : Program} {n : Nat} {C : World → Prop} {B : Nat} {w0 : World} {hs hs' : List (Nat × Obj)} {N R : Act → World → Prop} {X : List (Nat × (Act → World → Prop))} {e : Env} {ops : Array Oper} {l : List Oper} {o : Oper}
theorem OpQ.sliceAll {t el : TypeId} {m : Nat} {x : Operand} {b : Nat} (h : o.op = .slice t x none none none) (hu : ∀ w, (underlying t).run P w = .ok (.array m el) w) (hz : ∀ w, (sizeOf el).run P w = .ok 1 w)
    (hx : opd e x = some (.pointer (some ⟨b, 0, none⟩))) : OpQ P n C e o (.slice (some ⟨b, 0, none⟩) m m) := OpQ.val fun A hF w => by
  unfold execOp; rw [h]; simp only [hF.opd hx, Option.map_none]
  simp only [Instr.sliceAt, Instr.sureAddr, Instr.sliceBounds, Sem.run_bind, Sem.run_pure, hu, hz, Result.andThen]
  simp [Addr.add]
theorem Ll.copyEnv {dT sT elem T : TypeId} {d g : Nat} {x y : Operand} {v : Value} {xs : List Int} (i : Nat) (hd : Nat.blt d n = true) (hdst : o.dst = some d) (hg : wantE ops e o.guard = some true) (h : o.op = .call ⟨.builtin .copy, #[x, y], #[dT, sT]⟩)
    (hu : P.underlying dT = some (.slice elem)) (hsz : (P.info? elem).map (·.size) = some 1) (hx : opd e x = some (.slice (some ⟨g, 0, none⟩) 4 4)) (hy : opd e y = some v) (hi : hs[i]? = some (g, .cells (ints [0, 0, 0, 0]).toArray T (0, 0))) (hr : ∀ w, Own B w0 hs w → Ints w v xs) (hl : xs.length ≤ 4)
    (k : Ll P n (Own B w0 (hs.set i (g, .cells (ints (envL xs)).toArray T (0, 0)))) ops l ((d, .int .i64 (xs.length : Int)) :: e) N R X) : Ll P n (Own B w0 hs) ops (o :: l) e N R X :=
  Ll.turn hd hdst hg fun a w hF hw => by
    obtain ⟨src, cap, rfl, _, h3, h4⟩ := hr w hw
    have hlen : (ints xs).length = xs.length := ints_length _
    have hgc := (hw.has i g _ hi).2
    by_cases h0 : xs = []
    · subst h0
      refine ⟨.int .i64 (([] : List Int).length : Int), w, ?_, fun a' ha => ?_⟩
      · unfold execOp; rw [h]
        simp only [resolve, invoke, BigFrame.builtin_copy, List.map_toArray, List.map_cons, List.map_nil, hF.opd hx, hF.opd hy, Sem.run_bind, Sem.run_pure, Result.andThen]
        rw [run_copy_none w dT sT _ elem (some ⟨g, 0, none⟩) src 4 4 (ints ([] : List Int)).length cap hu hsz (by rw [ints_length]; rfl)]
        rfl
      · unfold Ll at k
        refine k a' w ha ?_
        rw [show envL [] = [0, 0, 0, 0] from rfl, set_same hi]; exact hw
    · have hone : ∀ v ∈ ints xs, v.oneCell' = true := fun v hv => by
        obtain ⟨z, _, rfl⟩ := List.mem_map.1 hv; rfl
      obtain ⟨ad, rfl⟩ : ∃ ad, src = some ad := by
        cases src with
        | none =>
          have := h3 rfl
          exact absurd (List.map_eq_nil_iff.1 this) h0
        | some ad => exact ⟨ad, rfl⟩
      obtain ⟨bk, off, sp⟩ := ad
      obtain rfl : sp = none := (h4 _ rfl).1
      have hcells : ∀ (j : Nat) (u : Value), (ints xs)[j]? = some u → w.cell? ((⟨bk, off, none⟩ : Addr).add j) = some u := fun j u hu => by rw [Addr.add_lit]; exact (h4 _ rfl).2 j u hu
      have e1 : ((ints [0, 0, 0, 0]).toArray.toList.take 0 ++ ints xs ++ (ints [0, 0, 0, 0]).toArray.toList.drop (0 + (ints xs).length)).toArray = (ints (envL xs)).toArray := by
        have e2 : (ints [0, 0, 0, 0]).drop xs.length = ints (List.replicate (4 - xs.length) 0) := by
          rw [show ([0, 0, 0, 0] : List Int) = List.replicate 4 0 from rfl]
          unfold ints
          rw [List.map_replicate, List.map_replicate, List.drop_replicate]
        rw [Nat.zero_add, hlen, List.take_zero, List.nil_append]
        show (ints xs ++ (ints [0, 0, 0, 0]).drop xs.length).toArray = _
        rw [e2]
        unfold envL ints
        rw [List.map_append]
      refine ⟨.int .i64 (xs.length : Int), w.setRow g (ints (envL xs)).toArray, ?_, fun a' ha => ?_⟩
      · unfold execOp; rw [h]
        simp only [resolve, invoke, BigFrame.builtin_copy, List.map_toArray, List.map_cons, List.map_nil, hF.opd hx, hF.opd hy, Sem.run_bind, Sem.run_pure, Result.andThen]
        rw [run_copy_row (P := P) w dT sT _ elem g 0 4 4 ⟨bk, off, none⟩ (ints xs).length cap (ints [0, 0, 0, 0]).toArray T (ints xs) hu hsz hgc (by rw [hlen]; exact (Nat.min_eq_left hl).symm) hcells (by rw [hlen, List.size_toArray, ints_length]; simpa using hl) hone, e1]
        show Result.ok _ _ = _
        rw [hlen]; rfl
      · unfold Ll at k
        exact k a' _ ha (hw.setRow hi _)
end
theorem hold_none {a : St} {f : List UInt8} {xs : List Int} (h : formO f = none) : holdO a f xs = none := holdO_none fun p e _ => by rw [h] at e; cases e
theorem hold_bad {a : St} {f : List UInt8} {xs : List Int} {fm : Fm} (h : formO f = some fm) (k : validB a = false ∨ 4 < (xs.length : Int) ∨ xs.all (elB a) = false ∨ ¬ ((frB fm / 2 ^ xs.length : Nat) : Int) = 0) : holdO a f xs = none := holdO_none fun p e ⟨h1, h2, h3, h4⟩ => by
  rw [h] at e
  injection e with e
  subst e
  rcases k with k | k | k | k
  · rw [k] at h1; cases h1
  · omega
  · have : xs.all (elB a) = true := List.all_eq_true.2 fun x hx => elB_true.2 (h3 x hx)
    rw [k] at this; cases this
  · omega
theorem hold_good {a : St} {f : List UInt8} {xs : List Int} {fm : Fm} (h : formO f = some fm) (h1 : validB a = true) (h2 : xs.length ≤ 4) (h3 : xs.all (elB a) = true) (h4 : ((frB fm / 2 ^ xs.length : Nat) : Int) = 0) : holdO a f xs = some (ev a fm (envL xs)) :=
  holdO_some h ⟨h1, h2, fun x hx => elB_true.1 (List.all_eq_true.1 h3 x hx), by omega⟩
theorem hold_ret {a : St} {f : List UInt8} {xs : List Int} {o : Option Bool} (h : holdO a f xs = o) : (Value.tuple #[.bool (o.getD false), .bool o.isSome]) = .tuple #[.bool (holdV a f xs), .bool (holdK a f xs)] := by
  unfold holdV holdK; rw [h]
end Go.Wk
namespace Go.Wk
open Go.RowKit
def joinN (op : List UInt8) (l : List (List UInt8)) : List UInt8 := preJ op l (l.length - 1) ++ l.getD (l.length - 1) []
def apart (v : List UInt8) (turned : Bool) (l : List (List UInt8)) : List UInt8 := ((if turned then [33, 83] else [83]) ++ v) ++ joinN [38] (dedup l)
end Go.Wk
namespace Go.Wk
open Go.RowKit
/-- what two structures agree about -/
noncomputable def agreeAt (a b : St) (r : Int) (f : List UInt8) : Bool := holdK a f [] && holdK b f [] && !(decide (rankI f ≤ r) && (holdV a f [] != holdV b f []))
noncomputable def agreeB (a b : St) (l : List (List UInt8)) (r : Int) : Bool := validB a && validB b && l.all (agreeAt a b r)
theorem agree_no {a b : St} {l : List (List UInt8)} {r : Int} {k : Nat} (h : k < l.length) (hk : agreeAt a b r (l.getD k []) = false) : agreeB a b l r = false := by
  unfold agreeB
  rw [show l.all (agreeAt a b r) = false from by
    rw [List.all_eq_false]
    exact ⟨l.getD k [], by rw [getD_at h]; exact List.getElem_mem _, by rw [hk]; decide⟩, Bool.and_false]
theorem agree_all {a b : St} {l : List (List UInt8)} {r : Int} (h : ∀ i : Nat, i < l.length → agreeAt a b r (l.getD i []) = true) : agreeB a b l r = (validB a && validB b) := by
  unfold agreeB
  rw [show l.all (agreeAt a b r) = true from by
    rw [List.all_eq_true]
    intro f hf
    obtain ⟨i, hi, rfl⟩ := List.getElem_of_mem hf
    rw [← getD_at hi]; exact h i hi, Bool.and_true]
theorem all_step {p : List UInt8 → Bool} {l : List (List UInt8)} {k : Nat} (h : k < l.length) : (l.take (k + 1)).all p = ((l.take k).all p && p (l.getD k [])) := by
  rw [List.take_succ_eq_append_getElem h, List.all_append, getD_at h]; simp
theorem agree_end {a b : St} {l : List (List UInt8)} {r : Int} {k : Nat} {g : Bool} (hk : k = l.length) (ha : validB a = true) (hb : validB b = true) (hg : g = (l.take k).all (agreeAt a b r)) : g = agreeB a b l r := by
  unfold agreeB
  rw [hg, hk, List.take_length, ha, hb]; rfl
theorem agreeAt_yes {a b : St} {r : Int} {f : List UInt8} (h1 : holdK a f [] = true) (h2 : holdK b f [] = true) (h3 : ¬ rankI f ≤ r ∨ holdV a f [] = holdV b f []) : agreeAt a b r f = true := by
  unfold agreeAt
  rw [h1, h2]
  rcases h3 with h | h
  · rw [decide_eq_false h]; rfl
  · rw [h]; simp
theorem agreeAt_no {a b : St} {r : Int} {f : List UInt8} (h : holdK a f [] = false ∨ holdK b f [] = false ∨ (rankI f ≤ r ∧ ¬ holdV a f [] = holdV b f [])) : agreeAt a b r f = false := by
  unfold agreeAt
  rcases h with h | h | ⟨h1, h2⟩
  · rw [h]; rfl
  · rw [h, Bool.and_false]; rfl
  · rw [decide_eq_true h1, show (holdV a f [] != holdV b f []) = true from by simpa using h2]; simp
def sumZ : List (List UInt8) → Int
  | [] => 0
  | s :: l => (s.length : Int) + sumZ l
theorem sumZ_app : ∀ (l m : List (List UInt8)), sumZ (l ++ m) = sumZ l + sumZ m
  | [], m => by simp [sumZ]
  | s :: l, m => by rw [List.cons_append, sumZ, sumZ, sumZ_app l m]; omega
theorem sumZ_pos : ∀ l : List (List UInt8), 0 ≤ sumZ l
  | [] => Int.le_refl _
  | s :: l => by have := sumZ_pos l; rw [sumZ]; omega
theorem sumZ_step {l : List (List UInt8)} {k : Nat} (h : k < l.length) : sumZ (l.take (k + 1)) = sumZ (l.take k) + ((l.getD k []).length : Int) := by
  rw [List.take_succ_eq_append_getElem h, sumZ_app, getD_at h]; simp [sumZ]
theorem sumZ_le {l : List (List UInt8)} {k : Nat} : sumZ (l.take k) ≤ sumZ l := by
  have h := sumZ_app (l.take k) (l.drop k)
  rw [List.take_append_drop] at h
  have := sumZ_pos (l.drop k)
  omega
theorem sumZ_mem : ∀ {l : List (List UInt8)}, ∀ s ∈ l, (s.length : Int) ≤ sumZ l
  | s :: l, t, ht => by
    rw [sumZ]
    rcases List.mem_cons.1 ht with rfl | ht
    · have := sumZ_pos l; omega
    · have := sumZ_mem t ht; omega
/-- what is left of a size -/
def szZ (l : List (List UInt8)) (left : Int) : Int := if left - (l.length : Int) - sumZ l < 0 then -1 else left - (l.length : Int) - sumZ l
theorem szZ_no {l : List (List UInt8)} {left : Int} (h : left - (l.length : Int) - sumZ l < 0) : szZ l left = -1 := if_pos h
theorem szZ_yes {l : List (List UInt8)} {left : Int} (h : ¬ left - (l.length : Int) - sumZ l < 0) : szZ l left = left - (l.length : Int) - sumZ l := if_neg h
theorem szZ_small {l : List (List UInt8)} {left : Int} (hl : left ≤ 1048576) (h : ¬ szZ l left < 0) : l.length ≤ 1048576 ∧ ∀ s ∈ l, s.length ≤ 1048576 := by
  unfold szZ at h
  split at h
  · exact absurd (show (-1 : Int) < 0 by decide) h
  · have h0 := sumZ_pos l
    refine ⟨by omega, fun s hs => ?_⟩
    have := sumZ_mem s hs
    omega
theorem rep_setS {l : List (List UInt8)} {k : Nat} (hk : k < l.length) : ((strs l).take k ++ List.replicate (l.length - k) (str [])).set k (str (l.getD k [])) = (strs l).take (k + 1) ++ List.replicate (l.length - (k + 1)) (str []) := by
  have e : l.length - k = (l.length - (k + 1)) + 1 := by omega
  have hs : k < (strs l).length := by rw [strs_length]; exact hk
  rw [e, List.replicate_succ, List.set_append_right _ _ (by rw [List.length_take]; omega), List.take_succ_eq_append_getElem hs, List.append_assoc]
  congr 1
  have h0 : k - ((strs l).take k).length = 0 := by rw [List.length_take]; omega
  rw [h0, List.set_cons_zero, getD_at hk]
  simp [strs]
theorem mem_getD {l : List (List UInt8)} {k : Nat} (hk : k < l.length) : l.getD k [] ∈ l := by rw [getD_at hk]; exact List.getElem_mem _
end Go.Wk
namespace Go.Proofs
open Go.Shelf
def Tryd.lays160_ren : Go.Shelf.Ren := ⟨fun | 160 => 154 | 232 => 184 | 231 => 183 | 227 => 185 | 234 => 187 | 233 => 186 | 236 => 189 | 235 => 188 | 228 => 202 | 271 => 205 | 151 => 204 | 197 => 203 | 120 => 213 | 152 => 212 | 260 => 211 | 137 => 180 | 119 => 217 | 224 => 215 | 225 => 214 | 217 => 201 | 266 => 210 | n => n, fun | 9 => 9 | 4 => 4 | 3 => 3 | 5 => 5 | 117 => 191 | 116 => 190 | 0 => 0 | 124 => 194 | 21 => 21 | 105 => 216 | 46 => 144 | 119 => 117 | 139 => 224 | 138 => 223 | n => n, fun | 3 => 3 | 4 => 4 | n => n⟩
theorem Tryd.lays160 : Go.Proofs.Lays.n160 Tryd.prog Tryd.lays160_ren := {
  mixed := by kernel_rfl
  f119 := Tryd.func217.trans (congrArg some (by kernel_rfl))
  f120 := Tryd.func213.trans (congrArg some (by kernel_rfl))
  f137 := Tryd.func180.trans (congrArg some (by kernel_rfl))
  f151 := Tryd.func204.trans (congrArg some (by kernel_rfl))
  f152 := Tryd.func212.trans (congrArg some (by kernel_rfl))
  f160 := Tryd.func154.trans (congrArg some (by kernel_rfl))
  f197 := Tryd.func203.trans (congrArg some (by kernel_rfl))
  f217 := Tryd.func201.trans (congrArg some (by kernel_rfl))
  f224 := Tryd.func215.trans (congrArg some (by kernel_rfl))
  f225 := Tryd.func214.trans (congrArg some (by kernel_rfl))
  f227 := Tryd.func185.trans (congrArg some (by kernel_rfl))
  f228 := Tryd.func202.trans (congrArg some (by kernel_rfl))
  f231 := Tryd.func183.trans (congrArg some (by kernel_rfl))
  f232 := Tryd.func184.trans (congrArg some (by kernel_rfl))
  f233 := Tryd.func186.trans (congrArg some (by kernel_rfl))
  f234 := Tryd.func187.trans (congrArg some (by kernel_rfl))
  f235 := Tryd.func188.trans (congrArg some (by kernel_rfl))
  f236 := Tryd.func189.trans (congrArg some (by kernel_rfl))
  f260 := Tryd.func211.trans (congrArg some (by kernel_rfl))
  f266 := Tryd.func210.trans (congrArg some (by kernel_rfl))
  f271 := Tryd.func205.trans (congrArg some (by kernel_rfl))
  t0 := Tryd.underlying0
  a0 := Tryd.isAgg0
  z0 := Tryd.sizeOf0
  v0 := Tryd.zeroValue0
  t3 := Tryd.underlying3
  a3 := Tryd.isAgg3
  z3 := Tryd.sizeOf3
  v3 := Tryd.zeroValue3
  t4 := Tryd.underlying4
  a4 := Tryd.isAgg4
  z4 := Tryd.sizeOf4
  v4 := Tryd.zeroValue4
  t5 := Tryd.underlying5
  a5 := Tryd.isAgg5
  z5 := Tryd.sizeOf5
  v5 := Tryd.zeroValue5
  t9 := Tryd.underlying9
  a9 := Tryd.isAgg9
  z9 := Tryd.sizeOf9
  v9 := Tryd.zeroValue9
  t21 := Tryd.underlying21
  a21 := Tryd.isAgg21
  z21 := Tryd.sizeOf21
  v21 := Tryd.zeroValue21
  t46 := Tryd.underlying144
  a46 := Tryd.isAgg144
  z46 := Tryd.sizeOf144
  v46 := Tryd.zeroValue144
  t105 := Tryd.underlying216
  a105 := Tryd.isAgg216
  z105 := Tryd.sizeOf216
  v105 := Tryd.zeroValue216
  t116 := Tryd.underlying190
  a116 := Tryd.isAgg190
  z116 := Tryd.sizeOf190
  t117 := Tryd.underlying191
  a117 := Tryd.isAgg191
  z117 := Tryd.sizeOf191
  v117 := Tryd.zeroValue191
  t119 := Tryd.underlying117
  a119 := Tryd.isAgg117
  z119 := Tryd.sizeOf117
  t124 := Tryd.underlying194
  a124 := Tryd.isAgg194
  z124 := Tryd.sizeOf194
  v124 := Tryd.zeroValue194
  t138 := Tryd.underlying223
  a138 := Tryd.isAgg223
  z138 := Tryd.sizeOf223
  v138 := Tryd.zeroValue223
  t139 := Tryd.underlying224
  a139 := Tryd.isAgg224
  z139 := Tryd.sizeOf224
  v139 := Tryd.zeroValue224
  g3 := by kernel_rfl
  g4 := by kernel_rfl }
end Go.Proofs
namespace Go.Proofs.YtnfkmfdhmlombaaDoor
open Go.RowKit Go.Wk
theorem Base.mixed : Tryd.prog.follows .mixedOrders = true := by kernel_rfl
theorem Base.elem25 : Elem Tryd.prog 25 3 1 := ⟨Tryd.underlying25, Tryd.t3, _, by kernel_rfl, rfl, rfl, by decide, rfl, by decide⟩
theorem Base.elem33 : Elem Tryd.prog 33 5 1 := ⟨Tryd.underlying33, Tryd.t5, _, by kernel_rfl, rfl, rfl, by decide, rfl, by decide⟩
theorem Base.elem45 : Elem Tryd.prog 45 9 1 := ⟨Tryd.underlying45, Tryd.t9, _, by kernel_rfl, rfl, rfl, by decide, rfl, by decide⟩
theorem Base.elem146 : Elem Tryd.prog 146 111 1 := ⟨Tryd.underlying146, Tryd.t111, _, by kernel_rfl, rfl, rfl, by decide, rfl, by decide⟩
theorem trim_ok (s : List UInt8) (w : World) (hs : s.length ≤ 1048576) :
    Calls Tryd.prog 154 [str s, str [48, 49]].toArray w fun en w' => en = .returned (str (Lib.trimS s [48, 49])) ∧ Below w.heap.size w w' :=
  Any.strings_Trim_laid Tryd.lays160 (by kernel_rfl) ⟨⟨s⟩⟩ ⟨⟨[48, 49]⟩⟩ w (by show s.length ≤ 9223372036854775807; omega) (by decide) (ascii_of_all (by decide))
end Go.Proofs.YtnfkmfdhmlombaaDoor
namespace Go.Proofs.YtnfkmfdhmlombaaDoor
open Go.RowKit Go.Wk
set_option linter.unusedSimpArgs false
set_option maxHeartbeats 400000 in
/-- spec.l1In -/
theorem l1In_ok (n lo hi : Int) (w : World) :
    Calls Tryd.prog 73 [i6_ n, i6_ lo, i6_ hi].toArray w fun en w' => en = .returned (.bool (inB n lo hi)) ∧ Below w.heap.size w w' := by
 refine fnStart (n := 15) (e := [(0, i6_ n), (1, i6_ lo), (2, i6_ hi)]) Tryd.func73 rfl rfl rfl rfl Ends.both ?_
 refine Wk.seq ?_
 refine Wk.regionQ ?_
 refine Lq.run 1 rfl ?_
 refine Lq.nil ?_
 refine Kt.sel [0, 1, 2] [_, _, _] rfl ?_
 refine Wk.seq ?_
 refine Wk.regionQ ?_
 refine Lq.run 4 rfl ?_
 refine Lq.bool fun b10 hg10 => ?_
 cases b10
 ·
  replace hg10 := of_decide_eq_false hg10
  refine Lq.pass rfl rfl rfl ?_
  refine Lq.pass rfl rfl rfl ?_
  refine Lq.pass rfl rfl rfl ?_
  refine Lq.run 2 rfl ?_
  refine Lq.nil ?_
  refine Kt.sel [6] [_] rfl ?_
  refine Wk.ret (Kt.end1 rfl rfl fun w' hw => ?_)
  exact ⟨ret_b (by first | rfl | (simp_all [inB]; done) | (simp_all [inB]; omega)), hw.below⟩
 ·
  replace hg10 := of_decide_eq_true hg10
  refine Lq.run 5 rfl ?_
  refine Lq.nil ?_
  refine Kt.sel [6] [_] rfl ?_
  refine Wk.ret (Kt.end1 rfl rfl fun w' hw => ?_)
  exact ⟨ret_b (by first | rfl | (simp_all [inB]; done) | (simp_all [inB]; omega)), hw.below⟩
set_option maxHeartbeats 400000 in
/-- spec.l1Bits -/
theorem l1Bits_ok (s : List UInt8) (n : Int) (w : World) (hs : s.length ≤ 1048576) :
    Calls Tryd.prog 107 [str s, i6_ n].toArray w fun en w' => en = .returned (.bool (bitsB s n)) ∧ Below w.heap.size w w' := by
 refine fnStart (n := 26) (e := [(0, str s), (1, i6_ n)]) Tryd.func107 rfl rfl rfl rfl Ends.both ?_
 refine Wk.seq ?_
 refine Wk.regionQ ?_
 refine Lq.run 1 rfl ?_
 refine Lq.nil ?_
 refine Kt.sel [0, 1] [_, _] rfl ?_
 refine Wk.seq ?_
 refine Wk.seq ?_
 refine Wk.regionQ ?_
 refine Lq.run 1 rfl ?_
 refine Lq.nil ?_
 refine Kt.sel [0, 1, 5] [_, _, _] rfl ?_
 refine Wk.block ?_
 refine Wk.loop (σ := Nat) (fun k => k ≤ s.length ∧ (s.take k).all isBit = true) (fun k => [(0, str s), (1, i6_ n), (5, i6_ ((k : Int)))]) (fun k => Own w.heap.size w []) (fun k => s.length - k) (0) ⟨by omega, rfl⟩ (Sub.sel [0, 1, 5] rfl) (fun _ h => h) ?_
 rintro k ⟨hk, hall⟩
 refine Wk.seq ?_
 refine Wk.seq ?_
 refine Wk.regionQ ?_
 refine Lq.run 2 rfl ?_
 refine Lq.op (v := i6_ ((s.length : Int))) rfl rfl rfl (OpQ.lenStr rfl Tryd.runUnderlying9 rfl) ?_
 refine Lq.run 1 rfl ?_
 refine Lq.nil ?_
 refine Kt.sel [0, 1, 5, 9] [_, _, _, _] rfl ?_
 refine Wk.cond (b := decide (((k : Int)) < ((s.length : Int)))) rfl (fun h9 => ?_) (fun h9 => ?_)
 ·
  replace h9 := of_decide_eq_true h9
  refine Wk.skip ?_
  refine Kt.sel [0, 1, 5] [_, _, _] rfl ?_
  refine Wk.seq ?_
  refine Wk.block ?_
  refine Wk.seq ?_
  refine Wk.regionQ ?_
  refine Lq.run 2 rfl ?_
  refine Lq.op (v := .int .u8 (((s.getD (((k : Int)).toNat) 0).toNat : Int))) rfl rfl rfl (OpQ.indexStr rfl Tryd.runUnderlying9 rfl rfl (by omega) (by omega)) ?_
  refine Lq.run 2 rfl ?_
  refine Lq.bool fun b16 hg16 => ?_
  cases b16
  ·
   replace hg16 := not_false hg16
   replace hg16 := of_decide_eq_true hg16
   refine Lq.pass rfl rfl rfl ?_
   refine Lq.pass rfl rfl rfl ?_
   refine Lq.pass rfl rfl rfl ?_
   refine Lq.pass rfl rfl rfl ?_
   refine Lq.run 1 rfl ?_
   refine Lq.nil ?_
   refine Kt.sel [0, 1, 5, 21] [_, _, _, _] rfl ?_
   refine Wk.condF rfl ?_
   refine Wk.skip ?_
   refine Kt.sel [0, 1, 5] [_, _, _] rfl ?_
   refine Wk.regionQ ?_
   refine Lq.run 1 rfl ?_
   refine Lq.op rfl rfl rfl (OpQ.add rfl rfl rfl (by omega) (by omega)) ?_
   refine Lq.run 1 rfl ?_
   refine Lq.nil ?_
   refine Kt.again (k + 1) ⟨by omega, all_take (by omega) hall (by unfold isBit; simp_all)⟩ (by omega) (Sub.sel [0, 1, 5] rfl) (fun _ h => h)
  ·
   replace hg16 := not_true hg16
   replace hg16 := of_decide_eq_false hg16
   refine Lq.run 2 rfl ?_
   refine Lq.op (v := .int .u8 (((s.getD (((k : Int)).toNat) 0).toNat : Int))) rfl rfl rfl (OpQ.indexStr rfl Tryd.runUnderlying9 rfl rfl (by omega) (by omega)) ?_
   refine Lq.run 2 rfl ?_
   refine Lq.nil ?_
   refine Kt.sel [0, 1, 5, 21] [_, _, _, _] rfl ?_
   refine Wk.cond (b := !(decide ((((s.getD (((k : Int)).toNat) 0).toNat : Int)) = (49 : Int)))) rfl (fun h21 => ?_) (fun h21 => ?_)
   ·
    replace h21 := not_true h21
    replace h21 := of_decide_eq_false h21
    refine Wk.seq ?_
    refine Wk.regionQ ?_
    refine Lq.run 1 rfl ?_
    refine Lq.nil ?_
    refine Kt.sel [4] [_] rfl ?_
    refine Wk.ret (Kt.end1 rfl rfl fun w' hw => ?_)
    exact ⟨ret_b (by unfold bitsB; rw [all_false (k := k) (by omega) (by unfold isBit; simp_all)]; rfl), hw.below⟩
   ·
    replace h21 := not_false h21
    replace h21 := of_decide_eq_true h21
    refine Wk.skip ?_
    refine Kt.sel [0, 1, 5] [_, _, _] rfl ?_
    refine Wk.regionQ ?_
    refine Lq.run 1 rfl ?_
    refine Lq.op rfl rfl rfl (OpQ.add rfl rfl rfl (by omega) (by omega)) ?_
    refine Lq.run 1 rfl ?_
    refine Lq.nil ?_
    refine Kt.again (k + 1) ⟨by omega, all_take (by omega) hall (by unfold isBit; simp_all)⟩ (by omega) (Sub.sel [0, 1, 5] rfl) (fun _ h => h)
 ·
  replace h9 := of_decide_eq_false h9
  refine Wk.exit rfl ?_
  refine Kt.sel [0, 1] [_, _] rfl ?_
  refine Wk.seq ?_
  refine Wk.regionQ ?_
  refine Lq.run 1 rfl ?_
  refine Lq.op (v := i6_ ((s.length : Int))) rfl rfl rfl (OpQ.lenStr rfl Tryd.runUnderlying9 rfl) ?_
  refine Lq.run 3 rfl ?_
  refine Lq.nil ?_
  refine Kt.sel [4] [_] rfl ?_
  refine Wk.ret (Kt.end1 rfl rfl fun w' hw => ?_)
  exact ⟨ret_b (by unfold bitsB; rw [show s.all isBit = true from by rw [← List.take_of_length_le (show s.length ≤ k by omega)]; exact hall]; rfl), hw.below⟩
set_option maxHeartbeats 400000 in
/-- spec.StructureValid -/
theorem sValid_ok (a : St) (w : World) (ha : a.Small) :
    Calls Tryd.prog 55 [vS a].toArray w fun en w' => en = .returned (.bool (validB a)) ∧ Below w.heap.size w w' := by
 refine fnStart (n := 23) (e := [(0, vS a)]) Tryd.func55 rfl rfl rfl rfl Ends.both ?_
 have h1 := ha.set
 have h2 := ha.rel
 refine Wk.seq ?_
 refine Wk.region ?_
 refine Ll.box (v := vS a) rfl rfl rfl rfl rfl fun p1 hp1 => ?_
 show Ll _ _ (Own _ _ [_]) _ _ ((1, pt_ p1) :: _) _ _ _
 refine Ll.run 1 rfl ?_
 refine Ll.nil ?_
 refine Kt.sel [1] [_] rfl ?_
 refine Wk.seq ?_
 refine Wk.regionQ ?_
 refine Lq.op rfl rfl rfl (OpQ.fieldAddr rfl Tryd.runUnderlying28 rfl Tryd.sizeOf3 rfl rfl) ?_
 refine Lq.op rfl rfl rfl (OpQ.loadOwn 0 rfl Tryd.isAgg3 rfl rfl rfl) ?_
 refine Lq.op (v := bo_ (inB a.n 1 8)) rfl rfl rfl (OpQ.call rfl Tryd.call73 rfl Own.stable (fun w1 hw1 => l1In_ok a.n 1 8 w1 )) ?_
 refine Lq.run 1 rfl ?_
 refine Lq.bool fun b6 hg6 => ?_
 cases b6
 ·
  refine Lq.pass rfl rfl rfl ?_
  refine Lq.pass rfl rfl rfl ?_
  refine Lq.pass rfl rfl rfl ?_
  refine Lq.pass rfl rfl rfl ?_
  refine Lq.pass rfl rfl rfl ?_
  refine Lq.run 2 rfl ?_
  refine Lq.pass rfl rfl rfl ?_
  refine Lq.pass rfl rfl rfl ?_
  refine Lq.pass rfl rfl rfl ?_
  refine Lq.pass rfl rfl rfl ?_
  refine Lq.pass rfl rfl rfl ?_
  refine Lq.pass rfl rfl rfl ?_
  refine Lq.pass rfl rfl rfl ?_
  refine Lq.pass rfl rfl rfl ?_
  refine Lq.run 2 rfl ?_
  refine Lq.nil ?_
  refine Kt.sel [2] [_] rfl ?_
  refine Wk.ret (Kt.end1 rfl rfl fun w' hw => ?_)
  exact ⟨ret_b (by first | (simp [validB, *]; done) | (simp [validB, *]; omega)), hw.below⟩
 ·
  have hn : 1 ≤ a.n ∧ a.n ≤ 8 := by unfold inB at hg6; simpa using hg6
  have hq := sq_le hn.1 hn.2
  refine Lq.op rfl rfl rfl (OpQ.fieldAddr rfl Tryd.runUnderlying28 rfl Tryd.sizeOf9 rfl rfl) ?_
  refine Lq.op rfl rfl rfl (OpQ.loadOwn 0 rfl Tryd.isAgg9 rfl rfl rfl) ?_
  refine Lq.op rfl rfl rfl (OpQ.fieldAddr rfl Tryd.runUnderlying28 rfl Tryd.sizeOf3 rfl rfl) ?_
  refine Lq.op rfl rfl rfl (OpQ.loadOwn 0 rfl Tryd.isAgg3 rfl rfl rfl) ?_
  refine Lq.op (v := bo_ (bitsB a.set a.n)) rfl rfl rfl (OpQ.call rfl Tryd.call107 rfl Own.stable (fun w1 hw1 => l1Bits_ok a.set a.n w1 (by omega))) ?_
  refine Lq.run 2 rfl ?_
  refine Lq.bool fun b13 hg13 => ?_
  cases b13
  ·
   refine Lq.pass rfl rfl rfl ?_
   refine Lq.pass rfl rfl rfl ?_
   refine Lq.pass rfl rfl rfl ?_
   refine Lq.pass rfl rfl rfl ?_
   refine Lq.pass rfl rfl rfl ?_
   refine Lq.pass rfl rfl rfl ?_
   refine Lq.pass rfl rfl rfl ?_
   refine Lq.pass rfl rfl rfl ?_
   refine Lq.run 2 rfl ?_
   refine Lq.nil ?_
   refine Kt.sel [2] [_] rfl ?_
   refine Wk.ret (Kt.end1 rfl rfl fun w' hw => ?_)
   exact ⟨ret_b (by first | (simp [validB, *]; done) | (simp [validB, *]; omega)), hw.below⟩
  ·
   refine Lq.op rfl rfl rfl (OpQ.fieldAddr rfl Tryd.runUnderlying28 rfl Tryd.sizeOf9 rfl rfl) ?_
   refine Lq.op rfl rfl rfl (OpQ.loadOwn 0 rfl Tryd.isAgg9 rfl rfl rfl) ?_
   refine Lq.op rfl rfl rfl (OpQ.fieldAddr rfl Tryd.runUnderlying28 rfl Tryd.sizeOf3 rfl rfl) ?_
   refine Lq.op rfl rfl rfl (OpQ.loadOwn 0 rfl Tryd.isAgg3 rfl rfl rfl) ?_
   refine Lq.op rfl rfl rfl (OpQ.fieldAddr rfl Tryd.runUnderlying28 rfl Tryd.sizeOf3 rfl rfl) ?_
   refine Lq.op rfl rfl rfl (OpQ.loadOwn 0 rfl Tryd.isAgg3 rfl rfl rfl) ?_
   refine Lq.op rfl rfl rfl (OpQ.mul rfl rfl rfl (by omega) (by omega)) ?_
   refine Lq.op (v := bo_ (bitsB a.rel (a.n * a.n))) rfl rfl rfl (OpQ.call rfl Tryd.call107 rfl Own.stable (fun w1 hw1 => l1Bits_ok a.rel (a.n * a.n) w1 (by omega))) ?_
   refine Lq.run 2 rfl ?_
   refine Lq.nil ?_
   refine Kt.sel [2] [_] rfl ?_
   refine Wk.ret (Kt.end1 rfl rfl fun w' hw => ?_)
   exact ⟨ret_b (by first | (simp [validB, *]; done) | (simp [validB, *]; omega)), hw.below⟩
set_option maxHeartbeats 400000 in
/-- spec.l1Set -/
theorem l1Set_ok (a : St) (x : Int) (w : World) (ha : a.Fine) (hx : a.El x) :
    Calls Tryd.prog 90 [vS a, i6_ x].toArray w fun en w' => en = .returned (.bool (a.inSet x)) ∧ Below w.heap.size w w' := by
 refine fnStart (n := 10) (e := [(0, vS a), (1, i6_ x)]) Tryd.func90 rfl rfl rfl rfl Ends.both ?_
 have hs := ha.set
 obtain ⟨h0, h1⟩ := hx
 refine Wk.seq ?_
 refine Wk.region ?_
 refine Ll.box (v := vS a) rfl rfl rfl rfl rfl fun p2 hp2 => ?_
 show Ll _ _ (Own _ _ [_]) _ _ ((2, pt_ p2) :: _) _ _ _
 refine Ll.run 1 rfl ?_
 refine Ll.nil ?_
 refine Kt.sel [1, 2] [_, _] rfl ?_
 refine Wk.seq ?_
 refine Wk.regionQ ?_
 refine Lq.op rfl rfl rfl (OpQ.fieldAddr rfl Tryd.runUnderlying28 rfl Tryd.sizeOf9 rfl rfl) ?_
 refine Lq.op rfl rfl rfl (OpQ.loadOwn 0 rfl Tryd.isAgg9 rfl rfl rfl) ?_
 refine Lq.run 1 rfl ?_
 refine Lq.op (v := .int .u8 (((a.set.getD ((x).toNat) 0).toNat : Int))) rfl rfl rfl (OpQ.indexStr rfl Tryd.runUnderlying9 rfl rfl (by omega) (by omega)) ?_
 refine Lq.run 2 rfl ?_
 refine Lq.nil ?_
 refine Kt.sel [4] [_] rfl ?_
 refine Wk.ret (Kt.end1 rfl rfl fun w' hw => ?_)
 exact ⟨ret_b (by first | rfl | (simp_all; done) | (simp_all; omega)), hw.below⟩
set_option maxHeartbeats 400000 in
/-- spec.l1Rel -/
theorem l1Rel_ok (a : St) (x y : Int) (w : World) (ha : a.Fine) (hx : a.El x) (hy : a.El y) :
    Calls Tryd.prog 91 [vS a, i6_ x, i6_ y].toArray w fun en w' => en = .returned (.bool (a.inRel x y)) ∧ Below w.heap.size w w' := by
 refine fnStart (n := 17) (e := [(0, vS a), (1, i6_ x), (2, i6_ y)]) Tryd.func91 rfl rfl rfl rfl Ends.both ?_
 obtain ⟨k0, k1, k2, k3, k4⟩ := ha.relLt hx hy
 refine Wk.seq ?_
 refine Wk.region ?_
 refine Ll.box (v := vS a) rfl rfl rfl rfl rfl fun p3 hp3 => ?_
 show Ll _ _ (Own _ _ [_]) _ _ ((3, pt_ p3) :: _) _ _ _
 refine Ll.run 1 rfl ?_
 refine Ll.nil ?_
 refine Kt.sel [1, 2, 3] [_, _, _] rfl ?_
 refine Wk.seq ?_
 refine Wk.regionQ ?_
 refine Lq.op rfl rfl rfl (OpQ.fieldAddr rfl Tryd.runUnderlying28 rfl Tryd.sizeOf9 rfl rfl) ?_
 refine Lq.op rfl rfl rfl (OpQ.loadOwn 0 rfl Tryd.isAgg9 rfl rfl rfl) ?_
 refine Lq.run 1 rfl ?_
 refine Lq.op rfl rfl rfl (OpQ.fieldAddr rfl Tryd.runUnderlying28 rfl Tryd.sizeOf3 rfl rfl) ?_
 refine Lq.op rfl rfl rfl (OpQ.loadOwn 0 rfl Tryd.isAgg3 rfl rfl rfl) ?_
 refine Lq.op rfl rfl rfl (OpQ.mul rfl rfl rfl (by omega) (by omega)) ?_
 refine Lq.run 1 rfl ?_
 refine Lq.op rfl rfl rfl (OpQ.add rfl rfl rfl (by omega) (by omega)) ?_
 refine Lq.op (v := .int .u8 (((a.rel.getD (((x * a.n) + y).toNat) 0).toNat : Int))) rfl rfl rfl (OpQ.indexStr rfl Tryd.runUnderlying9 rfl rfl (by omega) (by omega)) ?_
 refine Lq.run 2 rfl ?_
 refine Lq.nil ?_
 refine Kt.sel [6] [_] rfl ?_
 refine Wk.ret (Kt.end1 rfl rfl fun w' hw => ?_)
 exact ⟨ret_b (by first | rfl | (simp_all; done) | (simp_all; omega)), hw.below⟩
set_option maxHeartbeats 400000 in
/-- impl.areBits -/
theorem areBits_ok (s : List UInt8) (n : Int) (w : World) (hs : s.length ≤ 1048576) :
    Calls Tryd.prog 111 [str s, i6_ n].toArray w fun en w' => en = .returned (.bool (bitsB s n)) ∧ Below w.heap.size w w' := by
 refine fnStart (n := 14) (e := [(0, str s), (1, i6_ n)]) Tryd.func111 rfl rfl rfl rfl Ends.both ?_
 refine Wk.seq ?_
 refine Wk.regionQ ?_
 refine Lq.run 1 rfl ?_
 refine Lq.nil ?_
 refine Kt.sel [0, 1] [_, _] rfl ?_
 refine Wk.seq ?_
 refine Wk.regionQ ?_
 refine Lq.run 1 rfl ?_
 refine Lq.op (v := i6_ ((s.length : Int))) rfl rfl rfl (OpQ.lenStr rfl Tryd.runUnderlying9 rfl) ?_
 refine Lq.run 3 rfl ?_
 refine Lq.bool fun b9 hg9 => ?_
 cases b9
 ·
  replace hg9 := of_decide_eq_false hg9
  refine Lq.pass rfl rfl rfl ?_
  refine Lq.pass rfl rfl rfl ?_
  refine Lq.pass rfl rfl rfl ?_
  refine Lq.run 2 rfl ?_
  refine Lq.nil ?_
  refine Kt.sel [4] [_] rfl ?_
  refine Wk.ret (Kt.end1 rfl rfl fun w' hw => ?_)
  exact ⟨ret_b (by unfold bitsB; simp [*]), hw.below⟩
 ·
  replace hg9 := of_decide_eq_true hg9
  refine Lq.run 1 rfl ?_
  refine Lq.op (v := str (Lib.trimS s [48, 49])) rfl rfl rfl (OpQ.call rfl Tryd.call154 rfl Own.stable (fun w1 hw1 => trim_ok s w1 (by omega))) ?_
  refine Lq.op rfl rfl rfl (OpQ.seql rfl rfl rfl) ?_
  refine Lq.run 2 rfl ?_
  refine Lq.nil ?_
  refine Kt.sel [4] [_] rfl ?_
  refine Wk.ret (Kt.end1 rfl rfl fun w' hw => ?_)
  exact ⟨ret_b (by unfold bitsB; rw [trim_nil]; simp [*]), hw.below⟩
set_option maxHeartbeats 400000 in
/-- impl.isStructure -/
theorem isStructure_ok (a : St) (w : World) (ha : a.Small) :
    Calls Tryd.prog 59 [vS a].toArray w fun en w' => en = .returned (.bool (validB a)) ∧ Below w.heap.size w w' := by
 refine fnStart (n := 28) (e := [(0, vS a)]) Tryd.func59 rfl rfl rfl rfl Ends.both ?_
 have h1 := ha.set
 have h2 := ha.rel
 refine Wk.seq ?_
 refine Wk.region ?_
 refine Ll.box (v := vS a) rfl rfl rfl rfl rfl fun p1 hp1 => ?_
 show Ll _ _ (Own _ _ [_]) _ _ ((1, pt_ p1) :: _) _ _ _
 refine Ll.run 1 rfl ?_
 refine Ll.nil ?_
 refine Kt.sel [1] [_] rfl ?_
 refine Wk.seq ?_
 refine Wk.regionQ ?_
 refine Lq.op rfl rfl rfl (OpQ.fieldAddr rfl Tryd.runUnderlying28 rfl Tryd.sizeOf3 rfl rfl) ?_
 refine Lq.op rfl rfl rfl (OpQ.loadOwn 0 rfl Tryd.isAgg3 rfl rfl rfl) ?_
 refine Lq.run 2 rfl ?_
 refine Lq.bool fun b6 hg6 => ?_
 cases b6
 ·
  replace hg6 := of_decide_eq_false hg6
  refine Lq.pass rfl rfl rfl ?_
  refine Lq.pass rfl rfl rfl ?_
  refine Lq.pass rfl rfl rfl ?_
  refine Lq.run 2 rfl ?_
  refine Lq.pass rfl rfl rfl ?_
  refine Lq.pass rfl rfl rfl ?_
  refine Lq.pass rfl rfl rfl ?_
  refine Lq.pass rfl rfl rfl ?_
  refine Lq.pass rfl rfl rfl ?_
  refine Lq.run 2 rfl ?_
  refine Lq.pass rfl rfl rfl ?_
  refine Lq.pass rfl rfl rfl ?_
  refine Lq.pass rfl rfl rfl ?_
  refine Lq.pass rfl rfl rfl ?_
  refine Lq.pass rfl rfl rfl ?_
  refine Lq.pass rfl rfl rfl ?_
  refine Lq.pass rfl rfl rfl ?_
  refine Lq.pass rfl rfl rfl ?_
  refine Lq.run 2 rfl ?_
  refine Lq.nil ?_
  refine Kt.sel [2] [_] rfl ?_
  refine Wk.ret (Kt.end1 rfl rfl fun w' hw => ?_)
  exact ⟨ret_b (by first | (simp [validB, inB, *]; done) | (simp [validB, inB, *]; omega)), hw.below⟩
 ·
  replace hg6 := of_decide_eq_true hg6
  refine Lq.op rfl rfl rfl (OpQ.fieldAddr rfl Tryd.runUnderlying28 rfl Tryd.sizeOf3 rfl rfl) ?_
  refine Lq.op rfl rfl rfl (OpQ.loadOwn 0 rfl Tryd.isAgg3 rfl rfl rfl) ?_
  refine Lq.run 3 rfl ?_
  refine Lq.bool fun b11 hg11 => ?_
  cases b11
  ·
   replace hg11 := of_decide_eq_false hg11
   refine Lq.pass rfl rfl rfl ?_
   refine Lq.pass rfl rfl rfl ?_
   refine Lq.pass rfl rfl rfl ?_
   refine Lq.pass rfl rfl rfl ?_
   refine Lq.pass rfl rfl rfl ?_
   refine Lq.run 2 rfl ?_
   refine Lq.pass rfl rfl rfl ?_
   refine Lq.pass rfl rfl rfl ?_
   refine Lq.pass rfl rfl rfl ?_
   refine Lq.pass rfl rfl rfl ?_
   refine Lq.pass rfl rfl rfl ?_
   refine Lq.pass rfl rfl rfl ?_
   refine Lq.pass rfl rfl rfl ?_
   refine Lq.pass rfl rfl rfl ?_
   refine Lq.run 2 rfl ?_
   refine Lq.nil ?_
   refine Kt.sel [2] [_] rfl ?_
   refine Wk.ret (Kt.end1 rfl rfl fun w' hw => ?_)
   exact ⟨ret_b (by first | (simp [validB, inB, *]; done) | (simp [validB, inB, *]; omega)), hw.below⟩
  ·
   replace hg11 := of_decide_eq_true hg11
   have hq := sq_le hg6 hg11
   refine Lq.op rfl rfl rfl (OpQ.fieldAddr rfl Tryd.runUnderlying28 rfl Tryd.sizeOf9 rfl rfl) ?_
   refine Lq.op rfl rfl rfl (OpQ.loadOwn 0 rfl Tryd.isAgg9 rfl rfl rfl) ?_
   refine Lq.op rfl rfl rfl (OpQ.fieldAddr rfl Tryd.runUnderlying28 rfl Tryd.sizeOf3 rfl rfl) ?_
   refine Lq.op rfl rfl rfl (OpQ.loadOwn 0 rfl Tryd.isAgg3 rfl rfl rfl) ?_
   refine Lq.op (v := bo_ (bitsB a.set a.n)) rfl rfl rfl (OpQ.call rfl Tryd.call111 rfl Own.stable (fun w1 hw1 => areBits_ok a.set a.n w1 (by omega))) ?_
   refine Lq.run 2 rfl ?_
   refine Lq.bool fun b18 hg18 => ?_
   cases b18
   ·
    refine Lq.pass rfl rfl rfl ?_
    refine Lq.pass rfl rfl rfl ?_
    refine Lq.pass rfl rfl rfl ?_
    refine Lq.pass rfl rfl rfl ?_
    refine Lq.pass rfl rfl rfl ?_
    refine Lq.pass rfl rfl rfl ?_
    refine Lq.pass rfl rfl rfl ?_
    refine Lq.pass rfl rfl rfl ?_
    refine Lq.run 2 rfl ?_
    refine Lq.nil ?_
    refine Kt.sel [2] [_] rfl ?_
    refine Wk.ret (Kt.end1 rfl rfl fun w' hw => ?_)
    exact ⟨ret_b (by first | (simp [validB, inB, *]; done) | (simp [validB, inB, *]; omega)), hw.below⟩
   ·
    refine Lq.op rfl rfl rfl (OpQ.fieldAddr rfl Tryd.runUnderlying28 rfl Tryd.sizeOf9 rfl rfl) ?_
    refine Lq.op rfl rfl rfl (OpQ.loadOwn 0 rfl Tryd.isAgg9 rfl rfl rfl) ?_
    refine Lq.op rfl rfl rfl (OpQ.fieldAddr rfl Tryd.runUnderlying28 rfl Tryd.sizeOf3 rfl rfl) ?_
    refine Lq.op rfl rfl rfl (OpQ.loadOwn 0 rfl Tryd.isAgg3 rfl rfl rfl) ?_
    refine Lq.op rfl rfl rfl (OpQ.fieldAddr rfl Tryd.runUnderlying28 rfl Tryd.sizeOf3 rfl rfl) ?_
    refine Lq.op rfl rfl rfl (OpQ.loadOwn 0 rfl Tryd.isAgg3 rfl rfl rfl) ?_
    refine Lq.op rfl rfl rfl (OpQ.mul rfl rfl rfl (by omega) (by omega)) ?_
    refine Lq.op (v := bo_ (bitsB a.rel (a.n * a.n))) rfl rfl rfl (OpQ.call rfl Tryd.call111 rfl Own.stable (fun w1 hw1 => areBits_ok a.rel (a.n * a.n) w1 (by omega))) ?_
    refine Lq.run 2 rfl ?_
    refine Lq.nil ?_
    refine Kt.sel [2] [_] rfl ?_
    refine Wk.ret (Kt.end1 rfl rfl fun w' hw => ?_)
    exact ⟨ret_b (by first | (simp [validB, inB, *]; done) | (simp [validB, inB, *]; omega)), hw.below⟩
set_option maxHeartbeats 400000 in
/-- impl.Structure.inSet -/
theorem inSet_ok (a : St) (x : Int) (w : World) (ha : a.Fine) (hx : a.El x) :
    Calls Tryd.prog 87 [vS a, i6_ x].toArray w fun en w' => en = .returned (.bool (a.inSet x)) ∧ Below w.heap.size w w' := by
 refine fnStart (n := 10) (e := [(0, vS a), (1, i6_ x)]) Tryd.func87 rfl rfl rfl rfl Ends.both ?_
 have hs := ha.set
 obtain ⟨h0, h1⟩ := hx
 refine Wk.seq ?_
 refine Wk.region ?_
 refine Ll.box (v := vS a) rfl rfl rfl rfl rfl fun p2 hp2 => ?_
 show Ll _ _ (Own _ _ [_]) _ _ ((2, pt_ p2) :: _) _ _ _
 refine Ll.run 1 rfl ?_
 refine Ll.nil ?_
 refine Kt.sel [1, 2] [_, _] rfl ?_
 refine Wk.seq ?_
 refine Wk.regionQ ?_
 refine Lq.op rfl rfl rfl (OpQ.fieldAddr rfl Tryd.runUnderlying28 rfl Tryd.sizeOf9 rfl rfl) ?_
 refine Lq.op rfl rfl rfl (OpQ.loadOwn 0 rfl Tryd.isAgg9 rfl rfl rfl) ?_
 refine Lq.run 1 rfl ?_
 refine Lq.op (v := .int .u8 (((a.set.getD ((x).toNat) 0).toNat : Int))) rfl rfl rfl (OpQ.indexStr rfl Tryd.runUnderlying9 rfl rfl (by omega) (by omega)) ?_
 refine Lq.run 2 rfl ?_
 refine Lq.nil ?_
 refine Kt.sel [4] [_] rfl ?_
 refine Wk.ret (Kt.end1 rfl rfl fun w' hw => ?_)
 exact ⟨ret_b (by first | rfl | (simp_all; done) | (simp_all; omega)), hw.below⟩
set_option maxHeartbeats 400000 in
/-- impl.Structure.inRel -/
theorem inRel_ok (a : St) (x y : Int) (w : World) (ha : a.Fine) (hx : a.El x) (hy : a.El y) :
    Calls Tryd.prog 88 [vS a, i6_ x, i6_ y].toArray w fun en w' => en = .returned (.bool (a.inRel x y)) ∧ Below w.heap.size w w' := by
 refine fnStart (n := 17) (e := [(0, vS a), (1, i6_ x), (2, i6_ y)]) Tryd.func88 rfl rfl rfl rfl Ends.both ?_
 obtain ⟨k0, k1, k2, k3, k4⟩ := ha.relLt hx hy
 refine Wk.seq ?_
 refine Wk.region ?_
 refine Ll.box (v := vS a) rfl rfl rfl rfl rfl fun p3 hp3 => ?_
 show Ll _ _ (Own _ _ [_]) _ _ ((3, pt_ p3) :: _) _ _ _
 refine Ll.run 1 rfl ?_
 refine Ll.nil ?_
 refine Kt.sel [1, 2, 3] [_, _, _] rfl ?_
 refine Wk.seq ?_
 refine Wk.regionQ ?_
 refine Lq.op rfl rfl rfl (OpQ.fieldAddr rfl Tryd.runUnderlying28 rfl Tryd.sizeOf9 rfl rfl) ?_
 refine Lq.op rfl rfl rfl (OpQ.loadOwn 0 rfl Tryd.isAgg9 rfl rfl rfl) ?_
 refine Lq.run 1 rfl ?_
 refine Lq.op rfl rfl rfl (OpQ.fieldAddr rfl Tryd.runUnderlying28 rfl Tryd.sizeOf3 rfl rfl) ?_
 refine Lq.op rfl rfl rfl (OpQ.loadOwn 0 rfl Tryd.isAgg3 rfl rfl rfl) ?_
 refine Lq.op rfl rfl rfl (OpQ.mul rfl rfl rfl (by omega) (by omega)) ?_
 refine Lq.run 1 rfl ?_
 refine Lq.op rfl rfl rfl (OpQ.add rfl rfl rfl (by omega) (by omega)) ?_
 refine Lq.op (v := .int .u8 (((a.rel.getD (((x * a.n) + y).toNat) 0).toNat : Int))) rfl rfl rfl (OpQ.indexStr rfl Tryd.runUnderlying9 rfl rfl (by omega) (by omega)) ?_
 refine Lq.run 2 rfl ?_
 refine Lq.nil ?_
 refine Kt.sel [6] [_] rfl ?_
 refine Wk.ret (Kt.end1 rfl rfl fun w' hw => ?_)
 exact ⟨ret_b (by first | rfl | (simp_all; done) | (simp_all; omega)), hw.below⟩
set_option maxHeartbeats 400000 in
/-- impl.areElements$1 -/
theorem noEl_ok (a : St) (g T : Nat) (x : Int) (w : World) (hg : w.heap[g]? = some (.cells #[.int .i64 a.n, str a.set, str a.rel] T (0, 0))) :
    Calls Tryd.prog 173 [i6_ x, .pointer (some ⟨g, 0, none⟩)].toArray w fun en w' => en = .returned (.bool (!elB a x)) ∧ Below w.heap.size w w' := by
 refine fnStart (n := 12) (e := [(0, i6_ x), (1, .pointer (some ⟨g, 0, none⟩))]) Tryd.func173 rfl rfl rfl rfl Ends.both ?_
 refine Wk.seq ?_
 refine Wk.regionQ ?_
 refine Lq.run 1 rfl ?_
 refine Lq.nil ?_
 refine Kt.sel [0, 1] [_, _] rfl ?_
 refine Wk.seq ?_
 refine Wk.regionQ ?_
 refine Lq.run 3 rfl ?_
 refine Lq.bool fun b6 hg6 => ?_
 cases b6
 ·
  replace hg6 := of_decide_eq_false hg6
  refine Lq.run 1 rfl ?_
  refine Lq.op rfl rfl rfl (OpQ.fieldAddr rfl Tryd.runUnderlying28 rfl Tryd.sizeOf3 rfl rfl) ?_
  refine Lq.op (v := i6_ a.n) rfl rfl rfl (OpQ.load1 rfl Tryd.isAgg3 rfl (fun w1 hw1 => at_box hg hw1 0 rfl)) ?_
  refine Lq.run 3 rfl ?_
  refine Lq.nil ?_
  refine Kt.sel [3] [_] rfl ?_
  refine Wk.ret (Kt.end1 rfl rfl fun w' hw => ?_)
  exact ⟨ret_b (by first | exact el_neg (by assumption) | exact el_geq (by assumption)), hw.below⟩
 ·
  replace hg6 := of_decide_eq_true hg6
  refine Lq.pass rfl rfl rfl ?_
  refine Lq.pass rfl rfl rfl ?_
  refine Lq.pass rfl rfl rfl ?_
  refine Lq.pass rfl rfl rfl ?_
  refine Lq.run 2 rfl ?_
  refine Lq.nil ?_
  refine Kt.sel [3] [_] rfl ?_
  refine Wk.ret (Kt.end1 rfl rfl fun w' hw => ?_)
  exact ⟨ret_b (by first | exact el_neg (by assumption) | exact el_geq (by assumption)), hw.below⟩
set_option maxHeartbeats 400000 in
/-- slices.IndexFunc[[]int,int] -/
theorem indexFunc_ok (va : Value) (xs : List Int) (w : World) (hva : Ints w va xs) (hs : xs.length ≤ 140737488355328) (F : FuncId) (caps : Array Value) (q : Int → Bool) (hF : ∀ args w, (callFunc F args).run Tryd.prog w = .ok (.enter F args) w) (hq : ∀ w1, Below w.heap.size w w1 → ∀ x, Calls Tryd.prog F (#[.int .i64 x] ++ caps) w1 fun en w' => en = .returned (.bool (q x)) ∧ Below w1.heap.size w1 w') :
    Calls Tryd.prog 199 [va, .func (.func F) #[] caps].toArray w fun en w' => en = .returned (.int .i64 (idxI xs q)) ∧ Below w.heap.size w w' := by
 refine fnStart (n := 19) (e := [(0, va), (1, .func (.func F) #[] caps)]) Tryd.func199 rfl rfl rfl rfl Ends.both ?_
 refine Wk.seq ?_
 refine Wk.regionQ ?_
 refine Lq.run 1 rfl ?_
 refine Lq.nil ?_
 refine Kt.sel [0, 1] [_, _] rfl ?_
 refine Wk.seq ?_
 refine Wk.seq ?_
 refine Wk.regionQ ?_
 refine Lq.run 1 rfl ?_
 refine Lq.op (v := i6_ ((xs.length : Int))) rfl rfl rfl (OpQ.lenRow rfl Tryd.runUnderlying25 rfl (ints_length _) (fun w1 hw1 => Row.own hva hw1)) ?_
 refine Lq.run 1 rfl ?_
 refine Lq.nil ?_
 refine Kt.sel [0, 1, 7, 8] [_, _, _, _] rfl ?_
 refine Wk.block ?_
 refine Wk.loop (σ := Nat) (fun k => k ≤ xs.length ∧ ∀ i : Nat, i < k → q (xs.getD i 0) = false) (fun k => [(0, va), (1, .func (.func F) #[] caps), (7, i6_ ((xs.length : Int))), (8, i6_ ((k : Int)))]) (fun k => Own w.heap.size w []) (fun k => xs.length - k) (0) ⟨by omega, fun i hi => absurd hi (by omega)⟩ (Sub.sel [0, 1, 7, 8] rfl) (fun _ h => h) ?_
 rintro k ⟨hk, hall⟩
 refine Wk.seq ?_
 refine Wk.regionQ ?_
 refine Lq.run 1 rfl ?_
 refine Lq.nil ?_
 refine Kt.sel [0, 1, 7, 8, 9] [_, _, _, _, _] rfl ?_
 refine Wk.seq ?_
 refine Wk.cond (b := decide (((k : Int)) < ((xs.length : Int)))) rfl (fun h9 => ?_) (fun h9 => ?_)
 ·
  replace h9 := of_decide_eq_true h9
  refine Wk.skip ?_
  refine Kt.sel [0, 1, 7, 8] [_, _, _, _] rfl ?_
  refine Wk.seq ?_
  refine Wk.block ?_
  refine Wk.seq ?_
  refine Wk.regionQ ?_
  refine Lq.run 2 rfl ?_
  refine Lq.nil ?_
  refine Kt.sel [0, 1, 5, 7, 8] [_, _, _, _, _] rfl ?_
  refine Wk.seq ?_
  refine Wk.regionQ ?_
  refine Lq.run 3 rfl ?_
  refine Lq.op (v := .pointer (some (sAt va ((k : Int))))) rfl rfl rfl (OpQ.atRow rfl Tryd.runUnderlying25 Tryd.sizeOf3 rfl rfl (by omega) (by rw [ints_length]; omega) (fun w1 hw1 => Row.own hva hw1)) ?_
  refine Lq.op (v := i6_ (xs.getD (((k : Int)).toNat) 0)) rfl rfl rfl (OpQ.load1 rfl Tryd.isAgg3 rfl (fun w1 hw1 => Ints.cell (Row.own hva hw1) (by omega) (by omega))) ?_
  refine Lq.op (v := bo_ (q (xs.getD (((k : Int)).toNat) 0))) rfl rfl rfl (OpQ.callFn rfl rfl hF rfl Own.stable (fun w1 hw1 => hq w1 hw1.below (xs.getD (((k : Int)).toNat) 0))) ?_
  refine Lq.nil ?_
  refine Kt.sel [0, 1, 5, 7, 8, 16] [_, _, _, _, _, _] rfl ?_
  refine Wk.cond (b := q (xs.getD (((k : Int)).toNat) 0)) rfl (fun h16 => ?_) (fun h16 => ?_)
  ·
   refine Wk.seq ?_
   refine Wk.regionQ ?_
   refine Lq.run 2 rfl ?_
   refine Lq.nil ?_
   refine Kt.sel [4] [_] rfl ?_
   refine Wk.ret (Kt.end1 rfl rfl fun w' hw => ?_)
   exact ⟨ret_i (idxI_at (by omega) hall (by simpa using h16)).symm, hw.below⟩
  ·
   refine Wk.skip ?_
   refine Kt.sel [0, 1, 7, 8] [_, _, _, _] rfl ?_
   refine Wk.regionQ ?_
   refine Lq.op rfl rfl rfl (OpQ.add rfl rfl rfl (by omega) (by omega)) ?_
   refine Lq.run 1 rfl ?_
   refine Lq.nil ?_
   refine Kt.again (k + 1) ⟨by omega, fun i hi => (Nat.lt_succ_iff_lt_or_eq.1 hi).elim (hall i) (fun e => by subst e; simpa using h16)⟩ (by omega) (Sub.sel [0, 1, 7, 8] rfl) (fun _ h => h)
 ·
  replace h9 := of_decide_eq_false h9
  refine Wk.exit rfl ?_
  refine Kt.sel [] [] rfl ?_
  refine Wk.seq ?_
  refine Wk.regionQ ?_
  refine Lq.run 1 rfl ?_
  refine Lq.nil ?_
  refine Kt.sel [4] [_] rfl ?_
  refine Wk.ret (Kt.end1 rfl rfl fun w' hw => ?_)
  exact ⟨ret_i (idxI_none (fun i hi => hall i (by omega))).symm, hw.below⟩
set_option maxHeartbeats 400000 in
/-- slices.ContainsFunc[[]int,int] -/
theorem containsFunc_ok (va : Value) (xs : List Int) (w : World) (hva : Ints w va xs) (hs : xs.length ≤ 140737488355328) (F : FuncId) (caps : Array Value) (q : Int → Bool) (hF : ∀ args w, (callFunc F args).run Tryd.prog w = .ok (.enter F args) w) (hq : ∀ w1, Below w.heap.size w w1 → ∀ x, Calls Tryd.prog F (#[.int .i64 x] ++ caps) w1 fun en w' => en = .returned (.bool (q x)) ∧ Below w1.heap.size w1 w') :
    Calls Tryd.prog 172 [va, .func (.func F) #[] caps].toArray w fun en w' => en = .returned (.bool (xs.any q)) ∧ Below w.heap.size w w' := by
 refine fnStart (n := 9) (e := [(0, va), (1, .func (.func F) #[] caps)]) Tryd.func172 rfl rfl rfl rfl Ends.both ?_
 refine Wk.seq ?_
 refine Wk.regionQ ?_
 refine Lq.run 1 rfl ?_
 refine Lq.nil ?_
 refine Kt.sel [0, 1] [_, _] rfl ?_
 refine Wk.seq ?_
 refine Wk.regionQ ?_
 refine Lq.run 2 rfl ?_
 refine Lq.op (v := i6_ (idxI xs q)) rfl rfl rfl (OpQ.call rfl Tryd.call199 rfl Own.stable (fun w1 hw1 => indexFunc_ok va xs w1 (Row.own hva hw1) hs F caps q hF (fun w2 hb x => hq w2 (hw1.below.trans (hb.mono hw1.base)) x))) ?_
 refine Lq.run 2 rfl ?_
 refine Lq.nil ?_
 refine Kt.sel [4] [_] rfl ?_
 refine Wk.ret (Kt.end1 rfl rfl fun w' hw => ?_)
 exact ⟨ret_b (idxI_any xs q), hw.below⟩
end Go.Proofs.YtnfkmfdhmlombaaDoor
namespace Go.Proofs.YtnfkmfdhmlombaaDoor
open Go.RowKit Go.Wk
set_option linter.unusedSimpArgs false
set_option maxHeartbeats 400000 in
/-- laws.szStringS -/
theorem szZ_ok (vl : Value) (l : List (List UInt8)) (left : Int) (w : World) (hvl : Strs w vl l) (hl0 : 0 ≤ left) (hl1 : left ≤ 1048576) (hln : l.length ≤ 9223372036854775807) (hls : ∀ s ∈ l, s.length ≤ 9223372036854775807) :
    Calls Tryd.prog 31 [vl, i6_ left].toArray w fun en w' => en = .returned (.int .i64 (szZ l left)) ∧ Below w.heap.size w w' := by
 refine fnStart (n := 28) (e := [(0, vl), (1, i6_ left)]) Tryd.func31 rfl rfl rfl rfl Ends.both ?_
 refine Wk.seq ?_
 refine Wk.regionQ ?_
 refine Lq.run 1 rfl ?_
 refine Lq.nil ?_
 refine Kt.sel [0, 1] [_, _] rfl ?_
 refine Wk.seq ?_
 refine Wk.regionQ ?_
 refine Lq.run 2 rfl ?_
 refine Lq.op (v := i6_ ((l.length : Int))) rfl rfl rfl (OpQ.lenRow rfl Tryd.runUnderlying45 rfl (strs_length _) (fun w1 hw1 => Row.own hvl hw1)) ?_
 refine Lq.op rfl rfl rfl (OpQ.sub rfl rfl rfl (by omega) (by omega)) ?_
 refine Lq.run 1 rfl ?_
 refine Lq.nil ?_
 refine Kt.sel [0, 1] [_, _] rfl ?_
 refine Wk.seq ?_
 refine Wk.seq ?_
 refine Wk.regionQ ?_
 refine Lq.run 2 rfl ?_
 refine Lq.nil ?_
 refine Kt.sel [0, 1, 11] [_, _, _] rfl ?_
 refine Wk.cond (b := decide ((left - ((l.length : Int))) < (0 : Int))) rfl (fun h11 => ?_) (fun h11 => ?_)
 ·
  replace h11 := of_decide_eq_true h11
  refine Wk.seq ?_
  refine Wk.regionQ ?_
  refine Lq.run 1 rfl ?_
  refine Lq.nil ?_
  refine Kt.sel [4] [_] rfl ?_
  refine Wk.ret (Kt.end1 rfl rfl fun w' hw => ?_)
  exact ⟨ret_i (szZ_no (by have := sumZ_pos l; omega)).symm, hw.below⟩
 ·
  replace h11 := of_decide_eq_false h11
  refine Wk.skip ?_
  refine Kt.sel [0, 1] [_, _] rfl ?_
  refine Wk.seq ?_
  refine Wk.seq ?_
  refine Wk.regionQ ?_
  refine Lq.run 1 rfl ?_
  refine Lq.nil ?_
  refine Kt.sel [0, 1, 5] [_, _, _] rfl ?_
  refine Wk.block ?_
  refine Wk.loop (σ := Nat) (fun k => k ≤ l.length ∧ 0 ≤ left - (l.length : Int) - sumZ (l.take k)) (fun k => [(0, vl), (1, i6_ (left - (l.length : Int) - sumZ (l.take k))), (5, i6_ ((k : Int)))]) (fun k => Own w.heap.size w []) (fun k => l.length - k) (0) ⟨by omega, by simp [sumZ]; omega⟩ (Sub.cons rfl (Sub.cons (by simp [sumZ]; rfl) (Sub.sel [5] rfl))) (fun _ h => h) ?_
  rintro k ⟨hk, h0⟩
  refine Wk.seq ?_
  refine Wk.seq ?_
  refine Wk.regionQ ?_
  refine Lq.run 2 rfl ?_
  refine Lq.op (v := i6_ ((l.length : Int))) rfl rfl rfl (OpQ.lenRow rfl Tryd.runUnderlying45 rfl (strs_length _) (fun w1 hw1 => Row.own hvl hw1)) ?_
  refine Lq.run 1 rfl ?_
  refine Lq.nil ?_
  refine Kt.sel [0, 1, 5, 15] [_, _, _, _] rfl ?_
  refine Wk.cond (b := decide (((k : Int)) < ((l.length : Int)))) rfl (fun h15 => ?_) (fun h15 => ?_)
  ·
   replace h15 := of_decide_eq_true h15
   have hsp := sumZ_pos (l.take k)
   have hst : sumZ (l.take (k + 1)) = sumZ (l.take k) + ((l.getD ((k : Int)).toNat []).length : Int) := sumZ_step (by omega)
   have hfk : (l.getD ((k : Int)).toNat []).length ≤ 9223372036854775807 := hls _ (mem_getD (l := l) (k := k) (by omega))
   refine Wk.skip ?_
   refine Kt.sel [0, 1, 5] [_, _, _] rfl ?_
   refine Wk.seq ?_
   refine Wk.block ?_
   refine Wk.seq ?_
   refine Wk.regionQ ?_
   refine Lq.run 3 rfl ?_
   refine Lq.op (v := .pointer (some (sAt vl ((k : Int))))) rfl rfl rfl (OpQ.atRow rfl Tryd.runUnderlying45 Tryd.sizeOf9 rfl rfl (by omega) (by rw [strs_length]; omega) (fun w1 hw1 => Row.own hvl hw1)) ?_
   refine Lq.op (v := str (l.getD (((k : Int)).toNat) [])) rfl rfl rfl (OpQ.load1 rfl Tryd.isAgg9 rfl (fun w1 hw1 => Strs.cell (Row.own hvl hw1) (by omega) (by omega))) ?_
   refine Lq.op (v := i6_ (((l.getD (((k : Int)).toNat) []).length : Int))) rfl rfl rfl (OpQ.lenStr rfl Tryd.runUnderlying9 rfl) ?_
   refine Lq.op rfl rfl rfl (OpQ.sub rfl rfl rfl (by omega) (by omega)) ?_
   refine Lq.run 1 rfl ?_
   refine Lq.nil ?_
   refine Kt.sel [0, 1, 5] [_, _, _] rfl ?_
   refine Wk.seq ?_
   refine Wk.regionQ ?_
   refine Lq.run 2 rfl ?_
   refine Lq.nil ?_
   refine Kt.sel [0, 1, 5, 26] [_, _, _, _] rfl ?_
   refine Wk.cond (b := decide (((left - (l.length : Int) - sumZ (l.take k)) - (((l.getD (((k : Int)).toNat) []).length : Int))) < (0 : Int))) rfl (fun h26 => ?_) (fun h26 => ?_)
   ·
    replace h26 := of_decide_eq_true h26
    refine Wk.seq ?_
    refine Wk.regionQ ?_
    refine Lq.run 1 rfl ?_
    refine Lq.nil ?_
    refine Kt.sel [4] [_] rfl ?_
    refine Wk.ret (Kt.end1 rfl rfl fun w' hw => ?_)
    exact ⟨ret_i (szZ_no (by have := sumZ_le (l := l) (k := k + 1); simp only [Int.toNat_natCast] at *; omega)).symm, hw.below⟩
   ·
    replace h26 := of_decide_eq_false h26
    refine Wk.skip ?_
    refine Kt.sel [0, 1, 5] [_, _, _] rfl ?_
    refine Wk.regionQ ?_
    refine Lq.run 1 rfl ?_
    refine Lq.op rfl rfl rfl (OpQ.add rfl rfl rfl (by omega) (by omega)) ?_
    refine Lq.run 1 rfl ?_
    refine Lq.nil ?_
    refine Kt.again (k + 1) ⟨by omega, by omega⟩ (by omega) (Sub.cons rfl (Sub.cons (by rw [hst]; simp only [← Int.sub_sub]; rfl) (Sub.sel [5] rfl))) (fun _ h => h)
  ·
   replace h15 := of_decide_eq_false h15
   have hke : l.take k = l := by rw [List.take_of_length_le (by omega)]
   rw [hke] at h0
   refine Wk.exit rfl ?_
   refine Kt.sel [1] [_] rfl ?_
   refine Wk.seq ?_
   refine Wk.regionQ ?_
   refine Lq.run 2 rfl ?_
   refine Lq.nil ?_
   refine Kt.sel [4] [_] rfl ?_
   refine Wk.ret (Kt.end1 rfl rfl fun w' hw => ?_)
   exact ⟨ret_i (by rw [hke, szZ_yes (by omega)]), hw.below⟩
set_option maxHeartbeats 400000 in
/-- laws.toStringS -/
theorem toStr_ok (vl : Value) (l : List (List UInt8)) (w : World) (hvl : Strs w vl l) (hs : l.length ≤ 1048576) :
    Calls Tryd.prog 33 [vl].toArray w fun en w' => ∃ v, en = .returned v ∧ Below w.heap.size w w' ∧ NewRow w.heap.size 9 1 w' v l.length (strs l) := by
 refine fnStart (n := 22) (e := [(0, vl)]) Tryd.func33 rfl rfl rfl rfl Ends.both ?_
 refine Wk.seq ?_
 refine Wk.regionQ ?_
 refine Lq.run 1 rfl ?_
 refine Lq.nil ?_
 refine Kt.sel [0] [_] rfl ?_
 refine Wk.seq ?_
 refine Wk.region ?_
 refine Ll.run 1 rfl ?_
 refine Ll.op (v := i6_ ((l.length : Int))) rfl rfl rfl (OpQ.lenRow rfl Tryd.runUnderlying45 rfl (strs_length _) (fun w1 hw1 => Row.own hvl hw1)) ?_
 refine Ll.make (k := l.length) Base.elem45 Tryd.zeroValue9 rfl rfl rfl rfl rfl (by omega) fun p7 hp7 => ?_
 rw [show madeCells (Value.cells (.string ⟨#[]⟩)) (l.length * 1) = (List.replicate l.length (str ([]))).toArray from made_list _ _ rfl]
 refine Ll.run 1 rfl ?_
 refine Ll.nil ?_
 refine Kt.sel [0, 3] [_, _] rfl ?_
 refine Wk.seq ?_
 refine Wk.seq ?_
 refine Wk.regionQ ?_
 refine Lq.run 1 rfl ?_
 refine Lq.nil ?_
 refine Kt.sel [0, 3, 4] [_, _, _] rfl ?_
 refine Wk.block ?_
 refine Wk.loop (σ := Nat) (fun k => k ≤ l.length) (fun k => [(0, vl), (3, sl_ p7 l.length l.length), (4, i6_ ((k : Int)))]) (fun k => Own w.heap.size w [bk_ p7 (((strs l).take k ++ List.replicate (l.length - k) (str [])).toArray) 9]) (fun k => l.length - k) (0) (by omega) (Sub.sel [0, 3, 4] rfl) (fun _ h => by simpa using h) ?_
 rintro k hk
 refine Wk.seq ?_
 refine Wk.seq ?_
 refine Wk.regionQ ?_
 refine Lq.run 2 rfl ?_
 refine Lq.op (v := i6_ ((l.length : Int))) rfl rfl rfl (OpQ.lenRow rfl Tryd.runUnderlying45 rfl (strs_length _) (fun w1 hw1 => Row.own hvl hw1)) ?_
 refine Lq.run 1 rfl ?_
 refine Lq.nil ?_
 refine Kt.sel [0, 3, 4, 11] [_, _, _, _] rfl ?_
 refine Wk.cond (b := decide (((k : Int)) < ((l.length : Int)))) rfl (fun h11 => ?_) (fun h11 => ?_)
 ·
  replace h11 := of_decide_eq_true h11
  refine Wk.skip ?_
  refine Kt.sel [0, 3, 4] [_, _, _] rfl ?_
  refine Wk.seq ?_
  refine Wk.block ?_
  refine Wk.region ?_
  refine Ll.run 4 rfl ?_
  refine Ll.op (v := .pointer (some (sAt vl ((k : Int))))) rfl rfl rfl (OpQ.atRow rfl Tryd.runUnderlying45 Tryd.sizeOf9 rfl rfl (by omega) (by rw [strs_length]; omega) (fun w1 hw1 => Row.own hvl hw1)) ?_
  refine Ll.op (v := str (l.getD (((k : Int)).toNat) [])) rfl rfl rfl (OpQ.load1 rfl Tryd.isAgg9 rfl (fun w1 hw1 => Strs.cell (Row.own hvl hw1) (by omega) (by omega))) ?_
  refine Ll.op (v := pf_ p7 (((k : Int)).toNat)) rfl rfl rfl (OpQ.cast (by rw [Nat.zero_add]) (OpQ.indexAddr1 (i := (k : Int)) rfl Tryd.runUnderlying45 Tryd.sizeOf9 rfl rfl (by omega) (by omega))) ?_
  refine Ll.store1 (v := str (l.getD (((k : Int)).toNat) [])) (hs' := [bk_ p7 ((((strs l).take k ++ List.replicate (l.length - k) (str [])).set (((k : Int)).toNat) (str (l.getD (((k : Int)).toNat) []))).toArray) 9]) 0 rfl rfl rfl rfl rfl rfl Tryd.sizeOf9 rfl (by simp [strs_length]; omega) (by first | (rw [list_set]; rfl) | (simp only [Nat.zero_add]; rw [list_set]; rfl)) ?_
  refine Ll.nil ?_
  refine Kt.sel [0, 3, 4] [_, _, _] rfl ?_
  refine Wk.regionQ ?_
  refine Lq.run 1 rfl ?_
  refine Lq.op rfl rfl rfl (OpQ.add rfl rfl rfl (by omega) (by omega)) ?_
  refine Lq.run 1 rfl ?_
  refine Lq.nil ?_
  refine Kt.again (k + 1) (by omega) (by omega) (Sub.sel [0, 3, 4] rfl) (fun _ h => by rw [show (strs l).take (k + 1) ++ List.replicate (l.length - (k + 1)) (str []) = ((strs l).take k ++ List.replicate (l.length - k) (str [])).set (((k : Int)).toNat) (str (l.getD (((k : Int)).toNat) [])) from (by simp only [Int.toNat_natCast]; exact (rep_setS (by omega)).symm)]; exact h)
 ·
  replace h11 := of_decide_eq_false h11
  refine Wk.exit rfl ?_
  refine Kt.sel [3] [_] rfl ?_
  refine Wk.seq ?_
  refine Wk.regionQ ?_
  refine Lq.run 2 rfl ?_
  refine Lq.nil ?_
  refine Kt.sel [2] [_] rfl ?_
  refine Wk.ret (Kt.end1 rfl rfl fun w' hw => ?_)
  obtain rfl : k = l.length := by omega
  exact ⟨_, rfl, hw.below, hw.newRow (i := 0) (n := l.length) rfl (by simp [strs_length]) (by omega) (by simp [strs_length, List.take_of_length_le])⟩
set_option maxHeartbeats 400000 in
/-- laws.eqStringS -/
theorem eqStr_ok (va vb : Value) (xs ys : List (List UInt8)) (w : World) (hva : Strs w va xs) (hvb : Strs w vb ys) (hs : xs.length ≤ 140737488355328) :
    Calls Tryd.prog 35 [va, vb].toArray w fun en w' => en = .returned (.bool (xs == ys)) ∧ Below w.heap.size w w' := by
 refine fnStart (n := 26) (e := [(0, va), (1, vb)]) Tryd.func35 rfl rfl rfl rfl Ends.both ?_
 refine Wk.seq ?_
 refine Wk.regionQ ?_
 refine Lq.run 1 rfl ?_
 refine Lq.nil ?_
 refine Kt.sel [0, 1] [_, _] rfl ?_
 refine Wk.seq ?_
 refine Wk.seq ?_
 refine Wk.regionQ ?_
 refine Lq.run 1 rfl ?_
 refine Lq.op (v := i6_ ((xs.length : Int))) rfl rfl rfl (OpQ.lenRow rfl Tryd.runUnderlying45 rfl (strs_length _) (fun w1 hw1 => Row.own hva hw1)) ?_
 refine Lq.run 1 rfl ?_
 refine Lq.op (v := i6_ ((ys.length : Int))) rfl rfl rfl (OpQ.lenRow rfl Tryd.runUnderlying45 rfl (strs_length _) (fun w1 hw1 => Row.own hvb hw1)) ?_
 refine Lq.run 1 rfl ?_
 refine Lq.nil ?_
 refine Kt.sel [0, 1, 10] [_, _, _] rfl ?_
 refine Wk.cond (b := !(decide (((xs.length : Int)) = ((ys.length : Int))))) rfl (fun h10 => ?_) (fun h10 => ?_)
 ·
  replace h10 := not_true h10
  replace h10 := of_decide_eq_false h10
  refine Wk.seq ?_
  refine Wk.regionQ ?_
  refine Lq.run 1 rfl ?_
  refine Lq.nil ?_
  refine Kt.sel [4] [_] rfl ?_
  refine Wk.ret (Kt.end1 rfl rfl fun w' hw => ?_)
  have hf : (xs == ys) = false := by
   rw [beq_eq_false_iff_ne]; rintro rfl; simp_all
  exact ⟨ret_b hf.symm, hw.below⟩
 ·
  replace h10 := not_false h10
  replace h10 := of_decide_eq_true h10
  have hlen : xs.length = ys.length := by omega
  refine Wk.skip ?_
  refine Kt.sel [0, 1] [_, _] rfl ?_
  refine Wk.seq ?_
  refine Wk.seq ?_
  refine Wk.regionQ ?_
  refine Lq.run 1 rfl ?_
  refine Lq.nil ?_
  refine Kt.sel [0, 1, 5] [_, _, _] rfl ?_
  refine Wk.block ?_
  refine Wk.loop (σ := Nat) (fun k => k ≤ xs.length ∧ xs.take k = ys.take k) (fun k => [(0, va), (1, vb), (5, i6_ ((k : Int)))]) (fun k => Own w.heap.size w []) (fun k => xs.length - k) (0) ⟨by omega, rfl⟩ (Sub.sel [0, 1, 5] rfl) (fun _ h => h) ?_
  rintro k ⟨hk, hall⟩
  refine Wk.seq ?_
  refine Wk.seq ?_
  refine Wk.regionQ ?_
  refine Lq.run 2 rfl ?_
  refine Lq.op (v := i6_ ((xs.length : Int))) rfl rfl rfl (OpQ.lenRow rfl Tryd.runUnderlying45 rfl (strs_length _) (fun w1 hw1 => Row.own hva hw1)) ?_
  refine Lq.run 1 rfl ?_
  refine Lq.nil ?_
  refine Kt.sel [0, 1, 5, 14] [_, _, _, _] rfl ?_
  refine Wk.cond (b := decide (((k : Int)) < ((xs.length : Int)))) rfl (fun h14 => ?_) (fun h14 => ?_)
  ·
   replace h14 := of_decide_eq_true h14
   refine Wk.skip ?_
   refine Kt.sel [0, 1, 5] [_, _, _] rfl ?_
   refine Wk.seq ?_
   refine Wk.block ?_
   refine Wk.seq ?_
   refine Wk.regionD Base.mixed (fun _ h => h.drawn) (by kernel_rfl) ?_
   refine Lq.run 2 rfl ?_
   refine Lq.op (v := .pointer (some (sAt va ((k : Int))))) rfl rfl rfl (OpQ.atRow rfl Tryd.runUnderlying45 Tryd.sizeOf9 rfl rfl (by omega) (by rw [strs_length]; omega) (fun w1 hw1 => Row.own hva hw1)) ?_
   refine Lq.op (v := str (xs.getD (((k : Int)).toNat) [])) rfl rfl rfl (OpQ.load1 rfl Tryd.isAgg9 rfl (fun w1 hw1 => Strs.cell (Row.own hva hw1) (by omega) (by omega))) ?_
   refine Lq.run 2 rfl ?_
   refine Lq.op (v := .pointer (some (sAt vb ((k : Int))))) rfl rfl rfl (OpQ.atRow rfl Tryd.runUnderlying45 Tryd.sizeOf9 rfl rfl (by omega) (by rw [strs_length]; omega) (fun w1 hw1 => Row.own hvb hw1)) ?_
   refine Lq.op (v := str (ys.getD (((k : Int)).toNat) [])) rfl rfl rfl (OpQ.load1 rfl Tryd.isAgg9 rfl (fun w1 hw1 => Strs.cell (Row.own hvb hw1) (by omega) (by omega))) ?_
   refine Lq.op rfl rfl rfl (OpQ.sneq rfl rfl rfl) ?_
   refine Lq.nil ?_
   refine Kt.sel [0, 1, 5, 25] [_, _, _, _] rfl ?_
   refine Wk.cond (b := !((xs.getD (((k : Int)).toNat) []) == (ys.getD (((k : Int)).toNat) []))) rfl (fun h25 => ?_) (fun h25 => ?_)
   ·
    replace h25 := not_true h25
    refine Wk.seq ?_
    refine Wk.regionQ ?_
    refine Lq.run 1 rfl ?_
    refine Lq.nil ?_
    refine Kt.sel [4] [_] rfl ?_
    refine Wk.ret (Kt.end1 rfl rfl fun w' hw => ?_)
    have hf : (xs == ys) = false := by
     rw [beq_eq_false_iff_ne]; rintro rfl; simp_all
    exact ⟨ret_b hf.symm, hw.below⟩
   ·
    replace h25 := not_false h25
    refine Wk.skip ?_
    refine Kt.sel [0, 1, 5] [_, _, _] rfl ?_
    refine Wk.regionQ ?_
    refine Lq.run 1 rfl ?_
    refine Lq.op rfl rfl rfl (OpQ.add rfl rfl rfl (by omega) (by omega)) ?_
    refine Lq.run 1 rfl ?_
    refine Lq.nil ?_
    refine Kt.again (k + 1) ⟨by omega, eq_take (by omega) (by omega) hall (by simpa using h25)⟩ (by omega) (Sub.sel [0, 1, 5] rfl) (fun _ h => h)
  ·
   replace h14 := of_decide_eq_false h14
   refine Wk.exit rfl ?_
   refine Kt.sel [] [] rfl ?_
   refine Wk.seq ?_
   refine Wk.regionQ ?_
   refine Lq.run 1 rfl ?_
   refine Lq.nil ?_
   refine Kt.sel [4] [_] rfl ?_
   refine Wk.ret (Kt.end1 rfl rfl fun w' hw => ?_)
   exact ⟨ret_b (by rw [List.take_of_length_le (by omega), List.take_of_length_le (by omega)] at hall; simp [hall]), hw.below⟩
end Go.Proofs.YtnfkmfdhmlombaaDoor
namespace Go.Proofs
open Go.Shelf
def Tryd.lays137_ren : Go.Shelf.Ren := ⟨fun | 137 => 180 | 217 => 201 | 266 => 210 | n => n, fun | 9 => 9 | 5 => 5 | 3 => 3 | n => n, fun | n => n⟩
theorem Tryd.lays137 : Go.Proofs.Lays.n137 Tryd.prog Tryd.lays137_ren := {
  mixed := by kernel_rfl
  f137 := Tryd.func180.trans (congrArg some (by kernel_rfl))
  f217 := Tryd.func201.trans (congrArg some (by kernel_rfl))
  f266 := Tryd.func210.trans (congrArg some (by kernel_rfl))
  t3 := Tryd.underlying3
  a3 := Tryd.isAgg3
  z3 := Tryd.sizeOf3
  v3 := Tryd.zeroValue3
  t5 := Tryd.underlying5
  a5 := Tryd.isAgg5
  z5 := Tryd.sizeOf5
  v5 := Tryd.zeroValue5
  t9 := Tryd.underlying9
  a9 := Tryd.isAgg9
  z9 := Tryd.sizeOf9
  v9 := Tryd.zeroValue9 }
open Go.RowKit in
theorem Tryd.strings_IndexByte (s : ByteArray) (c : Int) (w : World) :
    Calls Tryd.prog 180 #[.string s, .int .u8 c] w fun e w' => e = .returned (.int .i64 (Lib.indexByte s.data.toList c.toNat.toUInt8)) ∧ w' = w := Any.strings_IndexByte Tryd.lays137 s c w
def Tryd.lays144_ren : Go.Shelf.Ren := ⟨fun | 144 => 179 | 143 => 192 | 219 => 208 | 217 => 201 | 225 => 214 | 224 => 215 | 267 => 216 | 266 => 210 | 314 => 218 | n => n, fun | 9 => 9 | 4 => 4 | 3 => 3 | 5 => 5 | 46 => 144 | 146 => 225 | 51 => 168 | n => n, fun | 1 => 2 | n => n⟩
theorem Tryd.lays144 : Go.Proofs.Lays.n144 Tryd.prog Tryd.lays144_ren := {
  mixed := by kernel_rfl
  f143 := Tryd.func192.trans (congrArg some (by kernel_rfl))
  f144 := Tryd.func179.trans (congrArg some (by kernel_rfl))
  f217 := Tryd.func201.trans (congrArg some (by kernel_rfl))
  f219 := Tryd.func208.trans (congrArg some (by kernel_rfl))
  f224 := Tryd.func215.trans (congrArg some (by kernel_rfl))
  f225 := Tryd.func214.trans (congrArg some (by kernel_rfl))
  f266 := Tryd.func210.trans (congrArg some (by kernel_rfl))
  f267 := Tryd.func216.trans (congrArg some (by kernel_rfl))
  f314 := Tryd.func218.trans (congrArg some (by kernel_rfl))
  t3 := Tryd.underlying3
  a3 := Tryd.isAgg3
  z3 := Tryd.sizeOf3
  v3 := Tryd.zeroValue3
  t4 := Tryd.underlying4
  a4 := Tryd.isAgg4
  z4 := Tryd.sizeOf4
  v4 := Tryd.zeroValue4
  t5 := Tryd.underlying5
  a5 := Tryd.isAgg5
  z5 := Tryd.sizeOf5
  v5 := Tryd.zeroValue5
  t9 := Tryd.underlying9
  a9 := Tryd.isAgg9
  z9 := Tryd.sizeOf9
  v9 := Tryd.zeroValue9
  t46 := Tryd.underlying144
  a46 := Tryd.isAgg144
  z46 := Tryd.sizeOf144
  v46 := Tryd.zeroValue144
  t51 := Tryd.underlying168
  a51 := Tryd.isAgg168
  z51 := Tryd.sizeOf168
  v51 := Tryd.zeroValue168
  t146 := Tryd.underlying225
  a146 := Tryd.isAgg225
  z146 := Tryd.sizeOf225
  v146 := Tryd.zeroValue225
  g1 := by kernel_rfl }
open Go.RowKit Go.Lib in
theorem Tryd.strings_Contains_one (s : ByteArray) (c : UInt8) (w : World) :
    Calls Tryd.prog 179 #[.string s, .string ⟨#[c]⟩] w fun e w' => e = .returned (.bool (decide (0 ≤ Lib.indexByte s.data.toList c))) ∧ w' = w := Any.strings_Contains_one Tryd.lays144 s c w
end Go.Proofs
