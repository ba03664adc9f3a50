/-
  DRAWS: the random source, its box; bytes; three loud operations coming up at once. No program in sight.
-/
import Derived.Test.YtmannilblelfjaaDoorPlain14
import Derived.Test.YtmannilblelfjaaDoorShort
namespace Go.Wk
open Go.RowKit

def u8s (xs : List Int) : List Value := xs.map (.int .u8)
@[simp] theorem u8s_length (xs : List Int) : (u8s xs).length = xs.length := by simp [u8s]
def Bytes8 (L : List Int) : Prop := ∀ x ∈ L, 0 ≤ x ∧ x ≤ 255
theorem Bytes8.at {L : List Int} (h : Bytes8 L) {i : Nat} (hi : i < L.length) : 0 ≤ L.getD i 0 ∧ L.getD i 0 ≤ 255 := by
  rw [getD_at hi]; exact h _ (List.getElem_mem _)
theorem u8s_cell {w : World} {v : Value} {xs : List Int} (h : Row w v (u8s xs)) {i : Int} (h0 : 0 ≤ i) (h1 : i < xs.length) : w.cell? (sAt v i) = some (.int .u8 (xs.getD i.toNat 0)) := by
  have := Row.cell h h0 (by simpa using h1)
  rw [this]
  have hl : i.toNat < xs.length := by omega
  simp [u8s, List.getD_eq_getElem?_getD, hl]
section
variable {P : Program} {n : Nat} {C : World → Prop} {B : Nat} {w0 : World} {hs hs' : List (Nat × Obj)} {N R : Act → World → Prop} {X : List (Nat × (Act → World → Prop))} {e : Env} {ops : Array Oper} {l : List Oper} {o : Oper}
theorem OpQ.nilCheck {x : Operand} {a : Addr} (h : o.op = .nilCheck x) (hx : opd e x = some (.pointer (some a))) : OpQ P n C e o (.pointer (some a)) := OpQ.val fun A hF w => by
  unfold execOp; rw [h]; simp only [hF.opd hx]; rfl
theorem OpQ.xor {t t' : TypeId} {x y : Operand} {i j : Int} (h : o.op = .binOp .xor t x y t') (hx : opd e x = some (.int .i64 i)) (hy : opd e y = some (.int .i64 j)) : OpQ P n C e o (.int .i64 (bits .xor .i64 i j)) := OpQ.val fun a hf w => by
  unfold execOp; rw [h]; simp only [hf.opd hx, hf.opd hy]; simp [go_sem]
theorem OpQ.maxU {x y : Operand} {ts : Array TypeId} {i j : Int} (h : o.op = .call ⟨.builtin .max, #[x, y], ts⟩) (hx : opd e x = some (.int .i64 i)) (hy : opd e y = some (.int .i64 j)) : OpQ P n C e o (.int .i64 (if j > i then j else i)) := OpQ.val fun A hF w => by
  unfold execOp; rw [h]
  simp only [resolve, invoke, BigFrame.builtin_max, List.map_toArray, List.map_cons, List.map_nil, hF.opd hx, hF.opd hy, Sem.run_bind, Sem.run_pure, Result.andThen, Builtin.max_, List.foldlM_cons, List.foldlM_nil, Builtin.max2]
theorem OpQ.min2 {x y : Operand} {ts : Array TypeId} {i j : Int} (h : o.op = .call ⟨.builtin .min, #[x, y], ts⟩) (hx : opd e x = some (.int .i64 i)) (hy : opd e y = some (.int .i64 j)) : OpQ P n C e o (.int .i64 (if j < i then j else i)) := OpQ.val fun A hF w => by
  unfold execOp; rw [h]
  simp only [resolve, invoke, BigFrame.builtin_min, List.map_toArray, List.map_cons, List.map_nil, hF.opd hx, hF.opd hy, Sem.run_bind, Sem.run_pure, Result.andThen, Builtin.min_, List.foldlM_cons, List.foldlM_nil, Builtin.min2]
theorem xor_pos {i j : Int} (h0 : 0 ≤ i) (h1 : i < 4611686018427387904) (h2 : 0 ≤ j) (h3 : j < 4611686018427387904) : 0 ≤ bits .xor .i64 i j := by
  have e1 : (BitVec.ofInt 64 i ^^^ BitVec.ofInt 64 j).toNat < 2 ^ 62 := by
    rw [BitVec.toNat_xor]
    refine Nat.xor_lt_two_pow ?_ ?_ <;> (rw [BitVec.toNat_ofInt]; omega)
  show 0 ≤ IntKind.i64.wrap ((BitVec.ofInt 64 i ^^^ BitVec.ofInt 64 j).toNat : Int)
  rw [IntWalk.i64_in _ (by omega)]
  omega
/-- a call that turns the random source, and makes blocks -/
theorem Ll.callRd {σ : Type} {ok : σ → Nat → Prop} {v : σ → Value} {new : σ → List (Nat × Obj)} {d rp RT p : Nat} {bv : Value} {f : FuncId} {xs : List Operand} {ts : Array TypeId} {vs : List Value} (front : List (Nat × Obj)) (hd : Nat.blt d n = true) (hdst : o.dst = some d) (hg : wantE ops e o.guard = some true) (h : o.op = .call ⟨.value (.func f), xs.toArray, ts⟩)
    (hcf : ∀ args w, (callFunc f args).run P w = .ok (.enter f args) w) (hx : opds e xs = some vs)
    (hc : ∀ w, Own B w0 ((rp, .cells #[bv, .int .i64 (p : Int)] RT (0, 0)) :: (front ++ hs)) w → Calls P f vs.toArray w fun en w' => ∃ (s : σ) (p' : Nat), en = .returned (v s) ∧ ok s p' ∧ Own B w0 (new s ++ ((rp, .cells #[bv, .int .i64 (p' : Int)] RT (0, 0)) :: (front ++ hs))) w')
    (k : ∀ (s : σ) (p' : Nat), ok s p' → Ll P n (Own B w0 (new s ++ (front ++ ((rp, .cells #[bv, .int .i64 (p' : Int)] RT (0, 0)) :: hs)))) ops l ((d, v s) :: e) N R X) : Ll P n (Own B w0 (front ++ ((rp, .cells #[bv, .int .i64 (p : Int)] RT (0, 0)) :: hs))) ops (o :: l) e N R X :=
  Ll.call hd hdst hg h hcf hx fun w hw => (hc w (hw.perm (perm_back _ [_] _))).mono fun en w' ⟨s, p', h1, h2, h3⟩ => ⟨_, h1, fun a' ha => by
    have := k s p' h2
    unfold Ll at this
    exact this a' w' ha (h3.perm ((perm_back [_] _ _).append_left _))⟩
/-! ### results of several kinds -/
inductive ResAt (P : Program) (C : World → Prop) (e : Env) : List ResultVar → List Value → Prop
  | nil : ResAt P C e [] []
  | tmp {t : Nat} {v : Value} {rs : List ResultVar} {vs : List Value} (h : e.lookup t = some v) (k : ResAt P C e rs vs) : ResAt P C e (.tmp t :: rs) (v :: vs)
  | cell {t ty : Nat} {p : Addr} {cs : Array Value} {rs : List ResultVar} {vs : List Value} (h : e.lookup t = some (.pointer (some p))) (hl : ∀ w, C w → (loadVar ty p).run P w = .ok (.agg cs) w) (k : ResAt P C e rs vs) : ResAt P C e (.cell t ty :: rs) (.agg cs :: vs)
def resF (ts : Array Value) : ResultVar → Sem Value
  | .tmp t => pure (ts.getD t undef)
  | .cell b t => do loadVar t (← asAddr (ts.getD b undef))
theorem ResAt.run {rs : List ResultVar} {vs : List Value} (h : ResAt P C e rs vs) {a : Act} {w : World} (hf : Fits n a e) (hw : C w) : (rs.mapM (resF a.tmps)).run P w = .ok vs w := by
  induction h with
  | nil => simp
  | tmp h k ih =>
    rename_i t v rs vs
    have ht : a.tmps.getD t undef = v := by rw [Array.getD_eq_getD_getElem?, hf.slot t _ h]; rfl
    have h1 : (resF a.tmps (.tmp t)).run P w = .ok v w := by
      show (pure (a.tmps.getD t undef) : Sem Value).run P w = _
      rw [ht]; rfl
    simp only [List.mapM_cons, Sem.run_bind, Sem.run_pure, Result.andThen, ih, h1]
  | cell h hl k ih =>
    rename_i t ty p cs rs vs
    have ht : a.tmps.getD t undef = .pointer (some p) := by rw [Array.getD_eq_getD_getElem?, hf.slot t _ h]; rfl
    have h1 : (resF a.tmps (.cell t ty)).run P w = .ok (.agg cs) w := by
      show (do loadVar ty (← asAddr (a.tmps.getD t undef)) : Sem Value).run P w = _
      simp only [ht, asAddr, Sem.run_bind, Sem.run_pure, Result.andThen, hl w hw]
    simp only [List.mapM_cons, Sem.run_bind, Sem.run_pure, Result.andThen, ih, h1]
theorem Kt.endMany {fn : Func} {R : Ending → World → Prop} {rs : List ResultVar} {vs : List Value} (hr : fn.results = rs.toArray) (h : ResAt P C e rs vs) (h2 : vs.length ≠ 1) (hR : ∀ w, C w → R (.returned (.tuple vs.toArray)) w) : Kt n C e (Ends P fn R) := by
  unfold Kt Wk.Ends
  intro a w hf hw
  refine ⟨hf.defers, .tuple vs.toArray, ?_, hR w hw⟩
  have key : (rs.toArray.mapM (resF a.tmps)).run P w = .ok vs.toArray w := by
    rw [List.mapM_toArray]
    simp only [Sem.run_map, h.run hf hw, Result.andThen]
  have e1 : results fn a.tmps = (do let vs ← fn.results.mapM (resF a.tmps); pure (if h : vs.size = 1 then vs[0] else .tuple vs)) := rfl
  rw [e1, hr]
  simp only [Sem.run_bind, key, Result.andThen]
  rw [dif_neg (by simpa using h2)]
  rfl
theorem Own.loadBox {w : World} {p : Nat} {cs : Array Value} {T : TypeId} {fr : Nat × Nat} {ty : TypeId} (hw : Own B w0 hs w) (i : Nat) (hi : hs[i]? = some (p, .cells cs T fr)) (hag : ∀ w, (isAgg ty).run P w = .ok true w) (hsz : ∀ w, (sizeOf ty).run P w = .ok cs.size w) :
    (loadVar ty ⟨p, 0, none⟩).run P w = .ok (.agg cs) w := by
  have hl := run_loadCells_list (P := P) (w := w) ⟨p, 0, none⟩ cs.toList (fun j v hj => by rw [Addr.add_lit, hw.cell hi]; simpa using hj)
  simp only [Array.length_toList] at hl
  simp only [loadVar, Sem.run_bind, hag, Result.andThen, if_true, hsz, hl]
  simp
/-- a quiet call whose value is some letter's -/
theorem Ll.callSome {σ : Type} {ok : σ → Prop} {v : σ → Value} {d : Nat} {f : FuncId} {xs : List Operand} {ts : Array TypeId} {vs : List Value} (hd : Nat.blt d n = true) (hdst : o.dst = some d) (hg : wantE ops e o.guard = some true) (h : o.op = .call ⟨.value (.func f), xs.toArray, ts⟩)
    (hcf : ∀ args w, (callFunc f args).run P w = .ok (.enter f args) w) (hx : opds e xs = some vs)
    (hc : ∀ w, Own B w0 hs w → Calls P f vs.toArray w fun en w' => ∃ s, en = .returned (v s) ∧ ok s ∧ Below w.heap.size w w')
    (k : ∀ s, ok s → Ll P n (Own B w0 hs) ops l ((d, v s) :: e) N R X) : Ll P n (Own B w0 hs) ops (o :: l) e N R X :=
  Ll.call hd hdst hg h hcf hx fun w hw => (hc w hw).mono fun en w' ⟨s, h1, h2, h3⟩ => ⟨v s, h1, fun a' ha => by
    have := k s h2
    unfold Ll at this
    exact this a' w' ha (hw.calls h3)⟩
theorem OpQ.sliceStrTo {t : TypeId} {x z : Operand} {l : List UInt8} {j : Int} (h : o.op = .slice t x none (some z) none) (hu : P.underlying t = some .string) (hx : opd e x = some (str l)) (hz : opd e z = some (.int .i64 j))
    (h1 : 0 ≤ j) (h2 : j ≤ l.length) : OpQ P n C e o (str (l.take j.toNat)) := OpQ.val fun a hf w => by
  unfold execOp; rw [h]; simp only [hf.opd hx, hf.opd hz, Option.map_some, Option.map_none]
  have h3 : 0 ≤ j ∧ j ≤ ((⟨⟨l⟩⟩ : ByteArray).size : Int) := ⟨h1, h2⟩
  have h4 : ((⟨⟨l⟩⟩ : ByteArray).extract 0 j.toNat) = ⟨⟨l.take j.toNat⟩⟩ := by
    apply ByteArray.ext
    apply Array.ext'
    rw [ByteArray.data_extract, Array.toList_extract]
    simp [List.extract]
  simp only [str, Instr.sliceAt, Instr.slice, Instr.sliceBounds, Instr.sliceBound, asIntOf, Sem.run_bind, Sem.run_pure, run_underlying hu, Result.andThen, Option.isSome_none, Bool.false_eq_true, if_false, if_pos h3, h4]
theorem OpQ.sliceStrFrom {t : TypeId} {x z : Operand} {l : List UInt8} {j : Int} (h : o.op = .slice t x (some z) none none) (hu : P.underlying t = some .string) (hx : opd e x = some (str l)) (hz : opd e z = some (.int .i64 j))
    (h1 : 0 ≤ j) (h2 : j ≤ l.length) : OpQ P n C e o (str (l.drop j.toNat)) := OpQ.val fun a hf w => by
  unfold execOp; rw [h]; simp only [hf.opd hx, hf.opd hz, Option.map_some, Option.map_none]
  have h3 : 0 ≤ j ∧ j ≤ ((⟨⟨l⟩⟩ : ByteArray).size : Int) := ⟨h1, h2⟩
  have h4 : ((⟨⟨l⟩⟩ : ByteArray).extract j.toNat (⟨⟨l⟩⟩ : ByteArray).size) = ⟨⟨l.drop j.toNat⟩⟩ := by
    apply ByteArray.ext
    apply Array.ext'
    rw [ByteArray.data_extract, Array.toList_extract]
    show (l.drop j.toNat).take (l.length - j.toNat) = l.drop j.toNat
    rw [List.take_of_length_le (by rw [List.length_drop]; exact Nat.le_refl _)]
  simp only [str, Instr.sliceAt, Instr.slice, Instr.sliceBounds, Instr.sliceBound, asIntOf, Sem.run_bind, Sem.run_pure, run_underlying hu, Result.andThen, Option.isSome_none, Bool.false_eq_true, if_false, if_pos h3, h4]
end
end Go.Wk
