/-
  DRAWS: an order of one structure's elements that fits another one; pairs of structures. No program in sight.
-/
import Derived.Test.YtmannilblelfjaaDoorPlain23
namespace Go.Wk
open Go.RowKit
def upto (n : Nat) : List Int := (List.range n).map fun i : Nat => (i : Int)
@[simp] theorem upto_length (n : Nat) : (upto n).length = n := by simp [upto]
theorem upto_succ (n : Nat) : upto (n + 1) = upto n ++ [(n : Int)] := by simp [upto, List.range_succ]
theorem upto_els {c : St} {n : Nat} (h : (n : Int) ≤ c.n) : c.Els (upto n) := fun x hx => by
  obtain ⟨i, hi, rfl⟩ := List.mem_map.1 hx
  have := List.mem_range.1 hi
  exact ⟨by omega, by omega⟩
theorem upto_set {i n : Nat} (h : i < n) : (upto i ++ List.replicate (n - i) 0).set i (i : Int) = upto (i + 1) ++ List.replicate (n - (i + 1)) 0 := by
  have e : n - i = (n - (i + 1)) + 1 := by omega
  rw [e, List.replicate_succ, List.set_append_right _ _ (by simp), upto_succ, List.append_assoc]
  simp
theorem order_more {a c : St} {xs : List Int} {x : Int} (h : sameB a xs c (upto xs.length) = true) (h2 : stillAt a (xs ++ [x]) c (upto (xs.length + 1)) xs.length = true) :
    sameB a (xs ++ [x]) c (upto (xs ++ [x]).length) = true := by
  rw [List.length_append, List.length_singleton, upto_succ] at *
  rw [same_more (by simp), h, ← still_more (by simp), h2]; rfl
theorem Own.dropR {B : Nat} {w0 w : World} {hs f : List (Nat × Obj)} (h : Own B w0 (hs ++ f) w) : Own B w0 hs w := h.sub (List.sublist_append_left hs f)
theorem Own.ints {B : Nat} {w0 w : World} {hs : List (Nat × Obj)} (h : Own B w0 hs w) {i p n cap : Nat} {T : TypeId} {fr : Nat × Nat} {xs : List Int} (hi : hs[i]? = some (p, .cells (ints xs).toArray T fr)) (hn : xs.length = n) (hc : n ≤ cap) : Ints w (.slice (some ⟨p, 0, none⟩) n cap) xs :=
  Own.row h hi (by simp [← hn, List.take_of_length_le]) (by simp [hn]) hc
theorem part_fine {b : St} {m : Nat} {n : Int} (hb : b.n = m) (hs : (b.set.length : Int) = m) (hr : b.rel.length = m * m) (hm : m = n.toNat) (h1 : 1 ≤ n) (h5 : n ≤ 5) : b.Fine ∧ b.n ≤ 5 :=
  ⟨⟨by omega, by omega, by omega, by rw [hr, hb]; push_cast; rfl⟩, by omega⟩
theorem draw_fine {b : St} {n : Int} (hb : b.n = n) (hs : (b.set.length : Int) = n) (hr : b.rel.length = n.toNat * n.toNat) (h1 : 1 ≤ n) (h5 : n ≤ 5) : b.Fine ∧ b.n ≤ 5 :=
  part_fine (m := n.toNat) (by omega) (by omega) hr rfl h1 h5
theorem fine_len {b : St} (h : b.Fine) (h5 : b.n ≤ 5) : 1 ≤ b.rel.length ∧ b.rel.length ≤ 25 := by
  have h1 := h.lo
  have h2 : b.n * b.n ≤ 5 * 5 := Int.mul_le_mul h5 h5 (by omega) (by omega)
  have h3 := sq_one h1
  have h4 := h.rel
  omega
theorem turned_fine {b : St} {t : List UInt8} {k : Int} (h0 : 0 ≤ k) (h1 : k < b.rel.length) (ht : t.length = ((b.rel.drop k.toNat).take ((k + 1).toNat - k.toNat)).length) :
    (b.rel.take k.toNat ++ t ++ b.rel.drop (k + 1).toNat).length = b.rel.length := by
  have e1 : (k + 1).toNat = k.toNat + 1 := by omega
  rw [e1] at *
  rw [List.length_append, List.length_append, ht, List.length_take, List.length_take, List.length_drop, List.length_drop]
  omega
section
variable {P : Program} {n : Nat} {B : Nat} {w0 : World} {hs : List (Nat × Obj)} {e : Env} {o : Oper} {N R : Act → World → Prop} {X : List (Nat × (Act → World → Prop))} {ops : Array Oper} {l : List Oper}
/-- a call that makes blocks, and hands back some letter's value -/
theorem Ll.callNew {σ : Type} {ok : σ → Prop} {v : σ → Value} {new : σ → List (Nat × Obj)} {d : Nat} {f : FuncId} {xs : List Operand} {ts : Array TypeId} {vs : List Value} (hd : Nat.blt d n = true) (hdst : o.dst = some d) (hg : wantE ops e o.guard = some true) (h : o.op = .call ⟨.value (.func f), xs.toArray, ts⟩)
    (hcf : ∀ args w, (callFunc f args).run P w = .ok (.enter f args) w) (hx : opds e xs = some vs)
    (hc : ∀ w, Own B w0 hs w → Calls P f vs.toArray w fun en w' => ∃ s, en = .returned (v s) ∧ ok s ∧ Own B w0 (new s ++ hs) w')
    (k : ∀ s, ok s → Ll P n (Own B w0 (new s ++ hs)) ops l ((d, v s) :: e) N R X) : Ll P n (Own B w0 hs) ops (o :: l) e N R X :=
  Ll.call hd hdst hg h hcf hx fun w hw => (hc w hw).mono fun en w' ⟨s, h1, h2, h3⟩ => ⟨v s, h1, fun a' ha => by
    have := k s h2
    unfold Ll at this
    exact this a' w' ha h3⟩
/-- the same, the new blocks put behind those in front -/
theorem Ll.callBack {σ : Type} {ok : σ → Prop} {v : σ → Value} {new : σ → List (Nat × Obj)} {d : Nat} {f : FuncId} {xs : List Operand} {ts : Array TypeId} {vs : List Value} (front : List (Nat × Obj)) (hd : Nat.blt d n = true) (hdst : o.dst = some d) (hg : wantE ops e o.guard = some true) (h : o.op = .call ⟨.value (.func f), xs.toArray, ts⟩)
    (hcf : ∀ args w, (callFunc f args).run P w = .ok (.enter f args) w) (hx : opds e xs = some vs)
    (hc : ∀ w, Own B w0 (front ++ hs) w → Calls P f vs.toArray w fun en w' => ∃ s, en = .returned (v s) ∧ ok s ∧ Own B w0 (new s ++ (front ++ hs)) w')
    (k : ∀ s, ok s → Ll P n (Own B w0 (front ++ (new s ++ hs))) ops l ((d, v s) :: e) N R X) : Ll P n (Own B w0 (front ++ hs)) ops (o :: l) e N R X :=
  Ll.call hd hdst hg h hcf hx fun w hw => (hc w hw).mono fun en w' ⟨s, h1, h2, h3⟩ => ⟨v s, h1, fun a' ha => by
    have := k s h2
    unfold Ll at this
    exact this a' w' ha (h3.perm (List.perm_append_comm_assoc _ _ _))⟩
/-- a call that turns the random source; its new blocks go behind it -/
theorem Ll.callRdL {σ : Type} {ok : σ → Nat → Prop} {v : σ → Value} {new : σ → List (Nat × Obj)} {d rp RT p : Nat} {bv : Value} {f : FuncId} {xs : List Operand} {ts : Array TypeId} {vs : List Value} (front : List (Nat × Obj)) (hd : Nat.blt d n = true) (hdst : o.dst = some d) (hg : wantE ops e o.guard = some true) (h : o.op = .call ⟨.value (.func f), xs.toArray, ts⟩)
    (hcf : ∀ args w, (callFunc f args).run P w = .ok (.enter f args) w) (hx : opds e xs = some vs)
    (hc : ∀ w, Own B w0 ((rp, .cells #[bv, .int .i64 (p : Int)] RT (0, 0)) :: (front ++ hs)) w → Calls P f vs.toArray w fun en w' => ∃ (s : σ) (p' : Nat), en = .returned (v s) ∧ ok s p' ∧ Own B w0 ((rp, .cells #[bv, .int .i64 (p' : Int)] RT (0, 0)) :: (new s ++ (front ++ hs))) w')
    (k : ∀ (s : σ) (p' : Nat), ok s p' → Ll P n (Own B w0 (front ++ ((rp, .cells #[bv, .int .i64 (p' : Int)] RT (0, 0)) :: (new s ++ hs)))) ops l ((d, v s) :: e) N R X) : Ll P n (Own B w0 (front ++ ((rp, .cells #[bv, .int .i64 (p : Int)] RT (0, 0)) :: hs))) ops (o :: l) e N R X :=
  Ll.call hd hdst hg h hcf hx fun w hw => (hc w (hw.perm (perm_back _ [_] _))).mono fun en w' ⟨s, p', h1, h2, h3⟩ => ⟨_, h1, fun a' ha => by
    have := k s p' h2
    unfold Ll at this
    exact this a' w' ha (h3.perm (((List.perm_append_comm_assoc _ _ _).cons _).trans List.perm_middle.symm))⟩
end
end Go.Wk
