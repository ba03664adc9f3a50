/-
  A ROW OF BOOLS THAT GROWS FROM NOTHING. No program in sight.
-/
import Derived.Test.YtjcoijejhachhaaDoorCore2
import Derived.Test.YtjcoijejhachhaaDoorPlain45
namespace Go.Wk
open Go.RowKit
abbrev OptR := Option (Nat × Nat × Array Value)
def optV : OptR → Nat → Value
  | none, _ => .slice none 0 0
  | some (g, c, _), m => .slice (some ⟨g, 0, none⟩) m c
def optB (el : TypeId) : OptR → List (Nat × Obj)
  | none => []
  | some (g, _, u) => [(g, .cells u el (0, 0))]
def OptOk (bs : List Bool) : OptR → Prop
  | none => bs = []
  | some (_, c, u) => u.size = c * 1 ∧ bs.length ≤ c ∧ u.toList.take bs.length = bools bs
section
variable {P : Program} {n : Nat} {B : Nat} {w0 : World} {N R : Act → World → Prop} {X : List (Nat × (Act → World → Prop))} {e : Env} {ops : Array Oper} {l : List Oper} {o : Oper}
theorem Ll.appendOpt {t el d p : Nat} {T : TypeId} {x y : Operand} {q : OptR} {bs : List Bool} {b : Bool} {m : Nat} (hm : bs.length = m) (E : Elem P t el 1) (f r : List (Nat × Obj)) (i : Nat) (hq : OptOk bs q) (hd : Nat.blt d n = true) (hdst : o.dst = some d) (hg : wantE ops e o.guard = some true)
    (h : o.op = .call ⟨.builtin .append, #[x, y], #[t, t]⟩) (hx : opd e x = some (optV q m)) (hy : opd e y = some (.slice (some ⟨p, 0, none⟩) 1 1)) (hi : f[i]? = some (p, .cells #[.bool b] T (0, 0))) (hb : m ≤ 1000000)
    (k : ∀ g' c' u', B ≤ g' → OptOk (bs ++ [b]) (some (g', c', u')) → Ll P n (Own B w0 (f ++ (optB el (some (g', c', u')) ++ r))) ops l ((d, .slice (some ⟨g', 0, none⟩) (m + 1) c') :: e) N R X) : Ll P n (Own B w0 (f ++ (optB el q ++ r))) ops (o :: l) e N R X := by
  subst hm
  have hlt : i < f.length := by
    rcases Nat.lt_or_ge i f.length with h1 | h1
    · exact h1
    · rw [List.getElem?_eq_none h1] at hi; cases hi
  have news : ∀ (hs : List (Nat × Obj)), hs[i]? = some (p, .cells #[.bool b] T (0, 0)) → ∀ w, Own B w0 hs w → ∀ ad, some (⟨p, 0, none⟩ : Addr) = some ad → ∀ j u, ([Value.bool b])[j]? = some u → w.cell? (ad.add j) = some u := fun hs hh w1 hw1 ad had j u hj => by
    injection had with had; subst had
    rw [Addr.add_lit, Nat.zero_add, hw1.cell (i := i) hh]
    simpa using hj
  have bl : bools (bs ++ [b]) = bools bs ++ [Value.bool b] := by simp [bools]
  cases q with
  | none =>
    have hb0 : bs = [] := hq
    subst hb0
    refine Ll.appendNil E [.bool b] hd hdst hg h hx hy (by decide) (by simp) rfl (news _ (by rw [List.getElem?_append_left hlt]; exact hi)) (by decide) fun g' c' u' h1 h2 h3 h4 => ?_
    have := k g' c' u' h1 ⟨h2, by simpa using h3, by simpa [bools] using h4⟩
    unfold Ll at this ⊢
    exact fun a w hf hc => this a w hf (hc.perm (perm_back [_] f r))
  | some q =>
    obtain ⟨g, c, u⟩ := q
    obtain ⟨s1, s2, s3⟩ := hq
    refine Ll.append E f.length [.bool b] hd hdst hg h hx hy (by rw [List.getElem?_append_right (Nat.le_refl _), Nat.sub_self]; rfl) s1 s2 rfl (fun h => by cases h) (news _ (by rw [List.getElem?_append_left hlt]; exact hi)) (by simp [Value.oneCell']) (by omega) fun g' c' u' h1 h2 h3 h4 => ?_
    have := k g' c' u' h1 ⟨h2, by simpa using h3, by rw [List.length_append, List.length_singleton, bl, ← s3]; simpa using h4⟩
    unfold Ll at this ⊢
    intro a w hf hc
    rw [List.set_append_right _ _ (Nat.le_refl _), Nat.sub_self] at hc
    exact this a w hf hc
end
theorem opt_some {bs : List Bool} {q : OptR} (h : OptOk bs q) (h0 : 0 < bs.length) : ∃ (g c : Nat) (u : Array Value), q = some (g, c, u) ∧ u.size = c * 1 ∧ bs.length ≤ c ∧ u.toList.take bs.length = bools bs := by
  cases q with
  | none => rw [show bs = [] from h] at h0; exact absurd h0 (by decide)
  | some q => obtain ⟨g, c, u⟩ := q; exact ⟨g, c, u, rfl, h⟩
theorem fit_next {a b : St} {k s : Nat} (hb : 1 ≤ b.n.toNat) (h : s < prN a b ^ k) : (WL 0 a b k).take (s + 1) = (WL 0 a b k).take s ++ [sameB a (placed (stX a b k s) k) b (placed (stY a b k s) k)] := by
  rw [List.take_succ_eq_append_getElem (by rw [WL_len]; exact h), ← getD_at (d := false), WL_at h, win_zero hb]
theorem Own.merge {B : Nat} {w0 w w' : World} {hs new : List (Nat × Obj)} (h : Own B w0 hs w) (k : Own w.heap.size w new w') : Own B w0 (new ++ hs) w' := by
  have h' := h.calls k.below
  refine Own.of_mem h'.below h'.base (fun x hx => ?_) ?_
  · rcases List.mem_append.1 hx with h1 | h1
    · obtain ⟨h2, h3⟩ := k.mem h1
      exact ⟨Nat.le_trans h.base h2, h3⟩
    · exact h'.mem h1
  · rw [List.map_append, List.nodup_append]
    refine ⟨k.nodup, h.nodup, fun p hp q hq e => ?_⟩
    obtain ⟨x, hx, rfl⟩ := List.mem_map.1 hp
    obtain ⟨y, hy, rfl⟩ := List.mem_map.1 hq
    have h1 := (k.mem hx).1
    have h2 := (h.mem hy).2
    have h3 : y.1 < w.heap.size := by
      rcases Nat.lt_or_ge y.1 w.heap.size with h4 | h4
      · exact h4
      · rw [Array.getElem?_eq_none h4] at h2; cases h2
    omega
section
variable {P : Program} {n : Nat} {C : World → Prop} {e : Env} {o : Oper}
theorem OpQ.eqNilP {t t' q : TypeId} {x y : Operand} {p : Option Addr} (h : o.op = .binOp .eql t x y t') (hu : P.underlying t = some (.pointer q)) (hx : opd e x = some (.pointer p)) (hy : opd e y = some (.pointer none)) : OpQ P n C e o (.bool p.isNone) := OpQ.val fun A hf w => by
  have hu' : P.underlying t = some (.pointer (P.pointee t)) := by simp [Program.pointee, hu]
  unfold execOp; rw [h]; simp only [hf.opd hx, hf.opd hy]
  rw [show eqGuard .eql t x y (Value.pointer p) (Value.pointer none) = pure () from rfl]
  simp only [Sem.run_bind, run_eql_pointer_nil w t p hu', Sem.run_pure, Result.andThen]
end
end Go.Wk
