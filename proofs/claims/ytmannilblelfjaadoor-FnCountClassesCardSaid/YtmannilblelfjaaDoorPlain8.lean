/-
  A CLOSURE THAT TELLS FACTS into two rows of its maker's: the rows' boxes, a call that turns them. No program in sight.
-/
import Derived.Test.YtmannilblelfjaaDoorPlain7
namespace Go.Wk
open Go.RowKit

section
variable {P : Program} {n : Nat} {C : World → Prop} {e : Env} {N R : Act → World → Prop} {X : List (Nat × (Act → World → Prop))} {ops : Array Oper} {l : List Oper} {o : Oper} {B : Nat} {w0 : World} {hs : List (Nat × Obj)}
theorem results_none {fn : Func} (h : fn.results = #[]) {P : Program} {w : World} {t : Array Value} : (results fn t).run P w = .ok (.tuple #[]) w := by
  unfold results; rw [h]; simp [go_sem]
theorem Kt.end0 {fn : Func} {R : Ending → World → Prop} (hr : fn.results = #[]) (h : ∀ w, C w → R (.returned (.tuple #[])) w) : Kt n C e (Ends P fn R) := by
  unfold Kt Wk.Ends
  exact fun a w hf hc => ⟨hf.defers, _, results_none hr, h w hc⟩
/-- a call of a closure that turns the caller's own blocks: behind it they are as a letter says -/
theorem Ll.callFnTo {σ : Type} {ok : σ → Prop} {hs' : σ → List (Nat × Obj)} {d : Nat} {f : FuncId} {c : Operand} {captured : Array Value} {xs : List Operand} {ts : Array TypeId} {vs : List Value} {v : Value} (hd : Nat.blt d n = true) (hdst : o.dst = some d) (hg : wantE ops e o.guard = some true) (h : o.op = .call ⟨.value c, xs.toArray, ts⟩)
    (hcl : opd e c = some (.func (.func f) #[] captured)) (hcf : ∀ args w, (callFunc f args).run P w = .ok (.enter f args) w) (hx : opds e xs = some vs)
    (hc : ∀ w, Own B w0 hs w → Calls P f (vs.toArray ++ captured) w fun en w' => en = .returned v ∧ ∃ s, ok s ∧ Own B w0 (hs' s) w')
    (k : ∀ s, ok s → Ll P n (Own B w0 (hs' s)) ops l ((d, v) :: e) N R X) : Ll P n (Own B w0 hs) ops (o :: l) e N R X :=
  Ll.callFn hd hdst hg h hcl hcf hx fun w hw => (hc w hw).mono fun en w' ⟨h1, s, h2, h3⟩ => ⟨v, h1, fun a' ha => by
    have := k s h2
    unfold Ll at this
    exact this a' w' ha h3⟩
end
/-- two rows in boxes: what the rows hold -/
structure Boxed where
  q1 : Nat
  c1 : Nat
  u1 : Array Value
  q2 : Nat
  c2 : Nat
  u2 : Array Value
structure Boxed.Ok (s : Boxed) (B : Nat) (F : List (List UInt8)) (H : List Bool) : Prop where
  b1 : B ≤ s.q1
  s1 : s.u1.size = s.c1 * 1
  l1 : F.length ≤ s.c1
  t1 : s.u1.toList.take (F.length * 1) = strs F
  b2 : B ≤ s.q2
  s2 : s.u2.size = s.c2 * 1
  l2 : H.length ≤ s.c2
  t2 : s.u2.toList.take (H.length * 1) = bools H
theorem tell_head1 {a : St} {xs : List Int} {k : Nat} : (factsL a xs k ++ (headL a xs k ++ moreL a xs k 0)).map Prod.fst = ((factsL a xs k).map Prod.fst ++ [[80] ++ nameS k]) ++ [[69] ++ nameS k ++ nameS k] := by simp [headL, moreL]
theorem tell_head2 {a : St} {xs : List Int} {k : Nat} : (factsL a xs k ++ (headL a xs k ++ moreL a xs k 0)).map Prod.snd = ((factsL a xs k).map Prod.snd ++ [a.inSet (xs.getD k 0)]) ++ [a.inRel (xs.getD k 0) (xs.getD k 0)] := by simp [headL, moreL]
theorem tell_step1 {a : St} {xs : List Int} {k j : Nat} : (factsL a xs k ++ (headL a xs k ++ moreL a xs k (j + 1))).map Prod.fst =
    (((factsL a xs k ++ (headL a xs k ++ moreL a xs k j)).map Prod.fst ++ [[61] ++ nameS j ++ nameS k]) ++ [[69] ++ nameS j ++ nameS k]) ++ [[69] ++ nameS k ++ nameS j] := by simp [moreL]
theorem tell_step2 {a : St} {xs : List Int} {k j : Nat} : (factsL a xs k ++ (headL a xs k ++ moreL a xs k (j + 1))).map Prod.snd =
    (((factsL a xs k ++ (headL a xs k ++ moreL a xs k j)).map Prod.snd ++ [decide (xs.getD k 0 = xs.getD j 0)]) ++ [a.inRel (xs.getD j 0) (xs.getD k 0)]) ++ [a.inRel (xs.getD k 0) (xs.getD j 0)] := by
  simp [moreL, eq_comm]
theorem facts_end1 {a : St} {xs : List Int} {k j : Nat} (h : j = k) : (factsL a xs (k + 1)).map Prod.fst = (factsL a xs k ++ (headL a xs k ++ moreL a xs k j)).map Prod.fst := by subst h; rfl
theorem facts_end2 {a : St} {xs : List Int} {k j : Nat} (h : j = k) : (factsL a xs (k + 1)).map Prod.snd = (factsL a xs k ++ (headL a xs k ++ moreL a xs k j)).map Prod.snd := by subst h; rfl
theorem atoms_step2 {l : List (List UInt8 × Bool)} {j : Nat} (hj : j < l.length) : atomsT (l.take (j + 1)) = atomsT (l.take j) ++ (if (l.map Prod.snd).getD j false then [49] else [48]) := by
  rw [List.take_succ_eq_append_getElem hj, atomsT_append, map_getD Prod.snd ([], false) false hj, getD_at hj]
  congr 1
  simp [atomsT, bitS]
end Go.Wk
