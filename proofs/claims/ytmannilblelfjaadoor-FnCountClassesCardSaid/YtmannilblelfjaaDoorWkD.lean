/-
  REGIONS THAT DRAW THEIR ORDER AND MAKE MEMORY: quiet operations are taken first (they yield one value in every world of the class in which the region begins), calls and what makes memory come up alone. A greedy order, checked by a Bool, serves every order.
-/
import Derived.Test.YtmannilblelfjaaDoorPlain4
import Derived.OrdersHeld
namespace Go.Wk
open Go.RowKit

def valueOp (o : Oper) : Bool := match o.op with
  | .move _ | .assign _ | .pick .. | .load .. | .binOp .. | .unOp .. | .slice .. | .fieldAddr .. | .field .. | .indexAddr .. | .index .. | .extract .. | .makeFunc .. | .convert .. | .build .. => true
  | .call ⟨.builtin .len, _, _⟩ => true
  | _ => false
section
variable {P : Program} {n : Nat} {S C : World → Prop} {N R : Act → World → Prop} {X : List (Nat × (Act → World → Prop))} {e : Env} {ops : Array Oper} {L : List (Nat × Bool)} {o : Oper} {Q : Exit → Act → World → Prop}

theorem run_v {s : Sem Value} {w : World} {x : Next} {w' : World} (h : (do pure (Next.value (← s)) : Sem Next).run P w = .ok x w') : ∃ u, x = .value u := by
  simp only [Sem.run_bind, Result.andThen] at h
  split at h
  · simp only [Sem.run_pure] at h
    injection h with h1 h2
    exact ⟨_, h1.symm⟩
  · cases h
theorem valueOp_run (hv : valueOp o = true) {ρ : Operand → Value} {w w' : World} {x : Next} (h : (execOp ρ o).run P w = .ok x w') : ∃ u, x = .value u := by
  unfold execOp at h
  unfold valueOp at hv
  split at hv <;> rename_i he <;> simp only [he] at h
  all_goals first
    | exact run_v h
    | (simp only [Sem.run_pure] at h; injection h with h1 h2; exact ⟨_, h1.symm⟩)
    | (cases hv; done)
    | (simp only [Sem.run_bind, Result.andThen] at h; split at h <;> first | (simp only [Sem.run_pure] at h; injection h with h1 h2; exact ⟨_, h1.symm⟩) | cases h)
    | skip
/-- A greedy order: those marked are taken first, the others come up alone. -/
def orderB (ops : Array Oper) : List (Nat × Bool) → Array Bool → Bool
  | [], listed => (Region.ready .any ops listed).isEmpty
  | (i, true) :: L, listed => (Region.ready .any ops listed).contains i && Region.free .any ops listed i && orderB ops L (listed.setIfInBounds i true)
  | (i, false) :: L, listed => (Region.ready .any ops listed == [i]) && orderB ops L (listed.setIfInBounds i true)
def wpOrd (P : Program) (ops : Array Oper) (S : World → Prop) (Q : Exit → Act → World → Prop) : List (Nat × Bool) → Act → World → Prop
  | [], a, w => Q .normal a w
  | (i, true) :: L, a, w => ∃ o v, ops[i]? = some o ∧ YieldsIf P ops S o v a ∧ S w ∧ wpOrd P ops S Q L (a.put o.dst v) w
  | (i, false) :: L, a, w => wpOp P ops Q i (fun a' w' => S w' ∧ wpOrd P ops S Q L a' w') a w
theorem wpAnyH_ord (hs : Region.noSelect ops = true) (hQ : ∀ c a w, ¬ Q (.panic c) a w) : ∀ (L : List (Nat × Bool)) (listed : Array Bool) (a : Act) (w : World), orderB ops L listed = true → wpOrd P ops S Q L a w → wpAnyH P .any ops Q S L.length listed a w
  | [], listed, a, w, hB, h => wpAnyH_done (List.isEmpty_iff.1 hB) h _
  | (i, true) :: L, listed, a, w, hB, h => by
    simp only [orderB, Bool.and_eq_true] at hB
    obtain ⟨o, v, hi, hy, hS, hr⟩ := h
    exact wpAnyH_take hi hs hB.1.2 hB.1.1 (fun c a w hq => absurd hq (hQ _ _ _)) hy hS (wpAnyH_ord hs hQ L _ _ _ hB.2 hr)
  | (i, false) :: L, listed, a, w, hB, h => by
    simp only [orderB, Bool.and_eq_true, beq_iff_eq] at hB
    refine wpAnyH_all hB.1 (by simp) fun j hj => ?_
    obtain rfl : j = i := by simpa using hj
    exact wpOp_mono (fun a' w' ⟨h1, h2⟩ => ⟨h1, wpAnyH_ord hs hQ L _ _ _ hB.2 h2⟩) h
def orderOk (ops : Array Oper) (L : List (Nat × Bool)) : Bool := Region.noSelect ops && decide (L.length = ops.size) && orderB ops L (Array.replicate ops.size false)
theorem wp_region_order {id : Nat} {a : Act} {w : World} (hm : P.follows .mixedOrders = true) (hB : orderOk ops L = true) (hQ : ∀ c a w, ¬ Q (.panic c) a w)
    (h : wpOrd P ops S Q L a { w with drawn := w.drawn + 1 }) : (Code.region id ops true).wp P Q a w := by
  simp only [orderOk, Bool.and_eq_true, decide_eq_true_eq] at hB
  refine wp_region_held (S := S) hm ?_
  rw [← hB.1.2]
  exact wpAnyH_ord hB.1.1 hQ L _ _ _ (by rw [hB.1.2]; exact hB.2) h

/-- the walk in that order -/
def Ld (P : Program) (n : Nat) (S C : World → Prop) (ops : Array Oper) (L : List (Nat × Bool)) (e : Env) (N R : Act → World → Prop) (X : List (Nat × (Act → World → Prop))) : Prop :=
  ∀ a w, Fits n a e → C w → wpOrd P ops S (post N R X) L a w
def Wo (P : Program) (S : World → Prop) (ops : Array Oper) (L : List (Nat × Bool)) (N R : Act → World → Prop) (X : List (Nat × (Act → World → Prop))) : Act → World → Prop :=
  fun a w => S w ∧ wpOrd P ops S (post N R X) L a w
theorem Wk.regionO {id : Nat} (L : List (Nat × Bool)) (hm : P.follows .mixedOrders = true) (hd : ∀ w, C w → C { w with drawn := w.drawn + 1 }) (hB : orderOk ops L = true) (h : Ld P n C C ops L e N R X) :
    Wk P n C (.region id ops true) N R X e := by
  unfold Wk
  intro a w hf hc
  refine wp_region_order (S := C) hm hB (fun c a w h => h) (h a _ hf (hd w hc))
theorem Ld.nil (h : Kt n C e N) : Ld P n S C ops [] e N R X := by
  unfold Kt at h
  exact fun a w hf hc => h a w hf hc
theorem Ld.take {i d : Nat} {v : Value} (hi : ops[i]? = some o) (hd : Nat.blt d n = true) (hdst : o.dst = some d) (hg : wantE ops e o.guard = some true) (hv : valueOp o = true) (q : OpQ P n S e o v) (hS : ∀ w, C w → S w)
    (k : Ld P n S C ops L ((d, v) :: e) N R X) : Ld P n S C ops ((i, true) :: L) e N R X := by
  intro a w hf hc
  refine ⟨o, v, hi, .inl ⟨wantE_spec hf hg, fun w1 hw1 => ?_⟩, hS w hc, ?_⟩
  · unfold OpQ at q
    have h1 := q a hf w1 hw1
    unfold Oper.quietAt at h1
    cases hr : (execOp a.eval o).run P w1 with
    | ok x w' =>
      obtain ⟨u, rfl⟩ := valueOp_run hv hr
      rw [hr] at h1
      obtain ⟨rfl, rfl⟩ := h1
      rfl
    | halt x w' => rw [hr] at h1; exact h1.elim
  · rw [hdst]
    exact k _ _ (hf.put (by simpa using hd) v) hc
theorem Ld.pass {i d : Nat} (hi : ops[i]? = some o) (hd : Nat.blt d n = true) (hdst : o.dst = some d) (hg : wantE ops e o.guard = some false) (hS : ∀ w, C w → S w)
    (k : Ld P n S C ops L ((d, undef) :: e) N R X) : Ld P n S C ops ((i, true) :: L) e N R X := by
  intro a w hf hc
  refine ⟨o, undef, hi, .inr ⟨wantE_spec hf hg, rfl⟩, hS w hc, ?_⟩
  rw [hdst]
  exact k _ _ (hf.put (by simpa using hd) undef) hc
theorem Ld.bool {d : Nat} {B : Bool} (h : ∀ b, B = b → Ld P n S C ops L ((d, .bool b) :: e) N R X) : Ld P n S C ops L ((d, .bool B) :: e) N R X := h B rfl
theorem Ld.sub {e' : Env} (k : Sub e' e) (h : Ld P n S C ops L e' N R X) : Ld P n S C ops L e N R X := fun a w hf => h a w (hf.sub k)
theorem Oper.wp_post {o : Oper} {a : Act} {w : World} {K K' : Act → World → Prop} {N' : Act → World → Prop} (hK : ∀ a w, K a w → K' a w) (h : o.wp P a w K (post N' R X)) : o.wp P a w K' (post N R X) := by
  have h1 := Go.Oper.wp_mono hK h
  unfold Oper.wp at *
  generalize (execOp a.eval o).run P w = r at *
  cases r with
  | ok x w' =>
    cases x <;> simp only [Oper.upon] at h1 ⊢ <;> try exact h1
  | halt x w' => cases x <;> simp only [Oper.upon] at h1 ⊢ <;> exact h1
theorem Ld.loud {i : Nat} (hi : ops[i]? = some o) (h : Ll P n C ops [o] e (Wo P S ops L N R X) R X) : Ld P n S C ops ((i, false) :: L) e N R X := by
  intro a w hf hc
  unfold Ll at h
  have h1 := h a w hf hc
  unfold wpList at h1
  show wpOp P ops _ i _ a w
  unfold wpOp
  simp only [hi]
  split
  · rename_i hw
    rw [if_pos hw] at h1
    rcases h1 with h1 | ⟨h1, h2⟩
    · exact .inl (Oper.wp_post (fun a' w' hk => hk) h1)
    · exact .inr ⟨h1, h2⟩
  · rename_i hw
    rw [if_neg hw] at h1
    exact h1
theorem Ld.joint (hS : ∀ w, C w → S w) (h : Ld P n S C ops L e N R X) : Kt n C e (Wo P S ops L N R X) := by
  unfold Kt
  exact fun a w hf hc => ⟨hS w hc, h a w hf hc⟩
theorem Own.tail {B : Nat} {w0 w : World} {x : Nat × Obj} {hs : List (Nat × Obj)} (h : Own B w0 (x :: hs) w) : Own B w0 hs w :=
  ⟨h.below, h.base, fun i p o hi => h.has (i + 1) p o (by simpa using hi), fun i j p o q u h1 h2 => h.apart (i + 1) (j + 1) p o q u (by simpa using h1) (by simpa using h2) ∘ fun (hne : i ≠ j) => by omega⟩
attribute [irreducible] Ld Wo
end
end Go.Wk
