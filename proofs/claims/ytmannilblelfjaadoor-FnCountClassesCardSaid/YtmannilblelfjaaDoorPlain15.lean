/-
  REGIONS THAT DRAW THEIR ORDER, two loud operations coming up at once: a tree of orders, checked by a Bool. No program in sight.
-/
import Derived.Test.YtmannilblelfjaaDoorPlain14
namespace Go.Wk
open Go.RowKit

inductive OT where
  | done
  | take (i : Nat) (r : OT)
  | one (i : Nat) (r : OT)
  | two (i : Nat) (r : OT) (j : Nat) (s : OT)
section
variable {P : Program} {n : Nat} {S C : World → Prop} {N R : Act → World → Prop} {X : List (Nat × (Act → World → Prop))} {e : Env} {ops : Array Oper} {T : OT} {o : Oper} {Q : Exit → Act → World → Prop}
def otB (ops : Array Oper) : Nat → OT → Array Bool → Bool
  | _, .done, listed => (Region.ready .any ops listed).isEmpty
  | k + 1, .take i r, listed => (Region.ready .any ops listed).contains i && Region.free .any ops listed i && otB ops k r (listed.setIfInBounds i true)
  | k + 1, .one i r, listed => (Region.ready .any ops listed == [i]) && otB ops k r (listed.setIfInBounds i true)
  | k + 1, .two i r j s, listed => (Region.ready .any ops listed == [i, j]) && otB ops k r (listed.setIfInBounds i true) && otB ops k s (listed.setIfInBounds j true)
  | 0, _, _ => false
def wpOt (P : Program) (ops : Array Oper) (S : World → Prop) (Q : Exit → Act → World → Prop) : OT → Act → World → Prop
  | .done, a, w => Q .normal a w
  | .take i r, a, w => ∃ o v, ops[i]? = some o ∧ YieldsIf P ops S o v a ∧ S w ∧ wpOt P ops S Q r (a.put o.dst v) w
  | .one i r, a, w => wpOp P ops Q i (fun a' w' => S w' ∧ wpOt P ops S Q r a' w') a w
  | .two i r j s, a, w => wpOp P ops Q i (fun a' w' => S w' ∧ wpOt P ops S Q r a' w') a w ∧ wpOp P ops Q j (fun a' w' => S w' ∧ wpOt P ops S Q s a' w') a w
theorem wpAnyH_ot (hs : Region.noSelect ops = true) (hQ : ∀ c a w, ¬ Q (.panic c) a w) : ∀ (k : Nat) (T : OT) (listed : Array Bool) (a : Act) (w : World), otB ops k T listed = true → wpOt P ops S Q T a w → wpAnyH P .any ops Q S k listed a w
  | _, .done, listed, a, w, hB, h => by unfold otB at hB; exact wpAnyH_done (List.isEmpty_iff.1 hB) h _
  | k + 1, .take i r, listed, a, w, hB, h => by
    simp only [otB, Bool.and_eq_true] at hB
    obtain ⟨o, v, hi, hy, hS, hr⟩ := h
    exact wpAnyH_take hi hs hB.1.2 hB.1.1 (fun c a w hq => absurd hq (hQ _ _ _)) hy hS (wpAnyH_ot hs hQ k r _ _ _ hB.2 hr)
  | k + 1, .one i r, listed, a, w, hB, h => by
    simp only [otB, Bool.and_eq_true, beq_iff_eq] at hB
    refine wpAnyH_all hB.1 (by simp) fun j hj => ?_
    obtain rfl : j = i := by simpa using hj
    exact wpOp_mono (fun a' w' ⟨h1, h2⟩ => ⟨h1, wpAnyH_ot hs hQ k r _ _ _ hB.2 h2⟩) h
  | k + 1, .two i r j s, listed, a, w, hB, h => by
    simp only [otB, Bool.and_eq_true, beq_iff_eq] at hB
    refine wpAnyH_all hB.1.1 (by simp) fun m hm => ?_
    have hm' : m = i ∨ m = j := by simpa using hm
    rcases hm' with rfl | rfl
    · exact wpOp_mono (fun a' w' ⟨h1, h2⟩ => ⟨h1, wpAnyH_ot hs hQ k r _ _ _ hB.1.2 h2⟩) h.1
    · exact wpOp_mono (fun a' w' ⟨h1, h2⟩ => ⟨h1, wpAnyH_ot hs hQ k s _ _ _ hB.2 h2⟩) h.2
  | 0, .take i r, listed, a, w, hB, h => by simp [otB] at hB
  | 0, .one i r, listed, a, w, hB, h => by simp [otB] at hB
  | 0, .two i r j s, listed, a, w, hB, h => by simp [otB] at hB
def otOk (ops : Array Oper) (T : OT) : Bool := Region.noSelect ops && otB ops ops.size T (Array.replicate ops.size false)
/-- the walk in those orders -/
def Lt (P : Program) (n : Nat) (S C : World → Prop) (ops : Array Oper) (T : OT) (e : Env) (N R : Act → World → Prop) (X : List (Nat × (Act → World → Prop))) : Prop :=
  ∀ a w, Fits n a e → C w → wpOt P ops S (post N R X) T a w
def Wt (P : Program) (S : World → Prop) (ops : Array Oper) (T : OT) (N R : Act → World → Prop) (X : List (Nat × (Act → World → Prop))) : Act → World → Prop :=
  fun a w => S w ∧ wpOt P ops S (post N R X) T a w
theorem Wk.regionT {id : Nat} (T : OT) (hm : P.follows .mixedOrders = true) (hd : ∀ w, C w → C { w with drawn := w.drawn + 1 }) (hB : otOk ops T = true) (h : Lt P n S C ops T e N R X) :
    Wk P n C (.region id ops true) N R X e := by
  unfold Wk
  unfold Lt at h
  intro a w hf hc
  simp only [otOk, Bool.and_eq_true] at hB
  refine wp_region_held (S := S) hm ?_
  exact wpAnyH_ot hB.1 (fun c a w h => h) _ T _ _ _ hB.2 (h a _ hf (hd w hc))
theorem Lt.nil (h : Kt n C e N) : Lt P n S C ops .done e N R X := by
  unfold Kt at h
  exact fun a w hf hc => h a w hf hc
theorem Lt.take {i d : Nat} {v : Value} (hi : ops[i]? = some o) (hd : Nat.blt d n = true) (hdst : o.dst = some d) (hg : wantE ops e o.guard = some true) (hv : valueOp o = true) (q : OpQ P n S e o v) (hS : ∀ w, C w → S w)
    (k : Lt P n S C ops T ((d, v) :: e) N R X) : Lt P n S C ops (.take i T) e N R X := by
  intro a w hf hc
  refine ⟨o, v, hi, .inl ⟨wantE_spec hf hg, fun w1 hw1 => ?_⟩, hS w hc, ?_⟩
  · unfold OpQ at q
    have h1 := q a hf w1 hw1
    unfold Oper.quietAt at h1
    cases hr : (execOp a.eval o).run P w1 with
    | ok x w' =>
      obtain ⟨u, rfl⟩ := valueOp_run hv hr
      rw [hr] at h1
      obtain ⟨rfl, rfl⟩ := h1
      rfl
    | halt x w' => rw [hr] at h1; exact h1.elim
  · rw [hdst]
    exact k _ _ (hf.put (by simpa using hd) v) hc
theorem Lt.pass {i d : Nat} (hi : ops[i]? = some o) (hd : Nat.blt d n = true) (hdst : o.dst = some d) (hg : wantE ops e o.guard = some false) (hS : ∀ w, C w → S w)
    (k : Lt P n S C ops T ((d, undef) :: e) N R X) : Lt P n S C ops (.take i T) e N R X := by
  intro a w hf hc
  refine ⟨o, undef, hi, .inr ⟨wantE_spec hf hg, rfl⟩, hS w hc, ?_⟩
  rw [hdst]
  exact k _ _ (hf.put (by simpa using hd) undef) hc
theorem Lt.bool {d : Nat} {B : Bool} (h : ∀ b, B = b → Lt P n S C ops T ((d, .bool b) :: e) N R X) : Lt P n S C ops T ((d, .bool B) :: e) N R X := h B rfl
theorem Lt.joint (hS : ∀ w, C w → S w) (h : Lt P n S C ops T e N R X) : Kt n C e (Wt P S ops T N R X) := by
  unfold Kt
  exact fun a w hf hc => ⟨hS w hc, h a w hf hc⟩
theorem Lt.op {i : Nat} (hi : ops[i]? = some o) (h : Ll P n C ops [o] e (Wt P S ops T N R X) R X) (a : Act) (w : World) (hf : Fits n a e) (hc : C w) :
    wpOp P ops (post N R X) i (fun a' w' => S w' ∧ wpOt P ops S (post N R X) T a' w') a w := by
  unfold Ll at h
  have h1 := h a w hf hc
  unfold wpList at h1
  unfold wpOp
  simp only [hi]
  split
  · rename_i hw
    rw [if_pos hw] at h1
    rcases h1 with h1 | ⟨h1, h2⟩
    · exact .inl (Oper.wp_post (fun a' w' hk => hk) h1)
    · exact .inr ⟨h1, h2⟩
  · rename_i hw
    rw [if_neg hw] at h1
    exact h1
theorem Lt.loud {i : Nat} (hi : ops[i]? = some o) (h : Ll P n C ops [o] e (Wt P S ops T N R X) R X) : Lt P n S C ops (.one i T) e N R X := fun a w hf hc => Lt.op hi h a w hf hc
theorem Lt.two {i j : Nat} {o' : Oper} {T' : OT} (hi : ops[i]? = some o) (hj : ops[j]? = some o') (h : Ll P n C ops [o] e (Wt P S ops T N R X) R X) (h' : Ll P n C ops [o'] e (Wt P S ops T' N R X) R X) : Lt P n S C ops (.two i T j T') e N R X :=
  fun a w hf hc => ⟨Lt.op hi h a w hf hc, Lt.op hj h' a w hf hc⟩
attribute [irreducible] Lt Wt
end
end Go.Wk
