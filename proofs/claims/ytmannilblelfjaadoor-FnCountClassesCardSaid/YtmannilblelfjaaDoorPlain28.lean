/-
  REGIONS WHOSE LOUD OPERATIONS COME UP SEVERAL AT ONCE: any number of them; paths that did the same meet again. No program in sight.
-/
import Derived.Test.YtmannilblelfjaaDoorPlain23
namespace Go.Wk
open Go.RowKit
inductive OV where
  | done
  | take (i : Nat) (r : OV)
  | one (i : Nat) (r : OV)
  | alt (i : Nat) (r : OV) (s : OV)
def OV.heads : OV → List Nat
  | .one i _ => [i]
  | .alt i _ s => i :: s.heads
  | _ => []
section
variable {P : Program} {n : Nat} {S C : World → Prop} {N R : Act → World → Prop} {X : List (Nat × (Act → World → Prop))} {e : Env} {ops : Array Oper} {T : OV} {o : Oper} {Q : Exit → Act → World → Prop}
/-- first: is it the head of its alternatives? -/
def ovB (ops : Array Oper) : OV → Nat → Bool → Array Bool → Bool
  | .done, _, first, listed => first && (Region.ready .any ops listed).isEmpty
  | .take i r, k + 1, first, listed => first && ((Region.ready .any ops listed).contains i && (Region.free .any ops listed i && ovB ops r k true (listed.setIfInBounds i true)))
  | .one i r, k + 1, first, listed => (!first || Region.ready .any ops listed == [i]) && ovB ops r k true (listed.setIfInBounds i true)
  | .alt i r s, k + 1, first, listed => (!first || Region.ready .any ops listed == i :: s.heads) && (ovB ops r k true (listed.setIfInBounds i true) && ovB ops s (k + 1) false listed)
  | _, 0, _, _ => false
def wpOv (P : Program) (ops : Array Oper) (S : World → Prop) (Q : Exit → Act → World → Prop) : OV → Act → World → Prop
  | .done, a, w => Q .normal a w
  | .take i r, a, w => ∃ o v, ops[i]? = some o ∧ YieldsIf P ops S o v a ∧ S w ∧ wpOv P ops S Q r (a.put o.dst v) w
  | .one i r, a, w => wpOp P ops Q i (fun a' w' => S w' ∧ wpOv P ops S Q r a' w') a w
  | .alt i r s, a, w => wpOp P ops Q i (fun a' w' => S w' ∧ wpOv P ops S Q r a' w') a w ∧ wpOv P ops S Q s a w
theorem wpAnyH_ov (hs : Region.noSelect ops = true) (hQ : ∀ c a w, ¬ Q (.panic c) a w) : ∀ (T : OV) (k : Nat) (listed : Array Bool) (a : Act) (w : World),
    (ovB ops T k true listed = true → wpOv P ops S Q T a w → wpAnyH P .any ops Q S k listed a w) ∧
    (∀ k', k = k' + 1 → ovB ops T k false listed = true → wpOv P ops S Q T a w → ∀ j ∈ T.heads, wpOp P ops Q j (fun a' w' => S w' ∧ wpAnyH P .any ops Q S k' (listed.setIfInBounds j true) a' w') a w)
  | .done, k, listed, a, w => ⟨fun hB h => by
      cases k <;> (simp only [ovB, Bool.true_and] at hB; exact wpAnyH_done (List.isEmpty_iff.1 hB) h _), fun k' hk hB h j hj => by cases hj⟩
  | .take i r, 0, listed, a, w => ⟨fun hB h => by simp [ovB] at hB, fun k' hk => by cases hk⟩
  | .take i r, k + 1, listed, a, w => ⟨fun hB h => by
      simp only [ovB, Bool.true_and, Bool.and_eq_true] at hB
      obtain ⟨o, v, hi, hy, hS, hr⟩ := h
      exact wpAnyH_take hi hs hB.2.1 hB.1 (fun c a w hq => absurd hq (hQ _ _ _)) hy hS ((wpAnyH_ov hs hQ r k _ _ _).1 hB.2.2 hr), fun k' hk hB h j hj => by cases hj⟩
  | .one i r, 0, listed, a, w => ⟨fun hB h => by simp [ovB] at hB, fun k' hk => by cases hk⟩
  | .one i r, k + 1, listed, a, w => ⟨fun hB h => by
      simp only [ovB, Bool.not_true, Bool.false_or, Bool.and_eq_true, beq_iff_eq] at hB
      refine wpAnyH_all hB.1 (by simp) fun j hj => ?_
      obtain rfl : j = i := by simpa using hj
      exact wpOp_mono (fun a' w' ⟨h1, h2⟩ => ⟨h1, (wpAnyH_ov hs hQ r k _ _ _).1 hB.2 h2⟩) h, fun k' hk hB h j hj => by
      obtain rfl : k = k' := by omega
      simp only [ovB, Bool.not_false, Bool.true_or, Bool.true_and] at hB
      obtain rfl : j = i := by simpa [OV.heads] using hj
      exact wpOp_mono (fun a' w' ⟨h1, h2⟩ => ⟨h1, (wpAnyH_ov hs hQ r k _ _ _).1 hB h2⟩) h⟩
  | .alt i r s, 0, listed, a, w => ⟨fun hB h => by simp [ovB] at hB, fun k' hk => by cases hk⟩
  | .alt i r s, k + 1, listed, a, w => by
    have key : ∀ k', k + 1 = k' + 1 → (ovB ops r k true (listed.setIfInBounds i true) = true ∧ ovB ops s (k + 1) false listed = true) → wpOv P ops S Q (.alt i r s) a w → ∀ j ∈ i :: s.heads, wpOp P ops Q j (fun a' w' => S w' ∧ wpAnyH P .any ops Q S k' (listed.setIfInBounds j true) a' w') a w := fun k' hk hB h j hj => by
      obtain rfl : k = k' := by omega
      rcases List.mem_cons.1 hj with rfl | hj
      · exact wpOp_mono (fun a' w' ⟨h1, h2⟩ => ⟨h1, (wpAnyH_ov hs hQ r k _ _ _).1 hB.1 h2⟩) h.1
      · exact (wpAnyH_ov hs hQ s (k + 1) listed a w).2 k rfl hB.2 h.2 j hj
    exact ⟨fun hB h => by
      simp only [ovB, Bool.not_true, Bool.false_or, Bool.and_eq_true, beq_iff_eq] at hB
      exact wpAnyH_all hB.1 (by simp) fun j hj => key k rfl hB.2 h j hj, fun k' hk hB h j hj => by
      simp only [ovB, Bool.not_false, Bool.true_or, Bool.true_and, Bool.and_eq_true] at hB
      exact key k' hk hB h j hj⟩
def ovOk (ops : Array Oper) (T : OV) : Bool := Region.noSelect ops && ovB ops T ops.size true (Array.replicate ops.size false)
/-! the check, place by place -/
def regOps (id : Nat) : Code → Array Oper
  | .region i ops _ => if i = id then ops else #[]
  | .seq a b => if (regOps id a).isEmpty then regOps id b else regOps id a
  | .cond _ a b => if (regOps id a).isEmpty then regOps id b else regOps id a
  | .block _ c => regOps id c
  | .loop c => regOps id c
  | _ => #[]
def opsOf (id : Nat) : Option Code → Array Oper
  | some c => regOps id c
  | none => #[]
theorem ovB_done {k : Nat} {l : Array Bool} (h : (Region.ready .any ops l).isEmpty = true) : ovB ops .done k true l = true := by unfold ovB; rw [h]; rfl
theorem ovB_take {i k : Nat} {r : OV} {l : Array Bool} (h : ((Region.ready .any ops l).contains i && Region.free .any ops l i) = true) (h1 : ovB ops r k true (l.setIfInBounds i true) = true) : ovB ops (.take i r) (k + 1) true l = true := by
  simp only [Bool.and_eq_true] at h
  unfold ovB; rw [h.1, h.2, h1]; rfl
theorem ovB_one {i k : Nat} {r : OV} {l : Array Bool} (h : (Region.ready .any ops l == [i]) = true) (h1 : ovB ops r k true (l.setIfInBounds i true) = true) : ovB ops (.one i r) (k + 1) true l = true := by
  unfold ovB; rw [h, h1]; rfl
theorem ovB_last {i k : Nat} {r : OV} {l : Array Bool} (h1 : ovB ops r k true (l.setIfInBounds i true) = true) : ovB ops (.one i r) (k + 1) false l = true := by
  unfold ovB; rw [h1]; rfl
theorem ovB_alt {i k : Nat} {r s : OV} {l : Array Bool} (h : (Region.ready .any ops l == i :: s.heads) = true) (h1 : ovB ops r k true (l.setIfInBounds i true) = true) (h2 : ovB ops s (k + 1) false l = true) : ovB ops (.alt i r s) (k + 1) true l = true := by
  unfold ovB; rw [h, h1, h2]; rfl
theorem ovB_next {i k : Nat} {r s : OV} {l : Array Bool} (h1 : ovB ops r k true (l.setIfInBounds i true) = true) (h2 : ovB ops s (k + 1) false l = true) : ovB ops (.alt i r s) (k + 1) false l = true := by
  unfold ovB; rw [h1, h2]; rfl
theorem ovB_at {k : Nat} {T : OV} {l l' : Array Bool} (h : l = l') (h1 : ovB ops T k true l' = true) : ovB ops T k true l = true := by rw [h]; exact h1
theorem ovOk_at {ops' : Array Oper} {T : OV} {k : Nat} {l : Array Bool} (h : ops = ops') (hn : Region.noSelect ops' = true) (hk : ops'.size = k) (hl : Array.replicate k false = l) (hB : ovB ops' T k true l = true) : ovOk ops T = true := by
  subst h
  unfold ovOk
  rw [hn, hk, hl, hB]; rfl
/-- the walk in those orders -/
def Lv (P : Program) (n : Nat) (S C : World → Prop) (ops : Array Oper) (T : OV) (e : Env) (N R : Act → World → Prop) (X : List (Nat × (Act → World → Prop))) : Prop :=
  ∀ a w, Fits n a e → C w → wpOv P ops S (post N R X) T a w
def Wv (P : Program) (S : World → Prop) (ops : Array Oper) (T : OV) (N R : Act → World → Prop) (X : List (Nat × (Act → World → Prop))) : Act → World → Prop :=
  fun a w => S w ∧ wpOv P ops S (post N R X) T a w
theorem Wk.regionV {id : Nat} (T : OV) (hm : P.follows .mixedOrders = true) (hd : ∀ w, C w → C { w with drawn := w.drawn + 1 }) (hB : ovOk ops T = true) (h : Lv P n S C ops T e N R X) :
    Wk P n C (.region id ops true) N R X e := by
  unfold Wk
  unfold Lv at h
  intro a w hf hc
  simp only [ovOk, Bool.and_eq_true] at hB
  refine wp_region_held (S := S) hm ?_
  exact (wpAnyH_ov hB.1 (fun c a w h => h) T _ _ _ _).1 hB.2 (h a _ hf (hd w hc))
theorem Lv.nil (h : Kt n C e N) : Lv P n S C ops .done e N R X := by
  unfold Kt at h
  exact fun a w hf hc => h a w hf hc
theorem Lv.take {i d : Nat} {v : Value} (hi : ops[i]? = some o) (hd : Nat.blt d n = true) (hdst : o.dst = some d) (hg : wantE ops e o.guard = some true) (hv : valueOp o = true) (q : OpQ P n S e o v) (hS : ∀ w, C w → S w)
    (k : Lv P n S C ops T ((d, v) :: e) N R X) : Lv P n S C ops (.take i T) e N R X := by
  intro a w hf hc
  refine ⟨o, v, hi, .inl ⟨wantE_spec hf hg, fun w1 hw1 => ?_⟩, hS w hc, ?_⟩
  · unfold OpQ at q
    have h1 := q a hf w1 hw1
    unfold Oper.quietAt at h1
    cases hr : (execOp a.eval o).run P w1 with
    | ok x w' =>
      obtain ⟨u, rfl⟩ := valueOp_run hv hr
      rw [hr] at h1
      obtain ⟨rfl, rfl⟩ := h1
      rfl
    | halt x w' => rw [hr] at h1; exact h1.elim
  · rw [hdst]
    exact k _ _ (hf.put (by simpa using hd) v) hc
theorem Lv.pass {i d : Nat} (hi : ops[i]? = some o) (hd : Nat.blt d n = true) (hdst : o.dst = some d) (hg : wantE ops e o.guard = some false) (hS : ∀ w, C w → S w)
    (k : Lv P n S C ops T ((d, undef) :: e) N R X) : Lv P n S C ops (.take i T) e N R X := by
  intro a w hf hc
  refine ⟨o, undef, hi, .inr ⟨wantE_spec hf hg, rfl⟩, hS w hc, ?_⟩
  rw [hdst]
  exact k _ _ (hf.put (by simpa using hd) undef) hc
theorem Lv.bool {d : Nat} {B : Bool} (h : ∀ b, B = b → Lv P n S C ops T ((d, .bool b) :: e) N R X) : Lv P n S C ops T ((d, .bool B) :: e) N R X := h B rfl
theorem Lv.joint (hS : ∀ w, C w → S w) (h : Lv P n S C ops T e N R X) : Kt n C e (Wv P S ops T N R X) := by
  unfold Kt
  exact fun a w hf hc => ⟨hS w hc, h a w hf hc⟩
theorem Lv.op {i : Nat} (hi : ops[i]? = some o) (h : Ll P n C ops [o] e (Wv P S ops T N R X) R X) (a : Act) (w : World) (hf : Fits n a e) (hc : C w) :
    wpOp P ops (post N R X) i (fun a' w' => S w' ∧ wpOv P ops S (post N R X) T a' w') a w := by
  unfold Ll at h
  have h1 := h a w hf hc
  unfold wpList at h1
  unfold wpOp
  simp only [hi]
  split
  · rename_i hw
    rw [if_pos hw] at h1
    rcases h1 with h1 | ⟨h1, h2⟩
    · exact .inl (Oper.wp_post (fun a' w' hk => hk) h1)
    · exact .inr ⟨h1, h2⟩
  · rename_i hw
    rw [if_neg hw] at h1
    exact h1
theorem Lv.loud {i : Nat} (hi : ops[i]? = some o) (h : Ll P n C ops [o] e (Wv P S ops T N R X) R X) : Lv P n S C ops (.one i T) e N R X := fun a w hf hc => Lv.op hi h a w hf hc
theorem Lv.alt {i : Nat} {T' : OV} (hi : ops[i]? = some o) (h : Ll P n C ops [o] e (Wv P S ops T N R X) R X) (h' : Lv P n S C ops T' e N R X) : Lv P n S C ops (.alt i T T') e N R X :=
  fun a w hf hc => ⟨Lv.op hi h a w hf hc, h' a w hf hc⟩
/-- a place that several paths reach is walked from once -/
theorem Lv.share {σ : Type} (T' : OV) (ok : σ → Prop) (I : σ → Env) (D : σ → World → Prop) (h : ∀ s, ok s → Lv P n S (D s) ops T' (I s) N R X)
    (k : (∀ s, ok s → Lv P n S (D s) ops T' (I s) N R X) → Lv P n S C ops T e N R X) : Lv P n S C ops T e N R X := k h
theorem Lv.to {e' : Env} {D : World → Prop} (h : Lv P n S D ops T e' N R X) (hs : Sub e' e) (hc : ∀ w, C w → D w) : Lv P n S C ops T e N R X :=
  fun a w hf hw => h a w (hf.sub hs) (hc w hw)
/-- operations that their guard leaves out, in whatever order, up to a place -/
def OV.same : OV → OV → Bool
  | .done, .done => true
  | .take i r, .take j t => i == j && r.same t
  | .one i r, .one j t => i == j && r.same t
  | .alt i r s, .alt j t u => i == j && (r.same t && s.same u)
  | _, _ => false
theorem OV.same_eq : ∀ {T T' : OV}, T.same T' = true → T = T'
  | .done, .done, _ => rfl
  | .take i r, .take j t, h => by simp only [OV.same, Bool.and_eq_true, beq_iff_eq] at h; rw [h.1, OV.same_eq h.2]
  | .one i r, .one j t, h => by simp only [OV.same, Bool.and_eq_true, beq_iff_eq] at h; rw [h.1, OV.same_eq h.2]
  | .alt i r s, .alt j t u, h => by simp only [OV.same, Bool.and_eq_true, beq_iff_eq] at h; rw [h.1, OV.same_eq h.2.1, OV.same_eq h.2.2]
  | .done, .take .., h | .done, .one .., h | .done, .alt .., h | .take .., .done, h | .take .., .one .., h | .take .., .alt .., h | .one .., .done, h | .one .., .take .., h | .one .., .alt .., h | .alt .., .done, h | .alt .., .take .., h | .alt .., .one .., h => by simp [OV.same] at h
def leftB (n : Nat) (ops : Array Oper) (e : Env) (i : Nat) : Bool :=
  match ops[i]? with
  | some o => (wantE ops e o.guard == some false) && (match o.dst with | some d => Nat.blt d n && (e.lookup d).isNone | none => false)
  | none => false
def leftTo (n : Nat) (ops : Array Oper) (e : Env) (T' : OV) : OV → Bool
  | .done => OV.same .done T'
  | .take i r => OV.same (.take i r) T' || (leftB n ops e i && leftTo n ops e T' r)
  | .one i r => OV.same (.one i r) T' || (leftB n ops e i && leftTo n ops e T' r)
  | .alt i r s => OV.same (.alt i r s) T' || (leftB n ops e i && (leftTo n ops e T' r && leftTo n ops e T' s))
theorem leftB_at {i : Nat} (h : leftB n ops e i = true) : ∃ o d, ops[i]? = some o ∧ wantE ops e o.guard = some false ∧ o.dst = some d ∧ Nat.blt d n = true ∧ e.lookup d = none := by
  unfold leftB at h
  cases ho : ops[i]? with
  | none => rw [ho] at h; cases h
  | some o =>
    rw [ho] at h
    simp only [Bool.and_eq_true, beq_iff_eq] at h
    cases hd : o.dst with
    | none => rw [hd] at h; exact absurd h.2 (by simp)
    | some d =>
      rw [hd] at h
      simp only [Bool.and_eq_true, Option.isNone_iff_eq_none] at h
      exact ⟨o, d, rfl, h.1, hd, h.2.1, h.2.2⟩
theorem sub_new {d : Nat} {v : Value} (h : e.lookup d = none) : Sub e ((d, v) :: e) := fun t u ht => by
  rw [List.lookup_cons]
  by_cases h1 : t = d
  · subst h1; rw [h] at ht; cases ht
  · simp [beq_eq_false_iff_ne.2 h1, ht]
theorem Lv.left_ (T' : OV) (hS : ∀ w, C w → S w) (k : Lv P n S C ops T' e N R X) : ∀ T : OV, leftTo n ops e T' T = true → Lv P n S C ops T e N R X
  | .done, h => by unfold leftTo at h; rw [OV.same_eq h]; exact k
  | .take i r, h => by
    simp only [leftTo, Bool.or_eq_true, Bool.and_eq_true] at h
    rcases h with h | h
    · rw [OV.same_eq h]; exact k
    · obtain ⟨o, d, hi, hg, hd, hb, hn⟩ := leftB_at h.1
      exact Lv.pass hi hb hd hg hS ((Lv.left_ T' hS k r h.2).to (sub_new hn) (fun _ h => h))
  | .one i r, h => by
    simp only [leftTo, Bool.or_eq_true, Bool.and_eq_true] at h
    rcases h with h | h
    · rw [OV.same_eq h]; exact k
    · obtain ⟨o, d, hi, hg, hd, hb, hn⟩ := leftB_at h.1
      exact Lv.loud hi (Ll.pass hb hd hg (Ll.nil (Lv.joint hS ((Lv.left_ T' hS k r h.2).to (sub_new hn) (fun _ h => h)))))
  | .alt i r s, h => by
    simp only [leftTo, Bool.or_eq_true, Bool.and_eq_true] at h
    rcases h with h | h
    · rw [OV.same_eq h]; exact k
    · obtain ⟨o, d, hi, hg, hd, hb, hn⟩ := leftB_at h.1
      exact Lv.alt hi (Ll.pass hb hd hg (Ll.nil (Lv.joint hS ((Lv.left_ T' hS k r h.2.1).to (sub_new hn) (fun _ h => h))))) (Lv.left_ T' hS k s h.2.2)
theorem Lv.left {T : OV} (T' : OV) (h : leftTo n ops e T' T = true) (hS : ∀ w, C w → S w) (k : Lv P n S C ops T' e N R X) : Lv P n S C ops T e N R X := Lv.left_ T' hS k T h
attribute [irreducible] Lv Wv
end
section
variable {B : Nat} {w0 w : World} {hs hs' tl : List (Nat × Obj)}
theorem Own.pickT (h : Own B w0 (hs ++ tl) w) (f : List Nat) (hf : f.mapM (fun j => hs[j]?) = some hs') (hn : f.Nodup) : Own B w0 (hs' ++ tl) w := by
  have h1 : Own B w0 hs w := h.sub (List.sublist_append_left hs tl)
  have h2 := h1.pick f hf hn
  have hm : ∀ x ∈ hs', x ∈ hs := fun x hx => by
    obtain ⟨i, hi, hx⟩ := List.mem_iff_getElem.1 hx
    obtain ⟨k, _, hk⟩ := pick_at f hs' hf i _ (by rw [List.getElem?_eq_getElem hi])
    rw [hx] at hk
    exact List.mem_of_getElem? hk
  have h3 := h.nodup
  rw [List.map_append, List.nodup_append] at h3
  refine Own.of_mem h.below h.base (fun x hx => h.mem ?_) ?_
  · rcases List.mem_append.1 hx with hx | hx
    · exact List.mem_append_left _ (hm x hx)
    · exact List.mem_append_right _ hx
  · rw [List.map_append, List.nodup_append]
    refine ⟨h2.nodup, h3.2.1, fun a ha b hb => ?_⟩
    obtain ⟨x, hx, rfl⟩ := List.mem_map.1 ha
    exact h3.2.2 _ (List.mem_map.2 ⟨x, hm x hx, rfl⟩) b hb
end
end Go.Wk
