/-
  SMALL LAWS OF THE DRAWS. No program in sight.
-/
import Derived.Test.YtmannilblelfjaaDoorPlain22
namespace Go.Wk
open Go.RowKit

/-! ### three loud operations at once -/
inductive OU where
  | done
  | take (i : Nat) (r : OU)
  | one (i : Nat) (r : OU)
  | two (i : Nat) (r : OU) (j : Nat) (s : OU)
  | three (i : Nat) (r : OU) (j : Nat) (s : OU) (k : Nat) (t : OU)
section
variable {P : Program} {n : Nat} {S C : World → Prop} {N R : Act → World → Prop} {X : List (Nat × (Act → World → Prop))} {e : Env} {ops : Array Oper} {T : OU} {o : Oper} {Q : Exit → Act → World → Prop}
def ouB (ops : Array Oper) : Nat → OU → Array Bool → Bool
  | _, .done, listed => (Region.ready .any ops listed).isEmpty
  | k + 1, .take i r, listed => (Region.ready .any ops listed).contains i && Region.free .any ops listed i && ouB ops k r (listed.setIfInBounds i true)
  | k + 1, .one i r, listed => (Region.ready .any ops listed == [i]) && ouB ops k r (listed.setIfInBounds i true)
  | k + 1, .two i r j s, listed => (Region.ready .any ops listed == [i, j]) && ouB ops k r (listed.setIfInBounds i true) && ouB ops k s (listed.setIfInBounds j true)
  | k + 1, .three i r j s m t, listed => (Region.ready .any ops listed == [i, j, m]) && ouB ops k r (listed.setIfInBounds i true) && ouB ops k s (listed.setIfInBounds j true) && ouB ops k t (listed.setIfInBounds m true)
  | 0, _, _ => false
def wpOu (P : Program) (ops : Array Oper) (S : World → Prop) (Q : Exit → Act → World → Prop) : OU → Act → World → Prop
  | .done, a, w => Q .normal a w
  | .take i r, a, w => ∃ o v, ops[i]? = some o ∧ YieldsIf P ops S o v a ∧ S w ∧ wpOu P ops S Q r (a.put o.dst v) w
  | .one i r, a, w => wpOp P ops Q i (fun a' w' => S w' ∧ wpOu P ops S Q r a' w') a w
  | .two i r j s, a, w => wpOp P ops Q i (fun a' w' => S w' ∧ wpOu P ops S Q r a' w') a w ∧ wpOp P ops Q j (fun a' w' => S w' ∧ wpOu P ops S Q s a' w') a w
  | .three i r j s m t, a, w => wpOp P ops Q i (fun a' w' => S w' ∧ wpOu P ops S Q r a' w') a w ∧ wpOp P ops Q j (fun a' w' => S w' ∧ wpOu P ops S Q s a' w') a w ∧ wpOp P ops Q m (fun a' w' => S w' ∧ wpOu P ops S Q t a' w') a w
theorem wpAnyH_ou (hs : Region.noSelect ops = true) (hQ : ∀ c a w, ¬ Q (.panic c) a w) : ∀ (k : Nat) (T : OU) (listed : Array Bool) (a : Act) (w : World), ouB ops k T listed = true → wpOu P ops S Q T a w → wpAnyH P .any ops Q S k listed a w
  | _, .done, listed, a, w, hB, h => by unfold ouB at hB; exact wpAnyH_done (List.isEmpty_iff.1 hB) h _
  | k + 1, .take i r, listed, a, w, hB, h => by
    simp only [ouB, Bool.and_eq_true] at hB
    obtain ⟨o, v, hi, hy, hS, hr⟩ := h
    exact wpAnyH_take hi hs hB.1.2 hB.1.1 (fun c a w hq => absurd hq (hQ _ _ _)) hy hS (wpAnyH_ou hs hQ k r _ _ _ hB.2 hr)
  | k + 1, .one i r, listed, a, w, hB, h => by
    simp only [ouB, Bool.and_eq_true, beq_iff_eq] at hB
    refine wpAnyH_all hB.1 (by simp) fun j hj => ?_
    obtain rfl : j = i := by simpa using hj
    exact wpOp_mono (fun a' w' ⟨h1, h2⟩ => ⟨h1, wpAnyH_ou hs hQ k r _ _ _ hB.2 h2⟩) h
  | k + 1, .two i r j s, listed, a, w, hB, h => by
    simp only [ouB, Bool.and_eq_true, beq_iff_eq] at hB
    refine wpAnyH_all hB.1.1 (by simp) fun m hm => ?_
    have hm' : m = i ∨ m = j := by simpa using hm
    rcases hm' with rfl | rfl
    · exact wpOp_mono (fun a' w' ⟨h1, h2⟩ => ⟨h1, wpAnyH_ou hs hQ k r _ _ _ hB.1.2 h2⟩) h.1
    · exact wpOp_mono (fun a' w' ⟨h1, h2⟩ => ⟨h1, wpAnyH_ou hs hQ k s _ _ _ hB.2 h2⟩) h.2
  | k + 1, .three i r j s m t, listed, a, w, hB, h => by
    simp only [ouB, Bool.and_eq_true, beq_iff_eq] at hB
    refine wpAnyH_all hB.1.1.1 (by simp) fun q hq => ?_
    have hq' : q = i ∨ q = j ∨ q = m := by simpa using hq
    rcases hq' with rfl | rfl | rfl
    · exact wpOp_mono (fun a' w' ⟨h1, h2⟩ => ⟨h1, wpAnyH_ou hs hQ k r _ _ _ hB.1.1.2 h2⟩) h.1
    · exact wpOp_mono (fun a' w' ⟨h1, h2⟩ => ⟨h1, wpAnyH_ou hs hQ k s _ _ _ hB.1.2 h2⟩) h.2.1
    · exact wpOp_mono (fun a' w' ⟨h1, h2⟩ => ⟨h1, wpAnyH_ou hs hQ k t _ _ _ hB.2 h2⟩) h.2.2
  | 0, .take i r, listed, a, w, hB, h => by simp [ouB] at hB
  | 0, .one i r, listed, a, w, hB, h => by simp [ouB] at hB
  | 0, .two i r j s, listed, a, w, hB, h => by simp [ouB] at hB
  | 0, .three i r j s m t, listed, a, w, hB, h => by simp [ouB] at hB
def ouOk (ops : Array Oper) (T : OU) : Bool := Region.noSelect ops && ouB ops ops.size T (Array.replicate ops.size false)
/-- the walk in those orders -/
def Lu (P : Program) (n : Nat) (S C : World → Prop) (ops : Array Oper) (T : OU) (e : Env) (N R : Act → World → Prop) (X : List (Nat × (Act → World → Prop))) : Prop :=
  ∀ a w, Fits n a e → C w → wpOu P ops S (post N R X) T a w
def Wu (P : Program) (S : World → Prop) (ops : Array Oper) (T : OU) (N R : Act → World → Prop) (X : List (Nat × (Act → World → Prop))) : Act → World → Prop :=
  fun a w => S w ∧ wpOu P ops S (post N R X) T a w
theorem Wk.regionU {id : Nat} (T : OU) (hm : P.follows .mixedOrders = true) (hd : ∀ w, C w → C { w with drawn := w.drawn + 1 }) (hB : ouOk ops T = true) (h : Lu P n S C ops T e N R X) :
    Wk P n C (.region id ops true) N R X e := by
  unfold Wk
  unfold Lu at h
  intro a w hf hc
  simp only [ouOk, Bool.and_eq_true] at hB
  refine wp_region_held (S := S) hm ?_
  exact wpAnyH_ou hB.1 (fun c a w h => h) _ T _ _ _ hB.2 (h a _ hf (hd w hc))
theorem Lu.nil (h : Kt n C e N) : Lu P n S C ops .done e N R X := by
  unfold Kt at h
  exact fun a w hf hc => h a w hf hc
theorem Lu.take {i d : Nat} {v : Value} (hi : ops[i]? = some o) (hd : Nat.blt d n = true) (hdst : o.dst = some d) (hg : wantE ops e o.guard = some true) (hv : valueOp o = true) (q : OpQ P n S e o v) (hS : ∀ w, C w → S w)
    (k : Lu P n S C ops T ((d, v) :: e) N R X) : Lu P n S C ops (.take i T) e N R X := by
  intro a w hf hc
  refine ⟨o, v, hi, .inl ⟨wantE_spec hf hg, fun w1 hw1 => ?_⟩, hS w hc, ?_⟩
  · unfold OpQ at q
    have h1 := q a hf w1 hw1
    unfold Oper.quietAt at h1
    cases hr : (execOp a.eval o).run P w1 with
    | ok x w' =>
      obtain ⟨u, rfl⟩ := valueOp_run hv hr
      rw [hr] at h1
      obtain ⟨rfl, rfl⟩ := h1
      rfl
    | halt x w' => rw [hr] at h1; exact h1.elim
  · rw [hdst]
    exact k _ _ (hf.put (by simpa using hd) v) hc
theorem Lu.pass {i d : Nat} (hi : ops[i]? = some o) (hd : Nat.blt d n = true) (hdst : o.dst = some d) (hg : wantE ops e o.guard = some false) (hS : ∀ w, C w → S w)
    (k : Lu P n S C ops T ((d, undef) :: e) N R X) : Lu P n S C ops (.take i T) e N R X := by
  intro a w hf hc
  refine ⟨o, undef, hi, .inr ⟨wantE_spec hf hg, rfl⟩, hS w hc, ?_⟩
  rw [hdst]
  exact k _ _ (hf.put (by simpa using hd) undef) hc
theorem Lu.bool {d : Nat} {B : Bool} (h : ∀ b, B = b → Lu P n S C ops T ((d, .bool b) :: e) N R X) : Lu P n S C ops T ((d, .bool B) :: e) N R X := h B rfl
theorem Lu.joint (hS : ∀ w, C w → S w) (h : Lu P n S C ops T e N R X) : Kt n C e (Wu P S ops T N R X) := by
  unfold Kt
  exact fun a w hf hc => ⟨hS w hc, h a w hf hc⟩
theorem Lu.op {i : Nat} (hi : ops[i]? = some o) (h : Ll P n C ops [o] e (Wu P S ops T N R X) R X) (a : Act) (w : World) (hf : Fits n a e) (hc : C w) :
    wpOp P ops (post N R X) i (fun a' w' => S w' ∧ wpOu P ops S (post N R X) T a' w') a w := by
  unfold Ll at h
  have h1 := h a w hf hc
  unfold wpList at h1
  unfold wpOp
  simp only [hi]
  split
  · rename_i hw
    rw [if_pos hw] at h1
    rcases h1 with h1 | ⟨h1, h2⟩
    · exact .inl (Oper.wp_post (fun a' w' hk => hk) h1)
    · exact .inr ⟨h1, h2⟩
  · rename_i hw
    rw [if_neg hw] at h1
    exact h1
theorem Lu.loud {i : Nat} (hi : ops[i]? = some o) (h : Ll P n C ops [o] e (Wu P S ops T N R X) R X) : Lu P n S C ops (.one i T) e N R X := fun a w hf hc => Lu.op hi h a w hf hc
theorem Lu.two {i j : Nat} {o' : Oper} {T' : OU} (hi : ops[i]? = some o) (hj : ops[j]? = some o') (h : Ll P n C ops [o] e (Wu P S ops T N R X) R X) (h' : Ll P n C ops [o'] e (Wu P S ops T' N R X) R X) : Lu P n S C ops (.two i T j T') e N R X :=
  fun a w hf hc => ⟨Lu.op hi h a w hf hc, Lu.op hj h' a w hf hc⟩
theorem Lu.three {i j m : Nat} {o' o2 : Oper} {T' T2 : OU} (hi : ops[i]? = some o) (hj : ops[j]? = some o') (hm : ops[m]? = some o2) (h : Ll P n C ops [o] e (Wu P S ops T N R X) R X) (h' : Ll P n C ops [o'] e (Wu P S ops T' N R X) R X) (h2 : Ll P n C ops [o2] e (Wu P S ops T2 N R X) R X) : Lu P n S C ops (.three i T j T' m T2) e N R X :=
  fun a w hf hc => ⟨Lu.op hi h a w hf hc, Lu.op hj h' a w hf hc, Lu.op hm h2 a w hf hc⟩
attribute [irreducible] Lu Wu
end
/-! ### paths that meet again -/
def Joined {σ : Type} (n : Nat) (ok : σ → Prop) (I : σ → Env) (D : σ → World → Prop) : Act → World → Prop := fun a w => ∃ s, ok s ∧ Fits n a (I s) ∧ D s w
section
variable {P : Program} {n : Nat} {C : World → Prop} {N R : Act → World → Prop} {X : List (Nat × (Act → World → Prop))} {e : Env} {σ : Type} {ok : σ → Prop} {I : σ → Env} {D : σ → World → Prop}
theorem Wk.join {c : Code} (ok : σ → Prop) (I : σ → Env) (D : σ → World → Prop) (h : Wk P n C c (Joined n ok I D) R X e) (k : ∀ s, ok s → Kt n (D s) (I s) N) : Wk P n C c N R X e := by
  unfold Wk at h ⊢
  intro a w hf hc
  refine wp_mono (h a w hf hc) fun e a w hh => ?_
  cases e with
  | normal =>
    obtain ⟨s, h1, h2, h3⟩ := hh
    have := k s h1
    unfold Kt at this
    exact this a w h2 h3
  | _ => first | exact hh | exact hh.elim
theorem Kt.joined (s : σ) (h0 : ok s) (hs : Sub (I s) e) (hd : ∀ w, C w → D s w) : Kt n C e (Joined n ok I D) := by
  unfold Kt
  exact fun a w hf hc => ⟨s, h0, hf.sub hs, hd w hc⟩
attribute [irreducible] Joined
end
theorem many_half {m : Int} {i : Nat} (h0 : 0 ≤ m) (h : m.toNat * 2 ^ i ≤ 100) : (m / 2).toNat * 2 ^ (i + 1) ≤ 100 := by
  rw [Nat.pow_succ, Nat.mul_comm (2 ^ i) 2, ← Nat.mul_assoc]
  exact Nat.le_trans (Nat.mul_le_mul_right _ (by omega)) h
theorem many_more {m : Int} {i : Nat} (h : m.toNat * 2 ^ i ≤ 100) (h0 : 0 < m) : i + 1 ≤ 7 := by
  rcases Nat.lt_or_ge i 7 with h1 | h1
  · omega
  · have h2 : 2 ^ 7 ≤ 2 ^ i := Nat.pow_le_pow_right (by decide) h1
    have h3 : 1 * 2 ^ i ≤ m.toNat * 2 ^ i := Nat.mul_le_mul_right _ (by omega)
    omega
def dropOff (i cap : Nat) : Nat := if i = cap then 0 else i
section
variable {P : Program} {n : Nat} {C : World → Prop} {B : Nat} {w0 : World} {hs : List (Nat × Obj)} {e : Env} {o : Oper}
theorem OpQ.dropE {t el : TypeId} {x y : Operand} {g len cap : Nat} {i : Int} {k : IntKind} (h : o.op = .slice t x (some y) none none) (hu : ∀ w, (underlying t).run P w = .ok (.slice el) w) (hz : ∀ w, (sizeOf el).run P w = .ok 1 w) (hx : opd e x = some (.slice (some ⟨g, 0, none⟩) len cap)) (hy : opd e y = some (.int k i))
    (h0 : 0 ≤ i) (h1 : i ≤ len) (_h3 : i ≤ cap) : OpQ P n C e o (.slice (some ⟨g, dropOff i.toNat cap, none⟩) (len - i.toNat) (cap - i.toNat)) := OpQ.val fun a hF w => by
  unfold execOp; rw [h]; simp only [hF.opd hx, Option.map_some, Option.map_none, hF.opd hy]
  have hi : 0 ≤ i ∧ i ≤ (len : Int) := ⟨h0, h1⟩
  simp only [Instr.sliceAt, Instr.slice, Instr.sliceBounds, Instr.sliceBound, asIntOf, Sem.run_bind, Sem.run_pure, hu, hz, Result.andThen, if_pos hi]
  unfold dropOff
  by_cases e1 : i.toNat = cap
  · rw [if_pos e1.symm, if_pos e1]
  · rw [if_neg (fun e2 => e1 e2.symm), if_neg e1]
    simp [Addr.add]; omega
theorem Own.rowDropE {w : World} (h : Own B w0 hs w) {i p : Nat} {cs : Array Value} {T : TypeId} {fr : Nat × Nat} (hi : hs[i]? = some (p, .cells cs T fr)) {xs : List Int} {L k cap : Nat} (ht : cs.toList.take L = ints xs) (hk : k ≤ xs.length) (hc : xs.length ≤ cap) :
    Ints w (.slice (some ⟨p, dropOff k cap, none⟩) (xs.length - k) (cap - k)) (xs.drop k) := by
  unfold dropOff
  split
  · rename_i e1
    have e2 : xs.drop k = [] := List.drop_eq_nil_of_le (by omega)
    rw [e2, show xs.length - k = 0 from by omega]
    exact ⟨some ⟨p, 0, none⟩, cap - k, rfl, Nat.zero_le _, fun h => (by cases h), fun ad had => ⟨by injection had with had; subst had; rfl, fun j u hj => by simp [ints] at hj⟩⟩
  · exact Own.rowDrop h hi ht hk hc
end
/-! ### a text's bytes, turned -/
def byts (s : List UInt8) : List Int := s.map fun c => (c.toNat : Int)
def u8of (V : List Int) : List UInt8 := V.map fun x => UInt8.ofNat x.toNat
theorem byts_8 (s : List UInt8) : Bytes8 (byts s) := fun x hx => by
  obtain ⟨c, _, rfl⟩ := List.mem_map.1 hx
  have := UInt8.toNat_lt c
  omega
theorem Bytes8.set {L : List Int} (h : Bytes8 L) {i : Nat} {x : Int} (h0 : 0 ≤ x) (h1 : x ≤ 255) : Bytes8 (L.set i x) := fun y hy => by
  rcases List.mem_or_eq_of_mem_set hy with h2 | h2
  · exact h y h2
  · omega
theorem u8s_set (L : List Int) (i : Nat) (x : Int) : (u8s L).set i (.int .u8 x) = u8s (L.set i x) := by simp [u8s, List.map_set]
theorem u8s_at {c : List Int} {off : Nat} (h : off < c.length) : (u8s c)[off]? = some (.int .u8 (c.getD off 0)) := by
  simp [u8s, List.getD_eq_getElem?_getD, h]
theorem set_takeU {cur : Array Value} {n off : Nat} {xs : List Int} {x : Int} (ht : cur.toList.take n = u8s xs) : (cur.setIfInBounds off (.int .u8 x)).toList.take n = u8s (xs.set off x) := by
  rw [Array.toList_setIfInBounds, List.take_set, ht]
  simp [u8s, List.map_set]
@[simp] theorem byts_length (s : List UInt8) : (byts s).length = s.length := by simp [byts]
@[simp] theorem u8of_length (V : List Int) : (u8of V).length = V.length := by simp [u8of]
theorem wrap8 (x : Int) : 0 ≤ IntKind.u8.wrap x ∧ IntKind.u8.wrap x ≤ 255 := by rw [IntKind.wrap_u8]; omega
section
variable {P : Program} {n : Nat} {C : World → Prop} {B : Nat} {w0 : World} {hs hs' : List (Nat × Obj)} {e : Env} {o : Oper} {N R : Act → World → Prop} {X : List (Nat × (Act → World → Prop))} {ops : Array Oper} {l : List Oper}
theorem Ll.strBytes {d src dst el : Nat} {x : Operand} {s : List UInt8} (hd : Nat.blt d n = true) (hdst : o.dst = some d) (hg : wantE ops e o.guard = some true) (h : o.op = .convert src dst x) (hs1 : P.underlying src = some .string) (hd1 : P.underlying dst = some (.slice el)) (he : P.underlying el = some (.int .u8)) (hx : opd e x = some (str s))
    (k : ∀ (g cap : Nat) (cur : Array Value), B ≤ g → s.length ≤ cur.size → cur.toList.take s.length = u8s (byts s) → Ll P n (Own B w0 ((g, .cells cur el (cur.size, cur.size + 1)) :: hs)) ops l ((d, .slice (some ⟨g, 0, none⟩) s.length cap) :: e) N R X) : Ll P n (Own B w0 hs) ops (o :: l) e N R X :=
  Ll.turn hd hdst hg fun a w hF hw => by
    refine ⟨.slice (some ⟨w.heap.size, 0, none⟩) s.length (grownCap w s.length 0 el), w.drew.alloc (.cells (bytesRow ⟨⟨s⟩⟩ (grownCap w s.length 0 el)) el ((bytesRow ⟨⟨s⟩⟩ (grownCap w s.length 0 el)).size, (bytesRow ⟨⟨s⟩⟩ (grownCap w s.length 0 el)).size + 1)), ?_, fun a' ha => ?_⟩
    · unfold execOp; rw [h]; simp only [hF.opd hx, str, Sem.run_bind]
      rw [run_bytes_of_string w src dst el ⟨⟨s⟩⟩ hs1 hd1 he]
      rfl
    · have := k w.heap.size (grownCap w s.length 0 el) (bytesRow ⟨⟨s⟩⟩ (grownCap w s.length 0 el)) hw.base (by
        simp only [bytesRow, Array.size_append, Array.size_map, List.size_toArray]; omega) (by
        simp only [bytesRow, Array.toList_append, Array.toList_map]
        rw [List.take_left' (by simp)]
        simp [u8s, byts])
      unfold Ll at this
      exact this a' _ ha (hw.drew.alloc _)
theorem Ll.storeFr {t p off : Nat} {x y : Operand} {v : Value} {cs : Array Value} {T : TypeId} {fr : Nat × Nat} (i : Nat) (hdst : o.dst = none) (hg : wantE ops e o.guard = some true) (h : o.op = .store t x y)
    (hx : opd e x = some (.pointer (some ⟨p, off, none⟩))) (hy : opd e y = some v) (hv : v.oneCell' = true) (hsz : ∀ w, (sizeOf t).run P w = .ok 1 w) (hi : hs[i]? = some (p, .cells cs T fr)) (hoff : off < cs.size) (hfr : off < fr.1)
    (k : Ll P n (Own B w0 (hs.set i (p, .cells (cs.setIfInBounds off v) T fr))) ops l e N R X) : Ll P n (Own B w0 hs) ops (o :: l) e N R X :=
  Ll.turnN hdst hg fun a w hF hw => ⟨w.setCell ⟨p, off, none⟩ v, by
    unfold execOp; rw [h]; simp only [hF.opd hx, hF.opd hy]
    have hc : v.cells = #[v] := by cases v <;> first | rfl | (simp [Value.oneCell'] at hv)
    have hcell := hw.cell hi off
    rw [Array.getElem?_eq_getElem hoff] at hcell
    have hfro : w.frozen? ⟨p, off, none⟩ = false := by
      obtain ⟨f1, f2⟩ := fr
      simp only [World.frozen?, (hw.has i p _ hi).2]
      simp only [Bool.and_eq_false_iff, decide_eq_false_iff_not]
      left; omega
    simp only [Instr.storeAt, Instr.sureAddr, storeVar, hc, Sem.run_bind, Sem.run_pure, hsz, Result.andThen, List.size_toArray, List.length_cons, List.length_nil, Nat.zero_add, ne_eq, not_true_eq_false, if_false, storeCells, Addr.add_zero', run_store P w _ v _ hv, hcell, hfro]
    rfl,
    fun a' ha => by
      unfold Ll at k
      exact k a' _ ha (hw.set hi off v)⟩
theorem OpQ.subU8 {t t' : TypeId} {x y : Operand} {i j : Int} (h : o.op = .binOp .sub t x y t') (hx : opd e x = some (.int .u8 i)) (hy : opd e y = some (.int .u8 j)) : OpQ P n C e o (.int .u8 (IntKind.u8.wrap (i - j))) := OpQ.val fun a hf w => by
  unfold execOp; rw [h]; simp only [hf.opd hx, hf.opd hy]; simp [go_sem]
theorem u8of_at {V : List Int} (h : Bytes8 V) : byts (u8of V) = V := by
  unfold byts u8of
  rw [List.map_map]
  conv => rhs; rw [← List.map_id V]
  refine List.map_congr_left fun x hx => ?_
  have := h x hx
  simp only [Function.comp, UInt8.toNat_ofNat', id]
  omega
theorem OpQ.bytesStr {src dst el p cap : Nat} {x : Operand} {V : List Int} {cs : Array Value} {T : TypeId} {fr : Nat × Nat} (i : Nat) (h : o.op = .convert src dst x) (hs : P.underlying src = some (.slice el)) (he : P.underlying el = some (.int .u8)) (hd : P.underlying dst = some .string)
    (hx : opd e x = some (.slice (some ⟨p, 0, none⟩) V.length cap)) (hi : hs'[i]? = some (p, .cells cs T fr)) (hV : cs.toList.take V.length = u8s V) (h8 : Bytes8 V) : OpQ P n (Own B w0 hs') e o (str (u8of V)) := by
  unfold OpQ
  intro a hF w hw
  unfold Oper.quietAt execOp; rw [h]; simp only [hF.opd hx, Sem.run_bind]
  have hl : (u8of V).length = V.length := by simp [u8of]
  have hb := run_convert_bytes_back (P := P) w src dst el ⟨p, 0, none⟩ cap (u8of V) hs he hd (fun j hj => by
    rw [hl] at hj
    rw [Addr.add_lit, hw.cell hi]
    have e1 : (cs.toList.take V.length)[j]? = some (.int .u8 ((u8of V)[j].toNat : Int)) := by
      rw [hV]
      have e2 : (byts (u8of V))[j]? = V[j]? := by rw [u8of_at h8]
      rw [byts, List.getElem?_map, List.getElem?_eq_getElem (by rw [hl]; exact hj)] at e2
      rw [u8s, List.getElem?_map, ← e2]; rfl
    rw [List.getElem?_take, if_pos hj] at e1
    simpa using e1)
  rw [hl] at hb
  rw [hb]
  exact ⟨rfl, rfl⟩
end
theorem shuf_all {xs : List Int} {k : Nat} (h : ∀ x ∈ xs, 0 ≤ x ∧ x < (k : Int)) {i j : Nat} : ∀ x ∈ (xs.take i ++ [(k : Int)]) ++ xs.drop j, 0 ≤ x ∧ x < ((k + 1 : Nat) : Int) := fun x hx => by
  rcases List.mem_append.1 hx with h1 | h1
  · rcases List.mem_append.1 h1 with h2 | h2
    · have := h x (List.mem_of_mem_take h2); omega
    · rw [List.mem_singleton.1 h2]; omega
  · have := h x (List.mem_of_mem_drop h1); omega
theorem sq_one {n : Int} (h : 1 ≤ n) : 1 ≤ n * n := by
  have : 1 * 1 ≤ n * n := Int.mul_le_mul h h (by omega) (by omega)
  omega
theorem sq_cast {n : Int} (h : 0 ≤ n) : ((n.toNat * n.toNat : Nat) : Int) = n * n := by
  rw [Int.natCast_mul, Int.toNat_of_nonneg h]
end Go.Wk
