/-
  OTHER STRUCTURES: all bits changed; the relation turned; the same ways of lists. No program in sight.
-/
import Derived.Test.YtjcoijejhachhaaDoorPlain34
namespace Go.Wk
open Go.RowKit
section
variable {P : Program} {n : Nat} {C : World → Prop} {e : Env} {o : Oper}
theorem OpQ.funcB {f : Fn} {b cap : List Operand} {us vs : List Value} (h : o.op = .makeFunc f b.toArray cap.toArray) (hb : opds e b = some us) (hv : opds e cap = some vs) : OpQ P n C e o (.func f us.toArray vs.toArray) := OpQ.val fun A hF w => by
  unfold execOp; rw [h]
  simp only [Instr.makeFunc, List.map_toArray, opds_spec hF b us hb, opds_spec hF cap vs hv]
  simp
theorem OpQ.callFnB {f : FuncId} {c : Operand} {first captured : Array Value} {xs : List Operand} {ts : Array TypeId} {vs : List Value} {v : Value} (h : o.op = .call ⟨.value c, xs.toArray, ts⟩) (hc : opd e c = some (.func (.func f) first captured)) (hcf : ∀ args w, (callFunc f args).run P w = .ok (.enter f args) w) (hx : opds e xs = some vs)
    (hst : ∀ w w', C w → Below w.heap.size w w' → C w') (hk : ∀ w, C w → Calls P f (first ++ vs.toArray ++ captured) w fun en w' => en = .returned v ∧ Below w.heap.size w w') : OpQ P n C e o v := by
  unfold OpQ
  intro a hF w hw
  unfold Oper.quietAt
  rw [run_call h hF hc hx hcf]
  exact ⟨rfl, (hk w hw).mono fun en w' ⟨h1, h2⟩ => ⟨h1, hst w w' hw h2⟩⟩
end
/-! ### bits -/
def bitC (b : Bool) : List UInt8 := if b then [49] else [48]
@[simp] theorem bitC_len (b : Bool) : (bitC b).length = 1 := by cases b <;> rfl
def flipTo (s : List UInt8) : Nat → List UInt8
  | 0 => []
  | k + 1 => flipTo s k ++ bitC (decide (s.getD k 0 = 48))
@[simp] theorem flip_len (s : List UInt8) : ∀ k, (flipTo s k).length = k
  | 0 => rfl
  | k + 1 => by simp [flipTo, flip_len s k]
theorem flip_step {s : List UInt8} {k : Nat} : flipTo s (k + 1) = flipTo s k ++ (if decide (((s.getD k 0).toNat : Int) = 48) then [49] else [48]) := by
  have e : decide (s.getD k 0 = 48) = decide (((s.getD k 0).toNat : Int) = 48) := by
    rw [decide_eq_decide]
    constructor
    · intro h; rw [h]; rfl
    · intro h; exact UInt8.toNat_inj.1 (by rw [show (48 : UInt8).toNat = 48 from rfl]; omega)
  rw [flipTo, e]; rfl
def mkSet (p : Nat → Bool) : Nat → List UInt8
  | 0 => []
  | k + 1 => mkSet p k ++ bitC (p k)
@[simp] theorem mkSet_len (p : Nat → Bool) : ∀ k, (mkSet p k).length = k
  | 0 => rfl
  | k + 1 => by simp [mkSet, mkSet_len p k]
theorem flip_mk (s : List UInt8) : ∀ k, flipTo s k = mkSet (fun i => decide (s.getD i 0 = 48)) k
  | 0 => rfl
  | k + 1 => by rw [flipTo, mkSet, flip_mk s k]
theorem mkSet_at (p : Nat → Bool) : ∀ {k i : Nat}, i < k → (mkSet p k).getD i 0 = if p i then 49 else 48
  | 0, i, h => by omega
  | k + 1, i, h => by
    unfold mkSet
    rcases Nat.lt_or_ge i k with h1 | h1
    · rw [List.getD_eq_getElem?_getD, List.getElem?_append_left (by simpa using h1), ← List.getD_eq_getElem?_getD, mkSet_at p h1]
    · obtain rfl : i = k := by omega
      rw [List.getD_eq_getElem?_getD, List.getElem?_append_right (by simp)]
      cases h2 : p i <;> simp [bitC]
theorem mkSet_bits (p : Nat → Bool) : ∀ k, (mkSet p k).all isBit = true
  | 0 => rfl
  | k + 1 => by rw [mkSet, List.all_append, mkSet_bits p k]; cases p k <;> rfl
def mkRel (q : Nat → Nat → Bool) (n : Nat) : Nat → List UInt8
  | 0 => []
  | k + 1 => mkRel q n k ++ mkSet (q k) n
@[simp] theorem mkRel_len (q : Nat → Nat → Bool) (n : Nat) : ∀ k, (mkRel q n k).length = k * n
  | 0 => by simp [mkRel]
  | k + 1 => by simp [mkRel, mkRel_len q n k, Nat.add_mul]
theorem mkRel_bits (q : Nat → Nat → Bool) (n : Nat) : ∀ k, (mkRel q n k).all isBit = true
  | 0 => rfl
  | k + 1 => by rw [mkRel, List.all_append, mkRel_bits q n k, mkSet_bits]; rfl
theorem mkRel_at (q : Nat → Nat → Bool) (n : Nat) : ∀ {k x y : Nat}, x < k → y < n → (mkRel q n k).getD (x * n + y) 0 = if q x y then 49 else 48
  | 0, x, y, h, _ => by omega
  | k + 1, x, y, h, hy => by
    unfold mkRel
    rcases Nat.lt_or_ge x k with h1 | h1
    · have : x * n + y < k * n := by
        have := Nat.mul_le_mul_right n (show x + 1 ≤ k by omega)
        rw [Nat.add_mul, Nat.one_mul] at this; omega
      rw [List.getD_eq_getElem?_getD, List.getElem?_append_left (by simpa using this), ← List.getD_eq_getElem?_getD, mkRel_at q n h1 hy]
    · obtain rfl : x = k := by omega
      rw [List.getD_eq_getElem?_getD, List.getElem?_append_right (by simp), mkRel_len, show x * n + y - x * n = y from by omega, ← List.getD_eq_getElem?_getD, mkSet_at _ hy]
def mkSt (n : Int) (p : Nat → Bool) (q : Nat → Nat → Bool) : St := ⟨n, mkSet p n.toNat, mkRel q n.toNat n.toNat⟩
def otherSt (a : St) : St := ⟨a.n, flipTo a.set a.set.length, flipTo a.rel a.rel.length⟩
def turnSt (a : St) : St := mkSt a.n (fun x => a.inSet x) (fun x y => a.inRel y x)
/-- another structure of that size: lists of it are in the same way exactly if they are so in the first one -/
def AltOf (a o : St) : Prop := validB o = true ∧ o.n = a.n ∧ ∀ xs ys : List Int, a.Els xs → a.Els ys → xs.length = ys.length → sameB o xs o ys = sameB a xs a ys
theorem same_alt {a o : St} {xs ys : List Int} (hl : xs.length = ys.length) (hA : a.Els xs) (hB : a.Els ys)
    (h1 : ∀ x y : Int, a.El x → a.El y → (o.inSet x = o.inSet y ↔ a.inSet x = a.inSet y)) (h2 : ∀ x y u v : Int, a.El x → a.El y → a.El u → a.El v → ((o.inRel x y = o.inRel u v ∧ o.inRel y x = o.inRel v u) ↔ (a.inRel x y = a.inRel u v ∧ a.inRel y x = a.inRel v u))) : sameB o xs o ys = sameB a xs a ys := by
  have el : ∀ {zs : List Int}, a.Els zs → ∀ {i : Nat}, i < zs.length → a.El (zs.getD i 0) := fun h i hi => by rw [getD_at hi]; exact h _ (List.getElem_mem _)
  have key : ∀ i : Nat, i < xs.length → (stillAt o xs o ys i = true ↔ stillAt a xs a ys i = true) := fun i hi => by
    have ex := el hA hi
    have ey := el hB (hl ▸ hi)
    unfold stillAt
    rw [stillB_true (by simp [hl]), stillB_true (by simp [hl])]
    refine and_congr (h1 _ _ ex ey) (and_congr ?_ ?_)
    · have := h2 _ _ _ _ ex ex ey ey
      simpa using this
    · refine forall_congr' fun k => ?_
      rw [List.length_take]
      refine imp_congr_right fun hk => ?_
      rw [take_getD (by omega), take_getD (by omega), pairOk_true, pairOk_true]
      exact and_congr_right fun _ => h2 _ _ _ _ (el hA (by omega)) ex (el hB (by omega)) ey
  rw [Bool.eq_iff_iff]
  unfold sameB
  rw [List.all_eq_true, List.all_eq_true]
  exact ⟨fun h i hi => (key i (List.mem_range.1 hi)).1 (h i hi), fun h i hi => (key i (List.mem_range.1 hi)).2 (h i hi)⟩
theorem valid_parts {a : St} (h : validB a = true) : a.set.all isBit = true ∧ a.rel.all isBit = true := by
  unfold validB bitsB at h
  simp only [Bool.and_eq_true] at h
  exact ⟨h.1.2.1, h.2.1⟩
theorem bit_flip {s : List UInt8} (h : s.all isBit = true) {k : Nat} (hk : k < s.length) : bitAt (flipTo s s.length) (k : Int) = !bitAt s (k : Int) := by
  have h1 : isBit (s.getD k 0) = true := by rw [getD_at hk]; exact List.all_eq_true.1 h _ (List.getElem_mem _)
  unfold bitAt byteAt
  rw [flip_mk, Int.toNat_natCast, mkSet_at _ hk]
  have h2 : s.getD k 0 = 48 ∨ s.getD k 0 = 49 := by
    unfold isBit at h1
    simp only [Bool.or_eq_true, decide_eq_true_eq] at h1
    rcases h1 with h1 | h1
    · exact .inl (UInt8.toNat_inj.1 (by rw [show (48 : UInt8).toNat = 48 from rfl]; omega))
    · exact .inr (UInt8.toNat_inj.1 (by rw [show (49 : UInt8).toNat = 49 from rfl]; omega))
  rcases h2 with h2 | h2 <;> rw [h2] <;> decide
theorem other_set {a : St} (hv : validB a = true) {x : Int} (hx : a.El x) : (otherSt a).inSet x = !a.inSet x := by
  have ha := validB_fine hv
  obtain ⟨k, rfl⟩ : ∃ k : Nat, x = k := ⟨x.toNat, by have := hx.1; omega⟩
  exact bit_flip (valid_parts hv).1 (by have := ha.set; have := hx.2; omega)
theorem other_rel {a : St} (hv : validB a = true) {x y : Int} (hx : a.El x) (hy : a.El y) : (otherSt a).inRel x y = !a.inRel x y := by
  have ha := validB_fine hv
  obtain ⟨h1, h2, h3, _⟩ := ha.relLt hx hy
  unfold St.inRel
  obtain ⟨k, hk⟩ : ∃ k : Nat, x * a.n + y = k := ⟨(x * a.n + y).toNat, by omega⟩
  show bitAt (otherSt a).rel (x * a.n + y) = _
  rw [hk]
  exact bit_flip (valid_parts hv).2 (by omega)
theorem alt_other {a : St} (hv : validB a = true) : AltOf a (otherSt a) := by
  have ha := validB_fine hv
  refine ⟨?_, rfl, fun xs ys hA hB hl => same_alt hl hA hB (fun x y hx hy => by rw [other_set hv hx, other_set hv hy]; simp) fun x y u v hx hy hu hv' => by
    rw [other_rel hv hx hy, other_rel hv hu hv', other_rel hv hy hx, other_rel hv hv' hu]; simp⟩
  unfold otherSt
  unfold validB bitsB at hv ⊢
  simp only [Bool.and_eq_true, decide_eq_true_eq] at hv ⊢
  rw [flip_mk, flip_mk, mkSet_bits, mkSet_bits, mkSet_len, mkSet_len]
  exact ⟨⟨hv.1.1, rfl, hv.1.2.2⟩, rfl, hv.2.2⟩
theorem mk_set {n : Int} {p : Nat → Bool} {q : Nat → Nat → Bool} {k : Nat} (hk : (k : Int) < n) : (mkSt n p q).inSet k = p k := by
  unfold St.inSet bitAt byteAt mkSt
  rw [Int.toNat_natCast, mkSet_at _ (by omega)]
  cases p k <;> decide
theorem mk_rel {n : Int} {p : Nat → Bool} {q : Nat → Nat → Bool} {k j : Nat} (hk : (k : Int) < n) (hj : (j : Int) < n) : (mkSt n p q).inRel k j = q k j := by
  unfold St.inRel bitAt byteAt mkSt
  have e : ((k : Int) * n + (j : Int)).toNat = k * n.toNat + j := by
    have h1 : (n.toNat : Int) = n := by omega
    have h2 : (k : Int) * n + j = ((k * n.toNat + j : Nat) : Int) := by rw [Int.natCast_add, Int.natCast_mul, h1]
    rw [h2, Int.toNat_natCast]
  dsimp only
  rw [e, mkRel_at _ _ (by omega) (by omega)]
  cases q k j <;> decide
theorem alt_turn {a : St} (hv : validB a = true) : AltOf a (turnSt a) := by
  have ha := validB_fine hv
  have nat : ∀ {x : Int}, a.El x → ∃ k : Nat, x = k ∧ (k : Int) < a.n := fun h => ⟨_, (Int.toNat_of_nonneg h.1).symm, by rw [Int.toNat_of_nonneg h.1]; exact h.2⟩
  have hs : ∀ {x : Int}, a.El x → (turnSt a).inSet x = a.inSet x := fun {x} h => by
    obtain ⟨k, rfl, hk⟩ := nat h
    exact mk_set hk
  have hr : ∀ {x y : Int}, a.El x → a.El y → (turnSt a).inRel x y = a.inRel y x := fun {x y} h h' => by
    obtain ⟨k, rfl, hk⟩ := nat h
    obtain ⟨j, rfl, hj⟩ := nat h'
    exact mk_rel hk hj
  refine ⟨?_, rfl, fun xs ys hA hB hl => same_alt hl hA hB (fun x y hx hy => by rw [hs hx, hs hy]) fun x y u v hx hy hu hv' => by
    rw [hr hx hy, hr hu hv', hr hy hx, hr hv' hu]; exact and_comm⟩
  unfold validB bitsB at hv ⊢
  simp only [Bool.and_eq_true, decide_eq_true_eq] at hv ⊢
  have h1 : (a.n.toNat : Int) = a.n := by have := ha.lo; omega
  refine ⟨⟨hv.1.1, mkSet_bits _ _, ?_⟩, mkRel_bits _ _ _, ?_⟩
  · show ((mkSet _ a.n.toNat).length : Int) = a.n
    rw [mkSet_len]; exact h1
  · show ((mkRel _ a.n.toNat a.n.toNat).length : Int) = a.n * a.n
    rw [mkRel_len, Int.natCast_mul, h1]
theorem alt_win {a o : St} (h : AltOf a o) : ∀ (n : Nat) (xs ys : List Int), a.Els xs → a.Els ys → xs.length = ys.length → (winP n o xs o ys ↔ winP n a xs a ys)
  | 0, xs, ys, hA, hB, hl => by show sameB _ _ _ _ = true ↔ sameB _ _ _ _ = true; rw [h.2.2 xs ys hA hB hl]
  | n + 1, xs, ys, hA, hB, hl => by
    have ih := alt_win h n
    have e := h.2.1
    show (sameB o xs o ys = true ∧ _ ∧ _) ↔ (sameB a xs a ys = true ∧ _ ∧ _)
    rw [h.2.2 xs ys hA hB hl, e]
    refine and_congr_right fun _ => and_congr ?_ ?_
    · exact forall_congr' fun x => imp_congr_right fun hx => exists_congr fun y => and_congr_right fun hy => ih _ _ (els_snoc hA hx) (els_snoc hB hy) (by simp [hl])
    · exact forall_congr' fun x => imp_congr_right fun hx => exists_congr fun y => and_congr_right fun hy => ih _ _ (els_snoc hA hy) (els_snoc hB hx) (by simp [hl])
theorem pt_els {a : St} (ha : a.Fine) : ∀ w k, a.Els (pointL a.n.toNat w k)
  | 0, _ => fun x hx => by cases hx
  | w + 1, k => by
    unfold pointL
    exact els_snoc (pt_els ha w _) (Nat.mod_lt _ (by have := ha.lo; omega))
theorem alt_cnt {a o : St} (ha : a.Fine) (h : AltOf a o) (r w : Nat) : cntQ o r w = cntQ a r w := by
  refine (cnt_of h.2.1.symm fun y x _ _ => ?_).symm
  exact (alt_win h r _ _ (pt_els ha w y) (pt_els ha w x) (by simp)).symm
theorem alt_small {a o : St} (hv : validB a = true) (h : AltOf a o) : o.Small := by
  have ho := validB_fine h.1
  have ha := validB_fine hv
  have h1 := ho.set
  have h2 := ho.rel
  have h3 := ho.lo
  have h4 := ho.hi
  have h5 : o.n * o.n ≤ 8 * 8 := Int.mul_le_mul h4 h4 (by omega) (by decide)
  exact ⟨by omega, by omega⟩
theorem pow_cast {a : Int} (h : 1 ≤ a) {k : Nat} : ((a.toNat ^ (k + 1) : Nat) : Int) = ((a.toNat ^ k : Nat) : Int) * a := by
  rw [Nat.pow_succ, Int.natCast_mul, show ((a.toNat : Nat) : Int) = a from by omega]
/-! ### what the laws ask -/
theorem kindsI_ok {a : St} {W : Int} (h : ¬ kindsI a W < 0) : validB a = true ∧ 0 ≤ W ∧ W ≤ 3 := by
  cases e : (validB a && inB W 0 3) with
  | true => unfold inB at e; simpa using e
  | false => unfold kindsI at h; rw [e, if_neg (by decide)] at h; omega
theorem kindsI_eq {a : St} {W : Int} (hv : validB a = true) (h0 : 0 ≤ W) (h3 : W ≤ 3) : kindsI a W = (cntQ a 0 W.toNat : Int) := by
  unfold kindsI inB
  rw [hv, if_pos (by simp [h0, h3]), kinds_cnt (validB_fine hv)]
theorem kindsI_no {a : St} {W : Int} (h : 3 < W) : kindsI a W = -1 := by
  unfold kindsI inB
  rw [if_neg (by simp; omega)]
theorem countC_ok {a : St} {W R : Int} (h : ¬ countC a W R < 0) : validB a = true ∧ (0 ≤ W ∧ W ≤ 2) ∧ (0 ≤ R ∧ R ≤ 2) := by
  cases e : (validB a && inB W 0 2 && inB R 0 2) with
  | true => unfold inB at e; simp at e; exact ⟨e.1.1, e.1.2, e.2⟩
  | false => unfold countC at h; rw [e, if_neg (by decide)] at h; omega
theorem countC_eq {a : St} {W R : Int} (hv : validB a = true) (hw : 0 ≤ W ∧ W ≤ 2) (hr : 0 ≤ R ∧ R ≤ 2) : countC a W R = (cntQ a R.toNat W.toNat : Int) := by
  unfold countC inB
  rw [hv, if_pos (by simp [hw, hr]), cls_reps]; rfl
theorem countC_no {a : St} {W R : Int} (h : 2 < W ∨ 2 < R) : countC a W R = -1 := by
  unfold countC inB
  rw [if_neg (by simp; omega)]
/-- one element more: no fewer, not many more -/
theorem kinds_next {a : St} {W : Int} (h : ¬ kindsI a W < 0) : kindsI a (W + 1) < 0 ∨ (kindsI a W ≤ kindsI a (W + 1) ∧ kindsI a (W + 1) ≤ kindsI a W * 1024) := by
  obtain ⟨hv, h0, h3⟩ := kindsI_ok h
  by_cases h4 : W = 3
  · left; rw [kindsI_no (by omega)]; decide
  · right
    have ha := validB_fine hv
    rw [kindsI_eq hv h0 h3, kindsI_eq hv (by omega) (by omega), show (W + 1).toNat = W.toNat + 1 from by omega]
    have h5 := cnt_wider ha 0 W.toNat
    have h6 := cnt_most a (w := W.toNat) (by omega)
    omega
theorem kinds_all {a : St} {W : Int} (h : ¬ kindsI a W < 0) : 1 ≤ kindsI a W ∧ kindsI a W ≤ ((a.n.toNat ^ W.toNat : Nat) : Int) := by
  obtain ⟨hv, h0, h3⟩ := kindsI_ok h
  rw [kindsI_eq hv h0 h3]
  have := cnt_pos (validB_fine hv) 0 W.toNat
  omega
theorem kinds_alt {a o : St} {W : Int} (h : ¬ kindsI a W < 0) (ho : AltOf a o) : kindsI o W = kindsI a W := by
  obtain ⟨hv, h0, h3⟩ := kindsI_ok h
  rw [kindsI_eq hv h0 h3, kindsI_eq ho.1 h0 h3, alt_cnt (validB_fine hv) ho]
theorem count_all {a : St} {W R : Int} (h : ¬ countC a W R < 0) : 1 ≤ countC a W R ∧ countC a W R ≤ ((a.n.toNat ^ W.toNat : Nat) : Int) := by
  obtain ⟨hv, hw, hr⟩ := countC_ok h
  rw [countC_eq hv hw hr]
  have := cnt_pos (validB_fine hv) R.toNat W.toNat
  omega
theorem count_alt {a o : St} {W R : Int} (h : ¬ countC a W R < 0) (ho : AltOf a o) : countC o W R = countC a W R := by
  obtain ⟨hv, hw, hr⟩ := countC_ok h
  rw [countC_eq hv hw hr, countC_eq ho.1 hw hr, alt_cnt (validB_fine hv) ho]
theorem count_next {a : St} {W R : Int} (h : ¬ countC a W R < 0) : countC a W (R + 1) < 0 ∨ countC a W R ≤ countC a W (R + 1) := by
  obtain ⟨hv, hw, hr⟩ := countC_ok h
  by_cases h4 : R = 2
  · left; rw [countC_no (.inr (by omega))]; decide
  · right
    rw [countC_eq hv hw hr, countC_eq hv hw (by omega), show (R + 1).toNat = R.toNat + 1 from by omega]
    have := cnt_rounds a R.toNat W.toNat
    omega
theorem count_wider {a : St} {W R : Int} (h : ¬ countC a W R < 0) : countC a (W + 1) R < 0 ∨ countC a W R ≤ countC a (W + 1) R := by
  obtain ⟨hv, hw, hr⟩ := countC_ok h
  by_cases h4 : W = 2
  · left; rw [countC_no (.inl (by omega))]; decide
  · right
    rw [countC_eq hv hw hr, countC_eq hv (by omega) hr, show (W + 1).toNat = W.toNat + 1 from by omega]
    have := cnt_wider (validB_fine hv) R.toNat W.toNat
    omega
theorem count_zero {a : St} {W R : Int} (h : ¬ countC a W R < 0) (h0 : ¬ 0 < R) : countC a W R = kindsI a W := by
  obtain ⟨hv, hw, hr⟩ := countC_ok h
  rw [countC_eq hv hw hr, kindsI_eq hv hw.1 (by omega), show R.toNat = 0 from by omega]
end Go.Wk
