/-
  FnSentenceFor: all that its proof names (part 3)
-/
import Derived.Test.YtefiibghfgfdnaaGreatDoorKFnSentenceForb
import Derived.LaidEqlPtr
import Derived.Shelf.Strings.SlTrimAscii
import Derived.Shelf.Strings.Trim
import Derived.Test.YtefiibghfgfdnaaGreatDoorProg
import Derived.Test.YtefiibghfgfdnaaGreatDoorKFnSentenceFora
namespace Go.Wk
open Go.RowKit
def entP (x : (Nat × Nat) × Nat) : MapEntry := { key := ptrV x.1.1, val := .map (some x.1.2), born := x.2 }
def mapP (K : List (Nat × Nat)) : Obj := .map ((K.zipIdx.map entP).toArray) K.length
def entI (x : (Int × Bool) × Nat) : MapEntry := { key := .int .i64 x.1.1, val := .bool x.1.2, born := x.2 }
def mapI (L : List (Int × Bool)) : Obj := .map ((L.zipIdx.map entI).toArray) L.length
section
variable {P : Program} {w : World} {kt : TypeId} {k : Value}
theorem asking_no : ∀ (l : List MapEntry) (i : Nat), (∀ e ∈ l, (Op.equal kt k e.key).run P w = .ok false w) → (Instr.findAsking kt k l i).run P w = .ok none w
  | [], _, _ => rfl
  | e :: l, i, h => by
    unfold Instr.findAsking
    simp only [Sem.run_bind, h e (by simp), Result.andThen]
    exact asking_no l (i + 1) fun x hx => h x (List.mem_cons_of_mem _ hx)
theorem asking_at : ∀ (l : List MapEntry) (i j : Nat) {e : MapEntry}, l[j]? = some e → (Op.equal kt k e.key).run P w = .ok true w → (∀ (q : Nat) (x : MapEntry), q < j → l[q]? = some x → (Op.equal kt k x.key).run P w = .ok false w) → (Instr.findAsking kt k l i).run P w = .ok (some (i + j, e.val)) w
  | [], _, _, _, h, _, _ => by simp at h
  | x :: l, i, 0, e, h, h1, _ => by
    have hx : x = e := by simpa using h
    subst hx
    unfold Instr.findAsking
    simp only [Sem.run_bind, h1, Result.andThen]
    rfl
  | x :: l, i, j + 1, e, h, h1, h2 => by
    unfold Instr.findAsking
    simp only [Sem.run_bind, h2 0 x (by omega) rfl, Result.andThen]
    have := asking_at l (i + 1) j (e := e) (by simpa using h) h1 fun q y hq hy => h2 (q + 1) y (by omega) (by simpa using hy)
    rw [show i + (j + 1) = i + 1 + j from by omega]
    exact this
theorem findKeyP {te : TypeId} (hkt : P.underlying kt = some (.pointer te)) {l : List MapEntry} {r : Option (Nat × Value)} (h : (Instr.findAsking kt k l 0).run P w = .ok r w) : (Instr.findKey kt k l).run P w = .ok r w := by
  cases l with
  | nil =>
    have e : r = none := by
      have : Result.ok (none : Option (Nat × Value)) w = .ok r w := h
      injection this with this; exact this.symm
    subst e
    simp [Instr.findKey, run_underlying hkt, Result.andThen, Instr.findNow]
  | cons x l =>
    simp only [Instr.findKey, Sem.run_bind, run_underlying hkt, Result.andThen]
    simp only [Instr.findNow, Instr.sameNow]
    exact h
theorem ptr_same {te sz p : Nat} (hkt : P.underlying kt = some (.pointer te)) (hsz : ∀ w, (sizeOf te).run P w = .ok sz w) (h0 : sz ≠ 0) : (Op.equal kt (ptrV p) (ptrV p)).run P w = .ok true w := by
  have h : ∀ d : Nat, (Op.equalIn (d + 1) kt (ptrV p) (ptrV p)).run P w = .ok true w := fun d => by
    simp [Op.equalIn, ptrV, run_underlying hkt, hsz, h0, run_sameAddr_same, Result.andThen]
  exact h 9999
theorem ptr_other {te sz p q : Nat} {cp cq : Array Value} {tp tq : TypeId} (hkt : P.underlying kt = some (.pointer te)) (hsz : ∀ w, (sizeOf te).run P w = .ok sz w) (h0 : sz ≠ 0) (hne : p ≠ q)
    (hp : w.heap[p]? = some (.cells cp tp (0, 0))) (hq : w.heap[q]? = some (.cells cq tq (0, 0))) : (Op.equal kt (ptrV p) (ptrV q)).run P w = .ok false w := by
  have h : ∀ d : Nat, (Op.equalIn (d + 1) kt (ptrV p) (ptrV q)).run P w = .ok false w := fun d => by
    simp [Op.equalIn, ptrV, run_underlying hkt, hsz, h0, run_sameAddr_other w (a := ⟨p, 0, none⟩) (b := ⟨q, 0, none⟩) (fun e => hne (by injection e)) hp hq, Result.andThen]
  exact h 9999
theorem checkKeyP {te : TypeId} (hkt : P.underlying kt = some (.pointer te)) (p : Nat) (b : Bool) : (Instr.checkKey b 10000 kt (ptrV p)).run P w = .ok () w := by
  show (Instr.checkKey b (9999 + 1) kt (ptrV p)).run P w = .ok () w
  unfold Instr.checkKey
  simp only [Sem.run_bind, run_underlying hkt, Result.andThen, ptrV]
  rfl
end
theorem zip_get {α : Type} {K : List α} {j : Nat} {x : α} {g : α × Nat → MapEntry} (h : K[j]? = some x) : (K.zipIdx.map g)[j]? = some (g (x, j)) := by
  rw [List.getElem?_map, List.getElem?_zipIdx, h]; simp
theorem zip_mem {α : Type} {K : List α} {e : MapEntry} {g : α × Nat → MapEntry} (h : e ∈ K.zipIdx.map g) : ∃ x j, K[j]? = some x ∧ e = g (x, j) := by
  obtain ⟨⟨x, j⟩, h1, h2⟩ := List.mem_map.1 h
  exact ⟨x, j, List.mem_zipIdx_iff_getElem?.1 h1, h2.symm⟩
/-- a pointer's number among the keys: its place, or nowhere -/
theorem key_case (K : List (Nat × Nat)) (p : Nat) : (∀ x ∈ K, x.1 ≠ p) ∨ ∃ j m, K[j]? = some (p, m) ∧ ∀ (q : Nat) (x : Nat × Nat), q < j → K[q]? = some x → x.1 ≠ p := by
  induction K with
  | nil => exact .inl fun x hx => by cases hx
  | cons y K ih =>
    by_cases e : y.1 = p
    · exact .inr ⟨0, y.2, by rw [← e]; rfl, fun q x hq => by omega⟩
    · rcases ih with h | ⟨j, m, h1, h2⟩
      · exact .inl fun x hx => by
          rcases List.mem_cons.1 hx with rfl | hx
          · exact e
          · exact h x hx
      · refine .inr ⟨j + 1, m, h1, fun q x hq hx => ?_⟩
        cases q with
        | zero => rw [show x = y from by simpa using hx.symm]; exact e
        | succ q => exact h2 q x (by omega) (by simpa using hx)
section
variable {P : Program} {n : Nat} {B : Nat} {w0 : World} {hs : List (Nat × Obj)} {N R : Act → World → Prop} {X : List (Nat × (Act → World → Prop))} {e : Env} {ops : Array Oper} {l : List Oper} {o : Oper}
/-- where the keys of a map point to -/
def KeysIn (B : Nat) (w0 : World) (hs : List (Nat × Obj)) (p : Nat) : Prop := ∀ w, Own B w0 hs w → ∃ cs T, w.heap[p]? = some (.cells cs T (0, 0))
theorem findP_no {kt te sz p : Nat} {K : List (Nat × Nat)} {w : World} (hkt : P.underlying kt = some (.pointer te)) (hsz : ∀ w, (sizeOf te).run P w = .ok sz w) (h0 : sz ≠ 0) (hno : ∀ x ∈ K, x.1 ≠ p)
    (hK : ∀ x ∈ K, KeysIn B w0 hs x.1) (hp : KeysIn B w0 hs p) (hw : Own B w0 hs w) : (Instr.findKey kt (ptrV p) ((K.zipIdx.map entP).toArray).toList).run P w = .ok none w := by
  refine findKeyP hkt (asking_no _ 0 fun e he => ?_)
  obtain ⟨x, j, h1, rfl⟩ := zip_mem (show e ∈ K.zipIdx.map entP from he)
  have hm := List.mem_of_getElem? h1
  obtain ⟨c1, t1, g1⟩ := hp w hw
  obtain ⟨c2, t2, g2⟩ := hK x hm w hw
  exact ptr_other hkt hsz h0 (fun q => hno x hm q.symm) g1 g2
theorem findP_at {kt te sz p j m : Nat} {K : List (Nat × Nat)} {w : World} (hkt : P.underlying kt = some (.pointer te)) (hsz : ∀ w, (sizeOf te).run P w = .ok sz w) (h0 : sz ≠ 0) (hj : K[j]? = some (p, m)) (hf : ∀ (q : Nat) (x : Nat × Nat), q < j → K[q]? = some x → x.1 ≠ p)
    (hK : ∀ x ∈ K, KeysIn B w0 hs x.1) (hw : Own B w0 hs w) : (Instr.findKey kt (ptrV p) ((K.zipIdx.map entP).toArray).toList).run P w = .ok (some (j, .map (some m))) w := by
  have := findKeyP hkt (asking_at (P := P) (w := w) (kt := kt) (k := ptrV p) (K.zipIdx.map entP) 0 j (zip_get (g := entP) hj) (ptr_same hkt hsz h0) fun q x hq hx => ?_)
  · rw [Nat.zero_add] at this; exact this
  · obtain ⟨y, i, h1, rfl⟩ := zip_mem (List.mem_of_getElem? hx)
    have hq2 : (K.zipIdx.map entP)[q]? = some (entP (y, i)) := hx
    rw [List.getElem?_map, List.getElem?_zipIdx] at hq2
    cases hy : K[q]? with
    | none => rw [hy] at hq2; simp at hq2
    | some z =>
      rw [hy] at hq2
      have hz : z.1 = y.1 := by
        have := congrArg (Option.map fun u : MapEntry => u.key) hq2
        simp [entP] at this
        exact ptrV_inj this
      obtain ⟨c1, t1, g1⟩ := hK _ (List.mem_of_getElem? hj) w hw
      obtain ⟨c2, t2, g2⟩ := hK _ (List.mem_of_getElem? h1) w hw
      exact ptr_other hkt hsz h0 (fun u => hf q z hq hy (by rw [hz]; exact u.symm)) g1 g2
theorem OpQ.lookP_no {t kt et te sz r p : Nat} {x y : Operand} {K : List (Nat × Nat)} (i : Nat) (h : o.op = .lookup t x y false) (hm : P.underlying t = some (.map kt et)) (hkt : P.underlying kt = some (.pointer te)) (hsz : ∀ w, (sizeOf te).run P w = .ok sz w) (h0 : sz ≠ 0) (hz : ∀ w, (zeroValue et).run P w = .ok (.map none) w)
    (hx : opd e x = some (.map (some r))) (hy : opd e y = some (ptrV p)) (hi : hs[i]? = some (r, mapP K)) (hno : ∀ x ∈ K, x.1 ≠ p) (hK : ∀ x ∈ K, KeysIn B w0 hs x.1) (hp : KeysIn B w0 hs p) : OpQ P n (Own B w0 hs) e o (.map none) := by
  unfold OpQ
  intro a hF w hw
  have hb : w.heap[r]? = some (.map ((K.zipIdx.map entP).toArray) K.length) := (hw.has i r _ hi).2
  unfold Oper.quietAt execOp; rw [h]
  simp only [hF.opd hx, hF.opd hy, Instr.lookup, Sem.run_bind, run_underlying hm, MapKept.run_getObj_map hb, checkKeyP hkt, findP_no hkt hsz h0 hno hK hp hw, hz, Sem.run_pure, Result.andThen]
  exact ⟨rfl, rfl⟩
theorem OpQ.lookP_at {t kt et te sz r p j m : Nat} {x y : Operand} {K : List (Nat × Nat)} (i : Nat) (h : o.op = .lookup t x y false) (hm : P.underlying t = some (.map kt et)) (hkt : P.underlying kt = some (.pointer te)) (hsz : ∀ w, (sizeOf te).run P w = .ok sz w) (h0 : sz ≠ 0)
    (hx : opd e x = some (.map (some r))) (hy : opd e y = some (ptrV p)) (hi : hs[i]? = some (r, mapP K)) (hj : K[j]? = some (p, m)) (hf : ∀ (q : Nat) (x : Nat × Nat), q < j → K[q]? = some x → x.1 ≠ p) (hK : ∀ x ∈ K, KeysIn B w0 hs x.1) : OpQ P n (Own B w0 hs) e o (.map (some m)) := by
  unfold OpQ
  intro a hF w hw
  have hb : w.heap[r]? = some (.map ((K.zipIdx.map entP).toArray) K.length) := (hw.has i r _ hi).2
  unfold Oper.quietAt execOp; rw [h]
  simp only [hF.opd hx, hF.opd hy, Instr.lookup, Sem.run_bind, run_underlying hm, MapKept.run_getObj_map hb, checkKeyP hkt, findP_at hkt hsz h0 hj hf hK hw, Sem.run_pure, Result.andThen]
  exact ⟨rfl, rfl⟩
/-- one more key -/
theorem mapP_add (K : List (Nat × Nat)) (p m : Nat) : mapP (K ++ [(p, m)]) = .map (((K.zipIdx.map entP).toArray).push { key := ptrV p, val := .map (some m), born := K.length }) (K.length + 1) := by
  unfold mapP
  rw [List.zipIdx_append, List.map_append, List.push_toArray]
  simp [entP]
theorem Ll.mapSetP {t kt et te sz r p m : Nat} {x y z : Operand} {K : List (Nat × Nat)} (i : Nat) (hdst : o.dst = none) (hg : wantE ops e o.guard = some true) (h : o.op = .mapUpdate t x y z) (hm : P.underlying t = some (.map kt et)) (hkt : P.underlying kt = some (.pointer te)) (hsz : ∀ w, (sizeOf te).run P w = .ok sz w) (h0 : sz ≠ 0)
    (hx : opd e x = some (.map (some r))) (hy : opd e y = some (ptrV p)) (hz : opd e z = some (.map (some m))) (hi : hs[i]? = some (r, mapP K)) (hno : ∀ x ∈ K, x.1 ≠ p) (hK : ∀ x ∈ K, KeysIn B w0 hs x.1) (hp : KeysIn B w0 hs p)
    (k : Ll P n (Own B w0 (hs.set i (r, mapP (K ++ [(p, m)])))) ops l e N R X) : Ll P n (Own B w0 hs) ops (o :: l) e N R X :=
  Ll.turnN hdst hg fun a w hF hw => by
    have hb : w.heap[r]? = some (.map ((K.zipIdx.map entP).toArray) K.length) := (hw.has i r _ hi).2
    refine ⟨{ w with heap := w.heap.setIfInBounds r (mapP (K ++ [(p, m)])) }, ?_, fun a' ha => ?_⟩
    · unfold execOp; rw [h]; simp only [hF.opd hx, hF.opd hy, hF.opd hz]
      have run : (Instr.mapUpdate t (.map (some r)) (ptrV p) (.map (some m))).run P w = .ok () { w with heap := w.heap.setIfInBounds r (mapP (K ++ [(p, m)])) } := by
        rw [mapP_add]
        simp [Instr.mapUpdate, run_underlying hm, MapKept.run_getObj_map hb, checkKeyP hkt, findP_no hkt hsz h0 hno hK hp hw, MapKept.run_setObj_map _ hb, Result.andThen]
      simp only [Sem.run_bind, run, Result.andThen]
      rfl
    · unfold Ll at k
      exact k a' _ ha (hw.setObj hi _)
theorem Ll.makeMapP {d t : Nat} (hd : Nat.blt d n = true) (hdst : o.dst = some d) (hg : wantE ops e o.guard = some true) (h : o.op = .makeMap t none)
    (k : ∀ p, B ≤ p → Ll P n (Own B w0 ((p, mapP []) :: hs)) ops l ((d, .map (some p)) :: e) N R X) : Ll P n (Own B w0 hs) ops (o :: l) e N R X := Ll.makeMap hd hdst hg h k
theorem Ll.makeMapI {d t : Nat} (hd : Nat.blt d n = true) (hdst : o.dst = some d) (hg : wantE ops e o.guard = some true) (h : o.op = .makeMap t none)
    (k : ∀ p, B ≤ p → Ll P n (Own B w0 ((p, mapI []) :: hs)) ops l ((d, .map (some p)) :: e) N R X) : Ll P n (Own B w0 hs) ops (o :: l) e N R X := Ll.makeMap hd hdst hg h k
theorem keyI (k : Int) : MapKept.IsKey (.int .i64) (.int .i64 k) := rfl
theorem keysI (L : List (Int × Bool)) : ∀ x ∈ ((L.zipIdx.map entI).toArray).toList, MapKept.IsKey (.int .i64) x.key := fun x hx => by
  obtain ⟨y, j, _, rfl⟩ := zip_mem (show x ∈ L.zipIdx.map entI from hx)
  rfl
theorem findI (k : Int) (L : List (Int × Bool)) : (Instr.findNow (.int .i64) (.int .i64 k) ((L.zipIdx.map entI).toArray).toList 0 = some none ∧ ∀ x ∈ L, x.1 ≠ k) ∨ ∃ j b, Instr.findNow (.int .i64) (.int .i64 k) ((L.zipIdx.map entI).toArray).toList 0 = some (some (j, .bool b)) ∧ L[j]? = some (k, b) := by
  rcases MapKept.findNow_spec (keyI k) ((L.zipIdx.map entI).toArray).toList 0 (keysI L) with ⟨h1, h2⟩ | ⟨j, e, h1, h2, h3⟩
  · refine .inl ⟨h1, fun x hx q => ?_⟩
    obtain ⟨j, hj⟩ := List.mem_iff_getElem?.1 hx
    exact h2 (entI (x, j)) (List.mem_of_getElem? (zip_get (g := entI) hj)) (by rw [← q]; rfl)
  · have h2' : (L.zipIdx.map entI)[j]? = some e := by simpa using h2
    rw [List.getElem?_map, List.getElem?_zipIdx] at h2'
    cases hy : L[j]? with
    | none => rw [hy] at h2'; simp at h2'
    | some z =>
      rw [hy] at h2'
      simp at h2'
      subst h2'
      have hz : z.1 = k := by
        have : Value.int .i64 z.1 = .int .i64 k := h3
        injection this
      refine .inr ⟨j, z.2, by rw [h1, Nat.zero_add]; rfl, by rw [← hz]; exact hy⟩
theorem OpQ.lookI_nil {t kt et : Nat} {x y : Operand} {k : Int} (h : o.op = .lookup t x y true) (hm : P.underlying t = some (.map kt et)) (hkt : P.underlying kt = some (.int .i64)) (hz : ∀ w, (zeroValue et).run P w = .ok (.bool false) w)
    (hx : opd e x = some (.map none)) (hy : opd e y = some (.int .i64 k)) : OpQ P n (Own B w0 hs) e o (.tuple #[.bool false, .bool false]) := by
  unfold OpQ
  intro a hF w hw
  unfold Oper.quietAt execOp; rw [h]
  simp only [hF.opd hx, hF.opd hy, Instr.lookup, Sem.run_bind, run_underlying hm, MapKept.run_checkKey hkt (keyI k), MapKept.run_findKey hkt (show Instr.findNow (.int .i64) (.int .i64 k) (#[] : Array MapEntry).toList 0 = some none from rfl), hz, Sem.run_pure, Result.andThen]
  exact ⟨rfl, rfl⟩
theorem OpQ.lookI_no {t kt et r : Nat} {x y : Operand} {k : Int} {L : List (Int × Bool)} (i : Nat) (h : o.op = .lookup t x y true) (hm : P.underlying t = some (.map kt et)) (hkt : P.underlying kt = some (.int .i64)) (hz : ∀ w, (zeroValue et).run P w = .ok (.bool false) w)
    (hx : opd e x = some (.map (some r))) (hy : opd e y = some (.int .i64 k)) (hi : hs[i]? = some (r, mapI L)) (hno : ∀ x ∈ L, x.1 ≠ k) : OpQ P n (Own B w0 hs) e o (.tuple #[.bool false, .bool false]) := by
  unfold OpQ
  intro a hF w hw
  have hb : w.heap[r]? = some (.map ((L.zipIdx.map entI).toArray) L.length) := (hw.has i r _ hi).2
  unfold Oper.quietAt execOp; rw [h]
  rcases findI k L with ⟨h1, _⟩ | ⟨j, b, h1, h2⟩
  · simp only [hF.opd hx, hF.opd hy, Instr.lookup, Sem.run_bind, run_underlying hm, MapKept.run_getObj_map hb, MapKept.run_checkKey hkt (keyI k), MapKept.run_findKey hkt h1, hz, Sem.run_pure, Result.andThen]
    exact ⟨rfl, rfl⟩
  · exact absurd rfl (hno _ (List.mem_of_getElem? h2))
theorem OpQ.lookI_at {t kt et r : Nat} {x y : Operand} {k : Int} {b : Bool} {L : List (Int × Bool)} (i : Nat) (h : o.op = .lookup t x y true) (hm : P.underlying t = some (.map kt et)) (hkt : P.underlying kt = some (.int .i64))
    (hx : opd e x = some (.map (some r))) (hy : opd e y = some (.int .i64 k)) (hi : hs[i]? = some (r, mapI L)) (hin : ∃ x ∈ L, x.1 = k) (hu : ∀ c, (k, c) ∈ L → c = b) : OpQ P n (Own B w0 hs) e o (.tuple #[.bool b, .bool true]) := by
  unfold OpQ
  intro a hF w hw
  have hb : w.heap[r]? = some (.map ((L.zipIdx.map entI).toArray) L.length) := (hw.has i r _ hi).2
  unfold Oper.quietAt execOp; rw [h]
  rcases findI k L with ⟨h1, h2⟩ | ⟨j, c, h1, h2⟩
  · obtain ⟨x, hx, q⟩ := hin
    exact absurd q (h2 x hx)
  · have := hu c (List.mem_of_getElem? h2)
    subst this
    simp only [hF.opd hx, hF.opd hy, Instr.lookup, Sem.run_bind, run_underlying hm, MapKept.run_getObj_map hb, MapKept.run_checkKey hkt (keyI k), MapKept.run_findKey hkt h1, Sem.run_pure, Result.andThen]
    exact ⟨rfl, rfl⟩
theorem mapI_add (L : List (Int × Bool)) (k : Int) (b : Bool) : mapI (L ++ [(k, b)]) = .map (((L.zipIdx.map entI).toArray).push { key := .int .i64 k, val := .bool b, born := L.length }) (L.length + 1) := by
  unfold mapI
  rw [List.zipIdx_append, List.map_append, List.push_toArray]
  simp [entI]
theorem mapI_set {L : List (Int × Bool)} {k : Int} {b : Bool} {j : Nat} : mapI (L.set j (k, b)) = .map (((L.zipIdx.map entI).toArray).modify j fun e => { e with key := .int .i64 k, val := .bool b }) L.length := by
  unfold mapI
  rw [List.length_set]
  congr 1
  apply Array.ext
  · simp
  · intro q h1 h2
    rw [Array.getElem_modify]
    simp only [List.getElem_toArray, List.getElem_map, List.getElem_zipIdx, List.getElem_set, entI]
    split
    · rename_i h; subst h; rfl
    · rfl
theorem Ll.mapSetI {t kt et r : Nat} {x y z : Operand} {k : Int} {b : Bool} {L : List (Int × Bool)} (i : Nat) (hdst : o.dst = none) (hg : wantE ops e o.guard = some true) (h : o.op = .mapUpdate t x y z) (hm : P.underlying t = some (.map kt et)) (hkt : P.underlying kt = some (.int .i64))
    (hx : opd e x = some (.map (some r))) (hy : opd e y = some (.int .i64 k)) (hz : opd e z = some (.bool b)) (hi : hs[i]? = some (r, mapI L))
    (kk : ∀ L' : List (Int × Bool), (∀ x ∈ L', x ∈ L ∨ x = (k, b)) → Ll P n (Own B w0 (hs.set i (r, mapI L'))) ops l e N R X) : Ll P n (Own B w0 hs) ops (o :: l) e N R X :=
  Ll.turnN hdst hg fun a w hF hw => by
    have hb : w.heap[r]? = some (.map ((L.zipIdx.map entI).toArray) L.length) := (hw.has i r _ hi).2
    rcases findI k L with ⟨h1, h2⟩ | ⟨j, c, h1, h2⟩
    · refine ⟨{ w with heap := w.heap.setIfInBounds r (mapI (L ++ [(k, b)])) }, ?_, fun a' ha => ?_⟩
      · unfold execOp; rw [h]; simp only [hF.opd hx, hF.opd hy, hF.opd hz]
        have run : (Instr.mapUpdate t (.map (some r)) (.int .i64 k) (.bool b)).run P w = .ok () { w with heap := w.heap.setIfInBounds r (mapI (L ++ [(k, b)])) } := by
          rw [mapI_add]
          simp [Instr.mapUpdate, run_underlying hm, MapKept.run_getObj_map hb, MapKept.run_checkKey hkt (keyI k), MapKept.run_findKey hkt h1, MapKept.run_setObj_map _ hb, Result.andThen]
        simp only [Sem.run_bind, run, Result.andThen]
        rfl
      · have := kk (L ++ [(k, b)]) fun x hx => by
          rcases List.mem_append.1 hx with hx | hx
          · exact .inl hx
          · exact .inr (List.mem_singleton.1 hx)
        unfold Ll at this
        exact this a' _ ha (hw.setObj hi _)
    · refine ⟨{ w with heap := w.heap.setIfInBounds r (mapI (L.set j (k, b))) }, ?_, fun a' ha => ?_⟩
      · unfold execOp; rw [h]; simp only [hF.opd hx, hF.opd hy, hF.opd hz]
        have hj : ((L.zipIdx.map entI).toArray)[j]? = some (entI ((k, c), j)) := by
          have := zip_get (g := entI) h2
          simpa using this
        have run : (Instr.mapUpdate t (.map (some r)) (.int .i64 k) (.bool b)).run P w = .ok () { w with heap := w.heap.setIfInBounds r (mapI (L.set j (k, b))) } := by
          rw [mapI_set]
          simp only [Instr.mapUpdate, Sem.run_bind, run_underlying hm, MapKept.run_getObj_map hb, MapKept.run_checkKey hkt (keyI k), MapKept.run_findKey hkt h1, Result.andThen]
          rw [hj]
          simp only [Option.map_some, Option.getD_some]
          rw [show (entI ((k, c), j)).key = .int .i64 k from rfl]
          simp only [MapKept.run_keyThatStays (keyI k), MapKept.run_setObj_map _ hb]
        simp only [Sem.run_bind, run, Result.andThen]
        rfl
      · have := kk (L.set j (k, b)) fun x hx => by
          rcases List.mem_or_eq_of_mem_set hx with hx | hx
          · exact .inl hx
          · exact .inr hx
        unfold Ll at this
        exact this a' _ ha (hw.setObj hi _)
theorem OpQ.eqNilM {C : World → Prop} {t t' kt et : TypeId} {x y : Operand} {p : Option Nat} (h : o.op = .binOp .eql t x y t') (hu : P.underlying t = some (.map kt et)) (hx : opd e x = some (.map p)) (hy : opd e y = some (.map none)) : OpQ P n C e o (.bool p.isNone) := OpQ.val fun A hf w => by
  unfold execOp; rw [h]; simp only [hf.opd hx, hf.opd hy]
  rw [show eqGuard .eql t x y (Value.map p) (Value.map none) = pure () from rfl]
  have h1 : ∀ d : Nat, (Op.equalIn (d + 1) t (.map p) (.map none)).run P w = .ok p.isNone w := fun d => by
    cases p <;> simp [Op.equalIn, run_underlying hu, Result.andThen]
  simp only [Sem.run_bind, Sem.run_pure, Result.andThen, binOp]
  simp [Op.equal, Op.maxDepth, h1 9999]
end
end Go.Wk
namespace Go.Wk
abbrev uK := @OpQ.lookP_at
end Go.Wk
namespace Go.Wk
open Go.RowKit
/-- a row that stands among blocks -/
def RowB (hs : List (Nat × Obj)) (v : Value) (vs : List Value) : Prop :=
  (v = .slice none 0 0 ∧ vs = []) ∨ ∃ g cap cur el, v = .slice (some ⟨g, 0, none⟩) vs.length cap ∧ (g, Obj.cells cur el (0, 0)) ∈ hs ∧ cur.toList.take vs.length = vs ∧ vs.length ≤ cap
theorem RowB.row {B : Nat} {w0 w : World} {hs : List (Nat × Obj)} {v : Value} {vs : List Value} (h : RowB hs v vs) (hw : Own B w0 hs w) : Row w v vs := by
  rcases h with ⟨rfl, rfl⟩ | ⟨g, cap, cur, el, rfl, h1, h2, h3⟩
  · exact Ints.nil
  · obtain ⟨i, hi⟩ := List.mem_iff_getElem?.1 h1
    exact Own.row hw hi h2 rfl h3
theorem RowB.more {hs hs' : List (Nat × Obj)} {v : Value} {vs : List Value} (k : ∀ x ∈ hs, x ∈ hs') (h : RowB hs v vs) : RowB hs' v vs := by
  rcases h with h | ⟨g, cap, cur, el, h0, h1, h2, h3⟩
  · exact .inl h
  · exact .inr ⟨g, cap, cur, el, h0, k _ h1, h2, h3⟩
theorem RowB.nil {hs : List (Nat × Obj)} : RowB hs (.slice none 0 0) [] := .inl ⟨rfl, rfl⟩
theorem RowB.at {hs : List (Nat × Obj)} {g n cap el : Nat} {cur : Array Value} {vs : List Value} (hm : (g, Obj.cells cur el (0, 0)) ∈ hs) (ht : cur.toList.take n = vs) (hn : vs.length = n) (hc : n ≤ cap) : RowB hs (.slice (some ⟨g, 0, none⟩) n cap) vs := by
  subst hn
  exact .inr ⟨g, cap, cur, el, rfl, hm, ht, hc⟩
def NodeB (T : TypeId) (hs : List (Nat × Obj)) (p : Nat) (c : UInt8) (vs : List UInt8) (ps : List Nat) (fr al : Nat) : Prop :=
  ∃ vv pv, (p, Obj.cells #[u8V c, vv, pv, .int .i64 (fr : Int), .int .i64 (al : Int)] T (0, 0)) ∈ hs ∧ RowB hs vv (vs.map u8V) ∧ RowB hs pv (ps.map ptrV)
def TreeB (T : TypeId) (hs : List (Nat × Obj)) : Fm → Nat → Prop
  | .leaf c vs, p => NodeB T hs p c vs [] (frB (.leaf c vs)) (allB (.leaf c vs))
  | .one c vs q, p => ∃ q', NodeB T hs p c vs [q'] (frB (.one c vs q)) (allB (.one c vs q)) ∧ TreeB T hs q q'
  | .two c q r, p => ∃ q' r', NodeB T hs p c [] [q', r'] (frB (.two c q r)) (allB (.two c q r)) ∧ TreeB T hs q q' ∧ TreeB T hs r r'
theorem NodeB.more {T : TypeId} {hs hs' : List (Nat × Obj)} {p : Nat} {c : UInt8} {vs : List UInt8} {ps : List Nat} {fr al : Nat} (k : ∀ x ∈ hs, x ∈ hs') (h : NodeB T hs p c vs ps fr al) : NodeB T hs' p c vs ps fr al := by
  obtain ⟨vv, pv, h1, h2, h3⟩ := h
  exact ⟨vv, pv, k _ h1, h2.more k, h3.more k⟩
theorem TreeB.more {T : TypeId} {hs hs' : List (Nat × Obj)} (k : ∀ x ∈ hs, x ∈ hs') : ∀ {fm : Fm} {p : Nat}, TreeB T hs fm p → TreeB T hs' fm p
  | .leaf _ _, _, h => NodeB.more k h
  | .one _ _ _, _, h => by obtain ⟨q', h1, h2⟩ := h; exact ⟨q', h1.more k, TreeB.more k h2⟩
  | .two _ _ _, _, h => by obtain ⟨q', r', h1, h2, h3⟩ := h; exact ⟨q', r', h1.more k, TreeB.more k h2, TreeB.more k h3⟩
theorem TreeB.left {T : TypeId} {hs hs' : List (Nat × Obj)} {fm : Fm} {p : Nat} (h : TreeB T hs fm p) : TreeB T (hs ++ hs') fm p := h.more fun _ hx => List.mem_append_left _ hx
theorem TreeB.right {T : TypeId} {hs hs' : List (Nat × Obj)} {fm : Fm} {p : Nat} (h : TreeB T hs fm p) : TreeB T (hs' ++ hs) fm p := h.more fun _ hx => List.mem_append_right _ hx
theorem NodeB.node {T : TypeId} {B : Nat} {w0 w : World} {hs : List (Nat × Obj)} {p : Nat} {c : UInt8} {vs : List UInt8} {ps : List Nat} {fr al : Nat} (h : NodeB T hs p c vs ps fr al) (hw : Own B w0 hs w) : NodeC T w p c vs ps fr al := by
  obtain ⟨vv, pv, h1, h2, h3⟩ := h
  exact ⟨vv, pv, (hw.mem h1).2, h2.row hw, h3.row hw⟩
theorem TreeB.tree {T : TypeId} {B : Nat} {w0 w : World} {hs : List (Nat × Obj)} (hw : Own B w0 hs w) : ∀ {fm : Fm} {p : Nat}, TreeB T hs fm p → Tree T w fm p
  | .leaf _ _, _, h => NodeB.node h hw
  | .one _ _ _, _, h => by obtain ⟨q', h1, h2⟩ := h; exact ⟨q', h1.node hw, TreeB.tree hw h2⟩
  | .two _ _ _, _, h => by obtain ⟨q', r', h1, h2, h3⟩ := h; exact ⟨q', r', h1.node hw, TreeB.tree hw h2, TreeB.tree hw h3⟩
theorem TreeB.node {T : TypeId} {hs : List (Nat × Obj)} : ∀ {fm : Fm} {p : Nat}, TreeB T hs fm p → ∃ c vs ps, NodeB T hs p c vs ps (frB fm) (allB fm)
  | .leaf c vs, _, h => ⟨c, vs, [], h⟩
  | .one c vs _, _, h => by obtain ⟨q', h1, _⟩ := h; exact ⟨c, vs, [q'], h1⟩
  | .two c _ _, _, h => by obtain ⟨q', r', h1, _⟩ := h; exact ⟨c, [], [q', r'], h1⟩
theorem TreeB.same {T : TypeId} {B : Nat} {w0 w : World} {hs : List (Nat × Obj)} (hw : Own B w0 hs w) {fm fm' : Fm} {p : Nat} (h : TreeB T hs fm p) (k : TreeB T hs fm' p) : fm = fm' := (TreeB.tree hw h).same (TreeB.tree hw k)
theorem mem_at {α : Type} {l : List α} {i : Nat} {x : α} (h : l[i]? = some x) : x ∈ l := List.mem_of_getElem? h
theorem mem_atL {α : Type} {l r : List α} {i : Nat} {x : α} (h : l[i]? = some x) : x ∈ l ++ r := List.mem_append_left _ (List.mem_of_getElem? h)
abbrev Memo := List (Nat × Nat × List (Int × Bool))
def memoK (K : Memo) : List (Nat × Nat) := K.map fun x => (x.1, x.2.1)
def memoB (K : Memo) : List (Nat × Obj) := K.map fun x => (x.2.1, mapI x.2.2)
def MemoOk (T : TypeId) (a : St) (hs : List (Nat × Obj)) (K : Memo) : Prop := ∀ x ∈ K, ∃ fm, wfF fm ∧ TreeB T hs fm x.1 ∧ ∀ y ∈ x.2.2, ∃ e, EnvA a e ∧ keyF fm e = y.1 ∧ ev a fm e = y.2
theorem MemoOk.nil {T : TypeId} {a : St} {hs : List (Nat × Obj)} : MemoOk T a hs [] := fun x hx => by cases hx
theorem EnvA.ok {a : St} {e : List Int} (h : EnvA a e) (ha : a.Fine) : EnvOk e := ⟨h.1, fun i hi => by
  have h1 := h.2 i hi
  have h2 := ha.hi
  unfold St.El at h1
  omega⟩
/-- what is kept is right -/
theorem memo_ev {T : TypeId} {a : St} {B : Nat} {w0 w : World} {hs ts : List (Nat × Obj)} {K : Memo} {fm : Fm} {p j m : Nat} {L : List (Int × Bool)} {en : List Int} (ha : a.Fine) (hK : MemoOk T a ts K) (hts : ∀ x ∈ ts, x ∈ hs) (hw : Own B w0 hs w) (hT : TreeB T ts fm p) (hwf : wfF fm) (hE : EnvA a en) (hj : K[j]? = some (p, m, L)) :
    ∀ c, (keyF fm en, c) ∈ L → c = ev a fm en := fun c hc => by
  obtain ⟨fm', h1, h2, h3⟩ := hK _ (List.mem_of_getElem? hj)
  have e := TreeB.same hw (h2.more hts) (hT.more hts)
  subst e
  obtain ⟨e, g1, g2, g3⟩ := h3 _ hc
  exact g3.symm.trans (key_ev hwf (g1.ok ha) (hE.ok ha) g2)
theorem memoK_get {K : Memo} {j p m : Nat} {L : List (Int × Bool)} (h : K[j]? = some (p, m, L)) : (memoK K)[j]? = some (p, m) := by unfold memoK; rw [List.getElem?_map, h]; rfl
theorem memoB_get {K : Memo} {j p m : Nat} {L : List (Int × Bool)} (h : K[j]? = some (p, m, L)) : (memoB K)[j]? = some (m, mapI L) := by unfold memoB; rw [List.getElem?_map, h]; rfl
theorem memoB_at {K : Memo} {j p m : Nat} {L : List (Int × Bool)} {r : List (Nat × Obj)} (h : K[j]? = some (p, m, L)) : (memoB K ++ r)[j]? = some (m, mapI L) := by
  have := memoB_get h
  rw [List.getElem?_append_left (List.getElem?_eq_some_iff.1 this).1]; exact this
theorem memoB_set {K : Memo} {j p m : Nat} {L L' : List (Int × Bool)} {r : List (Nat × Obj)} (h : K[j]? = some (p, m, L)) : (memoB K ++ r).set j (m, mapI L') = memoB (K.set j (p, m, L')) ++ r := by
  have h1 := (List.getElem?_eq_some_iff.1 (memoB_get h)).1
  rw [List.set_append_left _ _ h1]
  unfold memoB
  rw [List.map_set]
theorem memoK_set {K : Memo} {j p m : Nat} {L L' : List (Int × Bool)} (h : K[j]? = some (p, m, L)) : memoK (K.set j (p, m, L')) = memoK K := by
  unfold memoK
  rw [List.map_set]
  exact set_same (by rw [List.getElem?_map, h]; rfl)
theorem memoB_add (K : Memo) (p m : Nat) : memoB (K ++ [(p, m, [])]) = memoB K ++ [(m, mapI [])] := by unfold memoB; rw [List.map_append]; rfl
theorem memoK_add (K : Memo) (p m : Nat) : memoK (K ++ [(p, m, [])]) = memoK K ++ [(p, m)] := by unfold memoK; rw [List.map_append]; rfl
/-- is a pointer among the keys, and what is kept of it? -/
theorem memo_case (K : Memo) (p : Nat) : (∀ x ∈ memoK K, x.1 ≠ p) ∨ ∃ j m L, K[j]? = some (p, m, L) ∧ ∀ (q : Nat) (x : Nat × Nat), q < j → (memoK K)[q]? = some x → x.1 ≠ p := by
  rcases key_case (memoK K) p with h | ⟨j, m, h1, h2⟩
  · exact .inl h
  · unfold memoK at h1
    rw [List.getElem?_map] at h1
    cases e : K[j]? with
    | none => rw [e] at h1; cases h1
    | some y =>
      rw [e] at h1
      have h3 : (y.1, y.2.1) = (p, m) := by simpa using h1
      injection h3 with h3 h4
      exact .inr ⟨j, m, y.2.2, by rw [e, ← h3, ← h4], h2⟩
theorem has_case (L : List (Int × Bool)) (k : Int) : (∀ x ∈ L, x.1 ≠ k) ∨ ∃ x ∈ L, x.1 = k := by
  rcases Classical.em (∃ x ∈ L, x.1 = k) with h | h
  · exact .inr h
  · exact .inl fun x hx e => h ⟨x, hx, e⟩
theorem TreeB.key {T : TypeId} {B : Nat} {w0 : World} {hs hs' : List (Nat × Obj)} {fm : Fm} {p : Nat} (h : TreeB T hs fm p) (hsub : ∀ x ∈ hs, x ∈ hs') : KeysIn B w0 hs' p := fun w hw => by
  obtain ⟨c, vs, ps, vv, pv, h1, _⟩ := h.node
  exact ⟨_, _, (hw.mem (hsub _ h1)).2⟩
theorem MemoOk.keys {T : TypeId} {a : St} {B : Nat} {w0 : World} {hs hs' : List (Nat × Obj)} {K : Memo} (h : MemoOk T a hs K) (hsub : ∀ x ∈ hs, x ∈ hs') : ∀ x ∈ memoK K, KeysIn B w0 hs' x.1 := fun x hx => by
  obtain ⟨y, hy, rfl⟩ := List.mem_map.1 hx
  obtain ⟨fm, _, h2, _⟩ := h y hy
  exact h2.key hsub
theorem MemoOk.add {T : TypeId} {a : St} {hs : List (Nat × Obj)} {K : Memo} {fm : Fm} {p m : Nat} (h : MemoOk T a hs K) (hT : TreeB T hs fm p) (hwf : wfF fm) : MemoOk T a hs (K ++ [(p, m, [])]) := fun x hx => by
  rcases List.mem_append.1 hx with hx | hx
  · exact h x hx
  · rw [List.mem_singleton.1 hx]
    exact ⟨fm, hwf, hT, fun y hy => by cases hy⟩
theorem MemoOk.set {T : TypeId} {a : St} {B : Nat} {w0 w : World} {hs ts : List (Nat × Obj)} {K : Memo} {fm : Fm} {p j m : Nat} {L L' : List (Int × Bool)} {en : List Int} (h : MemoOk T a ts K) (hts : ∀ x ∈ ts, x ∈ hs) (hw : Own B w0 hs w) (hT : TreeB T ts fm p) (hwf : wfF fm) (hE : EnvA a en) (hj : K[j]? = some (p, m, L)) (hL : ∀ x ∈ L', x ∈ L ∨ x = (keyF fm en, ev a fm en)) : MemoOk T a ts (K.set j (p, m, L')) := fun x hx => by
  rcases List.mem_or_eq_of_mem_set hx with hx | rfl
  · exact h x hx
  · obtain ⟨fm', h1, h2, h3⟩ := h _ (List.mem_of_getElem? hj)
    have e := TreeB.same hw (h2.more hts) (hT.more hts)
    subst e
    refine ⟨fm', hwf, hT, fun y hy => ?_⟩
    rcases hL y hy with hy | rfl
    · exact h3 y hy
    · exact ⟨en, hE, rfl, rfl⟩
end Go.Wk
namespace Go.Wk
open Go.RowKit
theorem formO_none {f : List UInt8} (h : parse f = none) : formO f = none := by unfold formO; rw [h]; simp
theorem formO_rest {f r : List UInt8} {p : Fm} (h : parse f = some (p, r)) (hr : ¬ r = []) : formO f = none := by
  unfold formO; rw [h]
  cases r with
  | nil => exact absurd rfl hr
  | cons c r => simp
def szF : Fm → Nat
  | .leaf _ _ => 0
  | .one _ _ p => szF p + 1
  | .two _ p q => szF p + szF q + 1
theorem rank_sub1 {c : UInt8} {vs : List UInt8} {q : Fm} : rankF q ≤ rankF (.one c vs q) := by
  show _ ≤ (if c = 33 then rankF q else if c = 65 ∨ c = 83 then rankF q + 1 else rankF q + (c.toNat - 48))
  split
  · exact Nat.le_refl _
  · split <;> omega
theorem rank_sub2 {c : UInt8} {q r : Fm} : rankF q ≤ rankF (.two c q r) ∧ rankF r ≤ rankF (.two c q r) := by
  show _ ≤ max _ _ ∧ _ ≤ max _ _
  omega
def cntI (c : UInt8) : Prop := (c.toNat : Int) = 50 ∨ (c.toNat : Int) = 51 ∨ (c.toNat : Int) = 52
theorem leaf_letter {c : UInt8} {vs : List UInt8} (h : wfF (.leaf c vs)) : ¬ quI (c.toNat : Int) ∧ ¬ cntI c := by
  unfold quI cntI
  rcases leaf_op h with hc | ⟨rfl, _⟩ | ⟨hc, _⟩
  · rcases hc with rfl | rfl <;> decide
  · decide
  · rcases hc with rfl | rfl <;> decide
theorem two_letter {c : UInt8} {p q : Fm} (h : wfF (.two c p q)) : ¬ quI (c.toNat : Int) ∧ ¬ cntI c := by
  unfold quI cntI
  rcases two_op h with rfl | rfl <;> decide
theorem one_letter {c : UInt8} {vs : List UInt8} {q : Fm} (h : wfF (.one c vs q)) : (quI (c.toNat : Int) ∧ ∃ v, vs = [v] ∧ isV v = true) ∨ (c = 33 ∧ vs = []) := by
  cases vs with
  | nil => exact .inr ⟨one_no_var h, rfl⟩
  | cons v vs =>
    obtain ⟨h1, rfl, h3⟩ := one_var h
    refine .inl ⟨?_, v, rfl, h3⟩
    unfold quI
    rcases h1 with rfl | rfl | rfl | rfl | rfl <;> decide
theorem rank_end1 {c : UInt8} {vs : List UInt8} {q : Fm} (hc : cntI c) : (rankF q : Int) + ((c.toNat : Int) - 48) = ((rankF (.one c vs q) : Nat) : Int) := by
  have hq : quI (c.toNat : Int) := by unfold cntI at hc; unfold quI; omega
  rw [rank_cnt hq (by unfold cntI at hc; omega)]; omega
theorem rank_end2 {c : UInt8} {vs : List UInt8} {q : Fm} (hc : ¬ cntI c) (hq : quI (c.toNat : Int)) : (rankF q : Int) + 1 = ((rankF (.one c vs q) : Nat) : Int) := by
  rw [rank_one (by unfold cntI at hc; unfold quI at hq; omega)]
theorem rank_end3 {c : UInt8} {vs : List UInt8} {q : Fm} (h : wfF (.one c vs q)) (hq : ¬ quI (c.toNat : Int)) : (rankF q : Int) = ((rankF (.one c vs q) : Nat) : Int) := by
  rcases one_letter h with ⟨h1, _⟩ | ⟨rfl, rfl⟩
  · exact absurd h1 hq
  · rfl
end Go.Wk
namespace Go.Wk
open Go.RowKit
section
variable {P : Program} {n : Nat} {C : World → Prop} {B : Nat} {w0 : World} {hs hs' : List (Nat × Obj)} {N R : Act → World → Prop} {X : List (Nat × (Act → World → Prop))} {e : Env} {ops : Array Oper} {l : List Oper} {o : Oper}
theorem OpQ.indexAgg {t el : TypeId} {m : Nat} {x y : Operand} {xs : List Int} {k : IntKind} {i : Int} (h : o.op = .index t x y) (hu : ∀ w, (underlying t).run P w = .ok (.array m el) w) (hag : ∀ w, (isAgg el).run P w = .ok false w) (hz : ∀ w, (sizeOf el).run P w = .ok 1 w)
    (hx : opd e x = some (.agg (ints xs).toArray)) (hy : opd e y = some (.int k i)) (h0 : 0 ≤ i) (h1 : i < m) (hl : xs.length = m) : OpQ P n C e o (.int .i64 (xs.getD i.toNat 0)) := OpQ.val fun A hF w => by
  unfold execOp; rw [h]; simp only [hF.opd hx, hF.opd hy]
  have hc : ((ints xs).toArray)[i.toNat]? = some (.int .i64 (xs.getD i.toNat 0)) := by
    have hi : i.toNat < xs.length := by omega
    rw [List.getElem?_toArray]
    unfold ints
    rw [List.getElem?_map, List.getElem?_eq_getElem hi, getD_at hi]; rfl
  simp only [Instr.index, asIntOf, Sem.run_bind, Sem.run_pure, hu, Result.andThen, if_pos (And.intro h0 h1), hz, part, hag, Nat.mul_one]
  simp [hc]
/-- a structure out of a holder -/
theorem OpQ.loadHold {t : TypeId} {x : Operand} {p : Nat} {a : St} {k : Value} {T : TypeId} {fr : Nat × Nat} (i : Nat) (h : o.op = .load t x) (hag : ∀ w, (isAgg t).run P w = .ok true w) (hsz : ∀ w, (sizeOf t).run P w = .ok 3 w) (hx : opd e x = some (.pointer (some ⟨p, 0, none⟩)))
    (hi : hs[i]? = some (p, .cells #[.int .i64 a.n, str a.set, str a.rel, k] T fr)) : OpQ P n (Own B w0 hs) e o (vS a) :=
  OpQ.loadN (cs := #[.int .i64 a.n, str a.set, str a.rel]) h hag hsz hx fun w hw j v hj => by
    rw [Addr.add_lit, hw.cell hi, Nat.zero_add]
    match j, hj with
    | 0, hj => exact hj
    | 1, hj => exact hj
    | 2, hj => exact hj
    | j + 3, hj => simp at hj
theorem Row.u8 {w : World} {v : Value} {vs : List UInt8} (h : Row w v (vs.map u8V)) {i : Int} (h0 : 0 ≤ i) (h1 : i < vs.length) : w.cell? (sAt v i) = some (.int .u8 ((vs.getD i.toNat 0).toNat : Int)) := by
  have hi : i.toNat < vs.length := by omega
  rw [Row.cell h h0 (by rw [List.length_map]; exact h1), getD_at hi]
  congr 1
  rw [List.getD_eq_getElem?_getD, List.getElem?_map, List.getElem?_eq_getElem hi]; rfl
/-- the blocks of a holder ahead of others -/
abbrev memoF (TH h M : Nat) (a : St) (K : Memo) (r : List (Nat × Obj)) : List (Nat × Obj) := (h, .cells #[.int .i64 a.n, str a.set, str a.rel, .map (some M)] TH (0, 0)) :: (M, mapP (memoK K)) :: (memoB K ++ r)
theorem Own.offMemo {w : World} {M : Nat} {K : Memo} {f : List (Nat × Obj)} (h : Own B w0 (f ++ ((M, mapP (memoK K)) :: (memoB K ++ hs))) w) : Own B w0 (f ++ hs) w :=
  h.sub (List.Sublist.append_left (List.Sublist.cons _ (List.sublist_append_right _ _)) f)
theorem memo_perm {TH h M : Nat} {a : St} {K : Memo} (f r : List (Nat × Obj)) : (f ++ memoF TH h M a K r).Perm (memoF TH h M a K (f ++ r)) := by
  have e : ∀ r, memoF TH h M a K r = ((h, Obj.cells #[.int .i64 a.n, str a.set, str a.rel, .map (some M)] TH (0, 0)) :: (M, mapP (memoK K)) :: memoB K) ++ r := fun _ => rfl
  rw [e, e]
  exact perm_back f _ r
theorem Ll.callMemo {TH h M d f : Nat} {a : St} {K : Memo} {ok : Memo → Prop} {b : Bool} {xs : List Operand} {ts : Array TypeId} {vs : List Value} (front : List (Nat × Obj)) (hd : Nat.blt d n = true) (hdst : o.dst = some d) (hg : wantE ops e o.guard = some true) (ho : o.op = .call ⟨.value (.func f), xs.toArray, ts⟩)
    (hcf : ∀ args w, (callFunc f args).run P w = .ok (.enter f args) w) (hx : opds e xs = some vs)
    (hc : ∀ w, Own B w0 (memoF TH h M a K (front ++ hs)) w → Calls P f vs.toArray w fun en w' => ∃ K', en = .returned (.bool b) ∧ ok K' ∧ Own B w0 (memoF TH h M a K' (front ++ hs)) w')
    (k : ∀ K', ok K' → Ll P n (Own B w0 (front ++ memoF TH h M a K' hs)) ops l ((d, .bool b) :: e) N R X) : Ll P n (Own B w0 (front ++ memoF TH h M a K hs)) ops (o :: l) e N R X :=
  Ll.call hd hdst hg ho hcf hx fun w hw => (hc w (hw.perm (memo_perm _ _))).mono fun en w' ⟨K', h1, h2, h3⟩ => ⟨_, h1, fun a' ha => by
    have := k K' h2
    unfold Ll at this
    exact this a' w' ha (h3.perm (memo_perm _ _).symm)⟩
end
theorem memo_new {M m p : Nat} {K : Memo} (f r : List (Nat × Obj)) : ((m, mapI []) :: (f ++ ((M, mapP (memoK K ++ [(p, m)])) :: (memoB K ++ r)))).Perm (f ++ ((M, mapP (memoK (K ++ [(p, m, [])]))) :: (memoB (K ++ [(p, m, [])]) ++ r))) := by
  rw [memoK_add, memoB_add, List.append_assoc]
  refine (List.perm_middle (a := (m, mapI [])) (l₁ := f) (l₂ := ((M, mapP (memoK K ++ [(p, m)])) :: (memoB K ++ r)))).symm.trans (List.Perm.append_left f ?_)
  refine (List.Perm.swap _ _ _).trans (List.Perm.cons _ ?_)
  exact (List.perm_middle (a := (m, mapI [])) (l₁ := memoB K) (l₂ := r)).symm
theorem memo_set2 {M m p j : Nat} {K : Memo} {x y : Nat × Obj} {r : List (Nat × Obj)} {L L' : List (Int × Bool)} (hj : K[j]? = some (p, m, L)) : (x :: y :: (M, mapP (memoK K)) :: (memoB K ++ r)).set (j + 3) (m, mapI L') = x :: y :: (M, mapP (memoK (K.set j (p, m, L')))) :: (memoB (K.set j (p, m, L')) ++ r) := by
  rw [memoK_set hj, ← memoB_set hj]; rfl
theorem memo_last {K : Memo} {p m : Nat} (h : ∀ x ∈ memoK K, x.1 ≠ p) : (K ++ [(p, m, [])])[K.length]? = some (p, m, []) ∧ ∀ (q : Nat) (x : Nat × Nat), q < K.length → (memoK (K ++ [(p, m, [])]))[q]? = some x → x.1 ≠ p := by
  refine ⟨by simp, fun q x hq hx => ?_⟩
  rw [memoK_add, List.getElem?_append_left (by unfold memoK; rw [List.length_map]; exact hq)] at hx
  exact h x (List.mem_of_getElem? hx)
theorem memo_case3 (K : Memo) (p : Nat) (k : Int) : (∀ x ∈ memoK K, x.1 ≠ p) ∨ (∃ j m L, K[j]? = some (p, m, L) ∧ (∀ (q : Nat) (x : Nat × Nat), q < j → (memoK K)[q]? = some x → x.1 ≠ p) ∧ ∀ x ∈ L, x.1 ≠ k) ∨ ∃ j m L, K[j]? = some (p, m, L) ∧ (∀ (q : Nat) (x : Nat × Nat), q < j → (memoK K)[q]? = some x → x.1 ≠ p) ∧ ∃ x ∈ L, x.1 = k := by
  rcases memo_case K p with h | ⟨j, m, L, h1, h2⟩
  · exact .inl h
  · rcases has_case L k with h3 | h3
    · exact .inr (.inl ⟨j, m, L, h1, h2, h3⟩)
    · exact .inr (.inr ⟨j, m, L, h1, h2, h3⟩)
theorem leaf_by {c : UInt8} {vs : List UInt8} (h : wfF (.leaf c vs)) : (((c.toNat : Int) = 116 ∨ (c.toNat : Int) = 102) ∧ vs = []) ∨ ((c.toNat : Int) = 80 ∧ ∃ v, vs = [v] ∧ isV v = true) ∨ (((c.toNat : Int) = 61 ∨ (c.toNat : Int) = 69) ∧ ∃ v u, vs = [v, u] ∧ isV v = true ∧ isV u = true) := by
  have hv := h.2.2.2
  have hl := h.2.2.1
  rcases leaf_op h with hc | ⟨rfl, v, rfl⟩ | ⟨hc, v, u, rfl⟩
  · refine .inl ⟨?_, ?_⟩
    · rcases hc with rfl | rfl <;> decide
    · have e : arV c = 0 := by rcases hc with rfl | rfl <;> rfl
      exact List.length_eq_zero_iff.1 (by omega)
  · exact .inr (.inl ⟨by decide, v, rfl, hv v (by simp)⟩)
  · refine .inr (.inr ⟨?_, v, u, rfl, hv v (by simp), hv u (by simp)⟩)
    rcases hc with rfl | rfl <;> decide
theorem one_by {c : UInt8} {vs : List UInt8} {q : Fm} (h : wfF (.one c vs q)) : ((c.toNat : Int) = 33 ∧ vs = []) ∨ (quI (c.toNat : Int) ∧ ∃ v, vs = [v] ∧ isV v = true) := by
  rcases one_letter h with ⟨h1, v, h2, h3⟩ | ⟨rfl, h2⟩
  · exact .inr ⟨h1, v, h2, h3⟩
  · exact .inl ⟨by decide, h2⟩
theorem two_by {c : UInt8} {p q : Fm} (h : wfF (.two c p q)) : (c.toNat : Int) = 38 ∨ (c.toNat : Int) = 124 := by
  rcases two_op h with rfl | rfl <;> decide
theorem fm_by {fm : Fm} (h : wfF fm) : (∃ c, fm = .leaf c [] ∧ ((c.toNat : Int) = 116 ∨ (c.toNat : Int) = 102)) ∨ (∃ c v, fm = .leaf c [v] ∧ (c.toNat : Int) = 80 ∧ isV v = true) ∨ (∃ c v u, fm = .leaf c [v, u] ∧ ((c.toNat : Int) = 61 ∨ (c.toNat : Int) = 69) ∧ isV v = true ∧ isV u = true) ∨
    (∃ c q, fm = .one c [] q ∧ (c.toNat : Int) = 33) ∨ (∃ c v q, fm = .one c [v] q ∧ quI (c.toNat : Int) ∧ isV v = true) ∨ ∃ c q r, fm = .two c q r ∧ ((c.toNat : Int) = 38 ∨ (c.toNat : Int) = 124) := by
  cases fm with
  | leaf c vs =>
    rcases leaf_by h with ⟨h1, rfl⟩ | ⟨h1, v, rfl, h2⟩ | ⟨h1, v, u, rfl, h2, h3⟩
    · exact .inl ⟨c, rfl, h1⟩
    · exact .inr (.inl ⟨c, v, rfl, h1, h2⟩)
    · exact .inr (.inr (.inl ⟨c, v, u, rfl, h1, h2, h3⟩))
  | one c vs q =>
    rcases one_by h with ⟨h1, rfl⟩ | ⟨h1, v, rfl, h2⟩
    · exact .inr (.inr (.inr (.inl ⟨c, q, rfl, h1⟩)))
    · exact .inr (.inr (.inr (.inr (.inl ⟨c, v, q, rfl, h1, h2⟩))))
  | two c q r => exact .inr (.inr (.inr (.inr (.inr ⟨c, q, r, rfl, two_by h⟩))))
section
variable {a : St} {en : List Int} {c v u : UInt8} {q r : Fm}
theorem ev116 (h : (c.toNat : Int) = 116) : true = ev a (.leaf c []) en := by
  obtain rfl : c = 116 := u8_of (n := 116) (by decide) h
  rfl
theorem ev102 (h : (c.toNat : Int) = 102) : false = ev a (.leaf c []) en := by
  obtain rfl : c = 102 := u8_of (n := 102) (by decide) h
  rfl
theorem ev80 (h : (c.toNat : Int) = 80) : a.inSet (en.getD (vI v) 0) = ev a (.leaf c [v]) en := by
  obtain rfl : c = 80 := u8_of (n := 80) (by decide) h
  rfl
theorem ev33 (h : (c.toNat : Int) = 33) : (!ev a q en) = ev a (.one c [] q) en := by
  obtain rfl : c = 33 := u8_of (n := 33) (by decide) h
  rfl
theorem ev38 (h : (c.toNat : Int) = 38) : (ev a q en && ev a r en) = ev a (.two c q r) en := by
  obtain rfl : c = 38 := u8_of (n := 38) (by decide) h
  rfl
theorem ev124 (h : (c.toNat : Int) = 124) : (ev a q en || ev a r en) = ev a (.two c q r) en := by
  obtain rfl : c = 124 := u8_of (n := 124) (by decide) h
  rfl
theorem and_t {x y z : Bool} (h : (x && y) = z) (hx : x = true) : y = z := by rw [hx] at h; exact h
theorem and_f {x y z : Bool} (h : (x && y) = z) (hx : x = false) : false = z := by rw [hx] at h; exact h
theorem or_t {x y z : Bool} (h : (x || y) = z) (hx : x = true) : true = z := by rw [hx] at h; exact h
theorem or_f {x y z : Bool} (h : (x || y) = z) (hx : x = false) : y = z := by rw [hx] at h; exact h
theorem ev_qu (h : quI (c.toNat : Int)) : ev a (.one c [v] q) en = decide (need c a.n.toNat ≤ cntT (evC a v q en) a.n.toNat) := by
  unfold ev
  rw [if_neg (fun e => by subst e; revert h; decide)]; rfl
theorem ev65 (h : (c.toNat : Int) = 65) {x : Nat} (hx : (x : Int) = a.n) : decide ((cntT (evC a v q en) x : Int) = a.n) = ev a (.one c [v] q) en := by
  rw [ev_qu (by unfold quI; omega), decide_eq_decide]
  have hn := need65 h (show 0 ≤ a.n by omega)
  have hl := cntT_le (evC a v q en) x
  obtain rfl : x = a.n.toNat := by omega
  omega
theorem ev83 (h : (c.toNat : Int) = 83) {x : Nat} (hx : (x : Int) = a.n) : decide ((0 : Int) < (cntT (evC a v q en) x : Int)) = ev a (.one c [v] q) en := by
  rw [ev_qu (by unfold quI; omega), decide_eq_decide]
  have hn := need83 (n := a.n.toNat) h
  obtain rfl : x = a.n.toNat := by omega
  omega
theorem ev234 (hq : quI (c.toNat : Int)) (h65 : ¬ (c.toNat : Int) = 65) (h83 : ¬ (c.toNat : Int) = 83) {x : Nat} (hx : (x : Int) = a.n) : decide ((c.toNat : Int) - 48 ≤ (cntT (evC a v q en) x : Int)) = ev a (.one c [v] q) en := by
  rw [ev_qu hq, decide_eq_decide]
  have hn := need234 (c := c) (n := a.n.toNat) (by unfold quI at hq; omega)
  obtain rfl : x = a.n.toNat := by omega
  omega
end
theorem bit_and {b i : Nat} : decide (((b / 2 ^ i &&& 1 : Nat) : Int) = 1) = b.testBit i := by
  rw [Nat.testBit_eq_decide_div_mod_eq, decide_eq_decide, Nat.and_one_is_mod]
  omega
theorem key_bound {a : St} {en : List Int} (hE : EnvA a en) (ha : a.Fine) {b i : Nat} (hi : i ≤ 4) : kSum b en i < 4096 := by
  have h1 := kSum_lt (b := b) (hE.ok ha) hi
  have h2 : (8 : Nat) ^ i ≤ 8 ^ 4 := Nat.pow_le_pow_right (by decide) hi
  omega
theorem key_yes {a : St} {en : List Int} (hE : EnvA a en) (ha : a.Fine) {b i : Nat} (hi : i < 4) (hb : b.testBit i = true) : kSum b en i ||| (en.getD i 0).toNat * 2 ^ (3 * i) = kSum b en (i + 1) := by
  rw [Nat.pow_mul, show (2 : Nat) ^ 3 = 8 from rfl]
  exact kSum_or (hE.ok ha) hi hb
theorem key_no {en : List Int} {b i : Nat} (hb : b.testBit i = false) : kSum b en i = kSum b en (i + 1) := by
  rw [show kSum b en (i + 1) = kSum b en i + (if b.testBit i then (en.getD i 0).toNat * 8 ^ i else 0) from rfl, hb]; rfl
theorem key_val {a : St} {en : List Int} (hE : EnvA a en) (ha : a.Fine) {i : Nat} (hi : i < 4) : en.getD i 0 = ((en.getD i 0).toNat : Int) ∧ (en.getD i 0).toNat < 8 := by
  have := (hE.ok ha).2 i hi
  omega
theorem shl_bound {x i : Nat} (hx : x < 8) (hi : i < 4) : x * 2 ^ (3 * i) < 4611686018427387904 := by
  have h2 : (2 : Nat) ^ (3 * i) ≤ 2 ^ 9 := Nat.pow_le_pow_right (by decide) (by omega)
  have := Nat.mul_le_mul (show x ≤ 7 by omega) h2
  omega
end Go.Wk
namespace Go.Wk
abbrev qO := @Own.offMemo
abbrev vX := @Ll.callMemo
end Go.Wk
namespace Go.Wk
open Go.RowKit
section
variable {P : Program} {n : Nat} {C : World → Prop} {B : Nat} {w0 : World} {hs hs' : List (Nat × Obj)} {N R : Act → World → Prop} {X : List (Nat × (Act → World → Prop))} {e : Env} {ops : Array Oper} {l : List Oper} {o : Oper}
theorem OpQ.sliceAll {t el : TypeId} {m : Nat} {x : Operand} {b : Nat} (h : o.op = .slice t x none none none) (hu : ∀ w, (underlying t).run P w = .ok (.array m el) w) (hz : ∀ w, (sizeOf el).run P w = .ok 1 w)
    (hx : opd e x = some (.pointer (some ⟨b, 0, none⟩))) : OpQ P n C e o (.slice (some ⟨b, 0, none⟩) m m) := OpQ.val fun A hF w => by
  unfold execOp; rw [h]; simp only [hF.opd hx, Option.map_none]
  simp only [Instr.sliceAt, Instr.sureAddr, Instr.sliceBounds, Sem.run_bind, Sem.run_pure, hu, hz, Result.andThen]
  simp [Addr.add]
theorem Ll.copyEnv {dT sT elem T : TypeId} {d g : Nat} {x y : Operand} {v : Value} {xs : List Int} (i : Nat) (hd : Nat.blt d n = true) (hdst : o.dst = some d) (hg : wantE ops e o.guard = some true) (h : o.op = .call ⟨.builtin .copy, #[x, y], #[dT, sT]⟩)
    (hu : P.underlying dT = some (.slice elem)) (hsz : (P.info? elem).map (·.size) = some 1) (hx : opd e x = some (.slice (some ⟨g, 0, none⟩) 4 4)) (hy : opd e y = some v) (hi : hs[i]? = some (g, .cells (ints [0, 0, 0, 0]).toArray T (0, 0))) (hr : ∀ w, Own B w0 hs w → Ints w v xs) (hl : xs.length ≤ 4)
    (k : Ll P n (Own B w0 (hs.set i (g, .cells (ints (envL xs)).toArray T (0, 0)))) ops l ((d, .int .i64 (xs.length : Int)) :: e) N R X) : Ll P n (Own B w0 hs) ops (o :: l) e N R X :=
  Ll.turn hd hdst hg fun a w hF hw => by
    obtain ⟨src, cap, rfl, _, h3, h4⟩ := hr w hw
    have hlen : (ints xs).length = xs.length := ints_length _
    have hgc := (hw.has i g _ hi).2
    by_cases h0 : xs = []
    · subst h0
      refine ⟨.int .i64 (([] : List Int).length : Int), w, ?_, fun a' ha => ?_⟩
      · unfold execOp; rw [h]
        simp only [resolve, invoke, BigFrame.builtin_copy, List.map_toArray, List.map_cons, List.map_nil, hF.opd hx, hF.opd hy, Sem.run_bind, Sem.run_pure, Result.andThen]
        rw [run_copy_none w dT sT _ elem (some ⟨g, 0, none⟩) src 4 4 (ints ([] : List Int)).length cap hu hsz (by rw [ints_length]; rfl)]
        rfl
      · unfold Ll at k
        refine k a' w ha ?_
        rw [show envL [] = [0, 0, 0, 0] from rfl, set_same hi]; exact hw
    · have hone : ∀ v ∈ ints xs, v.oneCell' = true := fun v hv => by
        obtain ⟨z, _, rfl⟩ := List.mem_map.1 hv; rfl
      obtain ⟨ad, rfl⟩ : ∃ ad, src = some ad := by
        cases src with
        | none =>
          have := h3 rfl
          exact absurd (List.map_eq_nil_iff.1 this) h0
        | some ad => exact ⟨ad, rfl⟩
      obtain ⟨bk, off, sp⟩ := ad
      obtain rfl : sp = none := (h4 _ rfl).1
      have hcells : ∀ (j : Nat) (u : Value), (ints xs)[j]? = some u → w.cell? ((⟨bk, off, none⟩ : Addr).add j) = some u := fun j u hu => by rw [Addr.add_lit]; exact (h4 _ rfl).2 j u hu
      have e1 : ((ints [0, 0, 0, 0]).toArray.toList.take 0 ++ ints xs ++ (ints [0, 0, 0, 0]).toArray.toList.drop (0 + (ints xs).length)).toArray = (ints (envL xs)).toArray := by
        have e2 : (ints [0, 0, 0, 0]).drop xs.length = ints (List.replicate (4 - xs.length) 0) := by
          rw [show ([0, 0, 0, 0] : List Int) = List.replicate 4 0 from rfl]
          unfold ints
          rw [List.map_replicate, List.map_replicate, List.drop_replicate]
        rw [Nat.zero_add, hlen, List.take_zero, List.nil_append]
        show (ints xs ++ (ints [0, 0, 0, 0]).drop xs.length).toArray = _
        rw [e2]
        unfold envL ints
        rw [List.map_append]
      refine ⟨.int .i64 (xs.length : Int), w.setRow g (ints (envL xs)).toArray, ?_, fun a' ha => ?_⟩
      · unfold execOp; rw [h]
        simp only [resolve, invoke, BigFrame.builtin_copy, List.map_toArray, List.map_cons, List.map_nil, hF.opd hx, hF.opd hy, Sem.run_bind, Sem.run_pure, Result.andThen]
        rw [run_copy_row (P := P) w dT sT _ elem g 0 4 4 ⟨bk, off, none⟩ (ints xs).length cap (ints [0, 0, 0, 0]).toArray T (ints xs) hu hsz hgc (by rw [hlen]; exact (Nat.min_eq_left hl).symm) hcells (by rw [hlen, List.size_toArray, ints_length]; simpa using hl) hone, e1]
        show Result.ok _ _ = _
        rw [hlen]; rfl
      · unfold Ll at k
        exact k a' _ ha (hw.setRow hi _)
end
theorem hold_none {a : St} {f : List UInt8} {xs : List Int} (h : formO f = none) : holdO a f xs = none := holdO_none fun p e _ => by rw [h] at e; cases e
theorem hold_bad {a : St} {f : List UInt8} {xs : List Int} {fm : Fm} (h : formO f = some fm) (k : validB a = false ∨ 4 < (xs.length : Int) ∨ xs.all (elB a) = false ∨ ¬ ((frB fm / 2 ^ xs.length : Nat) : Int) = 0) : holdO a f xs = none := holdO_none fun p e ⟨h1, h2, h3, h4⟩ => by
  rw [h] at e
  injection e with e
  subst e
  rcases k with k | k | k | k
  · rw [k] at h1; cases h1
  · omega
  · have : xs.all (elB a) = true := List.all_eq_true.2 fun x hx => elB_true.2 (h3 x hx)
    rw [k] at this; cases this
  · omega
theorem hold_good {a : St} {f : List UInt8} {xs : List Int} {fm : Fm} (h : formO f = some fm) (h1 : validB a = true) (h2 : xs.length ≤ 4) (h3 : xs.all (elB a) = true) (h4 : ((frB fm / 2 ^ xs.length : Nat) : Int) = 0) : holdO a f xs = some (ev a fm (envL xs)) :=
  holdO_some h ⟨h1, h2, fun x hx => elB_true.1 (List.all_eq_true.1 h3 x hx), by omega⟩
theorem hold_ret {a : St} {f : List UInt8} {xs : List Int} {o : Option Bool} (h : holdO a f xs = o) : (Value.tuple #[.bool (o.getD false), .bool o.isSome]) = .tuple #[.bool (holdV a f xs), .bool (holdK a f xs)] := by
  unfold holdV holdK; rw [h]
end Go.Wk
namespace Go.Wk
open Go.RowKit
section
variable {P : Program} {n : Nat} {C : World → Prop} {e : Env} {o : Oper}
end
def bitC (b : Bool) : List UInt8 := if b then [49] else [48]
@[simp] theorem bitC_len (b : Bool) : (bitC b).length = 1 := by cases b <;> rfl
def flipTo (s : List UInt8) : Nat → List UInt8
  | 0 => []
  | k + 1 => flipTo s k ++ bitC (decide (s.getD k 0 = 48))
@[simp] theorem flip_len (s : List UInt8) : ∀ k, (flipTo s k).length = k
  | 0 => rfl
  | k + 1 => by simp [flipTo, flip_len s k]
def mkSet (p : Nat → Bool) : Nat → List UInt8
  | 0 => []
  | k + 1 => mkSet p k ++ bitC (p k)
@[simp] theorem mkSet_len (p : Nat → Bool) : ∀ k, (mkSet p k).length = k
  | 0 => rfl
  | k + 1 => by simp [mkSet, mkSet_len p k]
def mkRel (q : Nat → Nat → Bool) (n : Nat) : Nat → List UInt8
  | 0 => []
  | k + 1 => mkRel q n k ++ mkSet (q k) n
@[simp] theorem mkRel_len (q : Nat → Nat → Bool) (n : Nat) : ∀ k, (mkRel q n k).length = k * n
  | 0 => by simp [mkRel]
  | k + 1 => by simp [mkRel, mkRel_len q n k, Nat.add_mul]
end Go.Wk
namespace Go.Wk
open Go.RowKit
def joinN (op : List UInt8) (l : List (List UInt8)) : List UInt8 := preJ op l (l.length - 1) ++ l.getD (l.length - 1) []
theorem getM_len {l : List (List UInt8)} {M : Nat} (hl : ∀ s ∈ l, s.length ≤ M) (k : Nat) : (l.getD k []).length ≤ M := by
  rw [List.getD_eq_getElem?_getD]
  rcases Nat.lt_or_ge k l.length with h | h
  · rw [List.getElem?_eq_getElem h]; exact hl _ (List.getElem_mem _)
  · rw [List.getElem?_eq_none h]; simp
theorem preJ_lenM {op : List UInt8} {l : List (List UInt8)} {M : Nat} (ho : op.length ≤ 1) (hl : ∀ s ∈ l, s.length ≤ M) : ∀ k, (preJ op l k).length ≤ (M + 1) * k
  | 0 => by simp [preJ]
  | k + 1 => by
    have h1 := preJ_lenM ho hl k
    have h2 := getM_len hl k
    simp only [preJ, List.length_append]
    rw [Nat.mul_succ]; omega
theorem specJ_end' {op : List UInt8} {l : List (List UInt8)} {k : Nat} (h : l.length ≤ k) : specJ op l k = joinN op l := by
  unfold specJ joinN; rw [if_neg (by omega)]
theorem specJ_lenM {op : List UInt8} {l : List (List UInt8)} {M : Nat} (ho : op.length ≤ 1) (hl : ∀ s ∈ l, s.length ≤ M) (k : Nat) : (specJ op l k).length ≤ (M + 1) * k + (M + 1) * l.length + M := by
  have h1 := preJ_lenM ho hl k
  have h2 := preJ_lenM ho hl (l.length - 1)
  have h3 := getM_len hl (l.length - 1)
  have h4 : (M + 1) * (l.length - 1) ≤ (M + 1) * l.length := Nat.mul_le_mul_left _ (by omega)
  unfold specJ
  split
  · omega
  · rw [List.length_append]; omega
theorem joinN_len {op : List UInt8} {l : List (List UInt8)} {M : Nat} (ho : op.length ≤ 1) (hl : ∀ s ∈ l, s.length ≤ M) (h0 : l.length ≠ 0) : (joinN op l).length ≤ (M + 1) * l.length := by
  have h2 := preJ_lenM ho hl (l.length - 1)
  have h3 := getM_len hl (l.length - 1)
  have e : (M + 1) * l.length = (M + 1) * (l.length - 1) + (M + 1) := by
    rw [show l.length = (l.length - 1) + 1 from by omega, Nat.mul_succ]; simp
  unfold joinN
  rw [List.length_append]; omega
theorem mulM {M k n : Nat} (hM : M ≤ 100000) (hk : k ≤ n) (hn : n ≤ 1000) : (M + 1) * k ≤ 100001000 := Nat.le_trans (Nat.mul_le_mul (show M + 1 ≤ 100001 by omega) (show k ≤ 1000 by omega)) (by decide)
def shortS (s : List UInt8) : List UInt8 := if s.length ≤ 4000 then s else []
def shortB (s : List UInt8) : Bool := decide (s.length ≤ 4000)
theorem dedup_memL {l : List (List UInt8)} {M : Nat} (h : ∀ s ∈ l, s.length ≤ M) : ∀ s ∈ dedup l, s.length ≤ M := fun s hs => by
  have key : ∀ (l ks : List (List UInt8)), (∀ t, t ∈ l.foldl addK ks → t ∈ ks ∨ t ∈ l) := fun l => by
    induction l with
    | nil => exact fun ks t ht => .inl ht
    | cons s l ih =>
      intro ks t ht
      rcases ih (addK ks s) t ht with h1 | h1
      · unfold addK at h1
        split at h1
        · exact .inl h1
        · rcases List.mem_append.1 h1 with h2 | h2
          · exact .inl h2
          · exact .inr (by rw [List.mem_singleton.1 h2]; simp)
      · exact .inr (by simp [h1])
  rcases key l [] s hs with h1 | h1
  · cases h1
  · exact h s h1
theorem dedup_le (l : List (List UInt8)) : (dedup l).length ≤ l.length := by
  have := dedup_len l []
  simpa [dedup] using this
theorem dedup_pos {l : List (List UInt8)} (h : l.length ≠ 0) : (dedup l).length ≠ 0 := by
  have key : ∀ (l ks : List (List UInt8)), ks.length ≤ (l.foldl addK ks).length := fun l => by
    induction l with
    | nil => exact fun ks => Nat.le_refl _
    | cons s l ih =>
      intro ks
      refine Nat.le_trans ?_ (ih _)
      unfold addK; split <;> simp
  cases l with
  | nil => simp at h
  | cons s l =>
    have := key l (addK [] s)
    unfold dedup
    rw [List.foldl_cons]
    have e : (addK [] s).length = 1 := by simp [addK]
    omega
def diffO : List (List UInt8 × Bool) → List (List UInt8 × Bool) → List UInt8
  | f :: l, g :: m => if f.2 = g.2 then diffO l m else signed f
  | _, _ => []
theorem diffO_len : ∀ (l m : List (List UInt8 × Bool)), (∀ f ∈ l, f.1.length ≤ 3) → (diffO l m).length ≤ 4
  | [], _, _ => by simp [diffO]
  | _ :: _, [], _ => by simp [diffO]
  | f :: l, g :: m, h => by
    unfold diffO
    split
    · exact diffO_len l m fun x hx => h x (by simp [hx])
    · have := h f (by simp)
      unfold signed signS
      split
      · omega
      · simp; omega
theorem diffO_at : ∀ {l m : List (List UInt8 × Bool)} {k : Nat}, k < l.length → k < m.length → (∀ i : Nat, i < k → (l.getD i ([], false)).2 = (m.getD i ([], false)).2) → (l.getD k ([], false)).2 ≠ (m.getD k ([], false)).2 → diffO l m = signed (l.getD k ([], false))
  | [], _, _, h, _, _, _ => by simp at h
  | _ :: _, [], _, _, h, _, _ => by simp at h
  | f :: l, g :: m, 0, _, _, _, h => by
    simp at h
    unfold diffO; rw [if_neg h]; rfl
  | f :: l, g :: m, k + 1, h1, h2, h3, h4 => by
    have h0 := h3 0 (by omega)
    simp at h0
    unfold diffO
    rw [if_pos h0]
    exact diffO_at (by simpa using h1) (by simpa using h2) (fun i hi => by simpa using h3 (i + 1) (by omega)) (by simpa using h4)
def apart (v : List UInt8) (turned : Bool) (l : List (List UInt8)) : List UInt8 := ((if turned then [33, 83] else [83]) ++ v) ++ joinN [38] (dedup l)
def tellF : Nat → St → List Int → St → List Int → List UInt8
  | 0, a, xs, b, ys => diffO (factsL a xs xs.length) (factsL b ys ys.length)
  | r + 1, a, xs, b, ys => if sameB a xs b ys then
      (match moveO r a xs b ys with
      | some (true, x) => apart (nameS xs.length) false ((List.range b.n.toNat).map fun y : Nat => tellF r a (xs ++ [(x : Int)]) b (ys ++ [(y : Int)]))
      | some (false, y) => apart (nameS xs.length) true ((List.range a.n.toNat).map fun x : Nat => tellF r b (ys ++ [(y : Int)]) a (xs ++ [(x : Int)]))
      | none => [])
    else diffO (factsL a xs xs.length) (factsL b ys ys.length)
end Go.Wk
namespace Go.Wk
open Go.RowKit
theorem beqS_comm (x y : List UInt8) : (x == y) = (y == x) := by
  rw [Bool.eq_iff_iff, beq_iff_eq, beq_iff_eq]; exact eq_comm
theorem seenI_mem {l : List (List UInt8)} {s : List UInt8} : decide (0 ≤ seenI l s) = decide (s ∈ l) := by
  unfold seenI
  by_cases h : s ∈ l
  · rw [if_pos h]; exact decide_eq_decide.2 ⟨fun _ => h, fun _ => by omega⟩
  · rw [if_neg h]; exact decide_eq_decide.2 ⟨fun e => absurd e (by decide), fun e => absurd e h⟩
theorem dedup_old {l : List (List UInt8)} {k : Nat} (hk : k < l.length) (h : l.getD k [] ∈ dedup (l.take k)) : dedup (l.take (k + 1)) = dedup (l.take k) := by
  rw [dedup_step hk]; exact addK_old (fun e => e h)
theorem dedup_new {l : List (List UInt8)} {k : Nat} (hk : k < l.length) (h : ¬ l.getD k [] ∈ dedup (l.take k)) : dedup (l.take (k + 1)) = dedup (l.take k) ++ [l.getD k []] := by
  rw [dedup_step hk]; exact addK_new h
theorem shortS_of {s : List UInt8} (h : s.length ≤ 4000) : shortS s = s := if_pos h
end Go.Wk
namespace Go.Wk
open Go.RowKit
theorem more_names (a b : St) (xs ys : List Int) (i : Nat) : ∀ k : Nat, (moreL a xs i k).map Prod.fst = (moreL b ys i k).map Prod.fst
  | 0 => rfl
  | k + 1 => by
    unfold moreL
    rw [List.map_append, List.map_append, more_names a b xs ys i k]; rfl
theorem fact_names (a b : St) (xs ys : List Int) (i : Nat) : (factL a xs i).map Prod.fst = (factL b ys i).map Prod.fst := by
  unfold factL
  rw [List.map_append, List.map_append, more_names a b xs ys]; rfl
theorem facts_names (a b : St) (xs ys : List Int) : ∀ i : Nat, (factsL a xs i).map Prod.fst = (factsL b ys i).map Prod.fst
  | 0 => rfl
  | i + 1 => by unfold factsL; rw [List.map_append, List.map_append, facts_names a b xs ys i, fact_names a b xs ys]
theorem facts_len (a b : St) (xs ys : List Int) (i : Nat) : (factsL a xs i).length = (factsL b ys i).length := by
  have := congrArg List.length (facts_names a b xs ys i)
  simpa using this
theorem diffO_none : ∀ {l m : List (List UInt8 × Bool)}, (∀ i : Nat, i < l.length → (l.getD i ([], false)).2 = (m.getD i ([], false)).2) → diffO l m = []
  | [], _, _ => by cases ‹List (List UInt8 × Bool)› <;> rfl
  | _ :: _, [], _ => rfl
  | f :: l, g :: m, h => by
    have h0 := h 0 (by simp)
    simp at h0
    unfold diffO
    rw [if_pos h0]
    exact diffO_none fun i hi => by simpa using h (i + 1) (by simpa using hi)
/-- the first text that differs -/
def diffS : List (List UInt8) → List (List UInt8) → List UInt8
  | f :: l, g :: m => if f = g then diffS l m else f
  | _, _ => []
theorem diffS_same : ∀ l : List (List UInt8), diffS l l = []
  | [] => rfl
  | f :: l => by unfold diffS; rw [if_pos rfl, diffS_same l]
theorem diffS_app : ∀ {l m l' m' : List (List UInt8)}, l.length = m.length → diffS (l ++ l') (m ++ m') = if l = m then diffS l' m' else diffS l m
  | [], [], _, _, _ => by simp
  | [], _ :: _, _, _, h => by simp at h
  | _ :: _, [], _, _, h => by simp at h
  | f :: l, g :: m, l', m', h => by
    have ih := diffS_app (l := l) (m := m) (l' := l') (m' := m') (by simpa using h)
    by_cases e : f = g
    · subst e
      by_cases e2 : l = m
      · subst e2
        rw [if_pos rfl] at ih ⊢
        show (if f = f then diffS (l ++ l') (l ++ m') else f) = diffS l' m'
        rw [if_pos rfl, ih]
      · rw [if_neg e2] at ih
        rw [if_neg (fun h => e2 (by injection h))]
        show (if f = f then diffS (l ++ l') (m ++ m') else f) = (if f = f then diffS l m else f)
        rw [if_pos rfl, if_pos rfl, ih]
    · rw [if_neg (fun h => e (by injection h))]
      show (if f = g then diffS (l ++ l') (m ++ m') else f) = (if f = g then diffS l m else f)
      rw [if_neg e, if_neg e]
theorem diffS_at : ∀ {l m : List (List UInt8)} {k : Nat}, k < l.length → k < m.length → (∀ i : Nat, i < k → l.getD i [] = m.getD i []) → l.getD k [] ≠ m.getD k [] → diffS l m = l.getD k []
  | [], _, _, h, _, _, _ => by simp at h
  | _ :: _, [], _, _, h, _, _ => by simp at h
  | f :: l, g :: m, 0, _, _, _, h => by
    simp at h
    unfold diffS; rw [if_neg h]; rfl
  | f :: l, g :: m, k + 1, h1, h2, h3, h4 => by
    have h0 := h3 0 (by omega)
    simp at h0
    unfold diffS
    rw [if_pos h0]
    exact diffS_at (by simpa using h1) (by simpa using h2) (fun i hi => by simpa using h3 (i + 1) (by omega)) (by simpa using h4)
theorem signS_inj {b c : Bool} {s : List UInt8} (h : signS b s = signS c s) : b = c := by
  have h1 := congrArg List.length h
  cases b <;> cases c <;> simp [signS] at h1 ⊢
theorem diffO_S : ∀ {l m : List (List UInt8 × Bool)}, l.map Prod.fst = m.map Prod.fst → diffO l m = diffS (l.map signed) (m.map signed)
  | [], [], _ => rfl
  | [], _ :: _, h => by simp at h
  | _ :: _, [], h => by simp at h
  | f :: l, g :: m, h => by
    obtain ⟨f1, f2⟩ := f
    obtain ⟨g1, g2⟩ := g
    rw [List.map_cons, List.map_cons] at h
    injection h with h1 h2
    obtain rfl : f1 = g1 := h1
    have ih := diffO_S h2
    unfold diffO
    rw [List.map_cons, List.map_cons]
    unfold diffS
    by_cases e : f2 = g2
    · rw [if_pos e, if_pos (show signed (f1, f2) = signed (f1, g2) by rw [e]), ih]
    · have hne : ¬ signed (f1, f2) = signed (f1, g2) := fun h => e (signS_inj h)
      rw [if_neg e, if_neg hne]
/-- all facts of the first i elements are alike -/
theorem differ_at {a b : St} {xs ys : List Int} {n i k : Nat} (hi : i < n) (hk : k < (factL a xs i).length) (hall : (factsL a xs i).map signed = (factsL b ys i).map signed) (hal : ∀ j : Nat, j < k → ((factL a xs i).map signed).getD j [] = ((factL b ys i).map signed).getD j []) (hne : ((factL a xs i).map signed).getD k [] ≠ ((factL b ys i).map signed).getD k []) :
    diffO (factsL a xs n) (factsL b ys n) = ((factL a xs i).map signed).getD k [] := by
  rw [diffO_S (facts_names a b xs ys n)]
  have step : diffS ((factsL a xs (i + 1)).map signed) ((factsL b ys (i + 1)).map signed) = ((factL a xs i).map signed).getD k [] ∧ ¬ (factsL a xs (i + 1)).map signed = (factsL b ys (i + 1)).map signed := by
    have hlen : ((factsL a xs i).map signed).length = ((factsL b ys i).map signed).length := by rw [hall]
    have hlf : (factL a xs i).length = (factL b ys i).length := by simp
    rw [facts_step, facts_step, diffS_app hlen, if_pos hall]
    refine ⟨diffS_at (by simpa using hk) (by rw [List.length_map, ← hlf]; exact hk) hal hne, fun e => ?_⟩
    rw [hall] at e
    have := List.append_cancel_left e
    exact hne (by rw [this])
  have go : ∀ m : Nat, diffS ((factsL a xs (i + 1 + m)).map signed) ((factsL b ys (i + 1 + m)).map signed) = ((factL a xs i).map signed).getD k [] ∧ ¬ (factsL a xs (i + 1 + m)).map signed = (factsL b ys (i + 1 + m)).map signed := fun m => by
    induction m with
    | zero => exact step
    | succ m ih =>
      have hlen : ((factsL a xs (i + 1 + m)).map signed).length = ((factsL b ys (i + 1 + m)).map signed).length := by
        rw [List.length_map, List.length_map]; exact facts_len a b xs ys _
      rw [← Nat.add_assoc, facts_step, facts_step, diffS_app hlen, if_neg ih.2]
      refine ⟨ih.1, fun e => ih.2 (List.append_inj_left e hlen)⟩
  have := (go (n - (i + 1))).1
  rwa [show i + 1 + (n - (i + 1)) = n from by omega] at this
theorem differ_none {a b : St} {xs ys : List Int} {n : Nat} (hall : (factsL a xs n).map signed = (factsL b ys n).map signed) : diffO (factsL a xs n) (factsL b ys n) = [] := by
  rw [diffO_S (facts_names a b xs ys n), hall, diffS_same]
theorem list_extS {l m : List (List UInt8)} (hl : l.length = m.length) (h : ∀ i : Nat, i < l.length → l.getD i [] = m.getD i []) : l = m := by
  refine List.ext_getElem hl fun i h1 h2 => ?_
  have := h i h1
  rwa [getD_at h1, getD_at h2] at this
theorem rep_not {n : Nat} {a b : St} {xs ys : List Int} {x : Int} (hl : xs.length = ys.length) (h : (rep (goB n) a xs b ys x).isSome = false) {y : Nat} (hy : y < b.n.toNat) : winB n a (xs ++ [x]) b (ys ++ [(y : Int)]) = false := by
  cases e : winB n a (xs ++ [x]) b (ys ++ [(y : Int)]) with
  | false => rfl
  | true => rw [(rep_some (g := goB n) (x := x) hl).2 ⟨y, hy, e⟩] at h; cases h
theorem move_at1 {n x : Nat} {a b : St} {xs ys : List Int} (hl : xs.length = ys.length) (h : moveO n a xs b ys = some (true, x)) : x < a.n.toNat ∧ ∀ y : Nat, y < b.n.toNat → winB n a (xs ++ [(x : Int)]) b (ys ++ [(y : Int)]) = false := by
  unfold moveO at h
  split at h
  · rename_i z hz
    injection h with h
    injection h with _ h
    subst h
    exact ⟨List.mem_range.1 (List.mem_of_find?_eq_some hz), fun y hy => rep_not hl (by have := List.find?_some hz; simpa using this) hy⟩
  · split at h
    · injection h with h; injection h with h; cases h
    · cases h
theorem move_at2 {n y : Nat} {a b : St} {xs ys : List Int} (hl : xs.length = ys.length) (h : moveO n a xs b ys = some (false, y)) : y < b.n.toNat ∧ ∀ x : Nat, x < a.n.toNat → winB n b (ys ++ [(y : Int)]) a (xs ++ [(x : Int)]) = false := by
  unfold moveO at h
  split at h
  · injection h with h; injection h with h; cases h
  · split at h
    · rename_i z hz
      injection h with h
      injection h with _ h
      subst h
      exact ⟨List.mem_range.1 (List.mem_of_find?_eq_some hz), fun x hx => rep_not hl.symm (by have := List.find?_some hz; simpa using this) hx⟩
    · cases h
theorem isSome_of {o : Option Nat} (h : ¬ (!o.isSome) = true) : o.isSome = true := by
  cases e : o.isSome with
  | true => rfl
  | false => rw [e] at h; exact absurd rfl h
theorem move_ex {n : Nat} {a b : St} {xs ys : List Int} (hs : sameB a xs b ys = true) (hw : winB (n + 1) a xs b ys = false) : ∃ (sd : Bool) (x : Nat), moveO n a xs b ys = some (sd, x) := by
  cases e : moveO n a xs b ys with
  | some p => exact ⟨p.1, p.2, rfl⟩
  | none =>
    exfalso
    unfold moveO at e
    split at e
    · cases e
    · rename_i h1
      split at e
      · cases e
      · rename_i h2
        rw [List.find?_eq_none] at h1 h2
        unfold winB at hw
        rw [hs, go_yes (fun i hi => isSome_of (h1 i (List.mem_range.2 hi))) (fun i hi => isSome_of (h2 i (List.mem_range.2 hi)))] at hw
        cases hw
def tlL (F : Nat → List UInt8) (k : Nat) : List (List UInt8) := (List.range k).map F
@[simp] theorem tlL_len (F : Nat → List UInt8) (k : Nat) : (tlL F k).length = k := by simp [tlL]
theorem tlL_step (F : Nat → List UInt8) (k : Nat) : tlL F (k + 1) = tlL F k ++ [F k] := by simp [tlL, List.range_succ]
def LT : Nat → Nat
  | 0 => 4
  | n + 1 => 8 * LT n + 11
theorem LT_mono (n : Nat) : 4 ≤ LT n := by
  cases n with
  | zero => exact Nat.le_refl _
  | succ n => unfold LT; omega
theorem LT3 {n : Nat} (h : n ≤ 3) : LT n ≤ 2851 := by
  rcases (by omega : n = 0 ∨ n = 1 ∨ n = 2 ∨ n = 3) with e | e | e | e <;> subst e <;> decide
theorem more_small (a : St) (xs : List Int) (i : Nat) : ∀ k : Nat, ∀ f ∈ moreL a xs i k, f.1.length ≤ 3
  | 0, f, hf => by cases hf
  | k + 1, f, hf => by
    have h1 := name_le i
    have h2 := name_le k
    unfold moreL at hf
    rcases List.mem_append.1 hf with h | h
    · exact more_small a xs i k f h
    · simp only [List.mem_cons, List.not_mem_nil, or_false] at h
      rcases h with rfl | rfl | rfl <;> simp only [List.length_append, List.length_cons, List.length_nil] <;> omega
theorem facts_small (a : St) (xs : List Int) : ∀ i : Nat, ∀ f ∈ factsL a xs i, f.1.length ≤ 3
  | 0, f, hf => by cases hf
  | i + 1, f, hf => by
    have h1 := name_le i
    unfold factsL at hf
    rcases List.mem_append.1 hf with h | h
    · exact facts_small a xs i f h
    · unfold factL headL at h
      rcases List.mem_append.1 h with h | h
      · simp only [List.mem_cons, List.not_mem_nil, or_false] at h
        rcases h with rfl | rfl <;> simp only [List.length_append, List.length_cons, List.length_nil] <;> omega
      · exact more_small a xs i i f h
theorem apart_len {v : List UInt8} {turned : Bool} {F : Nat → List UInt8} {m M : Nat} (hv : v.length ≤ 1) (h1 : 1 ≤ m) (h8 : m ≤ 8) (hF : ∀ i : Nat, i < m → (F i).length ≤ M) : (apart v turned (tlL F m)).length ≤ 8 * M + 11 := by
  have hl : ∀ s ∈ tlL F m, s.length ≤ M := fun s hs => by
    obtain ⟨i, hi, rfl⟩ := List.mem_map.1 hs
    exact hF i (List.mem_range.1 hi)
  have hd := dedup_le (tlL F m)
  rw [tlL_len] at hd
  have hj := joinN_len (op := [38]) (by decide) (dedup_memL hl) (dedup_pos (l := tlL F m) (by rw [tlL_len]; omega))
  have hm : (M + 1) * (dedup (tlL F m)).length ≤ (M + 1) * 8 := Nat.mul_le_mul_left _ (by omega)
  unfold apart
  cases turned <;> simp only [List.length_append, List.length_cons, List.length_nil, if_true, Bool.false_eq_true, if_false] <;> omega
theorem tell_some1 {r x : Nat} {a b : St} {xs ys : List Int} (hs : sameB a xs b ys = true) (h : moveO r a xs b ys = some (true, x)) : tellF (r + 1) a xs b ys = apart (nameS xs.length) false (tlL (fun y : Nat => tellF r a (xs ++ [(x : Int)]) b (ys ++ [(y : Int)])) b.n.toNat) := by
  rw [tellF, if_pos hs, h]; rfl
theorem tell_some2 {r y : Nat} {a b : St} {xs ys : List Int} (hs : sameB a xs b ys = true) (h : moveO r a xs b ys = some (false, y)) : tellF (r + 1) a xs b ys = apart (nameS xs.length) true (tlL (fun x : Nat => tellF r b (ys ++ [(y : Int)]) a (xs ++ [(x : Int)])) a.n.toNat) := by
  rw [tellF, if_pos hs, h]; rfl
theorem tell_diff {r : Nat} {a b : St} {xs ys : List Int} (hs : sameB a xs b ys = false) : tellF r a xs b ys = diffO (factsL a xs xs.length) (factsL b ys ys.length) := by
  cases r with
  | zero => rfl
  | succ r => rw [tellF, if_neg (by rw [hs]; decide)]
theorem tell_len : ∀ (n : Nat) {a b : St} {xs ys : List Int}, a.n.toNat ≤ 8 → b.n.toNat ≤ 8 → 1 ≤ a.n.toNat → 1 ≤ b.n.toNat → (tellF n a xs b ys).length ≤ LT n
  | 0, a, b, xs, ys, _, _, _, _ => diffO_len _ _ (facts_small a xs _)
  | n + 1, a, b, xs, ys, ha, hb, ha1, hb1 => by
    have hLT := LT_mono (n + 1)
    cases hs : sameB a xs b ys with
    | false => rw [tell_diff hs]; exact Nat.le_trans (diffO_len _ _ (facts_small a xs _)) hLT
    | true =>
      cases hm : moveO n a xs b ys with
      | none => rw [tellF, if_pos hs, hm]; exact Nat.zero_le _
      | some p =>
        obtain ⟨sd, x⟩ := p
        cases sd with
        | true => rw [tell_some1 hs hm]; exact apart_len (name_le _) hb1 hb fun i _ => tell_len n ha hb ha1 hb1
        | false => rw [tell_some2 hs hm]; exact apart_len (name_le _) ha1 ha fun i _ => tell_len n hb ha hb1 ha1
def telOut (a : St) (xs : List Int) (b : St) (ys : List Int) (r : Int) : List UInt8 × Bool := if gameB a xs b ys r && decide ((xs.length : Int) + r ≤ 4) && !winB r.toNat a xs b ys then (tellF r.toNat a xs b ys, true) else ([], false)
theorem telOut_yes {a b : St} {xs ys : List Int} {r : Int} (hg : gameB a xs b ys r = true) (h4 : (xs.length : Int) + r ≤ 4) (hw : winB r.toNat a xs b ys = false) : telOut a xs b ys r = (tellF r.toNat a xs b ys, true) := by
  unfold telOut; rw [if_pos (by rw [hg, hw, decide_eq_true h4]; rfl)]
theorem telOut_no {a b : St} {xs ys : List Int} {r : Int} (h : gameB a xs b ys r = false ∨ 4 < (xs.length : Int) + r ∨ winB r.toNat a xs b ys = true) : telOut a xs b ys r = ([], false) := by
  unfold telOut
  rw [if_neg]
  intro e
  simp only [Bool.and_eq_true, decide_eq_true_eq, Bool.not_eq_true'] at e
  rcases h with h | h | h
  · rw [h] at e; exact absurd e.1.1 (by decide)
  · omega
  · rw [h] at e; exact absurd e.2 (by decide)
theorem tell_short {a b : St} {xs ys : List Int} {n : Nat} (h3 : n ≤ 3) (ha : a.Fine) (hb : b.Fine) : (tellF n a xs b ys).length ≤ 4000 := by
  have h1 := ha.lo
  have h2 := ha.hi
  have h4 := hb.lo
  have h5 := hb.hi
  exact Nat.le_trans (tell_len n (by omega) (by omega) (by omega) (by omega)) (Nat.le_trans (LT3 h3) (by decide))
def sentO (a b : St) : List UInt8 × Int × Bool :=
  if validB a && validB b then (match (List.range 3).find? (fun i : Nat => !winB (i + 1) a [] b []) with
    | some i => (tellF (i + 1) a [] b [], ((i : Int) + 1), true)
    | none => ([], 0, false)) else ([], 0, false)
theorem sent_at {a b : St} {k : Nat} (hVa : validB a = true) (hVb : validB b = true) (hk : k < 3) (hall : ∀ i : Nat, i < k → winB (i + 1) a [] b [] = true) (h : winB (k + 1) a [] b [] = false) : sentO a b = (tellF (k + 1) a [] b [], ((k : Int) + 1), true) := by
  unfold sentO
  rw [if_pos (by rw [hVa, hVb]; rfl), find_at (f := fun i : Nat => !winB (i + 1) a [] b []) hk (fun i hi => by rw [hall i hi]; rfl) (by rw [h]; rfl)]
theorem sent_none {a b : St} (hall : ∀ i : Nat, i < 3 → winB (i + 1) a [] b [] = true) : sentO a b = ([], 0, false) := by
  unfold sentO
  split
  · rw [show (List.range 3).find? (fun i : Nat => !winB (i + 1) a [] b []) = none from by rw [List.find?_eq_none]; intro i hi; rw [hall i (List.mem_range.1 hi)]; decide]
  · rfl
theorem sent_bad {a b : St} (h : ¬ (validB a && validB b) = true) : sentO a b = ([], 0, false) := by unfold sentO; rw [if_neg h]
theorem sec_nil2 {a b : St} {i : Nat} (hVa : validB a = true) (hVb : validB b = true) (hi : i < 3) : secB a [] b [] ((i : Int) + 1) = winB (i + 1) a [] b [] := by
  unfold secB gameB listsB listB inB
  rw [hVa, hVb, decide_eq_true (show (0 : Int) ≤ (i : Int) + 1 by omega), decide_eq_true (show (i : Int) + 1 ≤ 3 by omega), show ((i : Int) + 1).toNat = i + 1 from by omega]
  simp
theorem sec_no {a b : St} {i : Nat} (hVa : validB a = true) (hVb : validB b = true) (hi : i < 3) (h : secB a [] b [] ((i : Int) + 1) = false) : winB (i + 1) a [] b [] = false := by rw [← sec_nil2 hVa hVb hi]; exact h
theorem telOut_nil {a b : St} {i : Nat} (hVa : validB a = true) (hVb : validB b = true) (hi : i < 3) (h : winB (i + 1) a [] b [] = false) : telOut a [] b [] ((i : Int) + 1) = (tellF (i + 1) a [] b [], true) := by
  have e : ((i : Int) + 1).toNat = i + 1 := by omega
  rw [telOut_yes (by
    unfold gameB listsB listB inB
    rw [hVa, hVb, decide_eq_true (show (0 : Int) ≤ (i : Int) + 1 by omega), decide_eq_true (show (i : Int) + 1 ≤ 3 by omega)]
    simp) (by simp; omega) (by rw [e]; exact h), e]
end Go.Wk
namespace Go.Wk
open Go.RowKit
def bes (k : Nat) : List Int := List.replicate k (-1)
@[simp] theorem bes_len (k : Nat) : (bes k).length = k := List.length_replicate
end Go.Wk
namespace Go.Wk
open Go.RowKit
/-- a pair that stands in two lists -/
def InBoth (as_ bs : List Int) (x y : Int) : Prop := ∃ j : Nat, j < as_.length ∧ x = as_.getD j 0 ∧ y = bs.getD j 0
theorem getD_snoc {l : List Int} {x : Int} {i : Nat} : (l ++ [x]).getD i 0 = if i < l.length then l.getD i 0 else if i = l.length then x else 0 := by
  rw [List.getD_eq_getElem?_getD]
  by_cases h : i < l.length
  · rw [if_pos h, List.getElem?_append_left h, ← List.getD_eq_getElem?_getD]
  · rw [if_neg h, List.getElem?_append_right (by omega)]
    by_cases e : i = l.length
    · rw [if_pos e, e, Nat.sub_self]; rfl
    · rw [if_neg e, List.getElem?_eq_none (by simp; omega)]; rfl
theorem InBoth.more {as_ bs : List Int} {x y u v : Int} (hl : as_.length = bs.length) (h : InBoth as_ bs x y) : InBoth (as_ ++ [u]) (bs ++ [v]) x y := by
  obtain ⟨j, hj, e1, e2⟩ := h
  exact ⟨j, by rw [List.length_append]; omega, by rw [getD_snoc, if_pos hj]; exact e1, by rw [getD_snoc, if_pos (by omega)]; exact e2⟩
end Go.Wk
namespace Go.Wk
open Go.RowKit
/-- values of free variables that stand beside each other in two lists -/
def OnVars (xs ys : List Int) (fr : Nat) (e e' : List Int) : Prop := ∀ i : Nat, i < 4 → fr.testBit i = true → InBoth xs ys (e.getD i 0) (e'.getD i 0)
theorem cnt_all {f : Nat → Bool} : ∀ {n : Nat}, n ≤ cntT f n ↔ ∀ x : Nat, x < n → f x = true
  | 0 => ⟨fun _ x hx => by omega, fun _ => Nat.le_refl _⟩
  | n + 1 => by
    have h1 := cntT_le f n
    rw [cnt_step]
    constructor
    · intro h x hx
      have hf : f n = true := by
        cases e : f n with
        | true => rfl
        | false => rw [e] at h; exfalso; simp at h; omega
      rw [if_pos hf] at h
      rcases Nat.lt_or_ge x n with h2 | h2
      · exact cnt_all.1 (by omega) x h2
      · rw [show x = n from by omega]; exact hf
    · intro h
      rw [if_pos (h n (by omega))]
      have := cnt_all (f := f) (n := n) |>.2 (fun x hx => h x (show x < n + 1 by omega))
      omega
theorem cnt_ex {f : Nat → Bool} : ∀ {n : Nat}, 1 ≤ cntT f n ↔ ∃ x : Nat, x < n ∧ f x = true
  | 0 => ⟨fun h => by exact absurd h (by unfold cntT; omega), fun ⟨x, hx, _⟩ => by omega⟩
  | n + 1 => by
    rw [cnt_step]
    constructor
    · intro h
      by_cases hf : f n = true
      · exact ⟨n, by omega, hf⟩
      · rw [if_neg hf] at h
        obtain ⟨x, hx, h2⟩ := cnt_ex.1 (show 1 ≤ cntT f n by omega)
        exact ⟨x, by omega, h2⟩
    · rintro ⟨x, hx, h2⟩
      rcases Nat.lt_or_ge x n with h3 | h3
      · have := cnt_ex.2 ⟨x, h3, h2⟩
        omega
      · obtain rfl : x = n := by omega
        rw [if_pos h2]; omega
theorem InBoth.left {as_ bs X Y : List Int} (hl : as_.length = bs.length) {x y : Int} (h : InBoth as_ bs x y) : InBoth (as_ ++ X) (bs ++ Y) x y := by
  obtain ⟨j, hj, e1, e2⟩ := h
  refine ⟨j, by rw [List.length_append]; omega, ?_, ?_⟩
  · rw [e1, List.getD_eq_getElem?_getD, List.getD_eq_getElem?_getD, List.getElem?_append_left hj]
  · rw [e2, List.getD_eq_getElem?_getD, List.getD_eq_getElem?_getD, List.getElem?_append_left (by omega)]
theorem OnVars.more {xs ys X Y : List Int} {fr : Nat} {e e' : List Int} (hl : xs.length = ys.length) (h : OnVars xs ys fr e e') : OnVars (xs ++ X) (ys ++ Y) fr e e' := fun i hi ht => (h i hi ht).left hl
theorem ev_quant_eq {a : St} {c v : UInt8} {p : Fm} {e : List Int} (hc : ¬ c = 33) : ev a (.one c [v] p) e = decide (need c a.n.toNat ≤ cntT (evC a v p e) a.n.toNat) := by
  unfold ev; rw [if_neg hc]; rfl
end Go.Wk
namespace Go.Wk
open Go.RowKit
theorem takeV_more {t : List UInt8} : ∀ {k : Nat} {s vs r : List UInt8}, takeV k s = some (vs, r) → takeV k (s ++ t) = some (vs, r ++ t)
  | 0, s, vs, r, h => by injection h with h; injection h with h1 h2; subst h1; subst h2; rfl
  | k + 1, [], vs, r, h => by cases h
  | k + 1, v :: s, vs, r, h => by
    unfold takeV at h
    split at h
    · rename_i hv
      split at h
      · rename_i us r' e
        injection h with h; injection h with h1 h2; subst h1; subst h2
        show (if isV v then (match takeV k (s ++ t) with | some (vs, r) => some (v :: vs, r) | none => none) else none) = _
        rw [if_pos hv, takeV_more e]
      · cases h
    · cases h
theorem parse_more {t : List UInt8} : ∀ (n : Nat) {s r : List UInt8} {p : Fm}, s.length ≤ n → parse s = some (p, r) → parse (s ++ t) = some (p, r ++ t)
  | 0, [], _, _, _, h => by cases h
  | 0, _ :: _, _, _, hn, _ => by simp at hn
  | _ + 1, [], _, _, _, h => by cases h
  | n + 1, c :: s, r, p, hn, h => by
    rw [List.cons_append]
    rw [parse_cons] at h ⊢
    simp only [List.length_cons] at hn
    split at h
    · rename_i hop
      rw [if_pos hop]
      split at h
      · cases h
      · rename_i vs r0 e
        obtain ⟨_, h2, _⟩ := takeV_len e
        rw [takeV_more e]
        dsimp only
        by_cases h0 : arP c = 0
        · rw [if_pos h0] at h ⊢
          injection h with h; injection h with h4 h; subst h; subst h4; rfl
        · rw [if_neg h0] at h ⊢
          by_cases h1 : arP c = 1
          · rw [if_pos h1] at h ⊢
            split at h
            · rename_i q r' e2
              injection h with h; injection h with h4 h; subst h; subst h4
              rw [parse_more n (by omega) e2]
            · cases h
          · rw [if_neg h1] at h ⊢
            split at h
            · rename_i q r' e2
              split at h
              · rename_i q2 r2 e3
                injection h with h; injection h with h4 h; subst h; subst h4
                have := parse_len e2
                rw [parse_more n (by omega) e2]
                dsimp only
                rw [parse_more n (by omega) e3]
              · cases h
            · cases h
    · cases h
/-- a text that is a formula -/
def Is (s : List UInt8) (p : Fm) : Prop := parse s = some (p, [])
theorem Is.more {s : List UInt8} {p : Fm} (h : Is s p) (t : List UInt8) : parse (s ++ t) = some (p, t) := by
  have := parse_more (t := t) _ (Nat.le_refl _) h
  rwa [List.nil_append] at this
theorem Is.wf {s : List UInt8} {p : Fm} (h : Is s p) : wfF p := parse_wf _ (Nat.le_refl _) h
theorem Is.formO {s : List UInt8} {p : Fm} (h : Is s p) (hl : s.length ≤ 4000) : formO s = some p := parse_formO hl h
theorem Is.same {s : List UInt8} {p q : Fm} (h : Is s p) (k : Is s q) : p = q := by
  have := h.symm.trans k
  injection this with this; injection this
theorem is_leaf {c : UInt8} {vs : List UInt8} (ho : isOp c = true) (h0 : arP c = 0) (ht : takeV (arV c) vs = some (vs, [])) : Is (c :: vs) (.leaf c vs) := by
  unfold Is; rw [parse_cons, if_pos ho, ht]; dsimp only; rw [if_pos h0]
theorem is_not {s : List UInt8} {p : Fm} (h : Is s p) : Is (33 :: s) (.one 33 [] p) := by
  unfold Is; rw [parse_cons, show isOp 33 = true from rfl, if_pos rfl, show takeV (arV 33) s = some ([], s) from rfl]
  dsimp only
  rw [if_neg (by decide), if_pos (by rfl), h]
theorem is_quant {c v : UInt8} {s : List UInt8} {p : Fm} (hc : c = 65 ∨ c = 83 ∨ c = 50 ∨ c = 51 ∨ c = 52) (hv : isV v = true) (h : Is s p) : Is (c :: v :: s) (.one c [v] p) := by
  have ha : arV c = 1 ∧ arP c = 1 ∧ isOp c = true := by rcases hc with e | e | e | e | e <;> rw [e] <;> exact ⟨rfl, rfl, rfl⟩
  unfold Is
  rw [parse_cons, if_pos ha.2.2, ha.1, show takeV 1 (v :: s) = some ([v], s) from by unfold takeV takeV; rw [if_pos hv]]
  dsimp only
  rw [if_neg (by omega), if_pos ha.2.1, h]
theorem is_two {c : UInt8} {s t : List UInt8} {p q : Fm} (hc : c = 38 ∨ c = 124) (h : Is s p) (k : Is t q) : Is (c :: (s ++ t)) (.two c p q) := by
  have ha : arV c = 0 ∧ arP c = 2 ∧ isOp c = true := by rcases hc with e | e <;> rw [e] <;> exact ⟨rfl, rfl, rfl⟩
  unfold Is
  rw [parse_cons, if_pos ha.2.2, ha.1, show takeV 0 (s ++ t) = some ([], s ++ t) from rfl]
  dsimp only
  rw [if_neg (by omega), if_neg (by omega), h.more]
  dsimp only
  rw [k]
/-- a formula counts nothing -/
def plainB : Fm → Bool
  | .leaf _ _ => true
  | .one c _ p => !(decide (c = 50) || decide (c = 51) || decide (c = 52)) && plainB p
  | .two _ p q => plainB p && plainB q
/-- all that a text says: its rank, its free variables, all its variables, that it counts nothing, its truth -/
structure Tx (s : List UInt8) (lo hi k w : Nat) (φ : St → List Int → Prop) : Prop where
  ex : ∃ p, Is s p ∧ lo ≤ rankF p ∧ rankF p ≤ hi ∧ (∀ i : Nat, i < 4 → (frB p).testBit i = true → i < k) ∧ (∀ i : Nat, i < 4 → (allB p).testBit i = true → i < w) ∧ plainB p = true ∧ ∀ a e, e.length = 4 → (ev a p e = true ↔ φ a e)
theorem Tx.imp {s : List UInt8} {lo hi k w lo' hi' k' w' : Nat} {φ ψ : St → List Int → Prop} (h : Tx s lo hi k w φ) (h1 : lo' ≤ lo) (h2 : hi ≤ hi') (h3 : k ≤ k') (h4 : w ≤ w') (h5 : ∀ a e, e.length = 4 → (φ a e ↔ ψ a e)) : Tx s lo' hi' k' w' ψ := by
  obtain ⟨p, g0, g1, g2, g3, g4, g5, g6⟩ := h.ex
  exact ⟨p, g0, by omega, by omega, fun i hi ht => by have := g3 i hi ht; omega, fun i hi ht => by have := g4 i hi ht; omega, g5, fun a e he => (g6 a e he).trans (h5 a e he)⟩
theorem tx_not {s : List UInt8} {lo hi k w : Nat} {φ : St → List Int → Prop} (h : Tx s lo hi k w φ) : Tx (33 :: s) lo hi k w fun a e => ¬ φ a e := by
  obtain ⟨p, g0, g1, g2, g3, g4, g5, g6⟩ := h.ex
  refine ⟨_, is_not g0, g1, g2, g3, fun i hi ht => g4 i hi ?_, by show (!_ && plainB p) = true; rw [g5]; rfl, fun a e he => ?_⟩
  · have : (0 ||| allB p).testBit i = true := ht
    rwa [Nat.zero_or] at this
  · rw [← g6 a e he]
    show (!ev a p e) = true ↔ _
    cases ev a p e <;> simp
theorem tx_two {c : UInt8} {s t : List UInt8} {lo lo' hi k w : Nat} {φ ψ : St → List Int → Prop} (hc : c = 38 ∨ c = 124) (h : Tx s lo hi k w φ) (h' : Tx t lo' hi k w ψ) : Tx (c :: (s ++ t)) (max lo lo') hi k w fun a e => if c = 38 then φ a e ∧ ψ a e else φ a e ∨ ψ a e := by
  obtain ⟨p, g0, g1, g2, g3, g4, g5, g6⟩ := h.ex
  obtain ⟨q, f0, f1, f2, f3, f4, f5, f6⟩ := h'.ex
  have hr : rankF (.two c p q) = max (rankF p) (rankF q) := rfl
  refine ⟨_, is_two hc g0 f0, by omega, by omega, fun i hi ht => ?_, fun i hi ht => ?_, by show (plainB p && plainB q) = true; rw [g5, f5]; rfl, fun a e he => ?_⟩
  · have ht' : (frB p ||| frB q).testBit i = true := ht
    rw [Nat.testBit_or, Bool.or_eq_true] at ht'
    exact ht'.elim (g3 i hi) (f3 i hi)
  · have ht' : (allB p ||| allB q).testBit i = true := ht
    rw [Nat.testBit_or, Bool.or_eq_true] at ht'
    exact ht'.elim (g4 i hi) (f4 i hi)
  · show (if c = 38 then ev a p e && ev a q e else ev a p e || ev a q e) = true ↔ _
    rw [← g6 a e he, ← f6 a e he]
    split
    · rw [Bool.and_eq_true]
    · rw [Bool.or_eq_true]
/-- some, all: of the last variable -/
theorem tx_quant {c : UInt8} {s : List UInt8} {lo hi k w : Nat} {φ : St → List Int → Prop} (hc : c = 65 ∨ c = 83) (hk : k < 4) (h : Tx s lo hi (k + 1) w φ) : Tx (c :: UInt8.ofNat (97 + k) :: s) (lo + 1) (hi + 1) k (max w (k + 1)) fun a e => if c = 65 then ∀ x : Nat, x < a.n.toNat → φ a (e.set k (x : Int)) else ∃ x : Nat, x < a.n.toNat ∧ φ a (e.set k (x : Int)) := by
  obtain ⟨p, g0, g1, g2, g3, g4, g5, g6⟩ := h.ex
  have hv : isV (UInt8.ofNat (97 + k)) = true ∧ vI (UInt8.ofNat (97 + k)) = k := by
    rcases (by omega : k = 0 ∨ k = 1 ∨ k = 2 ∨ k = 3) with e | e | e | e <;> subst e <;> exact ⟨rfl, rfl⟩
  have h33 : ¬ c = 33 := fun e => by subst e; revert hc; decide
  have hr : rankF (.one c [UInt8.ofNat (97 + k)] p) = rankF p + 1 := by show (if c = 33 then _ else if c = 65 ∨ c = 83 then _ else _) = _; rw [if_neg h33, if_pos hc]
  refine ⟨_, is_quant (by rcases hc with e | e <;> simp [e]) hv.1 g0, by omega, by omega, fun i hi ht => ?_, fun i hi ht => ?_, ?_, fun a e he => ?_⟩
  · have ht' : (frB p &&& (15 ^^^ vBit (UInt8.ofNat (97 + k)))).testBit i = true := ht
    rw [frQ_test hi, Bool.and_eq_true, hv.2] at ht'
    have h1 := g3 i hi ht'.1
    have h2 : ¬ k = i := by simpa using ht'.2
    omega
  · have ht' : ((vBit (UInt8.ofNat (97 + k)) ||| 0) ||| allB p).testBit i = true := ht
    rw [Nat.or_zero, Nat.testBit_or, Bool.or_eq_true, vBit_test, hv.2, decide_eq_true_eq] at ht'
    rcases ht' with h1 | h1
    · omega
    · have := g4 i hi h1; omega
  · show (!(decide (c = 50) || decide (c = 51) || decide (c = 52)) && plainB p) = true
    rw [g5]
    rcases hc with e | e <;> rw [e] <;> rfl
  · rw [ev_quant_eq h33, decide_eq_true_eq]
    have hE : ∀ x : Nat, evC a (UInt8.ofNat (97 + k)) p e x = true ↔ φ a (e.set k (x : Int)) := fun x => by unfold evC; rw [hv.2]; exact g6 _ _ (by rw [List.length_set]; exact he)
    rcases hc with rfl | rfl
    · rw [if_pos rfl]
      show a.n.toNat ≤ _ ↔ _
      rw [cnt_all]
      exact ⟨fun h x hx => (hE x).1 (h x hx), fun h x hx => (hE x).2 (h x hx)⟩
    · rw [if_neg (by decide)]
      show 1 ≤ _ ↔ _
      rw [cnt_ex]
      exact ⟨fun ⟨x, hx, h⟩ => ⟨x, hx, (hE x).1 h⟩, fun ⟨x, hx, h⟩ => ⟨x, hx, (hE x).2 h⟩⟩
theorem preJ_cons (op x : List UInt8) (l : List (List UInt8)) : ∀ k : Nat, preJ op (x :: l) (k + 1) = op ++ x ++ preJ op l k
  | 0 => by simp [preJ]
  | k + 1 => by
    rw [show preJ op (x :: l) (k + 1 + 1) = preJ op (x :: l) (k + 1) ++ (op ++ (x :: l).getD (k + 1) []) from rfl, preJ_cons op x l k]
    simp [preJ]
theorem joinN_one (op x : List UInt8) : joinN op [x] = x := by simp [joinN, preJ]
theorem joinN_cons (op x y : List UInt8) (l : List (List UInt8)) : joinN op (x :: y :: l) = op ++ x ++ joinN op (y :: l) := by
  unfold joinN
  have e : (x :: y :: l).length - 1 = ((y :: l).length - 1) + 1 := by simp
  rw [e, preJ_cons, List.getD_cons_succ, List.append_assoc]
theorem tx_join {α : Type} {g : α → List UInt8} {c : UInt8} (hc : c = 38 ∨ c = 124) {hi k w : Nat} {φ : α → St → List Int → Prop} : ∀ {l : List α} {lo : Nat}, l ≠ [] → (∀ s ∈ l, Tx (g s) 0 hi k w (φ s)) → (lo = 0 ∨ ∃ s ∈ l, Tx (g s) lo hi k w (φ s)) →
    Tx (joinN [c] (l.map g)) lo hi k w fun a e => if c = 38 then ∀ s ∈ l, φ s a e else ∃ s ∈ l, φ s a e
  | [], _, h, _, _ => absurd rfl h
  | [x], lo, _, h, hlo => by
    rw [List.map_singleton, joinN_one]
    have hx : Tx (g x) lo hi k w (φ x) := by
      rcases hlo with rfl | ⟨s, hs, h1⟩
      · exact h x (by simp)
      · rw [List.mem_singleton.1 hs] at h1; exact h1
    refine hx.imp (Nat.le_refl _) (Nat.le_refl _) (Nat.le_refl _) (Nat.le_refl _) fun a e _ => ?_
    split <;> simp
  | x :: y :: l, lo, _, h, hlo => by
    rw [List.map_cons, List.map_cons, joinN_cons, ← List.map_cons]
    have hre : ∀ s ∈ y :: l, Tx (g s) 0 hi k w (φ s) := fun s hs => h s (List.mem_cons_of_mem _ hs)
    have fin : ∀ {l1 l2 : Nat}, lo ≤ max l1 l2 → Tx (g x) l1 hi k w (φ x) → Tx (joinN [c] ((y :: l).map g)) l2 hi k w (fun a e => if c = 38 then ∀ s ∈ y :: l, φ s a e else ∃ s ∈ y :: l, φ s a e) → Tx (([c] ++ g x) ++ joinN [c] ((y :: l).map g)) lo hi k w fun a e => if c = 38 then ∀ s ∈ x :: y :: l, φ s a e else ∃ s ∈ x :: y :: l, φ s a e := fun hm h1 h2 => by
      refine (tx_two hc h1 h2).imp hm (Nat.le_refl _) (Nat.le_refl _) (Nat.le_refl _) fun a e _ => ?_
      by_cases e38 : c = 38
      · rw [if_pos e38, if_pos e38, if_pos e38]; exact ⟨fun h s hs => (List.mem_cons.1 hs).elim (fun q => q ▸ h.1) (h.2 s), fun h => ⟨h x (by simp), fun s hs => h s (List.mem_cons_of_mem _ hs)⟩⟩
      · rw [if_neg e38, if_neg e38, if_neg e38]
        constructor
        · rintro (h | ⟨s, hs, h⟩)
          · exact ⟨x, by simp, h⟩
          · exact ⟨s, List.mem_cons_of_mem _ hs, h⟩
        · rintro ⟨s, hs, hh⟩
          rcases List.mem_cons.1 hs with rfl | hs
          · exact .inl hh
          · exact .inr ⟨s, hs, hh⟩
    rcases hlo with rfl | ⟨s, hs, h1⟩
    · exact fin (Nat.zero_le _) (h x (by simp)) (tx_join hc (by simp) hre (.inl rfl))
    · rcases List.mem_cons.1 hs with rfl | hs
      · exact fin (Nat.le_max_left _ _) h1 (tx_join hc (by simp) hre (.inl rfl))
      · exact fin (Nat.le_max_right _ _) (h x (by simp)) (tx_join hc (by simp) hre (.inr ⟨s, hs, h1⟩))
end Go.Wk
namespace Go.Wk
open Go.RowKit
/-- an atom of the first variables -/
inductive At where
  | P (i : Nat)
  | E (i j : Nat)
  | Q (i j : Nat)
def At.txt : At → List UInt8
  | .P i => [80] ++ nameS i
  | .E i j => [69] ++ nameS i ++ nameS j
  | .Q i j => [61] ++ nameS i ++ nameS j
def At.val (a : St) (xs : List Int) : At → Bool
  | .P i => a.inSet (xs.getD i 0)
  | .E i j => a.inRel (xs.getD i 0) (xs.getD j 0)
  | .Q i j => decide (xs.getD i 0 = xs.getD j 0)
def At.lt (n : Nat) : At → Prop
  | .P i => i < n
  | .E i j => i < n ∧ j < n
  | .Q i j => i < n ∧ j < n
def moreA (i : Nat) : Nat → List At
  | 0 => []
  | k + 1 => moreA i k ++ [.Q k i, .E k i, .E i k]
def factA (i : Nat) : List At := [.P i, .E i i] ++ moreA i i
def factsA : Nat → List At
  | 0 => []
  | i + 1 => factsA i ++ factA i
def atF (a : St) (xs : List Int) (t : At) : List UInt8 × Bool := (t.txt, t.val a xs)
theorem moreA_is (a : St) (xs : List Int) (i : Nat) : ∀ k : Nat, moreL a xs i k = (moreA i k).map (atF a xs)
  | 0 => rfl
  | k + 1 => by rw [moreL, moreA, List.map_append, moreA_is a xs i k]; rfl
theorem factA_is (a : St) (xs : List Int) (i : Nat) : factL a xs i = (factA i).map (atF a xs) := by
  unfold factL factA; rw [List.map_append, moreA_is]; rfl
theorem factsA_is (a : St) (xs : List Int) : ∀ i : Nat, factsL a xs i = (factsA i).map (atF a xs)
  | 0 => rfl
  | i + 1 => by rw [factsL, factsA, List.map_append, factsA_is a xs i, factA_is]
theorem At.lt_mono {n m : Nat} (h : n ≤ m) : ∀ {t : At}, t.lt n → t.lt m
  | .P _, k => Nat.lt_of_lt_of_le k h
  | .E _ _, k => ⟨Nat.lt_of_lt_of_le k.1 h, Nat.lt_of_lt_of_le k.2 h⟩
  | .Q _ _, k => ⟨Nat.lt_of_lt_of_le k.1 h, Nat.lt_of_lt_of_le k.2 h⟩
theorem moreA_lt (i : Nat) : ∀ k : Nat, k ≤ i → ∀ t ∈ moreA i k, t.lt (i + 1)
  | 0, _, t, h => by cases h
  | k + 1, hk, t, h => by
    rcases List.mem_append.1 h with h | h
    · exact moreA_lt i k (by omega) t h
    · simp only [List.mem_cons, List.not_mem_nil, or_false] at h
      rcases h with rfl | rfl | rfl
      · show k < i + 1 ∧ i < i + 1; omega
      · show k < i + 1 ∧ i < i + 1; omega
      · show i < i + 1 ∧ k < i + 1; omega
theorem factsA_lt : ∀ n : Nat, ∀ t ∈ factsA n, t.lt n
  | 0, t, h => by cases h
  | n + 1, t, h => by
    rcases List.mem_append.1 h with h | h
    · exact At.lt_mono (Nat.le_succ n) (factsA_lt n t h)
    · rcases List.mem_append.1 h with h | h
      · simp only [List.mem_cons, List.not_mem_nil, or_false] at h
        rcases h with rfl | rfl
        · show n < n + 1; omega
        · show n < n + 1 ∧ n < n + 1; omega
      · exact moreA_lt n n (Nat.le_refl _) t h
theorem nameS_at {i : Nat} (h : i < 4) : nameS i = [UInt8.ofNat (97 + i)] ∧ isV (UInt8.ofNat (97 + i)) = true ∧ vI (UInt8.ofNat (97 + i)) = i := by
  rcases (by omega : i = 0 ∨ i = 1 ∨ i = 2 ∨ i = 3) with e | e | e | e <;> subst e <;> exact ⟨rfl, rfl, rfl⟩
theorem takeV_12 {v u : UInt8} (hv : isV v = true) (hu : isV u = true) : takeV 1 [v] = some ([v], []) ∧ takeV 2 [v, u] = some ([v, u], []) := by
  have h1 : ∀ {z : UInt8}, isV z = true → takeV 1 [z] = some ([z], []) := fun hz => by unfold takeV; rw [if_pos hz]; rfl
  refine ⟨h1 hv, ?_⟩
  show (if isV v then (match takeV 1 [u] with | some (vs, r) => some (v :: vs, r) | none => none) else none) = _
  rw [if_pos hv, h1 hu]
theorem leaf_tx {c : UInt8} {vs : List UInt8} {n : Nat} {φ : St → List Int → Prop} (ho : isOp c = true) (h0 : arP c = 0) (ht : takeV (arV c) vs = some (vs, [])) (hn : ∀ v ∈ vs, vI v < n) (hφ : ∀ a e, ev a (.leaf c vs) e = true ↔ φ a e) : Tx (c :: vs) 0 0 n n φ := by
  have key : ∀ i : Nat, (vBits vs).testBit i = true → i < n := fun i h => by
    obtain ⟨v, hv, e⟩ := (vBits_test vs i).1 h
    rw [← e]; exact hn v hv
  exact ⟨_, is_leaf ho h0 ht, Nat.le_refl _, Nat.le_refl _, fun i _ h => key i h, fun i _ h => key i h, rfl, fun a e _ => hφ a e⟩
theorem at_tx : ∀ {t : At} {n : Nat}, t.lt n → n ≤ 4 → Tx t.txt 0 0 n n fun a e => t.val a e = true
  | .P i, n, h, h4 => by
    have hi : i < n := h
    obtain ⟨e1, e2, e3⟩ := nameS_at (show i < 4 by omega)
    rw [show At.txt (.P i) = [80] ++ nameS i from rfl, e1]
    refine leaf_tx rfl rfl (takeV_12 e2 e2).1 (fun v hv => by rw [List.mem_singleton.1 hv, e3]; exact hi) fun a e => ?_
    show a.inSet (atV e (UInt8.ofNat (97 + i))) = true ↔ _
    unfold atV; rw [e3]; exact Iff.rfl
  | .E i j, n, h, h4 => by
    have hi : i < n := h.1
    have hj : j < n := h.2
    obtain ⟨e1, e2, e3⟩ := nameS_at (show i < 4 by omega)
    obtain ⟨f1, f2, f3⟩ := nameS_at (show j < 4 by omega)
    rw [show At.txt (.E i j) = [69] ++ nameS i ++ nameS j from rfl, e1, f1]
    refine leaf_tx rfl rfl (takeV_12 e2 f2).2 (fun v hv => by rcases List.mem_cons.1 hv with rfl | hv; · rw [e3]; exact hi
                                                              · rw [List.mem_singleton.1 hv, f3]; exact hj) fun a e => ?_
    show a.inRel (atV e (UInt8.ofNat (97 + i))) (atV e (UInt8.ofNat (97 + j))) = true ↔ _
    unfold atV; rw [e3, f3]; exact Iff.rfl
  | .Q i j, n, h, h4 => by
    have hi : i < n := h.1
    have hj : j < n := h.2
    obtain ⟨e1, e2, e3⟩ := nameS_at (show i < 4 by omega)
    obtain ⟨f1, f2, f3⟩ := nameS_at (show j < 4 by omega)
    rw [show At.txt (.Q i j) = [61] ++ nameS i ++ nameS j from rfl, e1, f1]
    refine leaf_tx rfl rfl (takeV_12 e2 f2).2 (fun v hv => by rcases List.mem_cons.1 hv with rfl | hv; · rw [e3]; exact hi
                                                              · rw [List.mem_singleton.1 hv, f3]; exact hj) fun a e => ?_
    show decide (atV e (UInt8.ofNat (97 + i)) = atV e (UInt8.ofNat (97 + j))) = true ↔ _
    unfold atV; rw [e3, f3]; exact Iff.rfl
theorem sign_tx {t : At} {n : Nat} (h : t.lt n) (h4 : n ≤ 4) (b : Bool) : Tx (signS b t.txt) 0 0 n n fun a e => t.val a e = b := by
  cases b with
  | true => exact at_tx h h4
  | false => exact (tx_not (at_tx h h4)).imp (Nat.le_refl _) (Nat.le_refl _) (Nat.le_refl _) (Nat.le_refl _) fun a e _ => by simp
theorem At.same {a : St} {e xs : List Int} {n : Nat} (h : ∀ j : Nat, j < n → e.getD j 0 = xs.getD j 0) : ∀ {t : At}, t.lt n → t.val a e = t.val a xs
  | .P i, k => by have hk : i < n := k; show a.inSet _ = a.inSet _; rw [h i hk]
  | .E i j, k => by show a.inRel _ _ = a.inRel _ _; rw [h i k.1, h j k.2]
  | .Q i j, k => by show decide (_ = _) = decide (_ = _); rw [h i k.1, h j k.2]
theorem facts_same {a b : St} {xs ys : List Int} (hl : xs.length = ys.length) : (∀ t ∈ factsA xs.length, t.val b ys = t.val a xs) ↔ sameB a xs b ys = true := by
  have h := facts_iff (a := a) (b := b) hl xs.length (Nat.le_refl _)
  rw [factsA_is, factsA_is, List.map_map, List.map_map] at h
  have e : sameB a xs b ys = true ↔ ∀ i : Nat, i < xs.length → stillAt a xs b ys i = true := by
    unfold sameB; rw [List.all_eq_true]
    exact ⟨fun h i hi => h i (List.mem_range.2 hi), fun h i hi => h i (List.mem_range.1 hi)⟩
  rw [e, ← h, List.map_inj_left]
  exact ⟨fun k t ht => (k t ht).symm, fun k t ht => (k t ht).symm⟩
theorem take_at {e : List Int} {n j : Nat} (h : j < n) : (e.take n).getD j 0 = e.getD j 0 := by
  rw [List.getD_eq_getElem?_getD, List.getElem?_take_of_lt h, ← List.getD_eq_getElem?_getD]
/-- where a text is true -/
def TrueIn (s : List UInt8) (a : St) (e : List Int) : Prop := ∃ p, Is s p ∧ ev a p e = true
theorem Tx.self {s : List UInt8} {lo hi k w : Nat} {φ : St → List Int → Prop} (h : Tx s lo hi k w φ) : Tx s lo hi k w (TrueIn s) := by
  obtain ⟨p, g0, g1, g2, g3, g4, g5, g6⟩ := h.ex
  exact ⟨p, g0, g1, g2, g3, g4, g5, fun a e _ => ⟨fun h => ⟨p, g0, h⟩, fun ⟨q, h1, h2⟩ => by rw [g0.same h1]; exact h2⟩⟩
theorem Tx.at {s : List UInt8} {lo hi k w : Nat} {φ : St → List Int → Prop} (h : Tx s lo hi k w φ) {a : St} {e : List Int} (he : e.length = 4) : TrueIn s a e ↔ φ a e := by
  obtain ⟨p, g0, g1, g2, g3, g4, g5, g6⟩ := h.ex
  exact ⟨fun ⟨q, h1, h2⟩ => (g6 a e he).1 (by rw [g0.same h1]; exact h2), fun h => ⟨p, g0, (g6 a e he).2 h⟩⟩
theorem env_take {e : List Int} (he : e.length = 4) {n : Nat} (hn : n < 4) (y : Nat) : (e.set n (y : Int)).take (n + 1) = e.take n ++ [(y : Int)] := by
  have hl : n < (e.set n (y : Int)).length := by rw [List.length_set]; omega
  rw [List.take_succ_eq_append_getElem hl, List.getElem_set_self, List.take_set_of_le (Nat.le_refl _)]
def Tells2 (s : List UInt8) (r n : Nat) (a : St) (xs : List Int) (b : St) (ys : List Int) : Prop :=
  Tx s 0 r n (n + r) (TrueIn s) ∧ (∀ e : List Int, e.length = 4 → e.take n = xs → TrueIn s a e) ∧ ∀ e : List Int, e.length = 4 → e.take n = ys → ¬ TrueIn s b e
theorem diff_ex {a b : St} {xs ys : List Int} : ∀ {l : List At}, (∃ t ∈ l, t.val a xs ≠ t.val b ys) → ∃ t ∈ l, t.val a xs ≠ t.val b ys ∧ diffO (l.map (atF a xs)) (l.map (atF b ys)) = signS (t.val a xs) t.txt
  | [], h => by obtain ⟨t, ht, _⟩ := h; cases ht
  | t :: l, h => by
    rw [List.map_cons, List.map_cons]
    unfold diffO
    by_cases e : (atF a xs t).2 = (atF b ys t).2
    · rw [if_pos e]
      obtain ⟨u, hu, hne⟩ := h
      rcases List.mem_cons.1 hu with rfl | hu
      · exact absurd e hne
      · obtain ⟨v, h1, h2, h3⟩ := diff_ex ⟨u, hu, hne⟩
        exact ⟨v, List.mem_cons_of_mem _ h1, h2, h3⟩
    · rw [if_neg e]
      exact ⟨t, by simp, e, rfl⟩
theorem diff_tells {a b : St} {xs ys : List Int} (hl : xs.length = ys.length) (h4 : xs.length ≤ 4) (hs : sameB a xs b ys = false) (r : Nat) : Tells2 (diffO (factsL a xs xs.length) (factsL b ys ys.length)) r xs.length a xs b ys := by
  have hex : ∃ t ∈ factsA xs.length, t.val a xs ≠ t.val b ys := Classical.byContradiction fun e => by
    rw [(facts_same hl).1 fun t ht => Classical.byContradiction fun q => e ⟨t, ht, fun z => q z.symm⟩] at hs; cases hs
  rw [factsA_is, factsA_is, ← hl]
  obtain ⟨t, ht, hne, e⟩ := diff_ex hex
  rw [e]
  have hlt := factsA_lt _ t ht
  have hT := sign_tx hlt h4 (t.val a xs)
  refine ⟨hT.self.imp (Nat.le_refl _) (Nat.zero_le _) (Nat.le_refl _) (by omega) fun _ _ _ => Iff.rfl, fun e he hx => (hT.at he).2 ?_, fun e he hy h => hne ?_⟩
  · exact At.same (fun j hj => by rw [← hx, take_at hj]) hlt
  · rw [← (hT.at he).1 h]
    exact At.same (fun j hj => by rw [← hy, hl, take_at (by omega)]) hlt
theorem tells_apart {a b : St} {xs ys : List Int} {n r x m : Nat} {F : Nat → List UInt8} (_hl : xs.length = n) (_hl2 : ys.length = n) (hn : n < 4) (hx : x < a.n.toNat) (hm : m = b.n.toNat) (h1 : 1 ≤ m) (hF : ∀ y : Nat, y < m → Tells2 (F y) r (n + 1) a (xs ++ [(x : Int)]) b (ys ++ [(y : Int)])) :
    Tells2 (apart (nameS n) false ((List.range m).map F)) (r + 1) n a xs b ys := by
  obtain ⟨nm, _, _⟩ := nameS_at hn
  have hmem : ∀ s, s ∈ dedup ((List.range m).map F) ↔ ∃ y : Nat, y < m ∧ F y = s := fun s => by rw [mem_dedup, List.mem_map]; simp
  have hm0 : F 0 ∈ dedup ((List.range m).map F) := (hmem _).2 ⟨0, by omega, rfl⟩
  have hj := tx_join (c := 38) (.inl rfl) (g := id) (φ := fun s => TrueIn s) (lo := 0) (hi := r) (k := n + 1) (w := n + 1 + r) (l := dedup ((List.range m).map F)) (fun e => by rw [e] at hm0; cases hm0) (fun s hs => by
    obtain ⟨y, hy, rfl⟩ := (hmem s).1 hs
    exact (hF y hy).1) (.inl rfl)
  rw [List.map_id] at hj
  have hq := tx_quant (c := 83) (.inr rfl) hn hj
  have e : apart (nameS n) false ((List.range m).map F) = 83 :: UInt8.ofNat (97 + n) :: joinN [38] (dedup ((List.range m).map F)) := by unfold apart; rw [nm]; rfl
  rw [e]
  refine ⟨hq.self.imp (Nat.zero_le _) (Nat.le_refl _) (Nat.le_refl _) (by omega) fun _ _ _ => Iff.rfl, fun e he hxs => (hq.at he).2 ?_, fun e he hys h => ?_⟩
  · rw [if_neg (by decide)]
    refine ⟨x, hx, ?_⟩
    rw [if_pos rfl]
    intro s hs
    obtain ⟨y, hy, rfl⟩ := (hmem s).1 hs
    exact (hF y hy).2.1 _ (by rw [List.length_set]; exact he) (by rw [env_take he hn, hxs])
  · have h2 := (hq.at he).1 h
    rw [if_neg (by decide)] at h2
    obtain ⟨y, hy, h3⟩ := h2
    rw [if_pos rfl] at h3
    exact (hF y (by omega)).2.2 _ (by rw [List.length_set]; exact he) (by rw [env_take he hn, hys]) (h3 _ ((hmem _).2 ⟨y, by omega, rfl⟩))
theorem Tells2.not {s : List UInt8} {r n : Nat} {a b : St} {xs ys : List Int} (h : Tells2 s r n a xs b ys) : Tells2 (33 :: s) r n b ys a xs := by
  have hq := tx_not h.1
  exact ⟨hq.self, fun e he hy => (hq.at he).2 (h.2.2 e he hy), fun e he hx h1 => (hq.at he).1 h1 (h.2.1 e he hx)⟩
theorem tell_tells : ∀ (r : Nat) {a b : St} {xs ys : List Int}, 1 ≤ a.n.toNat → 1 ≤ b.n.toNat → xs.length = ys.length → xs.length + r ≤ 4 → winB r a xs b ys = false → Tells2 (tellF r a xs b ys) r xs.length a xs b ys
  | 0, a, b, xs, ys, ha, hb, hl, h4, hw => by
    have hs : sameB a xs b ys = false := by simpa [winB, goB] using hw
    exact diff_tells hl (by omega) hs 0
  | r + 1, a, b, xs, ys, ha, hb, hl, h4, hw => by
    cases hs : sameB a xs b ys with
    | false => rw [tell_diff hs]; exact diff_tells hl (by omega) hs _
    | true =>
      obtain ⟨sd, x, hm⟩ := move_ex hs hw
      cases sd with
      | true =>
        rw [tell_some1 hs hm]
        obtain ⟨hx, hno⟩ := move_at1 hl hm
        exact tells_apart rfl hl.symm (by omega) hx rfl hb fun y hy => by
          have := tell_tells r (xs := xs ++ [(x : Int)]) (ys := ys ++ [(y : Int)]) ha hb (by simp [hl]) (by simp; omega) (hno y hy)
          simpa using this
      | false =>
        rw [tell_some2 hs hm]
        obtain ⟨hx, hno⟩ := move_at2 hl hm
        have := tells_apart (a := b) (b := a) (xs := ys) (ys := xs) (n := xs.length) (r := r) (F := fun z : Nat => tellF r b (ys ++ [(x : Int)]) a (xs ++ [(z : Int)])) hl.symm rfl (by omega) hx rfl ha fun y hy => by
          have := tell_tells r (xs := ys ++ [(x : Int)]) (ys := xs ++ [(y : Int)]) hb ha (by simp [hl]) (by simp; omega) (hno y hy)
          simpa [← hl] using this
        exact this.not
end Go.Wk
namespace Go.Wk
open Go.RowKit
theorem bool_no {b : Bool} (h : b = true) (k : b = false) : false = true := by rw [← k, h]
theorem low_bits {x k : Nat} (h : x < 16) (hb : ∀ i : Nat, i < 4 → x.testBit i = true → i < k) : x / 2 ^ k = 0 := by
  have h1 : x < 2 ^ k := Nat.lt_pow_two_of_testBit x fun i hi => by
    cases e : x.testBit i with
    | false => rfl
    | true =>
      rcases Nat.lt_or_ge i 4 with h4 | h4
      · have := hb i h4 e; omega
      · have h5 : (16 : Nat) ≤ 2 ^ i := by
          have := Nat.pow_le_pow_right (n := 2) (by decide) h4
          simpa using this
        rw [Nat.testBit_lt_two_pow (by omega)] at e; cases e
  exact Nat.div_eq_of_lt h1
theorem envL_take (ys : List Int) : (envL ys).take ys.length = ys := by unfold envL; rw [List.take_left' rfl]
/-- a text asked of elements -/
theorem tx_hold {s : List UInt8} {lo hi k w : Nat} {φ : St → List Int → Prop} (h : Tx s lo hi k w φ) (hs : s.length ≤ 4000) {b : St} {ys : List Int} (hb : validB b = true) (hl : ys.length = k) (h4 : k ≤ 4) (hy : b.Els ys) : holdK b s ys = true ∧ (holdV b s ys = true ↔ φ b (envL ys)) := by
  obtain ⟨p, g0, g1, g2, g3, g4, g5, g6⟩ := h.ex
  have hO : holdO b s ys = some (ev b p (envL ys)) := holdO_some (g0.formO hs) ⟨hb, by omega, hy, by rw [hl]; exact low_bits (frB_lt g0.wf) g3⟩
  obtain ⟨e1, e2⟩ := hold_yes hO
  refine ⟨e2, ?_⟩
  rw [e1]
  exact g6 b _ (envL_len (by omega))
theorem tx_rank {s : List UInt8} {lo hi k w : Nat} {φ : St → List Int → Prop} (h : Tx s lo hi k w φ) (hs : s.length ≤ 4000) : (lo : Int) ≤ rankI s ∧ rankI s ≤ (hi : Int) := by
  obtain ⟨p, g0, g1, g2, _⟩ := h.ex
  unfold rankI
  rw [g0.formO hs]
  exact ⟨by dsimp only; omega, by dsimp only; omega⟩
end Go.Wk
namespace Go.Wk
open Go.RowKit
noncomputable def sepB (f : List UInt8) (a : St) (xs : List Int) (b : St) (ys : List Int) : Bool := decide ((xs.length : Int) = ys.length) && holdK a f xs && holdK b f ys && holdV a f xs && !holdV b f ys
end Go.Wk
namespace Go.Wk
open Go.RowKit
theorem tells_sep {s : List UInt8} {r n : Nat} {a b : St} {xs ys : List Int} (h : Tells2 s r n a xs b ys) (hs : s.length ≤ 4000) (ha : validB a = true) (hb : validB b = true) (hx : xs.length = n) (hy : ys.length = n) (h4 : n ≤ 4) (hxe : a.Els xs) (hye : b.Els ys) : sepB s a xs b ys = true := by
  obtain ⟨h1, h2, h3⟩ := h
  obtain ⟨e1, e2⟩ := tx_hold h1 hs ha hx h4 hxe
  obtain ⟨e3, e4⟩ := tx_hold h1 hs hb hy h4 hye
  have v1 : holdV a s xs = true := e2.2 (h2 _ (envL_len (by omega)) (by rw [← hx]; exact envL_take xs))
  have v2 : holdV b s ys = false := by
    cases e : holdV b s ys with
    | false => rfl
    | true => exact absurd (e4.1 e) (h3 _ (envL_len (by omega)) (by rw [← hy]; exact envL_take ys))
  unfold sepB
  rw [e1, e3, v1, v2, decide_eq_true (by omega)]; rfl
end Go.Wk
namespace Go.Wk
open Go.RowKit
/-- places' elements -/
def atO (os : List Int) (ys : List Int) : List Int := ys.map fun y => os.getD y.toNat 0
theorem atO_len (os ys : List Int) : (atO os ys).length = ys.length := by simp [atO]
theorem atO_at (os : List Int) {ys : List Int} {i : Nat} (h : i < ys.length) : (atO os ys).getD i 0 = os.getD (ys.getD i 0).toNat 0 := by
  unfold atO
  rw [getD_at (by simpa using h), getD_at h]; simp
theorem shape_same {a b : St} {os : List Int} (hs : sameB a os b (upto os.length) = true) {ys : List Int} (hB : ∀ y ∈ ys, 0 ≤ y ∧ y < (os.length : Int)) : sameB a (atO os ys) b ys = true := by
  have key : ∀ i : Nat, i < ys.length → (ys.getD i 0).toNat < os.length ∧ (((ys.getD i 0).toNat : Nat) : Int) = ys.getD i 0 := fun i hi => by
    have := hB (ys.getD i 0) (by rw [getD_at hi]; exact List.getElem_mem _)
    omega
  unfold sameB
  rw [List.all_eq_true]
  intro i hi
  rw [List.mem_range, atO_len] at hi
  unfold stillAt
  have ki := key i hi
  refine (stillB_true (by rw [List.length_take, List.length_take, atO_len])).2 ?_
  rw [atO_at os hi]
  have h1 := shaped_at hs ki.1 ki.1
  rw [ki.2] at h1
  refine ⟨h1.1, h1.2.2, fun k hk => pairOk_true.2 ?_⟩
  rw [List.length_take, atO_len] at hk
  have kk := key k (by omega)
  rw [take_getD (by omega), take_getD (by omega), atO_at os (by omega)]
  have h2 := shaped_at hs kk.1 ki.1
  have h3 := shaped_at hs ki.1 kk.1
  rw [kk.2, ki.2] at h2
  rw [kk.2, ki.2] at h3
  refine ⟨decide_eq_decide.2 ?_, h2.2.2, h3.2.2⟩
  rw [h2.2.1]; omega
theorem shape_wins {a b : St} {os : List Int} (hn : a.n = b.n) (hl : (os.length : Int) = a.n) (hA : a.Els os) (hs : sameB a os b (upto os.length) = true) : ∀ (n : Nat) (ys : List Int), (∀ y ∈ ys, 0 ≤ y ∧ y < (os.length : Int)) → winP n a (atO os ys) b ys
  | 0, ys, hB => shape_same hs hB
  | n + 1, ys, hB => by
    have more : ∀ y : Nat, y < os.length → winP n a (atO os ys ++ [os.getD y 0]) b (ys ++ [(y : Int)]) := fun y hy => by
      have := shape_wins hn hl hA hs n (ys ++ [(y : Int)]) fun z hz => by
        rcases List.mem_append.1 hz with h | h
        · exact hB z h
        · rw [List.mem_singleton.1 h]; omega
      rwa [show atO os (ys ++ [(y : Int)]) = atO os ys ++ [os.getD y 0] from by simp [atO]] at this
    refine ⟨shape_same hs hB, fun x hx => ?_, fun y hy => ?_⟩
    · obtain ⟨y, hy, e⟩ := shaped_onto hl hA hs (x := (x : Int)) ⟨by omega, by omega⟩
      exact ⟨y, by omega, by rw [← e]; exact more y hy⟩
    · have hy' : y < os.length := by omega
      have hel := hA (os.getD y 0) (by rw [getD_at hy']; exact List.getElem_mem _)
      refine ⟨(os.getD y 0).toNat, by have := hel.1; have := hel.2; omega, ?_⟩
      rw [show (((os.getD y 0).toNat : Nat) : Int) = os.getD y 0 from by have := hel.1; omega]
      exact more y hy'
theorem Shaped.wins {a b : St} (h : Shaped a b) (n : Nat) : winP n a [] b [] := by
  obtain ⟨hn, _, _, os, hl, hA, hs⟩ := h
  exact shape_wins hn hl hA hs n [] fun y hy => by cases hy
end Go.Wk
namespace Go.Wk
open Go.RowKit
theorem sent_cases (a b : St) : sentO a b = ([], 0, false) ∨ ∃ k : Nat, k < 3 ∧ validB a = true ∧ validB b = true ∧ (∀ i : Nat, i < k → winB (i + 1) a [] b [] = true) ∧ winB (k + 1) a [] b [] = false ∧ sentO a b = (tellF (k + 1) a [] b [], (k : Int) + 1, true) := by
  by_cases hv : (validB a && validB b) = true
  · rw [Bool.and_eq_true] at hv
    cases h0 : winB (0 + 1) a [] b [] with
    | false => exact .inr ⟨0, by decide, hv.1, hv.2, (fun i hi => absurd hi (by omega)), h0, sent_at hv.1 hv.2 (by decide) (fun i hi => absurd hi (by omega)) h0⟩
    | true =>
      cases h1 : winB (1 + 1) a [] b [] with
      | false =>
        have hall : ∀ i : Nat, i < 1 → winB (i + 1) a [] b [] = true := fun i hi => by
          obtain rfl : i = 0 := Nat.lt_one_iff.1 hi
          exact h0
        exact .inr ⟨1, by decide, hv.1, hv.2, hall, h1, sent_at hv.1 hv.2 (by decide) hall h1⟩
      | true =>
        have hall : ∀ i : Nat, i < 2 → winB (i + 1) a [] b [] = true := fun i hi => by
          rcases (show i = 0 ∨ i = 1 by omega) with rfl | rfl
          · exact h0
          · exact h1
        cases h2 : winB (2 + 1) a [] b [] with
        | false => exact .inr ⟨2, by decide, hv.1, hv.2, hall, h2, sent_at hv.1 hv.2 (by decide) hall h2⟩
        | true => exact .inl (sent_none fun i hi => by
            rcases (show i < 2 ∨ i = 2 by omega) with h | rfl
            · exact hall i h
            · exact h2)
  · exact .inl (sent_bad hv)
theorem win_nil_comm {n : Nat} {a b : St} : winB n b [] a [] = winB n a [] b [] := by
  rw [Bool.eq_iff_iff, win_iff n b [] a [] rfl, win_iff n a [] b [] rfl]
  exact ⟨winP_comm n b [] a [] rfl, winP_comm n a [] b [] rfl⟩
theorem els_nil (a : St) : a.Els [] := fun x hx => by cases hx
/-- a sentence that is given -/
theorem sent_all {a b : St} (h : (sentO a b).2.2 = true) : validB a = true ∧ validB b = true ∧ (1 ≤ (sentO a b).2.1 ∧ (sentO a b).2.1 ≤ 3) ∧ sepB (sentO a b).1 a [] b [] = true ∧ (sentO a b).1.length ≤ 4000 ∧ rankI (sentO a b).1 ≤ (sentO a b).2.1 ∧
    secB a [] b [] ((sentO a b).2.1 - 1) = true ∧ secB a [] b [] (sentO a b).2.1 = false := by
  rcases sent_cases a b with e | ⟨k, hk, va, vb, hall, hno, e⟩
  · rw [e] at h; cases h
  · have fa := validB_fine va
    have fb := validB_fine vb
    have la := fa.lo
    have lb := fb.lo
    have hT := tell_tells (k + 1) (a := a) (b := b) (xs := []) (ys := []) (by omega) (by omega) rfl (by simp; omega) hno
    have hs : (tellF (k + 1) a [] b []).length ≤ 4000 := tell_short (by omega) fa fb
    have hR := tx_rank hT.1 hs
    have hS := tells_sep hT hs va vb rfl rfl (by decide) (els_nil a) (els_nil b)
    rw [e]
    refine ⟨va, vb, ⟨by dsimp only; omega, by dsimp only; omega⟩, hS, hs, by dsimp only; omega, ?_, ?_⟩
    · show secB a [] b [] (((k : Int) + 1) - 1) = true
      cases k with
      | zero =>
        have h0 : winB 0 a [] b [] = true := by rw [win_iff 0 a [] b [] rfl]; show sameB a [] b [] = true; rfl
        rw [sec_of (r := ((0 : Nat) : Int) + 1 - 1) (by unfold listsB; rw [listB_of va (els_nil a) (by decide), listB_of vb (els_nil b) (by decide)]; rfl) (by omega) (by omega)]
        exact (win_iff 0 a [] b [] rfl).1 h0
      | succ m =>
        have := hall m (by omega)
        rw [show (((m + 1 : Nat) : Int) + 1 - 1) = (m : Int) + 1 by omega, sec_nil2 va vb (by omega)]; exact this
    · show secB a [] b [] ((k : Int) + 1) = false
      rw [sec_nil2 va vb hk]; exact hno
theorem sent_less {a b : St} (h : (sentO a b).2.2 = false) (va : validB a = true) (vb : validB b = true) : secB a [] b [] 2 = true := by
  rcases sent_cases a b with e | ⟨k, hk, -, -, hall, hno, e⟩
  · have h1 : winB (1 + 1) a [] b [] = true := Classical.byContradiction fun hn => by
      rw [Bool.not_eq_true] at hn
      have h0 : ∃ k : Nat, k < 3 ∧ (∀ i : Nat, i < k → winB (i + 1) a [] b [] = true) ∧ winB (k + 1) a [] b [] = false := by
        cases h9 : winB (0 + 1) a [] b [] with
        | false => exact ⟨0, by decide, fun i hi => absurd hi (by omega), h9⟩
        | true =>
          refine ⟨1, by decide, fun i hi => ?_, hn⟩
          obtain rfl : i = 0 := Nat.lt_one_iff.1 hi
          exact h9
      obtain ⟨k, hk, hall, hno⟩ := h0
      rw [sent_at va vb hk hall hno] at e
      exact Bool.noConfusion (show true = false from congrArg (fun z => z.2.2) e)
    exact (sec_nil2 (i := 1) va vb (by decide)).trans h1
  · rw [e] at h; cases h
/-- and the other way round -/
theorem sent_turn {a b : St} (h : (sentO a b).2.2 = true) (h' : (sentO b a).2.2 = true) : (sentO b a).2.1 = (sentO a b).2.1 := by
  rcases sent_cases a b with e | ⟨k, hk, -, -, hall, hno, e⟩
  · rw [e] at h; cases h
  rcases sent_cases b a with e' | ⟨m, hm, -, -, hall', hno', e'⟩
  · rw [e'] at h'; cases h'
  rw [e, e']
  show (m : Int) + 1 = (k : Int) + 1
  rcases Nat.lt_trichotomy m k with q | q | q
  · have := hall m q
    rw [win_nil_comm] at hno'
    rw [this] at hno'; cases hno'
  · omega
  · have := hall' k q
    rw [win_nil_comm] at this
    rw [this] at hno; cases hno
theorem sent_shape {a b : St} (h : (sentO a b).2.2 = true) : ¬ Shaped a b := fun hs => by
  rcases sent_cases a b with e | ⟨k, hk, -, -, hall, hno, e⟩
  · rw [e] at h; cases h
  · rw [(win_iff (k + 1) a [] b [] rfl).2 (hs.wins (k + 1))] at hno; cases hno
end Go.Wk
namespace Go.Proofs
open Go.Shelf
def Tryz.lays160_ren : Go.Shelf.Ren := ⟨fun | 160 => 143 | 232 => 165 | 231 => 164 | 227 => 166 | 234 => 168 | 233 => 167 | 236 => 170 | 235 => 169 | 228 => 178 | 271 => 181 | 151 => 180 | 197 => 179 | 120 => 187 | 152 => 186 | 260 => 185 | 137 => 141 | 119 => 189 | 224 => 183 | 225 => 182 | 217 => 163 | 266 => 177 | n => n, fun | 9 => 9 | 4 => 4 | 3 => 3 | 5 => 5 | 117 => 173 | 116 => 172 | 0 => 0 | 124 => 176 | 21 => 21 | 105 => 180 | 46 => 120 | 119 => 187 | 139 => 190 | 138 => 189 | n => n, fun | 3 => 1 | 4 => 2 | n => n⟩
theorem Tryz.lays160 : Go.Proofs.Lays.n160 Tryz.prog Tryz.lays160_ren := {
  mixed := by kernel_rfl
  f119 := Tryz.func189.trans (congrArg some (by kernel_rfl))
  f120 := Tryz.func187.trans (congrArg some (by kernel_rfl))
  f137 := Tryz.func141.trans (congrArg some (by kernel_rfl))
  f151 := Tryz.func180.trans (congrArg some (by kernel_rfl))
  f152 := Tryz.func186.trans (congrArg some (by kernel_rfl))
  f160 := Tryz.func143.trans (congrArg some (by kernel_rfl))
  f197 := Tryz.func179.trans (congrArg some (by kernel_rfl))
  f217 := Tryz.func163.trans (congrArg some (by kernel_rfl))
  f224 := Tryz.func183.trans (congrArg some (by kernel_rfl))
  f225 := Tryz.func182.trans (congrArg some (by kernel_rfl))
  f227 := Tryz.func166.trans (congrArg some (by kernel_rfl))
  f228 := Tryz.func178.trans (congrArg some (by kernel_rfl))
  f231 := Tryz.func164.trans (congrArg some (by kernel_rfl))
  f232 := Tryz.func165.trans (congrArg some (by kernel_rfl))
  f233 := Tryz.func167.trans (congrArg some (by kernel_rfl))
  f234 := Tryz.func168.trans (congrArg some (by kernel_rfl))
  f235 := Tryz.func169.trans (congrArg some (by kernel_rfl))
  f236 := Tryz.func170.trans (congrArg some (by kernel_rfl))
  f260 := Tryz.func185.trans (congrArg some (by kernel_rfl))
  f266 := Tryz.func177.trans (congrArg some (by kernel_rfl))
  f271 := Tryz.func181.trans (congrArg some (by kernel_rfl))
  t0 := Tryz.underlying0
  a0 := Tryz.isAgg0
  z0 := Tryz.sizeOf0
  v0 := Tryz.zeroValue0
  t3 := Tryz.underlying3
  a3 := Tryz.isAgg3
  z3 := Tryz.sizeOf3
  v3 := Tryz.zeroValue3
  t4 := Tryz.underlying4
  a4 := Tryz.isAgg4
  z4 := Tryz.sizeOf4
  v4 := Tryz.zeroValue4
  t5 := Tryz.underlying5
  a5 := Tryz.isAgg5
  z5 := Tryz.sizeOf5
  v5 := Tryz.zeroValue5
  t9 := Tryz.underlying9
  a9 := Tryz.isAgg9
  z9 := Tryz.sizeOf9
  v9 := Tryz.zeroValue9
  t21 := Tryz.underlying21
  a21 := Tryz.isAgg21
  z21 := Tryz.sizeOf21
  v21 := Tryz.zeroValue21
  t46 := Tryz.underlying120
  a46 := Tryz.isAgg120
  z46 := Tryz.sizeOf120
  v46 := Tryz.zeroValue120
  t105 := Tryz.underlying180
  a105 := Tryz.isAgg180
  z105 := Tryz.sizeOf180
  v105 := Tryz.zeroValue180
  t116 := Tryz.underlying172
  a116 := Tryz.isAgg172
  z116 := Tryz.sizeOf172
  t117 := Tryz.underlying173
  a117 := Tryz.isAgg173
  z117 := Tryz.sizeOf173
  v117 := Tryz.zeroValue173
  t119 := Tryz.underlying187
  a119 := Tryz.isAgg187
  z119 := Tryz.sizeOf187
  t124 := Tryz.underlying176
  a124 := Tryz.isAgg176
  z124 := Tryz.sizeOf176
  v124 := Tryz.zeroValue176
  t138 := Tryz.underlying189
  a138 := Tryz.isAgg189
  z138 := Tryz.sizeOf189
  v138 := Tryz.zeroValue189
  t139 := Tryz.underlying190
  a139 := Tryz.isAgg190
  z139 := Tryz.sizeOf190
  v139 := Tryz.zeroValue190
  g3 := by kernel_rfl
  g4 := by kernel_rfl }
end Go.Proofs
namespace Go.Proofs.YtefiibghfgfdnaaGreatDoor
open Go.RowKit Go.Wk
theorem Base.mixed : Tryz.prog.follows .mixedOrders = true := by kernel_rfl
theorem Base.elem22 : Elem Tryz.prog 22 5 1 := ⟨Tryz.underlying22, Tryz.t5, _, by kernel_rfl, rfl, rfl, by decide, rfl, by decide⟩
theorem Base.elem25 : Elem Tryz.prog 25 3 1 := ⟨Tryz.underlying25, Tryz.t3, _, by kernel_rfl, rfl, rfl, by decide, rfl, by decide⟩
theorem Base.elem48 : Elem Tryz.prog 48 9 1 := ⟨Tryz.underlying48, Tryz.t9, _, by kernel_rfl, rfl, rfl, by decide, rfl, by decide⟩
theorem Base.elem65 : Elem Tryz.prog 65 61 1 := ⟨Tryz.underlying65, Tryz.t61, _, by kernel_rfl, rfl, rfl, by decide, rfl, by decide⟩
theorem Base.elem79 : Elem Tryz.prog 79 4 1 := ⟨Tryz.underlying79, Tryz.t4, _, by kernel_rfl, rfl, rfl, by decide, rfl, by decide⟩
theorem Base.elem98 : Elem Tryz.prog 98 163 1 := ⟨Tryz.underlying98, Tryz.t163, _, by kernel_rfl, rfl, rfl, by decide, rfl, by decide⟩
theorem Base.elem163 : Elem Tryz.prog 163 165 2 := ⟨Tryz.underlying163, Tryz.t165, _, by kernel_rfl, rfl, rfl, by decide, rfl, by decide⟩
theorem trim_ok (s : List UInt8) (w : World) (hs : s.length ≤ 1048576) :
    Calls Tryz.prog 143 [str s, str [48, 49]].toArray w fun en w' => en = .returned (str (Lib.trimS s [48, 49])) ∧ Below w.heap.size w w' :=
  Any.strings_Trim_laid Tryz.lays160 (by kernel_rfl) ⟨⟨s⟩⟩ ⟨⟨[48, 49]⟩⟩ w (by show s.length ≤ 9223372036854775807; omega) (by decide) (ascii_of_all (by decide))
end Go.Proofs.YtefiibghfgfdnaaGreatDoor
namespace Go.Proofs.YtefiibghfgfdnaaGreatDoor
abbrev yH := @Base.mixed
abbrev yK := @Base.elem25
abbrev xP := @Base.elem48
abbrev xU := @Base.elem22
abbrev uI := @Base.elem163
abbrev uP := @Base.elem65
end Go.Proofs.YtefiibghfgfdnaaGreatDoor
namespace Go.Proofs.YtefiibghfgfdnaaGreatDoor
open Go.RowKit Go.Wk
set_option linter.unusedSimpArgs false
set_option maxHeartbeats 400000 in
/-- spec.l1In -/
theorem l1In_ok (n lo hi:Int) (w:World) :
    Calls Tryz.prog 80 [i6_ n,i6_ lo,i6_ hi].toArray w fun en w'=>en=.returned (.bool (inB n lo hi))∧Below w.heap.size w w':=by
 refine fnStart (n:=15) (e:=[(0,i6_ n),(1,i6_ lo),(2,i6_ hi)]) Tryz.func80 rfl rfl rfl rfl Ends.both ?_;refine zE (zB (zC 1 rfl (zJ (zD [0,1,2] [_,_,_] rfl ?_))));refine zE (zB (zC 4 rfl (xD fun b10 hg10=>?_)))
 cases b10
 ·
  replace hg10:=zM hg10;refine zS rfl rfl rfl (zS rfl rfl rfl (zS rfl rfl rfl (zC 2 rfl (zJ (zD [6] [_] rfl ?_)))));refine qL (qS rfl rfl fun w' hw=>?_)
  exact ⟨ret_b (by first | rfl | (simp_all [inB];done) | (simp_all [inB];omega)),hw.below⟩
 replace hg10:=zN hg10;refine zC 5 rfl (zJ (zD [6] [_] rfl ?_));refine qL (qS rfl rfl fun w' hw=>?_)
 exact ⟨ret_b (by first | rfl | (simp_all [inB];done) | (simp_all [inB];omega)),hw.below⟩
set_option maxHeartbeats 400000 in
/-- spec.l1Bits -/
theorem l1Bits_ok (s:List UInt8) (n:Int) (w:World) (hs:s.length≤1048576) :
    Calls Tryz.prog 100 [str s,i6_ n].toArray w fun en w'=>en=.returned (.bool (bitsB s n))∧Below w.heap.size w w':=by
 refine fnStart (n:=26) (e:=[(0,str s),(1,i6_ n)]) Tryz.func100 rfl rfl rfl rfl Ends.both ?_;refine zE (zB (zC 1 rfl (zJ (zD [0,1] [_,_] rfl ?_))));refine zE (zE (zB (zC 1 rfl (zJ (zD [0,1,5] [_,_,_] rfl ?_)))));refine qT (xJ (σ:=Nat) (fun k=>k≤s.length∧(s.take k).all isBit=true) (fun k=>[(0,str s),(1,i6_ n),(5,i6_ ((k:Int)))]) (fun k=>Own w.heap.size w []) (fun k=>s.length - k) (0) ⟨by omega,rfl⟩ (Sub.sel [0,1,5] rfl) (fun _ h=>h) ?_)
 rintro k ⟨hk,hall⟩;refine zE (zE (zB (zC 2 rfl (zL (v:=i6_ ((s.length:Int))) rfl rfl rfl (jT rfl yG rfl) ?_))));refine zC 1 rfl (zJ (zD [0,1,5,9] [_,_,_,_] rfl ?_));refine qK (b:=decide (((k:Int))<((s.length:Int)))) rfl (fun h9=>?_) (fun h9=>?_)
 ·
  replace h9:=zN h9;refine qU (zD [0,1,5] [_,_,_] rfl ?_);refine zE (qT (zE (zB (zC 2 rfl (zL (v:=.int .u8 (((s.getD (((k:Int)).toNat) 0).toNat:Int))) rfl rfl rfl (jI rfl yG rfl rfl (by omega) (by omega)) ?_)))));refine zC 2 rfl (xD fun b16 hg16=>?_)
  cases b16
  ·
   replace hg16:=not_false hg16
   replace hg16:=zN hg16;refine zS rfl rfl rfl (zS rfl rfl rfl (zS rfl rfl rfl (zS rfl rfl rfl (zC 1 rfl (zJ (zD [0,1,5,21] [_,_,_,_] rfl ?_))))));refine jD rfl ?_;refine qU (zD [0,1,5] [_,_,_] rfl ?_);refine zB (zC 1 rfl (zL rfl rfl rfl (yI rfl rfl rfl (by omega) (by omega)) ?_));refine zC 1 rfl (zJ (yQ (k+1) ⟨by omega,all_take (by omega) hall (by unfold isBit;simp_all)⟩ (by omega) (Sub.sel [0,1,5] rfl) (fun _ h=>h)))
  replace hg16:=not_true hg16
  replace hg16:=zM hg16;refine zC 2 rfl (zL (v:=.int .u8 (((s.getD (((k:Int)).toNat) 0).toNat:Int))) rfl rfl rfl (jI rfl yG rfl rfl (by omega) (by omega)) ?_);refine zC 2 rfl (zJ (zD [0,1,5,21] [_,_,_,_] rfl ?_));refine qK (b:=!(decide ((((s.getD (((k:Int)).toNat) 0).toNat:Int))=(49:Int)))) rfl (fun h21=>?_) (fun h21=>?_)
  ·
   replace h21:=not_true h21
   replace h21:=zM h21;refine zE (zB (zC 1 rfl (zJ (zD [4] [_] rfl ?_))));refine qL (qS rfl rfl fun w' hw=>?_)
   exact ⟨ret_b (by unfold bitsB;rw [all_false (k:=k) (by omega) (by unfold isBit;simp_all)];rfl),hw.below⟩
  replace h21:=not_false h21
  replace h21:=zN h21;refine qU (zD [0,1,5] [_,_,_] rfl ?_);refine zB (zC 1 rfl (zL rfl rfl rfl (yI rfl rfl rfl (by omega) (by omega)) ?_));refine zC 1 rfl (zJ (yQ (k+1) ⟨by omega,all_take (by omega) hall (by unfold isBit;simp_all)⟩ (by omega) (Sub.sel [0,1,5] rfl) (fun _ h=>h)))
 replace h9:=zM h9;refine yW rfl ?_;refine zD [0,1] [_,_] rfl ?_;refine zE (zB (zC 1 rfl (zL (v:=i6_ ((s.length:Int))) rfl rfl rfl (jT rfl yG rfl) ?_)));refine zC 3 rfl (zJ (zD [4] [_] rfl ?_));refine qL (qS rfl rfl fun w' hw=>?_)
 exact ⟨ret_b (by unfold bitsB;rw [show s.all isBit=true from by rw [← List.take_of_length_le (show s.length≤k by omega)];exact hall];rfl),hw.below⟩
set_option maxHeartbeats 400000 in
/-- spec.StructureValid -/
theorem sValid_ok (a:St) (w:World) (ha:a.Small) :
    Calls Tryz.prog 51 [vS a].toArray w fun en w'=>en=.returned (.bool (validB a))∧Below w.heap.size w w':=by
 refine fnStart (n:=23) (e:=[(0,vS a)]) Tryz.func51 rfl rfl rfl rfl Ends.both ?_
 have h1:=ha.set
 have h2:=ha.rel;refine zE (qF (yU (v:=vS a) rfl rfl rfl rfl rfl fun p1 hp1=>?_))
 show Ll _ _ (Own _ _ [_]) _ _ ((1,pt_ p1)::_) _ _ _;refine qJ 1 rfl (zG (zD [1] [_] rfl ?_));refine zE (zB (zL rfl rfl rfl (zF rfl zY rfl zK rfl rfl) ?_));refine zL rfl rfl rfl (zP 0 rfl zW rfl rfl rfl) ?_;refine zL (v:=bo_ (inB a.n 1 8)) rfl rfl rfl (qH rfl Tryz.call80 rfl qC (fun w1 hw1=>l1In_ok a.n 1 8 w1 )) ?_;refine zC 1 rfl (xD fun b6 hg6=>?_)
 cases b6
 ·
  refine zS rfl rfl rfl ?_;refine zS rfl rfl rfl (zS rfl rfl rfl (zS rfl rfl rfl (zS rfl rfl rfl (zC 2 rfl (zS rfl rfl rfl (zS rfl rfl rfl (zS rfl rfl rfl ?_)))))));refine zS rfl rfl rfl (zS rfl rfl rfl (zS rfl rfl rfl (zS rfl rfl rfl (zS rfl rfl rfl (zC 2 rfl (zJ (zD [2] [_] rfl ?_)))))));refine qL (qS rfl rfl fun w' hw=>?_)
  exact ⟨ret_b (by first | (simp [validB, *];done) | (simp [validB, *];omega)),hw.below⟩
 have hn:1≤a.n∧a.n≤8:=by unfold inB at hg6;simpa using hg6
 have hq:=sq_le hn.1 hn.2;refine zL rfl rfl rfl (zF rfl zY rfl qG rfl rfl) ?_;refine zL rfl rfl rfl (zP 0 rfl qY rfl rfl rfl) ?_;refine zL rfl rfl rfl (zF rfl zY rfl zK rfl rfl) ?_;refine zL rfl rfl rfl (zP 0 rfl zW rfl rfl rfl) ?_;refine zL (v:=bo_ (bitsB a.set a.n)) rfl rfl rfl (qH rfl Tryz.call100 rfl qC (fun w1 hw1=>l1Bits_ok a.set a.n w1 (by omega))) ?_;refine zC 2 rfl (xD fun b13 hg13=>?_)
 cases b13
 ·
  refine zS rfl rfl rfl (zS rfl rfl rfl (zS rfl rfl rfl ?_));refine zS rfl rfl rfl (zS rfl rfl rfl (zS rfl rfl rfl (zS rfl rfl rfl (zS rfl rfl rfl (zC 2 rfl (zJ (zD [2] [_] rfl ?_)))))));refine qL (qS rfl rfl fun w' hw=>?_)
  exact ⟨ret_b (by first | (simp [validB, *];done) | (simp [validB, *];omega)),hw.below⟩
 refine zL rfl rfl rfl (zF rfl zY rfl qG rfl rfl) ?_;refine zL rfl rfl rfl (zP 0 rfl qY rfl rfl rfl) ?_;refine zL rfl rfl rfl (zF rfl zY rfl zK rfl rfl) ?_;refine zL rfl rfl rfl (zP 0 rfl zW rfl rfl rfl) ?_;refine zL rfl rfl rfl (zF rfl zY rfl zK rfl rfl) ?_;refine zL rfl rfl rfl (zP 0 rfl zW rfl rfl rfl) ?_;refine zL rfl rfl rfl (OpQ.mul rfl rfl rfl (by omega) (by omega)) ?_;refine zL (v:=bo_ (bitsB a.rel (a.n*a.n))) rfl rfl rfl (qH rfl Tryz.call100 rfl qC (fun w1 hw1=>l1Bits_ok a.rel (a.n*a.n) w1 (by omega))) ?_;refine zC 2 rfl (zJ (zD [2] [_] rfl ?_));refine qL (qS rfl rfl fun w' hw=>?_)
 exact ⟨ret_b (by first | (simp [validB, *];done) | (simp [validB, *];omega)),hw.below⟩
set_option maxHeartbeats 400000 in
/-- spec.l1Set -/
theorem l1Set_ok (a:St) (x:Int) (w:World) (ha:a.Fine) (hx:a.El x) :
    Calls Tryz.prog 153 [vS a,i6_ x].toArray w fun en w'=>en=.returned (.bool (a.inSet x))∧Below w.heap.size w w':=by
 refine fnStart (n:=10) (e:=[(0,vS a),(1,i6_ x)]) Tryz.func153 rfl rfl rfl rfl Ends.both ?_
 have hs:=ha.set
 obtain ⟨h0,h1⟩:=hx;refine zE (qF (yU (v:=vS a) rfl rfl rfl rfl rfl fun p2 hp2=>?_))
 show Ll _ _ (Own _ _ [_]) _ _ ((2,pt_ p2)::_) _ _ _;refine qJ 1 rfl (zG (zD [1,2] [_,_] rfl ?_));refine zE (zB (zL rfl rfl rfl (zF rfl zY rfl qG rfl rfl) ?_));refine zL rfl rfl rfl (zP 0 rfl qY rfl rfl rfl) ?_;refine zC 1 rfl (zL (v:=.int .u8 (((a.set.getD ((x).toNat) 0).toNat:Int))) rfl rfl rfl (jI rfl yG rfl rfl (by omega) (by omega)) ?_);refine zC 2 rfl (zJ (zD [4] [_] rfl ?_));refine qL (qS rfl rfl fun w' hw=>?_)
 exact ⟨ret_b (by first | rfl | (simp_all;done) | (simp_all;omega)),hw.below⟩
set_option maxHeartbeats 400000 in
/-- spec.l1Rel -/
theorem l1Rel_ok (a:St) (x y:Int) (w:World) (ha:a.Fine) (hx:a.El x) (hy:a.El y) :
    Calls Tryz.prog 154 [vS a,i6_ x,i6_ y].toArray w fun en w'=>en=.returned (.bool (a.inRel x y))∧Below w.heap.size w w':=by
 refine fnStart (n:=17) (e:=[(0,vS a),(1,i6_ x),(2,i6_ y)]) Tryz.func154 rfl rfl rfl rfl Ends.both ?_
 obtain ⟨k0,k1,k2,k3,k4⟩:=ha.relLt hx hy;refine zE (qF (yU (v:=vS a) rfl rfl rfl rfl rfl fun p3 hp3=>?_))
 show Ll _ _ (Own _ _ [_]) _ _ ((3,pt_ p3)::_) _ _ _;refine qJ 1 rfl (zG (zD [1,2,3] [_,_,_] rfl ?_));refine zE (zB (zL rfl rfl rfl (zF rfl zY rfl qG rfl rfl) ?_));refine zL rfl rfl rfl (zP 0 rfl qY rfl rfl rfl) ?_;refine zC 1 rfl (zL rfl rfl rfl (zF rfl zY rfl zK rfl rfl) ?_);refine zL rfl rfl rfl (zP 0 rfl zW rfl rfl rfl) ?_;refine zL rfl rfl rfl (OpQ.mul rfl rfl rfl (by omega) (by omega)) ?_;refine zC 1 rfl (zL rfl rfl rfl (yI rfl rfl rfl (by omega) (by omega)) ?_);refine zL (v:=.int .u8 (((a.rel.getD (((x*a.n)+y).toNat) 0).toNat:Int))) rfl rfl rfl (jI rfl yG rfl rfl (by omega) (by omega)) ?_;refine zC 2 rfl (zJ (zD [6] [_] rfl ?_));refine qL (qS rfl rfl fun w' hw=>?_)
 exact ⟨ret_b (by first | rfl | (simp_all;done) | (simp_all;omega)),hw.below⟩
set_option maxHeartbeats 400000 in
/-- impl.areBits -/
theorem areBits_ok (s:List UInt8) (n:Int) (w:World) (hs:s.length≤1048576) :
    Calls Tryz.prog 99 [str s,i6_ n].toArray w fun en w'=>en=.returned (.bool (bitsB s n))∧Below w.heap.size w w':=by
 refine fnStart (n:=14) (e:=[(0,str s),(1,i6_ n)]) Tryz.func99 rfl rfl rfl rfl Ends.both ?_;refine zE (zB (zC 1 rfl (zJ (zD [0,1] [_,_] rfl ?_))));refine zE (zB (zC 1 rfl (zL (v:=i6_ ((s.length:Int))) rfl rfl rfl (jT rfl yG rfl) ?_)));refine zC 3 rfl (xD fun b9 hg9=>?_)
 cases b9
 ·
  replace hg9:=zM hg9;refine zS rfl rfl rfl (zS rfl rfl rfl (zS rfl rfl rfl (zC 2 rfl (zJ (zD [4] [_] rfl ?_)))));refine qL (qS rfl rfl fun w' hw=>?_)
  exact ⟨ret_b (by unfold bitsB;simp [*]),hw.below⟩
 replace hg9:=zN hg9;refine zC 1 rfl (zL (v:=str (Lib.trimS s [48,49])) rfl rfl rfl (qH rfl Tryz.call143 rfl qC (fun w1 hw1=>trim_ok s w1 (by omega))) ?_);refine zL rfl rfl rfl (uL rfl rfl rfl) ?_;refine zC 2 rfl (zJ (zD [4] [_] rfl ?_));refine qL (qS rfl rfl fun w' hw=>?_)
 exact ⟨ret_b (by unfold bitsB;rw [trim_nil];simp [*]),hw.below⟩
set_option maxHeartbeats 400000 in
/-- impl.isStructure -/
theorem isStructure_ok (a:St) (w:World) (ha:a.Small) :
    Calls Tryz.prog 50 [vS a].toArray w fun en w'=>en=.returned (.bool (validB a))∧Below w.heap.size w w':=by
 refine fnStart (n:=28) (e:=[(0,vS a)]) Tryz.func50 rfl rfl rfl rfl Ends.both ?_
 have h1:=ha.set
 have h2:=ha.rel;refine zE (qF (yU (v:=vS a) rfl rfl rfl rfl rfl fun p1 hp1=>?_))
 show Ll _ _ (Own _ _ [_]) _ _ ((1,pt_ p1)::_) _ _ _;refine qJ 1 rfl (zG (zD [1] [_] rfl ?_));refine zE (zB (zL rfl rfl rfl (zF rfl zY rfl zK rfl rfl) ?_));refine zL rfl rfl rfl (zP 0 rfl zW rfl rfl rfl) ?_;refine zC 2 rfl (xD fun b6 hg6=>?_)
 cases b6
 ·
  replace hg6:=zM hg6;refine zS rfl rfl rfl (zS rfl rfl rfl (zS rfl rfl rfl (zC 2 rfl (zS rfl rfl rfl ?_))));refine zS rfl rfl rfl (zS rfl rfl rfl (zS rfl rfl rfl (zS rfl rfl rfl (zC 2 rfl (zS rfl rfl rfl (zS rfl rfl rfl (zS rfl rfl rfl ?_)))))));refine zS rfl rfl rfl (zS rfl rfl rfl (zS rfl rfl rfl (zS rfl rfl rfl (zS rfl rfl rfl (zC 2 rfl (zJ (zD [2] [_] rfl ?_)))))));refine qL (qS rfl rfl fun w' hw=>?_)
  exact ⟨ret_b (by first | (simp [validB,inB, *];done) | (simp [validB,inB, *];omega)),hw.below⟩
 replace hg6:=zN hg6;refine zL rfl rfl rfl (zF rfl zY rfl zK rfl rfl) ?_;refine zL rfl rfl rfl (zP 0 rfl zW rfl rfl rfl) ?_;refine zC 3 rfl (xD fun b11 hg11=>?_)
 cases b11
 ·
  replace hg11:=zM hg11;refine zS rfl rfl rfl ?_;refine zS rfl rfl rfl (zS rfl rfl rfl (zS rfl rfl rfl (zS rfl rfl rfl (zC 2 rfl (zS rfl rfl rfl (zS rfl rfl rfl (zS rfl rfl rfl ?_)))))));refine zS rfl rfl rfl (zS rfl rfl rfl (zS rfl rfl rfl (zS rfl rfl rfl (zS rfl rfl rfl (zC 2 rfl (zJ (zD [2] [_] rfl ?_)))))));refine qL (qS rfl rfl fun w' hw=>?_)
  exact ⟨ret_b (by first | (simp [validB,inB, *];done) | (simp [validB,inB, *];omega)),hw.below⟩
 replace hg11:=zN hg11
 have hq:=sq_le hg6 hg11;refine zL rfl rfl rfl (zF rfl zY rfl qG rfl rfl) ?_;refine zL rfl rfl rfl (zP 0 rfl qY rfl rfl rfl) ?_;refine zL rfl rfl rfl (zF rfl zY rfl zK rfl rfl) ?_;refine zL rfl rfl rfl (zP 0 rfl zW rfl rfl rfl) ?_;refine zL (v:=bo_ (bitsB a.set a.n)) rfl rfl rfl (qH rfl Tryz.call99 rfl qC (fun w1 hw1=>areBits_ok a.set a.n w1 (by omega))) ?_;refine zC 2 rfl (xD fun b18 hg18=>?_)
 cases b18
 ·
  refine zS rfl rfl rfl (zS rfl rfl rfl (zS rfl rfl rfl ?_));refine zS rfl rfl rfl (zS rfl rfl rfl (zS rfl rfl rfl (zS rfl rfl rfl (zS rfl rfl rfl (zC 2 rfl (zJ (zD [2] [_] rfl ?_)))))));refine qL (qS rfl rfl fun w' hw=>?_)
  exact ⟨ret_b (by first | (simp [validB,inB, *];done) | (simp [validB,inB, *];omega)),hw.below⟩
 refine zL rfl rfl rfl (zF rfl zY rfl qG rfl rfl) ?_;refine zL rfl rfl rfl (zP 0 rfl qY rfl rfl rfl) ?_;refine zL rfl rfl rfl (zF rfl zY rfl zK rfl rfl) ?_;refine zL rfl rfl rfl (zP 0 rfl zW rfl rfl rfl) ?_;refine zL rfl rfl rfl (zF rfl zY rfl zK rfl rfl) ?_;refine zL rfl rfl rfl (zP 0 rfl zW rfl rfl rfl) ?_;refine zL rfl rfl rfl (OpQ.mul rfl rfl rfl (by omega) (by omega)) ?_;refine zL (v:=bo_ (bitsB a.rel (a.n*a.n))) rfl rfl rfl (qH rfl Tryz.call99 rfl qC (fun w1 hw1=>areBits_ok a.rel (a.n*a.n) w1 (by omega))) ?_;refine zC 2 rfl (zJ (zD [2] [_] rfl ?_));refine qL (qS rfl rfl fun w' hw=>?_)
 exact ⟨ret_b (by first | (simp [validB,inB, *];done) | (simp [validB,inB, *];omega)),hw.below⟩
set_option maxHeartbeats 400000 in
/-- impl.Structure.inSet -/
theorem inSet_ok (a:St) (x:Int) (w:World) (ha:a.Fine) (hx:a.El x) :
    Calls Tryz.prog 90 [vS a,i6_ x].toArray w fun en w'=>en=.returned (.bool (a.inSet x))∧Below w.heap.size w w':=by
 refine fnStart (n:=10) (e:=[(0,vS a),(1,i6_ x)]) Tryz.func90 rfl rfl rfl rfl Ends.both ?_
 have hs:=ha.set
 obtain ⟨h0,h1⟩:=hx;refine zE (qF (yU (v:=vS a) rfl rfl rfl rfl rfl fun p2 hp2=>?_))
 show Ll _ _ (Own _ _ [_]) _ _ ((2,pt_ p2)::_) _ _ _;refine qJ 1 rfl (zG (zD [1,2] [_,_] rfl ?_));refine zE (zB (zL rfl rfl rfl (zF rfl zY rfl qG rfl rfl) ?_));refine zL rfl rfl rfl (zP 0 rfl qY rfl rfl rfl) ?_;refine zC 1 rfl (zL (v:=.int .u8 (((a.set.getD ((x).toNat) 0).toNat:Int))) rfl rfl rfl (jI rfl yG rfl rfl (by omega) (by omega)) ?_);refine zC 2 rfl (zJ (zD [4] [_] rfl ?_));refine qL (qS rfl rfl fun w' hw=>?_)
 exact ⟨ret_b (by first | rfl | (simp_all;done) | (simp_all;omega)),hw.below⟩
set_option maxHeartbeats 400000 in
/-- impl.Structure.inRel -/
theorem inRel_ok (a:St) (x y:Int) (w:World) (ha:a.Fine) (hx:a.El x) (hy:a.El y) :
    Calls Tryz.prog 91 [vS a,i6_ x,i6_ y].toArray w fun en w'=>en=.returned (.bool (a.inRel x y))∧Below w.heap.size w w':=by
 refine fnStart (n:=17) (e:=[(0,vS a),(1,i6_ x),(2,i6_ y)]) Tryz.func91 rfl rfl rfl rfl Ends.both ?_
 obtain ⟨k0,k1,k2,k3,k4⟩:=ha.relLt hx hy;refine zE (qF (yU (v:=vS a) rfl rfl rfl rfl rfl fun p3 hp3=>?_))
 show Ll _ _ (Own _ _ [_]) _ _ ((3,pt_ p3)::_) _ _ _;refine qJ 1 rfl (zG (zD [1,2,3] [_,_,_] rfl ?_));refine zE (zB (zL rfl rfl rfl (zF rfl zY rfl qG rfl rfl) ?_));refine zL rfl rfl rfl (zP 0 rfl qY rfl rfl rfl) ?_;refine zC 1 rfl (zL rfl rfl rfl (zF rfl zY rfl zK rfl rfl) ?_);refine zL rfl rfl rfl (zP 0 rfl zW rfl rfl rfl) ?_;refine zL rfl rfl rfl (OpQ.mul rfl rfl rfl (by omega) (by omega)) ?_;refine zC 1 rfl (zL rfl rfl rfl (yI rfl rfl rfl (by omega) (by omega)) ?_);refine zL (v:=.int .u8 (((a.rel.getD (((x*a.n)+y).toNat) 0).toNat:Int))) rfl rfl rfl (jI rfl yG rfl rfl (by omega) (by omega)) ?_;refine zC 2 rfl (zJ (zD [6] [_] rfl ?_));refine qL (qS rfl rfl fun w' hw=>?_)
 exact ⟨ret_b (by first | rfl | (simp_all;done) | (simp_all;omega)),hw.below⟩
set_option maxHeartbeats 400000 in
/-- impl.areElements$1 -/
theorem noEl_ok (a:St) (g T:Nat) (x:Int) (w:World) (hg:w.heap[g]?=some (.cells #[.int .i64 a.n,str a.set,str a.rel] T (0,0))) :
    Calls Tryz.prog 138 [i6_ x,.pointer (some ⟨g,0,none⟩)].toArray w fun en w'=>en=.returned (.bool (!elB a x))∧Below w.heap.size w w':=by
 refine fnStart (n:=12) (e:=[(0,i6_ x),(1,.pointer (some ⟨g,0,none⟩))]) Tryz.func138 rfl rfl rfl rfl Ends.both ?_;refine zE (zB (zC 1 rfl (zJ (zD [0,1] [_,_] rfl ?_))));refine zE (zB (zC 3 rfl (xD fun b6 hg6=>?_)))
 cases b6
 ·
  replace hg6:=zM hg6;refine zC 1 rfl (zL rfl rfl rfl (zF rfl zY rfl zK rfl rfl) ?_);refine zL (v:=i6_ a.n) rfl rfl rfl (qQ rfl zW rfl (fun w1 hw1=>at_box hg hw1 0 rfl)) ?_;refine zC 3 rfl (zJ (zD [3] [_] rfl ?_));refine qL (qS rfl rfl fun w' hw=>?_)
  exact ⟨ret_b (by first | exact el_neg (by assumption) | exact el_geq (by assumption)),hw.below⟩
 replace hg6:=zN hg6;refine zS rfl rfl rfl (zS rfl rfl rfl (zS rfl rfl rfl (zS rfl rfl rfl (zC 2 rfl (zJ (zD [3] [_] rfl ?_))))));refine qL (qS rfl rfl fun w' hw=>?_)
 exact ⟨ret_b (by first | exact el_neg (by assumption) | exact el_geq (by assumption)),hw.below⟩
set_option maxHeartbeats 400000 in
/-- slices.IndexFunc[[]int,int] -/
theorem indexFunc_ok (va:Value) (xs:List Int) (w:World) (hva:Ints w va xs) (hs:xs.length≤140737488355328) (F:FuncId) (caps:Array Value) (q:Int→Bool) (hF:∀ args w,(callFunc F args).run Tryz.prog w=.ok (.enter F args) w) (hq:∀ w1,Below w.heap.size w w1→∀ x,Calls Tryz.prog F (#[.int .i64 x]++caps) w1 fun en w'=>en=.returned (.bool (q x))∧Below w1.heap.size w1 w') :
    Calls Tryz.prog 160 [va,.func (.func F) #[] caps].toArray w fun en w'=>en=.returned (.int .i64 (idxI xs q))∧Below w.heap.size w w':=by
 refine fnStart (n:=19) (e:=[(0,va),(1,.func (.func F) #[] caps)]) Tryz.func160 rfl rfl rfl rfl Ends.both ?_;refine zE (zB (zC 1 rfl (zJ (zD [0,1] [_,_] rfl ?_))));refine zE (zE (zB (zC 1 rfl (zL (v:=i6_ ((xs.length:Int))) rfl rfl rfl (yR rfl zX rfl (ints_length _) (fun w1 hw1=>Row.own hva hw1)) ?_))));refine zC 1 rfl (zJ (zD [0,1,7,8] [_,_,_,_] rfl ?_));refine qT (xJ (σ:=Nat) (fun k=>k≤xs.length∧∀ i:Nat,i<k→q (xs.getD i 0)=false) (fun k=>[(0,va),(1,.func (.func F) #[] caps),(7,i6_ ((xs.length:Int))),(8,i6_ ((k:Int)))]) (fun k=>Own w.heap.size w []) (fun k=>xs.length - k) (0) ⟨by omega,fun i hi=>absurd hi (by omega)⟩ (Sub.sel [0,1,7,8] rfl) (fun _ h=>h) ?_)
 rintro k ⟨hk,hall⟩;refine zE (zB (zC 1 rfl (zJ (zD [0,1,7,8,9] [_,_,_,_,_] rfl ?_))));refine zE (qK (b:=decide (((k:Int))<((xs.length:Int)))) rfl (fun h9=>?_) (fun h9=>?_))
 ·
  replace h9:=zN h9;refine qU (zD [0,1,7,8] [_,_,_,_] rfl ?_);refine zE (qT (zE (zB (zC 2 rfl (zJ (zD [0,1,5,7,8] [_,_,_,_,_] rfl ?_))))));refine zE (zB (zC 3 rfl (zL (v:=.pointer (some (sAt va ((k:Int))))) rfl rfl rfl (yM rfl zX zK rfl rfl (by omega) (by rw [ints_length];omega) (fun w1 hw1=>Row.own hva hw1)) ?_)));refine zL (v:=i6_ (xs.getD (((k:Int)).toNat) 0)) rfl rfl rfl (qQ rfl zW rfl (fun w1 hw1=>Ints.cell (Row.own hva hw1) (by omega) (by omega))) ?_;refine zL (v:=bo_ (q (xs.getD (((k:Int)).toNat) 0))) rfl rfl rfl (OpQ.callFn rfl rfl hF rfl qC (fun w1 hw1=>hq w1 hw1.below (xs.getD (((k:Int)).toNat) 0))) ?_;refine zJ (zD [0,1,5,7,8,16] [_,_,_,_,_,_] rfl ?_);refine qK (b:=q (xs.getD (((k:Int)).toNat) 0)) rfl (fun h16=>?_) (fun h16=>?_)
  ·
   refine zE (zB (zC 2 rfl (zJ (zD [4] [_] rfl ?_))));refine qL (qS rfl rfl fun w' hw=>?_)
   exact ⟨ret_i (idxI_at (by omega) hall (by simpa using h16)).symm,hw.below⟩
  refine qU (zD [0,1,7,8] [_,_,_,_] rfl ?_);refine zB (zL rfl rfl rfl (yI rfl rfl rfl (by omega) (by omega)) ?_);refine zC 1 rfl (zJ (yQ (k+1) ⟨by omega,fun i hi=>(Nat.lt_succ_iff_lt_or_eq.1 hi).elim (hall i) (fun e=>by subst e;simpa using h16)⟩ (by omega) (Sub.sel [0,1,7,8] rfl) (fun _ h=>h)))
 replace h9:=zM h9;refine yW rfl ?_;refine zD [] [] rfl ?_;refine zE (zB (zC 1 rfl (zJ (zD [4] [_] rfl ?_))));refine qL (qS rfl rfl fun w' hw=>?_)
 exact ⟨ret_i (idxI_none (fun i hi=>hall i (by omega))).symm,hw.below⟩
set_option maxHeartbeats 400000 in
/-- slices.ContainsFunc[[]int,int] -/
theorem containsFunc_ok (va:Value) (xs:List Int) (w:World) (hva:Ints w va xs) (hs:xs.length≤140737488355328) (F:FuncId) (caps:Array Value) (q:Int→Bool) (hF:∀ args w,(callFunc F args).run Tryz.prog w=.ok (.enter F args) w) (hq:∀ w1,Below w.heap.size w w1→∀ x,Calls Tryz.prog F (#[.int .i64 x]++caps) w1 fun en w'=>en=.returned (.bool (q x))∧Below w1.heap.size w1 w') :
    Calls Tryz.prog 137 [va,.func (.func F) #[] caps].toArray w fun en w'=>en=.returned (.bool (xs.any q))∧Below w.heap.size w w':=by
 refine fnStart (n:=9) (e:=[(0,va),(1,.func (.func F) #[] caps)]) Tryz.func137 rfl rfl rfl rfl Ends.both ?_;refine zE (zB (zC 1 rfl (zJ (zD [0,1] [_,_] rfl ?_))));refine zE (zB (zC 2 rfl (zL (v:=i6_ (idxI xs q)) rfl rfl rfl (qH rfl Tryz.call160 rfl qC (fun w1 hw1=>indexFunc_ok va xs w1 (Row.own hva hw1) hs F caps q hF (fun w2 hb x=>hq w2 (hw1.below.trans (hb.mono hw1.base)) x))) ?_)));refine zC 2 rfl (zJ (zD [4] [_] rfl ?_));refine qL (qS rfl rfl fun w' hw=>?_)
 exact ⟨ret_b (idxI_any xs q),hw.below⟩
set_option maxHeartbeats 400000 in
/-- impl.stillSame -/
theorem stillSame_ok (a b:St) (xs ys:List Int) (va vb:Value) (x y:Int) (w:World) (ha:a.Fine) (hb:b.Fine) (hva:Ints w va xs) (hvb:Ints w vb ys) (hA:a.Els xs) (hB:b.Els ys) (hlen:xs.length=ys.length) (hsmall:xs.length≤1000000) (hx:a.El x) (hy:b.El y) :
    Calls Tryz.prog 43 [vS a,va,vS b,vb,i6_ x,i6_ y].toArray w fun en w'=>en=.returned (.bool (stillB a xs b ys x y))∧Below w.heap.size w w':=by
 refine fnStart (n:=75) (e:=[(0,vS a),(1,va),(2,vS b),(3,vb),(4,i6_ x),(5,i6_ y)]) Tryz.func43 rfl rfl rfl rfl Ends.both ?_
 have hT:=stillB_true (a:=a) (b:=b) (x:=x) (y:=y) hlen;refine zE (qF (yU (v:=vS a) rfl rfl rfl rfl rfl fun p6 hp6=>?_))
 show Ll _ _ (Own _ _ [_]) _ _ ((6,pt_ p6)::_) _ _ _;refine yU (v:=vS b) rfl rfl rfl rfl rfl fun p8 hp8=>?_
 show Ll _ _ (Own _ _ [_,_]) _ _ ((8,pt_ p8)::_) _ _ _;refine qJ 1 rfl (zG (zD [1,3,4,5,6,8] [_,_,_,_,_,_] rfl ?_));refine zE (zE (jU yH (fun _ h=>h.drawn) (by kernel_rfl) ?_));refine zL rfl rfl rfl (zV (cs:=#[i6_ a.n,str a.set,str a.rel]) 1 rfl zQ rfl rfl zO) ?_;refine zC 1 rfl (zL (v:=bo_ (a.inSet x)) rfl rfl rfl (qH rfl Tryz.call90 rfl qC (fun w1 hw1=>inSet_ok a x w1 ha (by first | assumption | exact St.Els.at (by assumption) (by omega) (by omega)))) ?_);refine zL rfl rfl rfl (zV (cs:=#[i6_ b.n,str b.set,str b.rel]) 0 rfl zQ rfl rfl zO) ?_;refine zC 1 rfl (zL (v:=bo_ (b.inSet y)) rfl rfl rfl (qH rfl Tryz.call90 rfl qC (fun w1 hw1=>inSet_ok b y w1 hb (by first | assumption | exact St.Els.at (by assumption) (by omega) (by omega)))) ?_);refine zL rfl rfl rfl (uN rfl xI rfl rfl) ?_;refine zC 1 rfl (xD fun b23 hg23=>?_)
 cases b23
 ·
  refine zL rfl rfl rfl (zV (cs:=#[i6_ a.n,str a.set,str a.rel]) 1 rfl zQ rfl rfl zO) ?_;refine zC 2 rfl (zL (v:=bo_ (a.inRel x x)) rfl rfl rfl (qH rfl jV rfl qC (fun w1 hw1=>inRel_ok a x x w1 ha (by first | assumption | exact St.Els.at (by assumption) (by omega) (by omega)) (by first | assumption | exact St.Els.at (by assumption) (by omega) (by omega)))) ?_);refine zL rfl rfl rfl (zV (cs:=#[i6_ b.n,str b.set,str b.rel]) 0 rfl zQ rfl rfl zO) ?_;refine zC 2 rfl (zL (v:=bo_ (b.inRel y y)) rfl rfl rfl (qH rfl jV rfl qC (fun w1 hw1=>inRel_ok b y y w1 hb (by first | assumption | exact St.Els.at (by assumption) (by omega) (by omega)) (by first | assumption | exact St.Els.at (by assumption) (by omega) (by omega)))) ?_);refine zL rfl rfl rfl (uN rfl xI rfl rfl) ?_;refine zC 1 rfl (zJ (zD [1,3,4,5,6,8,33] [_,_,_,_,_,_,_] rfl ?_));refine qK (b:=(a.inRel x x) != (b.inRel y y)) rfl (fun h33=>?_) (fun h33=>?_)
  ·
   refine zE (zB (zC 1 rfl (zJ (zD [12] [_] rfl ?_))));refine qL (qS rfl rfl fun w' hw=>?_)
   have hf:stillB a xs b ys x y=false:=by
    cases hs:stillB a xs b ys x y with
    | false=>rfl
    | true=>obtain ⟨e1,e2,e3⟩:=hT.1 hs;simp_all
   exact ⟨by rw [hf],hw.below⟩
  refine qU (zD [1,3,4,5,6,8] [_,_,_,_,_,_] rfl ?_);refine zE (zE (zB (zC 1 rfl (zL (v:=i6_ ((xs.length:Int))) rfl rfl rfl (yR rfl zX rfl (ints_length _) (fun w1 hw1=>Row.own hva hw1)) ?_))));refine zC 1 rfl (zJ (zD [3,4,5,6,8,34,35,36] [_,_,_,_,_,_,_,_] rfl ?_));refine qT (xJ (σ:=Nat) (fun k=>k≤xs.length∧∀ i:Nat,i<k→pairOk a b x y (xs.getD i 0) (ys.getD i 0)=true) (fun k=>[(3,vb),(4,i6_ x),(5,i6_ y),(6,pt_ p6),(8,pt_ p8),(34,va),(35,i6_ ((xs.length:Int))),(36,i6_ ((k:Int)))]) (fun k=>Own w.heap.size w [bk_ p8 #[i6_ b.n,str b.set,str b.rel] 24,bk_ p6 #[i6_ a.n,str a.set,str a.rel] 24]) (fun k=>xs.length - k) (0) ⟨by omega,fun i hi=>absurd hi (by omega)⟩ (Sub.sel [3,4,5,6,8,34,35,36] rfl) (fun _ h=>h) ?_)
  rintro k ⟨hk,hall⟩;refine zE (zB (zC 1 rfl (zJ (zD [3,4,5,6,8,34,35,36,37] [_,_,_,_,_,_,_,_,_] rfl ?_))));refine zE (qK (b:=decide (((k:Int))<((xs.length:Int)))) rfl (fun h37=>?_) (fun h37=>?_))
  ·
   replace h37:=zN h37;refine qU (zD [3,4,5,6,8,34,35,36] [_,_,_,_,_,_,_,_] rfl ?_);refine zE (qT (zE (zB (zC 1 rfl (zL (v:=.pointer (some (sAt va ((k:Int))))) rfl rfl rfl (yM rfl zX zK rfl rfl (by omega) (by rw [ints_length];omega) (fun w1 hw1=>Row.own hva hw1)) ?_)))));refine zL (v:=i6_ (xs.getD (((k:Int)).toNat) 0)) rfl rfl rfl (qQ rfl zW rfl (fun w1 hw1=>Ints.cell (Row.own hva hw1) (by omega) (by omega))) ?_;refine zC 2 rfl (zJ (zD [3,4,5,6,8,13,14,34,35,36] [_,_,_,_,_,_,_,_,_,_] rfl ?_));refine zE (zB (zC 2 rfl (zL (v:=.pointer (some (sAt vb ((k:Int))))) rfl rfl rfl (yM rfl zX zK rfl rfl (by omega) (by rw [ints_length];omega) (fun w1 hw1=>Row.own hvb hw1)) ?_)));refine zL (v:=i6_ (ys.getD (((k:Int)).toNat) 0)) rfl rfl rfl (qQ rfl zW rfl (fun w1 hw1=>Ints.cell (Row.own hvb hw1) (by omega) (by omega))) ?_;refine zC 1 rfl (zJ (zD [3,4,5,6,8,14,15,34,35,36] [_,_,_,_,_,_,_,_,_,_] rfl ?_));refine zE (jU yH (fun _ h=>h.drawn) (by kernel_rfl) ?_);refine zC 6 rfl (zL rfl rfl rfl (uN rfl xI rfl rfl) ?_);refine zC 1 rfl (xD fun b52 hg52=>?_)
   cases b52
   ·
    refine zL rfl rfl rfl (zV (cs:=#[i6_ a.n,str a.set,str a.rel]) 1 rfl zQ rfl rfl zO) ?_;refine zC 2 rfl (zL (v:=bo_ (a.inRel (xs.getD (((k:Int)).toNat) 0) x)) rfl rfl rfl (qH rfl jV rfl qC (fun w1 hw1=>inRel_ok a (xs.getD (((k:Int)).toNat) 0) x w1 ha (by first | assumption | exact St.Els.at (by assumption) (by omega) (by omega)) (by first | assumption | exact St.Els.at (by assumption) (by omega) (by omega)))) ?_);refine zL rfl rfl rfl (zV (cs:=#[i6_ b.n,str b.set,str b.rel]) 0 rfl zQ rfl rfl zO) ?_;refine zC 2 rfl (zL (v:=bo_ (b.inRel (ys.getD (((k:Int)).toNat) 0) y)) rfl rfl rfl (qH rfl jV rfl qC (fun w1 hw1=>inRel_ok b (ys.getD (((k:Int)).toNat) 0) y w1 hb (by first | assumption | exact St.Els.at (by assumption) (by omega) (by omega)) (by first | assumption | exact St.Els.at (by assumption) (by omega) (by omega)))) ?_);refine zL rfl rfl rfl (uN rfl xI rfl rfl) ?_;refine zC 2 rfl (xD fun b63 hg63=>?_)
    cases b63
    ·
     refine zL rfl rfl rfl (zV (cs:=#[i6_ a.n,str a.set,str a.rel]) 1 rfl zQ rfl rfl zO) ?_;refine zC 2 rfl (zL (v:=bo_ (a.inRel x (xs.getD (((k:Int)).toNat) 0))) rfl rfl rfl (qH rfl jV rfl qC (fun w1 hw1=>inRel_ok a x (xs.getD (((k:Int)).toNat) 0) w1 ha (by first | assumption | exact St.Els.at (by assumption) (by omega) (by omega)) (by first | assumption | exact St.Els.at (by assumption) (by omega) (by omega)))) ?_);refine zL rfl rfl rfl (zV (cs:=#[i6_ b.n,str b.set,str b.rel]) 0 rfl zQ rfl rfl zO) ?_;refine zC 2 rfl (zL (v:=bo_ (b.inRel y (ys.getD (((k:Int)).toNat) 0))) rfl rfl rfl (qH rfl jV rfl qC (fun w1 hw1=>inRel_ok b y (ys.getD (((k:Int)).toNat) 0) w1 hb (by first | assumption | exact St.Els.at (by assumption) (by omega) (by omega)) (by first | assumption | exact St.Els.at (by assumption) (by omega) (by omega)))) ?_);refine zL rfl rfl rfl (uN rfl xI rfl rfl) ?_;refine zC 1 rfl (zJ (zD [3,4,5,6,8,34,35,36,73] [_,_,_,_,_,_,_,_,_] rfl ?_));refine qK (b:=(a.inRel x (xs.getD (((k:Int)).toNat) 0)) != (b.inRel y (ys.getD (((k:Int)).toNat) 0))) rfl (fun h73=>?_) (fun h73=>?_)
     ·
      refine zE (zB (zC 1 rfl (zJ (zD [12] [_] rfl ?_))));refine qL (qS rfl rfl fun w' hw=>?_)
      have hf:stillB a xs b ys x y=false:=by
       cases hs:stillB a xs b ys x y with
       | false=>rfl
       | true =>
        obtain ⟨e1,e2,e3⟩:=hT.1 hs
        obtain ⟨e4,e5,e6⟩:=pairOk_true.1 (e3 k (by omega))
        simp only [Int.toNat_natCast] at *
        simp_all
      exact ⟨by rw [hf],hw.below⟩
     refine qU (zD [3,4,5,6,8,34,35,36] [_,_,_,_,_,_,_,_] rfl ?_);refine zB (zL rfl rfl rfl (yI rfl rfl rfl (by omega) (by omega)) ?_);refine zC 1 rfl (zJ (yQ (k+1) ⟨by omega,fun i hi=>(Nat.lt_succ_iff_lt_or_eq.1 hi).elim (hall i) (fun e=>by subst e;exact pairOk_true.2 ⟨by simpa using hg52,by simpa using hg63,by simpa using h73⟩)⟩ (by omega) (Sub.sel [3,4,5,6,8,34,35,36] rfl) (fun _ h=>h)))
    refine zS rfl rfl rfl (zS rfl rfl rfl (zS rfl rfl rfl (zS rfl rfl rfl ?_)));refine zS rfl rfl rfl (zS rfl rfl rfl (zS rfl rfl rfl (zS rfl rfl rfl (zS rfl rfl rfl (zC 1 rfl (zJ (zD [3,4,5,6,8,34,35,36,73] [_,_,_,_,_,_,_,_,_] rfl ?_)))))));refine xH rfl ?_;refine zE (zB (zC 1 rfl (zJ (zD [12] [_] rfl ?_))));refine qL (qS rfl rfl fun w' hw=>?_)
    have hf:stillB a xs b ys x y=false:=by
     cases hs:stillB a xs b ys x y with
     | false=>rfl
     | true =>
      obtain ⟨e1,e2,e3⟩:=hT.1 hs
      obtain ⟨e4,e5,e6⟩:=pairOk_true.1 (e3 k (by omega))
      simp only [Int.toNat_natCast] at *
      simp_all
    exact ⟨by rw [hf],hw.below⟩
   refine zS rfl rfl rfl (zS rfl rfl rfl (zS rfl rfl rfl (zS rfl rfl rfl (zS rfl rfl rfl (zS rfl rfl rfl ?_)))));refine zS rfl rfl rfl (zS rfl rfl rfl (zS rfl rfl rfl (zC 2 rfl (zS rfl rfl rfl (zS rfl rfl rfl (zS rfl rfl rfl (zS rfl rfl rfl ?_)))))));refine zS rfl rfl rfl (zS rfl rfl rfl (zS rfl rfl rfl (zS rfl rfl rfl (zS rfl rfl rfl (zC 1 rfl (zJ (zD [3,4,5,6,8,34,35,36,73] [_,_,_,_,_,_,_,_,_] rfl ?_)))))));refine xH rfl ?_;refine zE (zB (zC 1 rfl (zJ (zD [12] [_] rfl ?_))));refine qL (qS rfl rfl fun w' hw=>?_)
   have hf:stillB a xs b ys x y=false:=by
    cases hs:stillB a xs b ys x y with
    | false=>rfl
    | true =>
     obtain ⟨e1,e2,e3⟩:=hT.1 hs
     obtain ⟨e4,e5,e6⟩:=pairOk_true.1 (e3 k (by omega))
     simp only [Int.toNat_natCast] at *
     simp_all
   exact ⟨by rw [hf],hw.below⟩
  replace h37:=zM h37;refine yW rfl ?_;refine zD [] [] rfl ?_;refine zE (zB (zC 1 rfl (zJ (zD [12] [_] rfl ?_))));refine qL (qS rfl rfl fun w' hw=>?_)
  exact ⟨by rw [hT.2 ⟨bne_false ‹_›,bne_false ‹_›,fun i hi=>hall i (by omega)⟩],hw.below⟩
 refine zS rfl rfl rfl (zS rfl rfl rfl (zS rfl rfl rfl (zS rfl rfl rfl ?_)));refine zS rfl rfl rfl (zS rfl rfl rfl (zS rfl rfl rfl (zS rfl rfl rfl (zS rfl rfl rfl (zC 1 rfl (zJ (zD [1,3,4,5,6,8,33] [_,_,_,_,_,_,_] rfl ?_)))))));refine xH rfl ?_;refine zE (zB (zC 1 rfl (zJ (zD [12] [_] rfl ?_))));refine qL (qS rfl rfl fun w' hw=>?_)
 have hf:stillB a xs b ys x y=false:=by
  cases hs:stillB a xs b ys x y with
  | false=>rfl
  | true=>obtain ⟨e1,e2,e3⟩:=hT.1 hs;simp_all
 exact ⟨by rw [hf],hw.below⟩
set_option maxHeartbeats 400000 in
/-- impl.sameWay -/
theorem sameWay_ok (a b:St) (xs ys:List Int) (va vb:Value) (w:World) (ha:a.Fine) (hb:b.Fine) (hva:Ints w va xs) (hvb:Ints w vb ys) (hA:a.Els xs) (hB:b.Els ys) (hlen:xs.length=ys.length) (hsmall:xs.length≤1000000) :
    Calls Tryz.prog 71 [vS a,va,vS b,vb].toArray w fun en w'=>en=.returned (.bool (sameB a xs b ys))∧Below w.heap.size w w':=by
 refine fnStart (n:=34) (e:=[(0,vS a),(1,va),(2,vS b),(3,vb)]) Tryz.func71 rfl rfl rfl rfl Ends.both ?_;refine zE (qF (yU (v:=vS a) rfl rfl rfl rfl rfl fun p4 hp4=>?_))
 show Ll _ _ (Own _ _ [_]) _ _ ((4,pt_ p4)::_) _ _ _;refine yU (v:=vS b) rfl rfl rfl rfl rfl fun p6 hp6=>?_
 show Ll _ _ (Own _ _ [_,_]) _ _ ((6,pt_ p6)::_) _ _ _;refine qJ 1 rfl (zG (zD [1,3,4,6] [_,_,_,_] rfl ?_));refine zE (zE (zB (zC 1 rfl (zL (v:=i6_ ((xs.length:Int))) rfl rfl rfl (yR rfl zX rfl (ints_length _) (fun w1 hw1=>Row.own hva hw1)) ?_))));refine zC 1 rfl (zJ (zD [1,3,4,6,11,12] [_,_,_,_,_,_] rfl ?_));refine qT (xJ (σ:=Nat) (fun k=>k≤xs.length∧∀ i:Nat,i<k→stillAt a xs b ys i=true) (fun k=>[(1,va),(3,vb),(4,pt_ p4),(6,pt_ p6),(11,i6_ ((xs.length:Int))),(12,i6_ ((k:Int)))]) (fun k=>Own w.heap.size w [bk_ p6 #[i6_ b.n,str b.set,str b.rel] 24,bk_ p4 #[i6_ a.n,str a.set,str a.rel] 24]) (fun k=>xs.length - k) (0) ⟨by omega,fun i hi=>absurd hi (by omega)⟩ (Sub.sel [1,3,4,6,11,12] rfl) (fun _ h=>h) ?_)
 rintro k ⟨hk,hall⟩;refine zE (zB (zC 1 rfl (zJ (zD [1,3,4,6,11,12,13] [_,_,_,_,_,_,_] rfl ?_))));refine zE (qK (b:=decide (((k:Int))<((xs.length:Int)))) rfl (fun h13=>?_) (fun h13=>?_))
 ·
  replace h13:=zN h13;refine qU (zD [1,3,4,6,11,12] [_,_,_,_,_,_] rfl ?_);refine zE (qT (zE (zB (zC 2 rfl (zJ (zD [1,3,4,6,9,11,12] [_,_,_,_,_,_,_] rfl ?_))))));refine zE (jU yH (fun _ h=>h.drawn) (by kernel_rfl) ?_);refine zL rfl rfl rfl (zV (cs:=#[i6_ a.n,str a.set,str a.rel]) 1 rfl zQ rfl rfl zO) ?_;refine zC 2 rfl (zL (v:=sTake va k) rfl rfl rfl (uD (i:=(k:Int)) rfl zX zK rfl rfl (by omega) (by rw [ints_length];omega) (fun w1 hw1=>Row.own hva hw1)) ?_);refine zL rfl rfl rfl (zV (cs:=#[i6_ b.n,str b.set,str b.rel]) 0 rfl zQ rfl rfl zO) ?_;refine zC 2 rfl (zL (v:=sTake vb k) rfl rfl rfl (uD (i:=(k:Int)) rfl zX zK rfl rfl (by omega) (by rw [ints_length];omega) (fun w1 hw1=>Row.own hvb hw1)) ?_);refine zC 2 rfl (zL (v:=.pointer (some (sAt va ((k:Int))))) rfl rfl rfl (yM rfl zX zK rfl rfl (by omega) (by rw [ints_length];omega) (fun w1 hw1=>Row.own hva hw1)) ?_);refine zL (v:=i6_ (xs.getD (((k:Int)).toNat) 0)) rfl rfl rfl (qQ rfl zW rfl (fun w1 hw1=>Ints.cell (Row.own hva hw1) (by omega) (by omega))) ?_;refine zC 2 rfl (zL (v:=.pointer (some (sAt vb ((k:Int))))) rfl rfl rfl (yM rfl zX zK rfl rfl (by omega) (by rw [ints_length];omega) (fun w1 hw1=>Row.own hvb hw1)) ?_);refine zL (v:=i6_ (ys.getD (((k:Int)).toNat) 0)) rfl rfl rfl (qQ rfl zW rfl (fun w1 hw1=>Ints.cell (Row.own hvb hw1) (by omega) (by omega))) ?_;refine zL (v:=bo_ (stillB a (xs.take k) b (ys.take k) (xs.getD (((k:Int)).toNat) 0) (ys.getD (((k:Int)).toNat) 0))) rfl rfl rfl (qH rfl Tryz.call43 rfl qC (fun w1 hw1=>stillSame_ok a b (xs.take k) (ys.take k) (sTake va k) (sTake vb k) (xs.getD (((k:Int)).toNat) 0) (ys.getD (((k:Int)).toNat) 0) w1 (ha) (hb) ((Ints.take (Row.own hva hw1) k (by omega))) ((Ints.take (Row.own hvb hw1) k (by omega))) ((hA.take _)) ((hB.take _)) ((by first | (simp;done) | (simp;omega) | omega)) ((by first | (simp;done) | (simp;omega) | omega)) ((by first | assumption | exact St.Els.at (by assumption) (by omega) (by omega))) ((by first | assumption | exact St.Els.at (by assumption) (by omega) (by omega))))) ?_;refine zC 1 rfl (zJ (zD [1,3,4,6,11,12,32] [_,_,_,_,_,_,_] rfl ?_));refine qK (b:=!(stillB a (xs.take k) b (ys.take k) (xs.getD (((k:Int)).toNat) 0) (ys.getD (((k:Int)).toNat) 0))) rfl (fun h32=>?_) (fun h32=>?_)
  ·
   replace h32:=not_true h32;refine zE (zB (zC 1 rfl (zJ (zD [8] [_] rfl ?_))));refine qL (qS rfl rfl fun w' hw=>?_)
   exact ⟨ret_b (sameB_false (k:=k) (by omega) (by simpa [stillAt] using h32)).symm,hw.below⟩
  replace h32:=not_false h32;refine qU (zD [1,3,4,6,11,12] [_,_,_,_,_,_] rfl ?_);refine zB (zL rfl rfl rfl (yI rfl rfl rfl (by omega) (by omega)) ?_);refine zC 1 rfl (zJ (yQ (k+1) ⟨by omega,fun i hi=>(Nat.lt_succ_iff_lt_or_eq.1 hi).elim (hall i) (fun e=>by subst e;simpa [stillAt] using h32)⟩ (by omega) (Sub.sel [1,3,4,6,11,12] rfl) (fun _ h=>h)))
 replace h13:=zM h13;refine yW rfl ?_;refine zD [] [] rfl ?_;refine zE (zB (zC 1 rfl (zJ (zD [8] [_] rfl ?_))));refine qL (qS rfl rfl fun w' hw=>?_)
 exact ⟨ret_b (sameB_true (k:=k) (by omega) hall).symm,hw.below⟩
end Go.Proofs.YtefiibghfgfdnaaGreatDoor
namespace Go.Proofs.YtefiibghfgfdnaaGreatDoor
open Go.RowKit Go.Wk
set_option linter.unusedSimpArgs false
set_option maxHeartbeats 400000 in
/-- spec.l1Bit|d -/
theorem bitD_ok (b:Bool) (w:World) :
    Calls Tryz.prog 152 [bo_ b].toArray w fun en w'=>en=.returned (str (if b then [49] else [48]))∧Below w.heap.size w w':=by
 refine fnStart (n:=4) (e:=[(0,bo_ b)]) Tryz.func152 rfl rfl rfl rfl Ends.both ?_;refine zE (zB (zL (v:=str ([])) rfl rfl rfl (yP rfl rfl) ?_));refine zJ (zD [0] [_] rfl ?_);refine zE (zE (zB (zC 1 rfl (zJ (zD [3] [_] rfl ?_)))));refine qK (b:=b) rfl (fun h3=>?_) (fun h3=>?_)
 ·
  refine zE (zB (zL (v:=str ([49])) rfl rfl rfl (yP rfl rfl) ?_));refine zJ (zD [2] [_] rfl ?_);refine qL (qS rfl rfl fun w' hw=>?_)
  exact ⟨by rw [‹b=_›];rfl,hw.below⟩
 refine qU (zD [] [] rfl ?_);refine zE (zB (zL (v:=str ([48])) rfl rfl rfl (yP rfl rfl) ?_));refine zJ (zD [2] [_] rfl ?_);refine qL (qS rfl rfl fun w' hw=>?_)
 exact ⟨by rw [‹b=_›];rfl,hw.below⟩
set_option maxHeartbeats 400000 in
/-- (*spec.l15Rd).pick -/
theorem pick_ok (B:Nat) (w0:World) (hs:List (Nat×Obj)) (rp p:Nat) (bv:Value) (L:List Int) (n:Int) (w:World) (hb:∀ w,Own B w0 hs w→Row w bv (u8s L)) (hL8:Bytes8 L) (hL:L.length≤2000) (hp:p≤1000000) (hw:Own B w0 ((rp,.cells #[bv,.int .i64 (p:Int)] 88 (0,0))::hs) w) :
    Calls Tryz.prog 35 [pt_ rp,i6_ n].toArray w fun en w'=>∃ k:Int,∃ p':Nat,en=.returned (i6_ k)∧(0≤k∧(1≤n→k<n)∧p'=p+1)∧Own B w0 (((rp,.cells #[bv,.int .i64 (p':Int)] 88 (0,0))::hs)) w':=by
 refine fnStartC (Own B w0 ((rp,.cells #[bv,.int .i64 (p:Int)] 88 (0,0))::hs)) (n:=99) (e:=[(0,pt_ rp),(1,i6_ n)]) Tryz.func35 rfl rfl rfl rfl Ends.both hw ?_;refine zE (zB (zC 1 rfl (zJ (zD [0,1] [_,_] rfl ?_))));refine zE (qF (qJ 2 rfl (zU (v:=pt_ rp) rfl rfl rfl (zR rfl rfl) ?_)));refine zU rfl rfl rfl (zF rfl jC rfl zK rfl rfl) ?_;refine zU rfl rfl rfl (zP 0 rfl zW rfl rfl rfl) ?_;refine zU rfl rfl rfl (yI rfl rfl rfl (by omega) (by omega)) ?_;refine zU (v:=pt_ rp) rfl rfl rfl (zR rfl rfl) ?_;refine zU rfl rfl rfl (zF rfl jC rfl zK rfl rfl) ?_;refine qM (v:=i6_ (((p:Int))+(1:Int))) (hs':=(bk_ rp #[bv,i6_ (((p:Int))+(1:Int))] 88::hs)) 0 rfl rfl rfl rfl rfl rfl zK rfl (by simp) rfl ?_;refine zG (zD [0,1] [_,_] rfl ?_);refine zE (zE (zB (zC 3 rfl (xD fun b17 hg17=>?_))))
 cases b17
 ·
  replace hg17:=zM hg17;refine zC 1 rfl (zL (v:=pt_ rp) rfl rfl rfl (zR rfl rfl) ?_);refine zL rfl rfl rfl (zF rfl jC rfl yN rfl rfl) ?_;refine zL rfl rfl rfl (zP 0 rfl xK rfl rfl rfl) ?_;refine zL (v:=i6_ ((L.length:Int))) rfl rfl rfl (yR rfl yT rfl (u8s_length _) (fun w1 hw1=>hb _ (qI (f:=[_]) hw1))) ?_;refine zC 2 rfl (zJ (zD [0,1,24] [_,_,_] rfl ?_));refine qK (b:=decide (((L.length:Int))=(0:Int))) rfl (fun h24=>?_) (fun h24=>?_)
  ·
   replace h24:=zN h24;refine zE (zB (zC 1 rfl (zJ (zD [4] [_] rfl ?_))));refine qL (qS rfl rfl fun w' hw=>?_)
   exact ⟨0,p+1,rfl,⟨Int.le_refl 0,fun _=>by omega,rfl⟩,hw⟩
  replace h24:=zM h24
  have hlp:0<L.length:=by omega
  refine qU (zD [0,1] [_,_] rfl ?_);refine zE (zB (zC 1 rfl (zL (v:=pt_ rp) rfl rfl rfl (zR rfl rfl) ?_)));refine zL rfl rfl rfl (zF rfl jC rfl zK rfl rfl) ?_;refine zL rfl rfl rfl (zP 0 rfl zW rfl rfl rfl) ?_;refine zL (v:=i6_ ((p:Int))) rfl rfl rfl (yF (by congr 1;omega) (vD rfl rfl rfl (by omega) (by omega))) ?_;refine zC 1 rfl (zJ (zD [0,1,5] [_,_,_] rfl ?_));refine zE (zE (zB (zC 2 rfl (zL (v:=pt_ rp) rfl rfl rfl (zR rfl rfl) ?_))));refine zL rfl rfl rfl (zF rfl jC rfl yN rfl rfl) ?_;refine zL rfl rfl rfl (zP 0 rfl xK rfl rfl rfl) ?_;refine zL (v:=i6_ ((L.length:Int))) rfl rfl rfl (yR rfl yT rfl (u8s_length _) (fun w1 hw1=>hb _ (qI (f:=[_]) hw1))) ?_;refine zC 1 rfl (zJ (zD [0,1,5,36] [_,_,_,_] rfl ?_));refine qK (b:=decide (((p:Int))<((L.length:Int)))) rfl (fun h36=>?_) (fun h36=>?_)
  ·
   replace h36:=zN h36
   have hb0:=hL8.at (i:=((p:Int)).toNat) (by omega);refine zE (zB (zC 1 rfl (zL (v:=pt_ rp) rfl rfl rfl (zR rfl rfl) ?_)));refine zL rfl rfl rfl (zF rfl jC rfl yN rfl rfl) ?_;refine zL rfl rfl rfl (zP 0 rfl xK rfl rfl rfl) ?_;refine zC 1 rfl (zL (v:=.pointer (some (sAt bv ((p:Int))))) rfl rfl rfl (yM rfl yT xN rfl rfl (by omega) (by rw [u8s_length];omega) (fun w1 hw1=>hb _ (qI (f:=[_]) hw1))) ?_);refine zL (v:=.int .u8 (L.getD (((p:Int)).toNat) 0)) rfl rfl rfl (qQ rfl xS rfl (fun w1 hw1=>u8s_cell (hb _ (qI (f:=[_]) hw1)) (by omega) (by omega))) ?_;refine zL (v:=i6_ (L.getD (((p:Int)).toNat) 0)) rfl rfl rfl (uE .i64 rfl jH xX rfl (IntWalk.i64_in _ (by omega))) ?_;refine zC 1 rfl (zL (v:=i6_ ((L.getD (((p:Int)).toNat) 0) % n)) rfl rfl rfl (OpQ.rem rfl rfl rfl (by omega) (by omega)) ?_);refine zC 1 rfl (zJ (zD [4] [_] rfl ?_));refine qL (qS rfl rfl fun w' hw=>?_)
   exact ⟨_,p+1,rfl,⟨Int.emod_nonneg _ (by omega),fun _=>Int.emod_lt_of_pos _ (by omega),rfl⟩,hw⟩
  replace h36:=zM h36
  have hm1:=Int.emod_nonneg (p:Int) (b:=(L.length:Int)) (by omega)
  have hm2:=Int.emod_lt_of_pos (p:Int) (b:=(L.length:Int)) (by omega)
  have hm3:=Int.emod_nonneg ((p:Int)*(7:Int)+(3:Int)) (b:=(L.length:Int)) (by omega)
  have hm4:=Int.emod_lt_of_pos ((p:Int)*(7:Int)+(3:Int)) (b:=(L.length:Int)) (by omega)
  have hd1:=Int.ediv_nonneg (a:=(p:Int)) (b:=(L.length:Int)) (by omega) (by omega)
  have hd2:=Int.ediv_le_self (L.length:Int) (show (0:Int)≤(p:Int) by omega)
  have hb1:=hL8.at (i:=((p:Int) % (L.length:Int)).toNat) (by omega)
  have hb2:=hL8.at (i:=(((p:Int)*(7:Int)+(3:Int)) % (L.length:Int)).toNat) (by omega);refine qU (zD [0,1,5] [_,_,_] rfl ?_);refine zE (jU yH (fun _ h=>h.drawn) (by kernel_rfl) ?_);refine zC 1 rfl (zL (v:=pt_ rp) rfl rfl rfl (zR rfl rfl) ?_);refine zL rfl rfl rfl (zF rfl jC rfl yN rfl rfl) ?_;refine zL rfl rfl rfl (zP 0 rfl xK rfl rfl rfl) ?_;refine zC 2 rfl (zL (v:=pt_ rp) rfl rfl rfl (zR rfl rfl) ?_);refine zL rfl rfl rfl (zF rfl jC rfl yN rfl rfl) ?_;refine zL rfl rfl rfl (zP 0 rfl xK rfl rfl rfl) ?_;refine zL (v:=i6_ ((L.length:Int))) rfl rfl rfl (yR rfl yT rfl (u8s_length _) (fun w1 hw1=>hb _ (qI (f:=[_]) hw1))) ?_;refine zL (v:=i6_ (((p:Int)) % ((L.length:Int)))) rfl rfl rfl (OpQ.rem rfl rfl rfl (by omega) (by omega)) ?_;refine zL (v:=.pointer (some (sAt bv (((p:Int)) % ((L.length:Int)))))) rfl rfl rfl (yM rfl yT xN rfl rfl (by omega) (by rw [u8s_length];omega) (fun w1 hw1=>hb _ (qI (f:=[_]) hw1))) ?_;refine zL (v:=.int .u8 (L.getD ((((p:Int)) % ((L.length:Int))).toNat) 0)) rfl rfl rfl (qQ rfl xS rfl (fun w1 hw1=>u8s_cell (hb _ (qI (f:=[_]) hw1)) (by omega) (by omega))) ?_;refine zL (v:=i6_ (L.getD ((((p:Int)) % ((L.length:Int))).toNat) 0)) rfl rfl rfl (uE .i64 rfl jH xX rfl (IntWalk.i64_in _ (by omega))) ?_;refine zL rfl rfl rfl (OpQ.mul rfl rfl rfl (by omega) (by omega)) ?_;refine zC 1 rfl (zL (v:=pt_ rp) rfl rfl rfl (zR rfl rfl) ?_);refine zL rfl rfl rfl (zF rfl jC rfl yN rfl rfl) ?_;refine zL rfl rfl rfl (zP 0 rfl xK rfl rfl rfl) ?_;refine zC 1 rfl (zL rfl rfl rfl (OpQ.mul rfl rfl rfl (by omega) (by omega)) ?_);refine zL rfl rfl rfl (yI rfl rfl rfl (by omega) (by omega)) ?_;refine zC 1 rfl (zL (v:=pt_ rp) rfl rfl rfl (zR rfl rfl) ?_);refine zL rfl rfl rfl (zF rfl jC rfl yN rfl rfl) ?_;refine zL rfl rfl rfl (zP 0 rfl xK rfl rfl rfl) ?_;refine zL (v:=i6_ ((L.length:Int))) rfl rfl rfl (yR rfl yT rfl (u8s_length _) (fun w1 hw1=>hb _ (qI (f:=[_]) hw1))) ?_;refine zL (v:=i6_ (((((p:Int))*(7:Int))+(3:Int)) % ((L.length:Int)))) rfl rfl rfl (OpQ.rem rfl rfl rfl (by omega) (by omega)) ?_;refine zL (v:=.pointer (some (sAt bv (((((p:Int))*(7:Int))+(3:Int)) % ((L.length:Int)))))) rfl rfl rfl (yM rfl yT xN rfl rfl (by omega) (by rw [u8s_length];omega) (fun w1 hw1=>hb _ (qI (f:=[_]) hw1))) ?_;refine zL (v:=.int .u8 (L.getD ((((((p:Int))*(7:Int))+(3:Int)) % ((L.length:Int))).toNat) 0)) rfl rfl rfl (qQ rfl xS rfl (fun w1 hw1=>u8s_cell (hb _ (qI (f:=[_]) hw1)) (by omega) (by omega))) ?_
  refine zL (v:=i6_ (L.getD ((((((p:Int))*(7:Int))+(3:Int)) % ((L.length:Int))).toNat) 0)) rfl rfl rfl (uE .i64 rfl jH xX rfl (IntWalk.i64_in _ (by omega))) ?_;refine zL rfl rfl rfl (OpQ.mul rfl rfl rfl (by omega) (by omega)) ?_;refine zL rfl rfl rfl (yI rfl rfl rfl (by omega) (by omega)) ?_;refine zC 1 rfl (zL rfl rfl rfl (OpQ.mul rfl rfl rfl (by omega) (by omega)) ?_);refine zL rfl rfl rfl (yI rfl rfl rfl (by omega) (by omega)) ?_;refine zC 2 rfl (zL (v:=pt_ rp) rfl rfl rfl (zR rfl rfl) ?_);refine zL rfl rfl rfl (zF rfl jC rfl yN rfl rfl) ?_;refine zL rfl rfl rfl (zP 0 rfl xK rfl rfl rfl) ?_;refine zL (v:=i6_ ((L.length:Int))) rfl rfl rfl (yR rfl yT rfl (u8s_length _) (fun w1 hw1=>hb _ (qI (f:=[_]) hw1))) ?_;refine zL (v:=i6_ (((p:Int)) / ((L.length:Int)))) rfl rfl rfl (OpQ.quo rfl rfl rfl (by omega) (by omega) (by omega)) ?_;refine zL rfl rfl rfl (OpQ.mul rfl rfl rfl (by omega) (by omega)) ?_;refine zL rfl rfl rfl (yI rfl rfl rfl (by omega) (by omega)) ?_;refine zC 1 rfl (zJ (zD [1,6] [_,_] rfl ?_));refine zE (zB (zC 2 rfl (zL (v:=i6_ ((((((L.getD ((((p:Int)) % ((L.length:Int))).toNat) 0)*(131:Int))+((L.getD ((((((p:Int))*(7:Int))+(3:Int)) % ((L.length:Int))).toNat) 0)*(1117:Int)))+(((p:Int))*(29:Int)))+((((p:Int)) / ((L.length:Int)))*(53:Int))) / (64:Int))) rfl rfl rfl (OpQ.quo rfl rfl rfl (by omega) (by omega) (by decide)) ?_)));refine zL (v:=i6_ (bits .xor .i64 (((((L.getD ((((p:Int)) % ((L.length:Int))).toNat) 0)*(131:Int))+((L.getD ((((((p:Int))*(7:Int))+(3:Int)) % ((L.length:Int))).toNat) 0)*(1117:Int)))+(((p:Int))*(29:Int)))+((((p:Int)) / ((L.length:Int)))*(53:Int))) ((((((L.getD ((((p:Int)) % ((L.length:Int))).toNat) 0)*(131:Int))+((L.getD ((((((p:Int))*(7:Int))+(3:Int)) % ((L.length:Int))).toNat) 0)*(1117:Int)))+(((p:Int))*(29:Int)))+((((p:Int)) / ((L.length:Int)))*(53:Int))) / (64:Int)))) rfl rfl rfl (OpQ.xor rfl rfl rfl) ?_;refine zC 1 rfl (zJ (zD [1,6] [_,_] rfl ?_));refine zE (zB ?_)
  have hx0:0≤bits .xor .i64 (((((L.getD ((((p:Int)) % ((L.length:Int))).toNat) 0)*(131:Int))+((L.getD ((((((p:Int))*(7:Int))+(3:Int)) % ((L.length:Int))).toNat) 0)*(1117:Int)))+(((p:Int))*(29:Int)))+((((p:Int)) / ((L.length:Int)))*(53:Int))) ((((((L.getD ((((p:Int)) % ((L.length:Int))).toNat) 0)*(131:Int))+((L.getD ((((((p:Int))*(7:Int))+(3:Int)) % ((L.length:Int))).toNat) 0)*(1117:Int)))+(((p:Int))*(29:Int)))+((((p:Int)) / ((L.length:Int)))*(53:Int))) / (64:Int)):=xor_pos (by omega) (by omega) (Int.ediv_nonneg (by omega) (by decide)) (by omega);refine zC 2 rfl (zL (v:=i6_ ((bits .xor .i64 (((((L.getD ((((p:Int)) % ((L.length:Int))).toNat) 0)*(131:Int))+((L.getD ((((((p:Int))*(7:Int))+(3:Int)) % ((L.length:Int))).toNat) 0)*(1117:Int)))+(((p:Int))*(29:Int)))+((((p:Int)) / ((L.length:Int)))*(53:Int))) ((((((L.getD ((((p:Int)) % ((L.length:Int))).toNat) 0)*(131:Int))+((L.getD ((((((p:Int))*(7:Int))+(3:Int)) % ((L.length:Int))).toNat) 0)*(1117:Int)))+(((p:Int))*(29:Int)))+((((p:Int)) / ((L.length:Int)))*(53:Int))) / (64:Int))) % n)) rfl rfl rfl (OpQ.rem rfl rfl rfl hx0 (by omega)) ?_);refine zC 1 rfl (zJ (zD [4] [_] rfl ?_));refine qL (qS rfl rfl fun w' hw=>?_)
  exact ⟨_,p+1,rfl,⟨Int.emod_nonneg _ (by omega),fun _=>Int.emod_lt_of_pos _ (by omega),rfl⟩,hw⟩
 replace hg17:=zN hg17;refine zS rfl rfl rfl ?_;refine zS rfl rfl rfl (zS rfl rfl rfl (zS rfl rfl rfl (zS rfl rfl rfl (zS rfl rfl rfl (zC 1 rfl (zJ (zD [0,1,24] [_,_,_] rfl ?_)))))));refine xH rfl ?_;refine zE (zB (zC 1 rfl (zJ (zD [4] [_] rfl ?_))));refine qL (qS rfl rfl fun w' hw=>?_)
 exact ⟨0,p+1,rfl,⟨Int.le_refl 0,fun _=>by omega,rfl⟩,hw⟩
set_option maxHeartbeats 400000 in
/-- (*spec.l15Rd).num -/
theorem num_ok (B:Nat) (w0:World) (hs:List (Nat×Obj)) (rp p:Nat) (bv:Value) (L:List Int) (va:Value) (xs:List Int) (w:World) (hb:∀ w,Own B w0 hs w→Row w bv (u8s L)) (hL8:Bytes8 L) (hL:L.length≤2000) (hva:∀ w,Own B w0 hs w→Ints w va xs) (hne:0<xs.length) (hp:p≤1000000) (hw:Own B w0 ((rp,.cells #[bv,.int .i64 (p:Int)] 88 (0,0))::hs) w) :
    Calls Tryz.prog 70 [pt_ rp,va].toArray w fun en w'=>∃ v:Int,∃ p':Nat,en=.returned (i6_ v)∧(v∈xs∧p'=p+1)∧Own B w0 (((rp,.cells #[bv,.int .i64 (p':Int)] 88 (0,0))::hs)) w':=by
 refine fnStartC (Own B w0 ((rp,.cells #[bv,.int .i64 (p:Int)] 88 (0,0))::hs)) (n:=12) (e:=[(0,pt_ rp),(1,va)]) Tryz.func70 rfl rfl rfl rfl Ends.both hw ?_;refine zE (zB (zC 1 rfl (zJ (zD [0,1] [_,_] rfl ?_))));refine zE (qF (qJ 3 rfl (zU (v:=i6_ ((xs.length:Int))) rfl rfl rfl (yR rfl zX rfl (ints_length _) (fun w1 hw1=>hva _ (qI (f:=[_]) hw1))) ?_)));refine xO (rp:=rp) (RT:=88) (p:=p) (bv:=bv) (hs:=hs) (ok:=fun (k:Int) p'=>0≤k∧(1≤((xs.length:Int))→k<((xs.length:Int)))∧p'=p+1) (v:=fun (k:Int)=>i6_ k) (new:=fun (k:Int)=>[]) (xs:=[.tmp 6,.tmp 8]) (vs:=[pt_ rp,i6_ ((xs.length:Int))]) ([]:List (Nat×Obj)) rfl rfl rfl rfl vM rfl (fun w1 hw1=>(pick_ok B w0 (([]:List (Nat×Obj))++hs) rp p bv L ((xs.length:Int)) w1 (fun w2 hw2=>hb w2 (qI (f:=([]:List (Nat×Obj))) hw2)) hL8 hL (by omega) hw1).mono fun en w' ⟨k',p',h1,h2,h3⟩=>⟨k',p',h1,h2,h3⟩) fun k9 p_9 hKp_9=>?_
 show Ll _ _ (Own _ _ (_::hs)) _ _ ((9,i6_ k9)::_) _ _ _
 obtain ⟨h0k9,h1k9,hep_9⟩:=hKp_9
 try have hltk9:=h1k9 (by first | omega | (split <;> omega) | decide);refine zU (v:=.pointer (some (sAt va k9))) rfl rfl rfl (yM rfl zX zK rfl rfl (by omega) (by rw [ints_length];omega) (fun w1 hw1=>hva _ (qI (f:=[_]) hw1))) ?_;refine zU (v:=i6_ (xs.getD ((k9).toNat) 0)) rfl rfl rfl (qQ rfl zW rfl (fun w1 hw1=>Ints.cell (hva _ (qI (f:=[_]) hw1)) (by omega) (by omega))) ?_;refine qJ 1 rfl (zG (zD [4] [_] rfl ?_));refine qL (qS rfl rfl fun w' hw=>?_)
 exact ⟨_,p_9,rfl,⟨by rw [getD_at (by omega)];exact List.getElem_mem _,hep_9⟩,hw⟩
set_option maxHeartbeats 400000 in
/-- (*spec.l15Rd).of -/
theorem of_ok (B:Nat) (w0:World) (hs:List (Nat×Obj)) (rp p:Nat) (bv:Value) (L:List Int) (va:Value) (xs:List (List UInt8)) (w:World) (hb:∀ w,Own B w0 hs w→Row w bv (u8s L)) (hL8:Bytes8 L) (hL:L.length≤2000) (hva:∀ w,Own B w0 hs w→Strs w va xs) (hne:0<xs.length) (hp:p≤1000000) (hw:Own B w0 ((rp,.cells #[bv,.int .i64 (p:Int)] 88 (0,0))::hs) w) :
    Calls Tryz.prog 56 [pt_ rp,va].toArray w fun en w'=>∃ v:List UInt8,∃ p':Nat,en=.returned (str v)∧(v∈xs∧p'=p+1)∧Own B w0 (((rp,.cells #[bv,.int .i64 (p':Int)] 88 (0,0))::hs)) w':=by
 refine fnStartC (Own B w0 ((rp,.cells #[bv,.int .i64 (p:Int)] 88 (0,0))::hs)) (n:=12) (e:=[(0,pt_ rp),(1,va)]) Tryz.func56 rfl rfl rfl rfl Ends.both hw ?_;refine zE (zB (zL (v:=str ([])) rfl rfl rfl (yP rfl rfl) ?_));refine zJ (zD [0,1] [_,_] rfl ?_);refine zE (qF (qJ 3 rfl (zU (v:=i6_ ((xs.length:Int))) rfl rfl rfl (yR rfl yL rfl (strs_length _) (fun w1 hw1=>hva _ (qI (f:=[_]) hw1))) ?_)));refine xO (rp:=rp) (RT:=88) (p:=p) (bv:=bv) (hs:=hs) (ok:=fun (k:Int) p'=>0≤k∧(1≤((xs.length:Int))→k<((xs.length:Int)))∧p'=p+1) (v:=fun (k:Int)=>i6_ k) (new:=fun (k:Int)=>[]) (xs:=[.tmp 6,.tmp 8]) (vs:=[pt_ rp,i6_ ((xs.length:Int))]) ([]:List (Nat×Obj)) rfl rfl rfl rfl vM rfl (fun w1 hw1=>(pick_ok B w0 (([]:List (Nat×Obj))++hs) rp p bv L ((xs.length:Int)) w1 (fun w2 hw2=>hb w2 (qI (f:=([]:List (Nat×Obj))) hw2)) hL8 hL (by omega) hw1).mono fun en w' ⟨k',p',h1,h2,h3⟩=>⟨k',p',h1,h2,h3⟩) fun k9 p_9 hKp_9=>?_
 show Ll _ _ (Own _ _ (_::hs)) _ _ ((9,i6_ k9)::_) _ _ _
 obtain ⟨h0k9,h1k9,hep_9⟩:=hKp_9
 try have hltk9:=h1k9 (by first | omega | (split <;> omega) | decide);refine zU (v:=.pointer (some (sAt va k9))) rfl rfl rfl (yM rfl yL qG rfl rfl (by omega) (by rw [strs_length];omega) (fun w1 hw1=>hva _ (qI (f:=[_]) hw1))) ?_;refine zU (v:=str (xs.getD ((k9).toNat) [])) rfl rfl rfl (qQ rfl qY rfl (fun w1 hw1=>Strs.cell (hva _ (qI (f:=[_]) hw1)) (by omega) (by omega))) ?_;refine qJ 1 rfl (zG (zD [4] [_] rfl ?_));refine qL (qS rfl rfl fun w' hw=>?_)
 exact ⟨_,p_9,rfl,⟨by rw [getD_at (by omega)];exact List.getElem_mem _,hep_9⟩,hw⟩
set_option maxHeartbeats 400000 in
/-- spec.l15Many -/
theorem many_ok (s:List UInt8) (w:World) (n:Int) (hn0:0≤n) (hn:n≤100) (hs1:s.length=1) :
    Calls Tryz.prog 117 [str s,i6_ n].toArray w fun en w'=>∃ t:List UInt8,en=.returned (str t)∧(t.length≤40000)∧Below w.heap.size w w':=by
 refine fnStart (n:=20) (e:=[(0,str s),(1,i6_ n)]) Tryz.func117 rfl rfl rfl rfl Ends.both ?_;refine zE (zB (zL (v:=str ([])) rfl rfl rfl (yP rfl rfl) ?_));refine zJ (zD [0,1] [_,_] rfl ?_);refine zE (zB (zL (v:=str ([])) rfl rfl rfl (yP rfl rfl) ?_));refine zJ (zD [0,1,5] [_,_,_] rfl ?_);refine zE (qT (xJ (σ:=Nat×List UInt8×List UInt8×Int) (fun ⟨i,t,u,m⟩=>(0≤m∧m≤100)∧m.toNat*2 ^ i≤100∧u.length=2 ^ i∧t.length≤2 ^ i∧i≤7) (fun ⟨i,t,u,m⟩=>[(0,str u),(1,i6_ m),(5,str t)]) (fun ⟨i,t,u,m⟩=>Own w.heap.size w []) (fun ⟨i,t,u,m⟩=>m.toNat) ((0,[],s,n)) ⟨by omega,by omega,hs1,by simp,by omega⟩ (Sub.sel [0,1,5] rfl) (fun _ h=>h) ?_))
 rintro ⟨i,t,u,m⟩ ⟨⟨hm0,hm9⟩,hm1,hu,ht,hi⟩
 dsimp only;refine zE (zE (zB (zC 2 rfl (zJ (zD [0,1,5,7] [_,_,_,_] rfl ?_)))));refine qK (b:=decide ((0:Int)<m)) rfl (fun h7=>?_) (fun h7=>?_)
 ·
  replace h7:=zN h7
  have h128:2 ^ i≤128:=Nat.le_trans (Nat.pow_le_pow_right (by decide) hi) (by decide);refine qU (zD [0,1,5] [_,_,_] rfl ?_);refine qT (zE (zE (zB (zC 1 rfl (zL (v:=i6_ (m % (2:Int))) rfl rfl rfl (OpQ.rem rfl rfl rfl (by omega) (by decide)) ?_)))));refine zC 1 rfl (zJ (zD [0,1,5,10] [_,_,_,_] rfl ?_));refine qK (b:=decide ((m % (2:Int))=(1:Int))) rfl (fun h10=>?_) (fun h10=>?_)
  ·
   replace h10:=zN h10;refine zB (zC 2 rfl (zL rfl rfl rfl (yE rfl rfl rfl (by first | omega | (simp only [zZ,qV,qW];omega))) ?_));refine zC 1 rfl (zJ (zD [0,1,5] [_,_,_] rfl ?_));refine zE (zB (zC 2 rfl (zL rfl rfl rfl (yE rfl rfl rfl (by first | omega | (simp only [zZ,qV,qW];omega))) ?_)));refine zC 1 rfl (zJ (zD [0,1,5] [_,_,_] rfl ?_));refine zB (zC 1 rfl (zL (v:=i6_ (m / (2:Int))) rfl rfl rfl (OpQ.quo rfl rfl rfl (by omega) (by omega) (by decide)) ?_));refine zC 1 rfl (zJ (yQ ((i+1,t++u,u++u,m / (2:Int))) ⟨by dsimp only;omega,many_half hm0 hm1,by rw [zZ,hu,Nat.pow_succ];omega,by dsimp only;(try rw [zZ]);rw [Nat.pow_succ];omega,many_more hm1 (by omega)⟩ (by dsimp only;omega) (Sub.sel [0,1,5] rfl) (fun _ h=>h)))
  replace h10:=zM h10;refine qU (zD [0,1,5] [_,_,_] rfl ?_);refine zE (zB (zC 2 rfl (zL rfl rfl rfl (yE rfl rfl rfl (by first | omega | (simp only [zZ,qV,qW];omega))) ?_)));refine zC 1 rfl (zJ (zD [0,1,5] [_,_,_] rfl ?_));refine zB (zC 1 rfl (zL (v:=i6_ (m / (2:Int))) rfl rfl rfl (OpQ.quo rfl rfl rfl (by omega) (by omega) (by decide)) ?_));refine zC 1 rfl (zJ (yQ ((i+1,t,u++u,m / (2:Int))) ⟨by dsimp only;omega,many_half hm0 hm1,by rw [zZ,hu,Nat.pow_succ];omega,by dsimp only;(try rw [zZ]);rw [Nat.pow_succ];omega,many_more hm1 (by omega)⟩ (by dsimp only;omega) (Sub.sel [0,1,5] rfl) (fun _ h=>h)))
 replace h7:=zM h7;refine yW rfl ?_;refine zD [5] [_] rfl ?_;refine zE (zB (zC 2 rfl (zJ (zD [4] [_] rfl ?_))));refine qL (qS rfl rfl fun w' hw=>?_)
 exact ⟨t,rfl,Nat.le_trans ht (Nat.le_trans (Nat.pow_le_pow_right (by decide) hi) (by decide)),hw.below⟩
end Go.Proofs.YtefiibghfgfdnaaGreatDoor
