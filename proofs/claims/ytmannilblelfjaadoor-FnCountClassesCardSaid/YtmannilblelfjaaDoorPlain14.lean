/-
  REPLIES, step by step. No program in sight.
-/
import Derived.Test.YtmannilblelfjaaDoorPlain13
namespace Go.Wk
open Go.RowKit

theorem els_more {a : St} {xs : List Int} {x : Int} (h : a.Els xs) (hx : a.El x) : a.Els (xs ++ [x]) := fun y hy => by
  rcases List.mem_append.1 hy with h1 | h1
  · exact h y h1
  · rw [List.mem_singleton.1 h1]; exact hx
theorem find_at {f : Nat → Bool} {k : Nat} : ∀ {n : Nat}, k < n → (∀ i, i < k → f i = false) → f k = true → (List.range n).find? f = some k
  | n, hk, hall, h => by
    rw [List.find?_range_eq_some]
    exact ⟨h, List.mem_range.2 hk, fun j hj => by simp [hall j hj]⟩
theorem rep_law {g : St → List Int → St → List Int → Bool} {a b : St} {xs ys : List Int} {x : Int} :
    (sameB a xs b ys = false → rep g a xs b ys x = none) ∧
    (sameB a xs b ys = true → ∀ k : Nat, k < b.n.toNat → (∀ i : Nat, i < k → (stillB a xs b ys x i && g a (xs ++ [x]) b (ys ++ [(i : Int)])) = false) → (stillB a xs b ys x k && g a (xs ++ [x]) b (ys ++ [(k : Int)])) = true → rep g a xs b ys x = some k) ∧
    ((∀ i : Nat, i < b.n.toNat → (stillB a xs b ys x i && g a (xs ++ [x]) b (ys ++ [(i : Int)])) = false) → rep g a xs b ys x = none) := by
  refine ⟨fun h => by unfold rep; rw [h]; rfl, fun h k hk hall hy => ?_, fun h => ?_⟩
  · unfold rep; rw [h, if_pos rfl]; exact find_at (f := fun y : Nat => stillB a xs b ys x y && g a (xs ++ [x]) b (ys ++ [(y : Int)])) hk hall hy
  · unfold rep
    split
    · rw [List.find?_eq_none]; intro i hi; rw [h i (List.mem_range.1 hi)]; simp
    · rfl
theorem go_no1 {n : Nat} {a b : St} {xs ys : List Int} {x : Nat} (hx : x < a.n.toNat) (h : (rep (goB n) a xs b ys x).isSome = false) : goB (n + 1) a xs b ys = false := by
  rw [goB, Bool.and_eq_false_iff]
  exact .inl (List.all_eq_false.2 ⟨x, List.mem_range.2 hx, by rw [h]; simp⟩)
theorem go_no2 {n : Nat} {a b : St} {xs ys : List Int} {y : Nat} (hy : y < b.n.toNat) (h : (rep (goB n) b ys a xs y).isSome = false) : goB (n + 1) a xs b ys = false := by
  rw [goB, Bool.and_eq_false_iff]
  exact .inr (List.all_eq_false.2 ⟨y, List.mem_range.2 hy, by rw [h]; simp⟩)
theorem go_yes {n : Nat} {a b : St} {xs ys : List Int} (h1 : ∀ i : Nat, i < a.n.toNat → (rep (goB n) a xs b ys i).isSome = true) (h2 : ∀ i : Nat, i < b.n.toNat → (rep (goB n) b ys a xs i).isSome = true) : goB (n + 1) a xs b ys = true := by
  rw [goB, Bool.and_eq_true, List.all_eq_true, List.all_eq_true]
  exact ⟨fun i hi => h1 i (List.mem_range.1 hi), fun i hi => h2 i (List.mem_range.1 hi)⟩
def gameB (a : St) (xs : List Int) (b : St) (ys : List Int) (r : Int) : Bool := listsB a xs b ys && inB r 0 3
def secB (a : St) (xs : List Int) (b : St) (ys : List Int) (r : Int) : Bool := gameB a xs b ys r && winB r.toNat a xs b ys
theorem gameB_true {a b : St} {xs ys : List Int} {r : Int} (h : gameB a xs b ys r = true) : listsB a xs b ys = true ∧ 0 ≤ r ∧ r ≤ 3 := by
  unfold gameB inB at h; simpa using h
def lastW (f : Nat → Bool) : Nat → Int
  | 0 => -1
  | k + 1 => if f k then k else lastW f k
def wonI (a : St) (xs : List Int) (b : St) (ys : List Int) : Int := if listsB a xs b ys then lastW (fun n => winB n a xs b ys) 4 else -2
theorem win_less {n : Nat} {a b : St} {xs ys : List Int} (hl : xs.length = ys.length) (h : winB (n + 1) a xs b ys = true) : winB n a xs b ys = true :=
  (win_iff n a xs b ys hl).2 (winP_less n a xs b ys ((win_iff (n + 1) a xs b ys hl).1 h))
theorem lastW_of {f : Nat → Bool} (hf : ∀ n, f (n + 1) = true → f n = true) {n : Nat} : ∀ {N : Nat}, n ≤ N → (∀ i : Nat, i < n → f i = true) → (n < N → f n = false) → lastW f N = (n : Int) - 1
  | 0, h, _, _ => by obtain rfl : n = 0 := by omega
                     rfl
  | N + 1, h, hall, hn => by
    rcases Nat.lt_or_ge n (N + 1) with h1 | h1
    · have hno : ∀ k, f (n + k) = false := fun k => by
        induction k with
        | zero => exact hn h1
        | succ k ih => cases hk : f (n + (k + 1)) with
          | false => rfl
          | true => rw [hf (n + k) hk] at ih; cases ih
      have := hno (N - n)
      rw [show n + (N - n) = N from by omega] at this
      rw [lastW, if_neg (by rw [this]; simp)]
      exact lastW_of hf (by omega) hall (fun _ => hn h1)
    · obtain rfl : n = N + 1 := by omega
      rw [lastW, if_pos (hall N (by omega))]; omega
theorem lastW_yes {f : Nat → Bool} {k : Nat} (h : f k = true) : lastW f (k + 1) = k := by rw [lastW, if_pos h]
theorem lastW_no {f : Nat → Bool} {k : Nat} (h : f k = false) : lastW f (k + 1) = lastW f k := by rw [lastW, if_neg (by rw [h]; simp)]
/-! ### digits, step by step -/
theorem dec_step {x n : Nat} {o : List UInt8} (ho : decS x = decS n ++ o) (hn : ¬ n ≤ 9) : decS x = decS (n / 10) ++ ([UInt8.ofNat (48 + n % 10)] ++ o) := by
  rw [ho]; conv => lhs; rw [decS]
  rw [if_neg hn, List.append_assoc]
theorem dec_len {x n m : Nat} {o : List UInt8} (ho : decS x = decS n ++ o) (hx : (decS x).length ≤ m) : o.length ≤ m := by
  rw [ho, List.length_append] at hx; omega
/-! ### calls that turn the table -/
abbrev tabL (S I E q c : Nat) (bs : List Bkt) (T : List (List UInt8)) : List (Nat × Obj) := (q, .cells (bs.map bktV).toArray S (0, 0)) :: (c, .cells #[.int .i64 (T.length : Int)] I (0, 0)) :: blks E bs
def cnt : Nat → Nat
  | 0 => 1
  | n + 1 => 1 + 8 * cnt n
structure TabTo (T : List (List UInt8)) (bs' : List Bkt) (T' : List (List UInt8)) (m : Nat) : Prop where
  ok : TabOk bs' T'
  pre : T <+: T'
  len : T'.length ≤ T.length + m
section
variable {P : Program} {n : Nat} {C : World → Prop} {B : Nat} {w0 : World} {hs hs' : List (Nat × Obj)} {N R : Act → World → Prop} {X : List (Nat × (Act → World → Prop))} {e : Env} {ops : Array Oper} {l : List Oper} {o : Oper}
theorem Ll.callTab {S I E q c d : Nat} {bs : List Bkt} {T : List (List UInt8)} {ok : Nat → List Bkt → List (List UInt8) → Prop} {f : FuncId} {xs : List Operand} {ts : Array TypeId} {vs : List Value} (front : List (Nat × Obj)) (hd : Nat.blt d n = true) (hdst : o.dst = some d) (hg : wantE ops e o.guard = some true) (h : o.op = .call ⟨.value (.func f), xs.toArray, ts⟩)
    (hcf : ∀ args w, (callFunc f args).run P w = .ok (.enter f args) w) (hx : opds e xs = some vs)
    (hc : ∀ w, Own B w0 (tabL S I E q c bs T ++ (front ++ hs)) w → Calls P f vs.toArray w fun en w' => ∃ (m : Nat) (bs' : List Bkt) (T' : List (List UInt8)), en = .returned (.int .i64 (m : Int)) ∧ ok m bs' T' ∧ Own B w0 (tabL S I E q c bs' T' ++ (front ++ hs)) w')
    (k : ∀ (m : Nat) (bs' : List Bkt) (T' : List (List UInt8)), ok m bs' T' → Ll P n (Own B w0 (front ++ (tabL S I E q c bs' T' ++ hs))) ops l ((d, .int .i64 (m : Int)) :: e) N R X) : Ll P n (Own B w0 (front ++ (tabL S I E q c bs T ++ hs))) ops (o :: l) e N R X :=
  Ll.call hd hdst hg h hcf hx fun w hw => (hc w (hw.perm (perm_back _ _ _))).mono fun en w' ⟨m, bs', T', h1, h2, h3⟩ => ⟨_, h1, fun a' ha => by
    have := k m bs' T' h2
    unfold Ll at this
    exact this a' w' ha (h3.perm (perm_back _ _ _))⟩
theorem Own.sub {w : World} (h : Own B w0 hs w) (s : List.Sublist hs' hs) : Own B w0 hs' w :=
  Own.of_mem h.below h.base (fun _ hx => h.mem (s.subset hx)) (List.Pairwise.sublist (s.map Prod.fst) h.nodup)
theorem Own.rowTake {w : World} (h : Own B w0 hs w) {i p : Nat} {cs : Array Value} {T : TypeId} {fr : Nat × Nat} (hi : hs[i]? = some (p, .cells cs T fr)) {xs : List Int} {L k cap : Nat} (ht : cs.toList.take L = ints xs) (hk : k ≤ xs.length) (hc : xs.length ≤ cap) :
    Ints w (.slice (some ⟨p, 0, none⟩) k cap) (xs.take k) := by
  have hL : xs.length ≤ L := by
    have := congrArg List.length ht
    rw [List.length_take, ints_length] at this; omega
  refine Own.row h hi ?_ (by simp [Nat.min_eq_left hk]) (by omega)
  have := congrArg (List.take k) ht
  rw [List.take_take, Nat.min_eq_left (by omega)] at this
  rw [this]; simp [ints, List.map_take]
theorem Own.rowDrop {w : World} (h : Own B w0 hs w) {i p : Nat} {cs : Array Value} {T : TypeId} {fr : Nat × Nat} (hi : hs[i]? = some (p, .cells cs T fr)) {xs : List Int} {L k cap : Nat} (ht : cs.toList.take L = ints xs) (_hk : k ≤ xs.length) (hc : xs.length ≤ cap) :
    Ints w (.slice (some ⟨p, k, none⟩) (xs.length - k) (cap - k)) (xs.drop k) := by
  refine ⟨some ⟨p, k, none⟩, cap - k, by simp, by simp; omega, fun h => (by cases h), fun ad had => ?_⟩
  injection had with had
  subst had
  refine ⟨rfl, fun j u hj => ?_⟩
  show w.cell? ⟨p, k + j, none⟩ = some u
  rw [h.cell hi]
  have e1 : (ints xs)[k + j]? = some u := by
    simp only [ints, List.map_drop, List.getElem?_drop] at hj ⊢; exact hj
  rw [← ht, List.getElem?_take] at e1
  split at e1
  · simpa using e1
  · cases e1
theorem blks_new {E : TypeId} : blks E (List.replicate 997 none) = [] := by
  unfold blks
  rw [List.filterMap_eq_nil_iff]
  intro b hb
  rw [List.eq_of_mem_replicate hb]; rfl
theorem perm_tab {x y : Nat × Obj} {f r : List (Nat × Obj)} : (x :: y :: f ++ r).Perm (f ++ (x :: y :: r)) := by
  have := List.Perm.append_right r (List.perm_append_comm (l₁ := [x, y]) (l₂ := f))
  rw [List.append_assoc, List.append_assoc] at this
  exact this
theorem perm_front {f g : List (Nat × Obj)} : (g ++ f).Perm (f ++ g) := List.perm_append_comm
theorem commas_step {A : List UInt8} {L : List Int} {i : Nat} (h : i < L.length) : A ++ commas (L.take (i + 1)) = ((A ++ commas (L.take i)) ++ [44]) ++ decS (L.getD i 0).toNat := by
  rw [List.take_succ_eq_append_getElem h, commas, List.flatMap_append, getD_at h]
  simp [commas]
theorem commas_len {L : List Int} (h : ∀ m ∈ L, 0 ≤ m ∧ m < 1000000000000) : (commas L).length ≤ 13 * L.length := by
  induction L with
  | nil => simp [commas]
  | cons m L ih =>
    have h1 := ih (fun x hx => h x (by simp [hx]))
    have h2 := h m (by simp)
    have h3 := decS_len m.toNat 12 (show m.toNat < 1000000000000 by omega) (by decide)
    simp only [commas, List.flatMap_cons, List.length_append, List.length_cons, List.length_nil] at h1 ⊢
    omega
theorem commas_take {L : List Int} {i : Nat} (h : ∀ m ∈ L, 0 ≤ m ∧ m < 1000000000000) (h8 : L.length ≤ 8) : (commas (L.take i)).length ≤ 104 := by
  have h1 := commas_len (L := L.take i) (fun m hm => h m (List.mem_of_mem_take hm))
  rw [List.length_take] at h1; omega
end
end Go.Wk
