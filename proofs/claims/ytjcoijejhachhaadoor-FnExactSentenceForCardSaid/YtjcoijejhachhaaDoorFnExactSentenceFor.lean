/-
  THE CARD OF 'laws.FnExactSentenceFor': for every input the law returns true, and the input reads as it did. Conditions: those of the given row alone (it lists what the library's two tables hold).
-/
import Derived.Test.YtjcoijejhachhaaDoorLaid
import Derived.Test.YtjcoijejhachhaaDoorTellX2
namespace Go.Proofs.YtjcoijejhachhaaDoor
open Go.ChangeShapes Go.WideShapes Go.ChangeAt Go.RowKit Go.Wk
namespace FnExactSentenceFor
def W0 : Array Value := #[vS ⟨0, [], []⟩, vS ⟨0, [], []⟩]
set_option maxRecDepth 100000 in
/-- The contract of the row, at every world and every argument. -/
theorem contract (H : Type) (enc : TypeId × Value → H) (W : World) (base : Nat) (args : Array Value) (ds gs : List (DataW H)) (before : List MemPlace)
    (hval : ∀ (j : Nat) t v, Tryd.f5.params[j]? = some t → args[j]? = some v → Value.okWide Tryd.prog W .any base t v)
    (hW : DataW.Whole enc Tryd.prog Tryd.f5.params.toList Rows.fnExactSentenceForSpec.vars false W args.toList ds gs before) :
    Calls Tryd.prog 5 args W fun e W' => ∃ v, e = .returned v ∧ Rows.fnExactSentenceForSpec.post enc Tryd.prog Tryd.f5 false true false false W args v W' := by
  have hW' := hW
  obtain ⟨p, q, hA0, hV, rfl, hfz, hnd⟩ := hW
  have hA : DataW.TrodAll enc Tryd.prog W 0 (fun _ => true) true Tryd.f5.params.toList args.toList ds p := hA0
  rw [Tryd.params5] at hA hval
  obtain ⟨v0, vs0, d0, ds0, p0, q0, hargs0, rfl, rfl, h0, r0⟩ := trodAll_cons hA
  obtain ⟨v1, vs1, d1, ds1, p1, q1, hargs1, rfl, rfl, h1, r1⟩ := trodAll_cons r0
  obtain ⟨rfl, rfl, rfl⟩ := trodAll_nil r1
  obtain rfl : args = #[v0, v1] := by cases args; simp_all
  obtain ⟨a0, rfl, s0, t0, lo0, hi0⟩ := open_St Tryd.underlying23 (by kernel_rfl) (by kernel_rfl) rfl rfl rfl Tryd.underlying3 Tryd.underlying9 (hval 0 23 v0 rfl rfl) h0
  obtain ⟨a1, rfl, s1, t1, lo1, hi1⟩ := open_St Tryd.underlying23 (by kernel_rfl) (by kernel_rfl) rfl rfl rfl Tryd.underlying3 Tryd.underlying9 (hval 1 23 v1 rfl rfl) h1
  have walk : Calls Tryd.prog 5 #[vS a0, vS a1] W fun e w' => e = .returned (.bool true) ∧ Below W.heap.size W w' := by
    exact lawSent a0 a1 W s0 t0 s1 t1 lo0 hi0 lo1 hi1
  refine walk.mono fun e W' ⟨he, hb⟩ => ⟨_, he, ?_⟩
  exact post_true laidOut (by rw [Tryd.params5]; intro t ht; simp only [List.mem_cons, List.not_mem_nil, or_false] at ht; rcases ht with rfl | rfl <;> exact ⟨by kernel_rfl, of_decide_eq_true (by kernel_rfl)⟩) rfl hW' rfl (by kernel_rfl) Tryd.underlying4 hb

theorem reads (os : Os) {H : Type} (enc : TypeId × Value → H) : ∃ places, DataW.whole enc Tryd.prog ((laidWorld os).forCall (fun _ _ => 0) ⟨#[], W0, []⟩).memory Tryd.f5.params.toList Rows.fnExactSentenceForSpec.vars false W0.toList 8 = some ([.agg [.lit (.int .i64 0), .lit (.string []), .lit (.string [])], .agg [.lit (.int .i64 0), .lit (.string []), .lit (.string [])]], [], places) :=
  ⟨[], by kernel_rfl⟩

set_option maxRecDepth 100000 in
theorem lifted (os : Os) (started : os.Started) (H : Type) (enc : TypeId × Value → H) (F : Stop.Interp) :
    ReturnsInHanded {} Tryd.checked os 5 .any ((OpenSpec.ofChange Rows.fnExactSentenceForSpec).preRow enc Tryd.prog Tryd.f5 Rows.fnExactSentenceForRow.domain false Rows.fnExactSentenceForRow.laid) (((OpenSpec.ofChange Rows.fnExactSentenceForSpec).at F).post enc Tryd.prog Tryd.f5 false true false false) := by
  obtain ⟨places, hx⟩ := reads os enc
  refine returnsInHanded_of_row (C := Tryd.checked) (s := OpenSpec.ofChange Rows.fnExactSentenceForSpec) own started (by kernel_rfl) Tryd.func5
    (witness_row_at (enc := enc) (C := Tryd.checked) false (laidWorld os) W0 rfl (by kernel_rfl) (by kernel_rfl) (by kernel_rfl)
      (OpenSpec.preRow_of_cond 8 hx (by kernel_rfl) (fun k hk => by cases hk) (by kernel_rfl) (laid_met os W0))) ?_
  intro W base args ds gs before hval hW _ _ _ hL _ _
  exact contract H enc W base args ds gs before hval hW

theorem k0 : (Rows.fnExactSentenceForRow.wf (OpenSpec.ofChange (OpenSpec.ofChange Rows.fnExactSentenceForSpec).bare)) = true := by kernel_rfl
theorem k3 : (Tryd.f5.params.all (Tryd.pinned.checked.prog.readableRec ·)) = true := by kernel_rfl
theorem k4 : (namedTie Tryd.pinned.checked.prog Rows.fnExactSentenceForRow.named (OpenSpec.ofChange Rows.fnExactSentenceForSpec).bare.vars) = true := by kernel_rfl
theorem k9 : ((Rows.fnExactSentenceForRow.inPlace == Tryd.pinned.checked.prog.inPlace 5)) = true := by kernel_rfl
theorem k10 : ((Rows.fnExactSentenceForRow.unfollowed == Tryd.pinned.checked.prog.unfollowed 5)) = true := by kernel_rfl
theorem k11 : ((Rows.fnExactSentenceForRow.recurses == Tryd.pinned.checked.prog.recurses 5)) = true := by kernel_rfl
theorem k12 : ((Rows.fnExactSentenceForRow.named == Tryd.pinned.checked.prog.varsNamed 5)) = true := by kernel_rfl
theorem k13 : ((Rows.fnExactSentenceForRow.maps == (Tryd.f5.params.toList ++ (OpenSpec.ofChange Rows.fnExactSentenceForSpec).bare.plain.varTypes Tryd.pinned.checked.prog).any (Tryd.pinned.checked.prog.mapsRec ·))) = true := by kernel_rfl
theorem k14 : ((Rows.fnExactSentenceForRow.ifaces == (Tryd.f5.params.toList ++ (OpenSpec.ofChange Rows.fnExactSentenceForSpec).bare.plain.varTypes Tryd.pinned.checked.prog).any (Tryd.pinned.checked.prog.ifacesRec ·))) = true := by kernel_rfl
theorem k15 : ((Rows.fnExactSentenceForRow.mapsOut == Tryd.pinned.checked.prog.mapsAmong Tryd.f5.resultTypes.toList)) = true := by kernel_rfl
theorem k16 : ((Rows.fnExactSentenceForRow.loops == (Tryd.f5.params.toList ++ (OpenSpec.ofChange Rows.fnExactSentenceForSpec).bare.plain.varTypes Tryd.pinned.checked.prog).any (Tryd.pinned.checked.prog.loopsFrom ·))) = true := by kernel_rfl
theorem k17 : ((Rows.fnExactSentenceForRow.wideKeys == (Tryd.f5.params.toList ++ (OpenSpec.ofChange Rows.fnExactSentenceForSpec).bare.plain.varTypes Tryd.pinned.checked.prog ++ Tryd.f5.resultTypes.toList).any (Tryd.pinned.checked.prog.wideKeysFrom ·))) = true := by kernel_rfl
theorem k19 : (Tryd.f5.resultTypes.all (fun t => Tryd.pinned.checked.prog.readableRec t && decide (t < Tryd.pinned.checked.prog.types.size))) = true := by kernel_rfl
theorem k20 : ((Rows.fnExactSentenceForRow.ifacesOut == Tryd.f5.resultTypes.toList.any (Tryd.pinned.checked.prog.ifacesRec ·))) = true := by kernel_rfl
theorem k21 : ((Rows.fnExactSentenceForRow.loopsOut == Tryd.f5.resultTypes.toList.any (Tryd.pinned.checked.prog.loopsFrom ·))) = true := by kernel_rfl
theorem k30 : ((Rows.fnExactSentenceForRow.veiled == (Tryd.f5.params.toList ++ (OpenSpec.ofChange Rows.fnExactSentenceForSpec).bare.plain.varTypes Tryd.pinned.checked.prog ++ Tryd.f5.resultTypes.toList).any (Tryd.pinned.checked.prog.veiledRec ·))) = true := by kernel_rfl
theorem k31 : (Rows.fnExactSentenceForRow.veiledFits Tryd.pinned.checked.prog Tryd.f5.params.toList (Tryd.f5.params.toList ++ (OpenSpec.ofChange Rows.fnExactSentenceForSpec).bare.plain.varTypes Tryd.pinned.checked.prog ++ Tryd.f5.resultTypes.toList)) = true := by kernel_rfl
theorem closed : joinedFacts Tryd.pinned.checked.prog 5 Tryd.f5 (OpenSpec.ofChange Rows.fnExactSentenceForSpec).bare Rows.fnExactSentenceForRow = true :=
  facts_of k0 Laid1 Laid2 k3 k4 (by kernel_rfl) Laid6 (by kernel_rfl) Laid8 k9 k10 k11 k12 k13 k14 k15 k16 k17 (by kernel_rfl) k19 k20 k21 Laid22 (by kernel_rfl) Laid24 Laid25 Laid26 Laid27 (by kernel_rfl) (by kernel_rfl) k30 k31
theorem said : Rows.FnExactSentenceForSaid :=
  OpenClaim.holds_of_cond 5 Tryd.f5 rfl rfl rfl rfl rfl rfl rfl ⟨rfl, rfl, rfl, rfl, rfl⟩ rfl rfl rfl rfl rfl (by kernel_rfl) Tryd.func5 closed
    (of_decide_eq_true (by kernel_rfl)) (by unfold Func.isWrapper; first | (rw [if_pos (by decide +kernel)]; kernel_rfl) | (rw [if_neg (by decide +kernel)]; exact ⟨rfl, rfl⟩))
    (fun os started H enc _ F => by rw [OpenClaim.pre_eq_preRow]; exact lifted os started H enc F)

theorem plain (f : FuncId) (fn : Func) (hf : Tryd.pinned.checked.prog.funcNamed Rows.fnExactSentenceForRow.func = some f) (hfn : Tryd.pinned.checked.prog.funcs[f]? = some fn) :
    false = Tryd.pinned.checked.prog.looks [] ∧ ∀ (j : Nat) t, fn.params[j]? = some t → Tryd.pinned.checked.prog.wantsStandIn t = false := by
  obtain rfl : f = 5 := Option.some.inj ((show Tryd.pinned.checked.prog.funcNamed Rows.fnExactSentenceForRow.func = some 5 by kernel_rfl).symm.trans hf) |>.symm
  obtain rfl : fn = Tryd.f5 := (Option.some.inj (Tryd.func5.symm.trans hfn)).symm
  refine ⟨by kernel_rfl, fun j t ht => ?_⟩
  rw [Tryd.params5] at ht
  have hm : t ∈ [23, 23] := by simpa using Array.mem_of_getElem? ht
  simp only [List.mem_cons, List.not_mem_nil, or_false] at hm
  rcases hm with rfl | rfl <;> (show Tryd.prog.wantsStandIn _ = false) <;> kernel_rfl
theorem hw : Rows.fnExactSentenceForRow.wfByText (OpenSpec.ofChange Rows.fnExactSentenceForSpec) = true := by kernel_rfl
theorem hm : Tryd.pinned.checked.prog.mainIs = some (Rows.fnExactSentenceForCard.stood.harness.1, Rows.fnExactSentenceForCard.stood.harness.2.toList) := by kernel_rfl
theorem hg : false = Rows.fnExactSentenceForRow.goesBy Tryd.pinned.checked.prog := by kernel_rfl
end FnExactSentenceFor
/-- The tied card. -/
theorem cardFnExactSentenceFor : Rows.FnExactSentenceForCardSaid :=
  Claim7.holds_tied_plain_at .later [] _ _ _ _ FnExactSentenceFor.said (fun _ h => by cases h) FnExactSentenceFor.hw (fun _ h => by cases h) fnExactSentenceFor_row_tie rfl ⟨rfl, rfl⟩ FnExactSentenceFor.hm rfl FnExactSentenceFor.plain FnExactSentenceFor.hg
end Go.Proofs.YtjcoijejhachhaaDoor
