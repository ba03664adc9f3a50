/-
  THE CARD OF 'laws.FnExactClassesOf': for every input the law returns true, and the input reads as it did. Conditions: those of the given row alone (it lists what the library's two tables hold).
-/
import Derived.Test.YtcanofailfbllaaDoorLaid
import Derived.Test.YtcanofailfbllaaDoorClasses
namespace Go.Proofs.YtcanofailfbllaaDoor
open Go.ChangeShapes Go.WideShapes Go.ChangeAt Go.RowKit Go.Wk
namespace FnExactClassesOf
def W0 : Array Value := #[vS ⟨0, [], []⟩, .int .i64 0]
set_option maxRecDepth 100000 in
/-- The contract of the row, at every world and every argument. -/
theorem contract (H : Type) (enc : TypeId × Value → H) (W : World) (base : Nat) (args : Array Value) (ds gs : List (DataW H)) (before : List MemPlace)
    (hval : ∀ (j : Nat) t v, Tryd.f8.params[j]? = some t → args[j]? = some v → Value.okWide Tryd.prog W .any base t v)
    (hW : DataW.Whole enc Tryd.prog Tryd.f8.params.toList Rows.fnExactClassesOfSpec.vars false W args.toList ds gs before) :
    Calls Tryd.prog 8 args W fun e W' => ∃ v, e = .returned v ∧ Rows.fnExactClassesOfSpec.post enc Tryd.prog Tryd.f8 false true false false W args v W' := by
  have hW' := hW
  obtain ⟨p, q, hA0, hV, rfl, hfz, hnd⟩ := hW
  have hA : DataW.TrodAll enc Tryd.prog W 0 (fun _ => true) true Tryd.f8.params.toList args.toList ds p := hA0
  rw [Tryd.params8] at hA hval
  obtain ⟨v0, vs0, d0, ds0, p0, q0, hargs0, rfl, rfl, h0, r0⟩ := trodAll_cons hA
  obtain ⟨v1, vs1, d1, ds1, p1, q1, hargs1, rfl, rfl, h1, r1⟩ := trodAll_cons r0
  obtain ⟨rfl, rfl, rfl⟩ := trodAll_nil r1
  obtain rfl : args = #[v0, v1] := by cases args; simp_all
  obtain ⟨a0, rfl, s0, t0, lo0, hi0⟩ := open_St Tryd.underlying23 (by kernel_rfl) (by kernel_rfl) rfl rfl rfl Tryd.underlying3 Tryd.underlying9 (hval 0 23 v0 rfl rfl) h0
  obtain ⟨a1, rfl, lo1, hi1⟩ := open_I Tryd.underlying3 (hval 1 3 v1 rfl rfl) h1
  have walk : Calls Tryd.prog 8 #[vS a0, .int .i64 a1] W fun e w' => e = .returned (.bool true) ∧ Below W.heap.size W w' := by
    cases hv : clsOk a0 a1 with
    | true => exact lawCls_yes a0 a1 W s0 t0 lo0 hi0 hv
    | false => exact lawCls_no a0 a1 W s0 t0 hv
  refine walk.mono fun e W' ⟨he, hb⟩ => ⟨_, he, ?_⟩
  exact post_true laidOut (by rw [Tryd.params8]; intro t ht; simp only [List.mem_cons, List.not_mem_nil, or_false] at ht; rcases ht with rfl | rfl <;> exact ⟨by kernel_rfl, of_decide_eq_true (by kernel_rfl)⟩) rfl hW' rfl (by kernel_rfl) Tryd.underlying4 hb

theorem reads (os : Os) {H : Type} (enc : TypeId × Value → H) : ∃ places, DataW.whole enc Tryd.prog ((laidWorld os).forCall (fun _ _ => 0) ⟨#[], W0, []⟩).memory Tryd.f8.params.toList Rows.fnExactClassesOfSpec.vars false W0.toList 8 = some ([.agg [.lit (.int .i64 0), .lit (.string []), .lit (.string [])], .lit (.int .i64 0)], [], places) :=
  ⟨[], by kernel_rfl⟩

set_option maxRecDepth 100000 in
theorem lifted (os : Os) (started : os.Started) (H : Type) (enc : TypeId × Value → H) (F : Stop.Interp) :
    ReturnsInHanded {} Tryd.checked os 8 .any ((OpenSpec.ofChange Rows.fnExactClassesOfSpec).preRow enc Tryd.prog Tryd.f8 Rows.fnExactClassesOfRow.domain false Rows.fnExactClassesOfRow.laid) (((OpenSpec.ofChange Rows.fnExactClassesOfSpec).at F).post enc Tryd.prog Tryd.f8 false true false false) := by
  obtain ⟨places, hx⟩ := reads os enc
  refine returnsInHanded_of_row (C := Tryd.checked) (s := OpenSpec.ofChange Rows.fnExactClassesOfSpec) own started (by kernel_rfl) Tryd.func8
    (witness_row_at (enc := enc) (C := Tryd.checked) false (laidWorld os) W0 rfl (by kernel_rfl) (by kernel_rfl) (by kernel_rfl)
      (OpenSpec.preRow_of_cond 8 hx (by kernel_rfl) (fun k hk => by cases hk) (by kernel_rfl) (laid_met os W0))) ?_
  intro W base args ds gs before hval hW _ _ _ hL _ _
  exact contract H enc W base args ds gs before hval hW

theorem k0 : (Rows.fnExactClassesOfRow.wf (OpenSpec.ofChange (OpenSpec.ofChange Rows.fnExactClassesOfSpec).bare)) = true := by kernel_rfl
theorem k3 : (Tryd.f8.params.all (Tryd.pinned.checked.prog.readableRec ·)) = true := by kernel_rfl
theorem k4 : (namedTie Tryd.pinned.checked.prog Rows.fnExactClassesOfRow.named (OpenSpec.ofChange Rows.fnExactClassesOfSpec).bare.vars) = true := by kernel_rfl
theorem k9 : ((Rows.fnExactClassesOfRow.inPlace == Tryd.pinned.checked.prog.inPlace 8)) = true := by kernel_rfl
theorem k10 : ((Rows.fnExactClassesOfRow.unfollowed == Tryd.pinned.checked.prog.unfollowed 8)) = true := by kernel_rfl
theorem k11 : ((Rows.fnExactClassesOfRow.recurses == Tryd.pinned.checked.prog.recurses 8)) = true := by kernel_rfl
theorem k12 : ((Rows.fnExactClassesOfRow.named == Tryd.pinned.checked.prog.varsNamed 8)) = true := by kernel_rfl
theorem k13 : ((Rows.fnExactClassesOfRow.maps == (Tryd.f8.params.toList ++ (OpenSpec.ofChange Rows.fnExactClassesOfSpec).bare.plain.varTypes Tryd.pinned.checked.prog).any (Tryd.pinned.checked.prog.mapsRec ·))) = true := by kernel_rfl
theorem k14 : ((Rows.fnExactClassesOfRow.ifaces == (Tryd.f8.params.toList ++ (OpenSpec.ofChange Rows.fnExactClassesOfSpec).bare.plain.varTypes Tryd.pinned.checked.prog).any (Tryd.pinned.checked.prog.ifacesRec ·))) = true := by kernel_rfl
theorem k15 : ((Rows.fnExactClassesOfRow.mapsOut == Tryd.pinned.checked.prog.mapsAmong Tryd.f8.resultTypes.toList)) = true := by kernel_rfl
theorem k16 : ((Rows.fnExactClassesOfRow.loops == (Tryd.f8.params.toList ++ (OpenSpec.ofChange Rows.fnExactClassesOfSpec).bare.plain.varTypes Tryd.pinned.checked.prog).any (Tryd.pinned.checked.prog.loopsFrom ·))) = true := by kernel_rfl
theorem k17 : ((Rows.fnExactClassesOfRow.wideKeys == (Tryd.f8.params.toList ++ (OpenSpec.ofChange Rows.fnExactClassesOfSpec).bare.plain.varTypes Tryd.pinned.checked.prog ++ Tryd.f8.resultTypes.toList).any (Tryd.pinned.checked.prog.wideKeysFrom ·))) = true := by kernel_rfl
theorem k19 : (Tryd.f8.resultTypes.all (fun t => Tryd.pinned.checked.prog.readableRec t && decide (t < Tryd.pinned.checked.prog.types.size))) = true := by kernel_rfl
theorem k20 : ((Rows.fnExactClassesOfRow.ifacesOut == Tryd.f8.resultTypes.toList.any (Tryd.pinned.checked.prog.ifacesRec ·))) = true := by kernel_rfl
theorem k21 : ((Rows.fnExactClassesOfRow.loopsOut == Tryd.f8.resultTypes.toList.any (Tryd.pinned.checked.prog.loopsFrom ·))) = true := by kernel_rfl
theorem k30 : ((Rows.fnExactClassesOfRow.veiled == (Tryd.f8.params.toList ++ (OpenSpec.ofChange Rows.fnExactClassesOfSpec).bare.plain.varTypes Tryd.pinned.checked.prog ++ Tryd.f8.resultTypes.toList).any (Tryd.pinned.checked.prog.veiledRec ·))) = true := by kernel_rfl
theorem k31 : (Rows.fnExactClassesOfRow.veiledFits Tryd.pinned.checked.prog Tryd.f8.params.toList (Tryd.f8.params.toList ++ (OpenSpec.ofChange Rows.fnExactClassesOfSpec).bare.plain.varTypes Tryd.pinned.checked.prog ++ Tryd.f8.resultTypes.toList)) = true := by kernel_rfl
theorem closed : joinedFacts Tryd.pinned.checked.prog 8 Tryd.f8 (OpenSpec.ofChange Rows.fnExactClassesOfSpec).bare Rows.fnExactClassesOfRow = true :=
  facts_of k0 Laid1 Laid2 k3 k4 (by kernel_rfl) Laid6 (by kernel_rfl) Laid8 k9 k10 k11 k12 k13 k14 k15 k16 k17 (by kernel_rfl) k19 k20 k21 Laid22 (by kernel_rfl) Laid24 Laid25 Laid26 Laid27 (by kernel_rfl) (by kernel_rfl) k30 k31
theorem said : Rows.FnExactClassesOfSaid :=
  OpenClaim.holds_of_cond 8 Tryd.f8 rfl rfl rfl rfl rfl rfl rfl ⟨rfl, rfl, rfl, rfl, rfl⟩ rfl rfl rfl rfl rfl (by kernel_rfl) Tryd.func8 closed
    (of_decide_eq_true (by kernel_rfl)) (by unfold Func.isWrapper; first | (rw [if_pos (by decide +kernel)]; kernel_rfl) | (rw [if_neg (by decide +kernel)]; exact ⟨rfl, rfl⟩))
    (fun os started H enc _ F => by rw [OpenClaim.pre_eq_preRow]; exact lifted os started H enc F)

theorem plain (f : FuncId) (fn : Func) (hf : Tryd.pinned.checked.prog.funcNamed Rows.fnExactClassesOfRow.func = some f) (hfn : Tryd.pinned.checked.prog.funcs[f]? = some fn) :
    false = Tryd.pinned.checked.prog.looks [] ∧ ∀ (j : Nat) t, fn.params[j]? = some t → Tryd.pinned.checked.prog.wantsStandIn t = false := by
  obtain rfl : f = 8 := Option.some.inj ((show Tryd.pinned.checked.prog.funcNamed Rows.fnExactClassesOfRow.func = some 8 by kernel_rfl).symm.trans hf) |>.symm
  obtain rfl : fn = Tryd.f8 := (Option.some.inj (Tryd.func8.symm.trans hfn)).symm
  refine ⟨by kernel_rfl, fun j t ht => ?_⟩
  rw [Tryd.params8] at ht
  have hm : t ∈ [23, 3] := by simpa using Array.mem_of_getElem? ht
  simp only [List.mem_cons, List.not_mem_nil, or_false] at hm
  rcases hm with rfl | rfl <;> (show Tryd.prog.wantsStandIn _ = false) <;> kernel_rfl
theorem hw : Rows.fnExactClassesOfRow.wfByText (OpenSpec.ofChange Rows.fnExactClassesOfSpec) = true := by kernel_rfl
theorem hm : Tryd.pinned.checked.prog.mainIs = some (Rows.fnExactClassesOfCard.stood.harness.1, Rows.fnExactClassesOfCard.stood.harness.2.toList) := by kernel_rfl
theorem hg : false = Rows.fnExactClassesOfRow.goesBy Tryd.pinned.checked.prog := by kernel_rfl
end FnExactClassesOf
/-- The tied card. -/
theorem cardFnExactClassesOf : Rows.FnExactClassesOfCardSaid :=
  Claim7.holds_tied_plain_at .later [] _ _ _ _ FnExactClassesOf.said (fun _ h => by cases h) FnExactClassesOf.hw (fun _ h => by cases h) fnExactClassesOf_row_tie rfl ⟨rfl, rfl⟩ FnExactClassesOf.hm rfl FnExactClassesOf.plain FnExactClassesOf.hg
end Go.Proofs.YtcanofailfbllaaDoor
