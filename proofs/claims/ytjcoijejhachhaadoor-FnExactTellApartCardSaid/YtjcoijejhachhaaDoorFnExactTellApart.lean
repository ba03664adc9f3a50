/-
  THE CARD OF 'laws.FnExactTellApart': for every input the law returns true, and the input reads as it did. Conditions: those of the given row alone (it lists what the library's two tables hold).
-/
import Derived.Test.YtjcoijejhachhaaDoorLaid
import Derived.Test.YtjcoijejhachhaaDoorTellX
namespace Go.Proofs.YtjcoijejhachhaaDoor
open Go.ChangeShapes Go.WideShapes Go.ChangeAt Go.RowKit Go.Wk
namespace FnExactTellApart
def W0 : Array Value := #[vS ⟨0, [], []⟩, .slice none 0 0, vS ⟨0, [], []⟩, .slice none 0 0, .int .i64 0]
set_option maxRecDepth 100000 in
/-- The contract of the row, at every world and every argument. -/
theorem contract (H : Type) (enc : TypeId × Value → H) (W : World) (base : Nat) (args : Array Value) (ds gs : List (DataW H)) (before : List MemPlace)
    (hval : ∀ (j : Nat) t v, Tryd.f4.params[j]? = some t → args[j]? = some v → Value.okWide Tryd.prog W .any base t v)
    (hW : DataW.Whole enc Tryd.prog Tryd.f4.params.toList Rows.fnExactTellApartSpec.vars false W args.toList ds gs before) :
    Calls Tryd.prog 4 args W fun e W' => ∃ v, e = .returned v ∧ Rows.fnExactTellApartSpec.post enc Tryd.prog Tryd.f4 false true false false W args v W' := by
  have hW' := hW
  obtain ⟨p, q, hA0, hV, rfl, hfz, hnd⟩ := hW
  have hA : DataW.TrodAll enc Tryd.prog W 0 (fun _ => true) true Tryd.f4.params.toList args.toList ds p := hA0
  rw [Tryd.params4] at hA hval
  obtain ⟨v0, vs0, d0, ds0, p0, q0, hargs0, rfl, rfl, h0, r0⟩ := trodAll_cons hA
  obtain ⟨v1, vs1, d1, ds1, p1, q1, hargs1, rfl, rfl, h1, r1⟩ := trodAll_cons r0
  obtain ⟨v2, vs2, d2, ds2, p2, q2, hargs2, rfl, rfl, h2, r2⟩ := trodAll_cons r1
  obtain ⟨v3, vs3, d3, ds3, p3, q3, hargs3, rfl, rfl, h3, r3⟩ := trodAll_cons r2
  obtain ⟨v4, vs4, d4, ds4, p4, q4, hargs4, rfl, rfl, h4, r4⟩ := trodAll_cons r3
  obtain ⟨rfl, rfl, rfl⟩ := trodAll_nil r4
  obtain rfl : args = #[v0, v1, v2, v3, v4] := by cases args; simp_all
  obtain ⟨a0, rfl, s0, t0, lo0, hi0⟩ := open_St Tryd.underlying23 (by kernel_rfl) (by kernel_rfl) rfl rfl rfl Tryd.underlying3 Tryd.underlying9 (hval 0 23 v0 rfl rfl) h0
  obtain ⟨l1, row1, len1, fit1⟩ := open_L Tryd.underlying24 Tryd.underlying3 (by kernel_rfl) (hval 1 24 v1 rfl rfl) h1
  obtain ⟨a2, rfl, s2, t2, lo2, hi2⟩ := open_St Tryd.underlying23 (by kernel_rfl) (by kernel_rfl) rfl rfl rfl Tryd.underlying3 Tryd.underlying9 (hval 2 23 v2 rfl rfl) h2
  obtain ⟨l3, row3, len3, fit3⟩ := open_L Tryd.underlying24 Tryd.underlying3 (by kernel_rfl) (hval 3 24 v3 rfl rfl) h3
  obtain ⟨a4, rfl, lo4, hi4⟩ := open_I Tryd.underlying3 (hval 4 3 v4 rfl rfl) h4
  have walk : Calls Tryd.prog 4 #[vS a0, v1, vS a2, v3, .int .i64 a4] W fun e w' => e = .returned (.bool true) ∧ Below W.heap.size W w' := by
    exact lawTell a0 a2 l1 l3 v1 v3 W s0 t0 s2 t2 row1 row3 lo0 hi0 lo2 hi2 a4
  refine walk.mono fun e W' ⟨he, hb⟩ => ⟨_, he, ?_⟩
  exact post_true laidOut (by rw [Tryd.params4]; intro t ht; simp only [List.mem_cons, List.not_mem_nil, or_false] at ht; rcases ht with rfl | rfl | rfl | rfl | rfl <;> exact ⟨by kernel_rfl, of_decide_eq_true (by kernel_rfl)⟩) rfl hW' rfl (by kernel_rfl) Tryd.underlying4 hb

theorem reads (os : Os) {H : Type} (enc : TypeId × Value → H) : ∃ places, DataW.whole enc Tryd.prog ((laidWorld os).forCall (fun _ _ => 0) ⟨#[], W0, []⟩).memory Tryd.f4.params.toList Rows.fnExactTellApartSpec.vars false W0.toList 8 = some ([.agg [.lit (.int .i64 0), .lit (.string []), .lit (.string [])], .nil, .agg [.lit (.int .i64 0), .lit (.string []), .lit (.string [])], .nil, .lit (.int .i64 0)], [], places) :=
  ⟨[], by kernel_rfl⟩

set_option maxRecDepth 100000 in
theorem lifted (os : Os) (started : os.Started) (H : Type) (enc : TypeId × Value → H) (F : Stop.Interp) :
    ReturnsInHanded {} Tryd.checked os 4 .any ((OpenSpec.ofChange Rows.fnExactTellApartSpec).preRow enc Tryd.prog Tryd.f4 Rows.fnExactTellApartRow.domain false Rows.fnExactTellApartRow.laid) (((OpenSpec.ofChange Rows.fnExactTellApartSpec).at F).post enc Tryd.prog Tryd.f4 false true false false) := by
  obtain ⟨places, hx⟩ := reads os enc
  refine returnsInHanded_of_row (C := Tryd.checked) (s := OpenSpec.ofChange Rows.fnExactTellApartSpec) own started (by kernel_rfl) Tryd.func4
    (witness_row_at (enc := enc) (C := Tryd.checked) false (laidWorld os) W0 rfl (by kernel_rfl) (by kernel_rfl) (by kernel_rfl)
      (OpenSpec.preRow_of_cond 8 hx (by kernel_rfl) (fun k hk => by cases hk) (by kernel_rfl) (laid_met os W0))) ?_
  intro W base args ds gs before hval hW _ _ _ hL _ _
  exact contract H enc W base args ds gs before hval hW

theorem k0 : (Rows.fnExactTellApartRow.wf (OpenSpec.ofChange (OpenSpec.ofChange Rows.fnExactTellApartSpec).bare)) = true := by kernel_rfl
theorem k3 : (Tryd.f4.params.all (Tryd.pinned.checked.prog.readableRec ·)) = true := by kernel_rfl
theorem k4 : (namedTie Tryd.pinned.checked.prog Rows.fnExactTellApartRow.named (OpenSpec.ofChange Rows.fnExactTellApartSpec).bare.vars) = true := by kernel_rfl
theorem k9 : ((Rows.fnExactTellApartRow.inPlace == Tryd.pinned.checked.prog.inPlace 4)) = true := by kernel_rfl
theorem k10 : ((Rows.fnExactTellApartRow.unfollowed == Tryd.pinned.checked.prog.unfollowed 4)) = true := by kernel_rfl
theorem k11 : ((Rows.fnExactTellApartRow.recurses == Tryd.pinned.checked.prog.recurses 4)) = true := by kernel_rfl
theorem k12 : ((Rows.fnExactTellApartRow.named == Tryd.pinned.checked.prog.varsNamed 4)) = true := by kernel_rfl
theorem k13 : ((Rows.fnExactTellApartRow.maps == (Tryd.f4.params.toList ++ (OpenSpec.ofChange Rows.fnExactTellApartSpec).bare.plain.varTypes Tryd.pinned.checked.prog).any (Tryd.pinned.checked.prog.mapsRec ·))) = true := by kernel_rfl
theorem k14 : ((Rows.fnExactTellApartRow.ifaces == (Tryd.f4.params.toList ++ (OpenSpec.ofChange Rows.fnExactTellApartSpec).bare.plain.varTypes Tryd.pinned.checked.prog).any (Tryd.pinned.checked.prog.ifacesRec ·))) = true := by kernel_rfl
theorem k15 : ((Rows.fnExactTellApartRow.mapsOut == Tryd.pinned.checked.prog.mapsAmong Tryd.f4.resultTypes.toList)) = true := by kernel_rfl
theorem k16 : ((Rows.fnExactTellApartRow.loops == (Tryd.f4.params.toList ++ (OpenSpec.ofChange Rows.fnExactTellApartSpec).bare.plain.varTypes Tryd.pinned.checked.prog).any (Tryd.pinned.checked.prog.loopsFrom ·))) = true := by kernel_rfl
theorem k17 : ((Rows.fnExactTellApartRow.wideKeys == (Tryd.f4.params.toList ++ (OpenSpec.ofChange Rows.fnExactTellApartSpec).bare.plain.varTypes Tryd.pinned.checked.prog ++ Tryd.f4.resultTypes.toList).any (Tryd.pinned.checked.prog.wideKeysFrom ·))) = true := by kernel_rfl
theorem k19 : (Tryd.f4.resultTypes.all (fun t => Tryd.pinned.checked.prog.readableRec t && decide (t < Tryd.pinned.checked.prog.types.size))) = true := by kernel_rfl
theorem k20 : ((Rows.fnExactTellApartRow.ifacesOut == Tryd.f4.resultTypes.toList.any (Tryd.pinned.checked.prog.ifacesRec ·))) = true := by kernel_rfl
theorem k21 : ((Rows.fnExactTellApartRow.loopsOut == Tryd.f4.resultTypes.toList.any (Tryd.pinned.checked.prog.loopsFrom ·))) = true := by kernel_rfl
theorem k30 : ((Rows.fnExactTellApartRow.veiled == (Tryd.f4.params.toList ++ (OpenSpec.ofChange Rows.fnExactTellApartSpec).bare.plain.varTypes Tryd.pinned.checked.prog ++ Tryd.f4.resultTypes.toList).any (Tryd.pinned.checked.prog.veiledRec ·))) = true := by kernel_rfl
theorem k31 : (Rows.fnExactTellApartRow.veiledFits Tryd.pinned.checked.prog Tryd.f4.params.toList (Tryd.f4.params.toList ++ (OpenSpec.ofChange Rows.fnExactTellApartSpec).bare.plain.varTypes Tryd.pinned.checked.prog ++ Tryd.f4.resultTypes.toList)) = true := by kernel_rfl
theorem closed : joinedFacts Tryd.pinned.checked.prog 4 Tryd.f4 (OpenSpec.ofChange Rows.fnExactTellApartSpec).bare Rows.fnExactTellApartRow = true :=
  facts_of k0 Laid1 Laid2 k3 k4 (by kernel_rfl) Laid6 (by kernel_rfl) Laid8 k9 k10 k11 k12 k13 k14 k15 k16 k17 (by kernel_rfl) k19 k20 k21 Laid22 (by kernel_rfl) Laid24 Laid25 Laid26 Laid27 (by kernel_rfl) (by kernel_rfl) k30 k31
theorem said : Rows.FnExactTellApartSaid :=
  OpenClaim.holds_of_cond 4 Tryd.f4 rfl rfl rfl rfl rfl rfl rfl ⟨rfl, rfl, rfl, rfl, rfl⟩ rfl rfl rfl rfl rfl (by kernel_rfl) Tryd.func4 closed
    (of_decide_eq_true (by kernel_rfl)) (by unfold Func.isWrapper; first | (rw [if_pos (by decide +kernel)]; kernel_rfl) | (rw [if_neg (by decide +kernel)]; exact ⟨rfl, rfl⟩))
    (fun os started H enc _ F => by rw [OpenClaim.pre_eq_preRow]; exact lifted os started H enc F)

theorem plain (f : FuncId) (fn : Func) (hf : Tryd.pinned.checked.prog.funcNamed Rows.fnExactTellApartRow.func = some f) (hfn : Tryd.pinned.checked.prog.funcs[f]? = some fn) :
    false = Tryd.pinned.checked.prog.looks [] ∧ ∀ (j : Nat) t, fn.params[j]? = some t → Tryd.pinned.checked.prog.wantsStandIn t = false := by
  obtain rfl : f = 4 := Option.some.inj ((show Tryd.pinned.checked.prog.funcNamed Rows.fnExactTellApartRow.func = some 4 by kernel_rfl).symm.trans hf) |>.symm
  obtain rfl : fn = Tryd.f4 := (Option.some.inj (Tryd.func4.symm.trans hfn)).symm
  refine ⟨by kernel_rfl, fun j t ht => ?_⟩
  rw [Tryd.params4] at ht
  have hm : t ∈ [23, 24, 23, 24, 3] := by simpa using Array.mem_of_getElem? ht
  simp only [List.mem_cons, List.not_mem_nil, or_false] at hm
  rcases hm with rfl | rfl | rfl | rfl | rfl <;> (show Tryd.prog.wantsStandIn _ = false) <;> kernel_rfl
theorem hw : Rows.fnExactTellApartRow.wfByText (OpenSpec.ofChange Rows.fnExactTellApartSpec) = true := by kernel_rfl
theorem hm : Tryd.pinned.checked.prog.mainIs = some (Rows.fnExactTellApartCard.stood.harness.1, Rows.fnExactTellApartCard.stood.harness.2.toList) := by kernel_rfl
theorem hg : false = Rows.fnExactTellApartRow.goesBy Tryd.pinned.checked.prog := by kernel_rfl
end FnExactTellApart
/-- The tied card. -/
theorem cardFnExactTellApart : Rows.FnExactTellApartCardSaid :=
  Claim7.holds_tied_plain_at .later [] _ _ _ _ FnExactTellApart.said (fun _ h => by cases h) FnExactTellApart.hw (fun _ h => by cases h) fnExactTellApart_row_tie rfl ⟨rfl, rfl⟩ FnExactTellApart.hm rfl FnExactTellApart.plain FnExactTellApart.hg
end Go.Proofs.YtjcoijejhachhaaDoor
