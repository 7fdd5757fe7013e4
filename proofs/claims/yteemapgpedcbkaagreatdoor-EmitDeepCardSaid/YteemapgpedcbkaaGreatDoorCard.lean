/- EmitDeep: for every number and every two bools the call grommetlaw15.EmitDeep(many, maps, anchor) ends, answers true, and leaves its arguments as they were. Conditions: those of the given row and card alone (the package variables that the row lists hold what the program lays in them); no further one. -/
import Derived.Test.YteemapgpedcbkaaGreatDoorCall
import Derived.Test.YteemapgpedcbkaaGreatDoorFacts
set_option maxRecDepth 100000
set_option linter.unusedVariables false
noncomputable section
namespace Go.Proofs.YteemapgpedcbkaaGreatDoor
open Go Go.ChangeShapes Go.WideShapes Go.ChangeAt Go.RowKit

theorem lifted (os : Os) (started : os.Started) (H : Type) (enc : TypeId × Value → H) :
    ReturnsInHanded {} Tryz.checked os 3 .any (fun w args => (Rows.emitDeepSpec.pre enc Tryz.prog Tryz.f3 Rows.emitDeepRow.domain false w args ∧ laidMetH Tryz.prog Rows.emitDeepRow.laid w) ∧ sizedMet enc Tryz.prog Tryz.f3 (OpenSpec.ofChange Rows.emitDeepSpec) false w args)
      (Rows.emitDeepSpec.post enc Tryz.prog Tryz.f3 false true false false) := by
  refine returnsInHanded_of_change_and (C := Tryz.checked) (X := fun w _ => laidMetH Tryz.prog Rows.emitDeepRow.laid w) (fun _ _ _ hh h => h.of_heap hh) own started (by kernel_rfl) Tryz.func3
    (ChangeSpec.witness_shaped (enc := enc) (C := Tryz.checked) (os := os) (X := fun w _ => laidMetH Tryz.prog Rows.emitDeepRow.laid w) false (World.laidAll Tryz.prog os Rows.emitDeepRow.laid) #[.int .u8 0, .bool false, .bool false] 8 (World.laidAll_os _ _ _)
      (World.shaped_of_ZipB (by kernel_rfl) (by kernel_rfl)) (by kernel_rfl) (by kernel_rfl) (by kernel_rfl)
      (by rw [MakeChecks.laidMetH_plain _ _ _ (by kernel_rfl)]; exact laidMet_laidAll _ (by kernel_rfl) (by kernel_rfl))) ?_
  intro W base args ds gs before hval0 hW hc _ hL _
  exact contract H enc W base args ds gs before hval0 hW hL

theorem named3 : Tryz.prog.funcNamed "grommet/grommetlaw15.EmitDeep" = some 3 := by kernel_rfl

theorem said : Rows.EmitDeepSaid :=
  OpenClaim.holds_of_wide 3 Tryz.f3 rfl rfl rfl rfl rfl rfl rfl ⟨rfl, rfl, rfl, rfl, rfl⟩ rfl rfl rfl rfl rfl named3 Tryz.func3 closed
    (of_decide_eq_true (by kernel_rfl)) (by unfold Func.isWrapper; first | (rw [if_pos (by decide +kernel)]; kernel_rfl) | (rw [if_neg (by decide +kernel)]; exact ⟨rfl, rfl⟩))
    (fun os started H enc _ => lifted os started H enc)

theorem plain (f : FuncId) (fn : Func) (hf : Tryz.pinned.checked.prog.funcNamed "grommet/grommetlaw15.EmitDeep" = some f) (hfn : Tryz.pinned.checked.prog.funcs[f]? = some fn) :
    true = Tryz.pinned.checked.prog.looks [] ∧ ∀ (j : Nat) t, fn.params[j]? = some t → Tryz.pinned.checked.prog.wantsStandIn t = false := by
  obtain rfl : f = 3 := Option.some.inj ((show Tryz.prog.funcNamed "grommet/grommetlaw15.EmitDeep" = some 3 by kernel_rfl).symm.trans hf) |>.symm
  obtain rfl : fn = Tryz.f3 := (Option.some.inj (Tryz.func3.symm.trans hfn)).symm
  refine ⟨by kernel_rfl, fun j t ht => ?_⟩
  rw [Tryz.params3] at ht
  have hm : t = 5 ∨ t = 4 := by
    have := Array.mem_of_getElem? ht
    simpa using this
  rcases hm with rfl | rfl
  · exact (show Tryz.prog.wantsStandIn 5 = false by kernel_rfl)
  · exact (show Tryz.prog.wantsStandIn 4 = false by kernel_rfl)

theorem card_wf : Rows.emitDeepRow.wfByText (OpenSpec.ofChange Rows.emitDeepSpec) = true := by kernel_rfl
theorem card_main : Tryz.prog.mainIs = some (true, "b77e94884bab60c4518f721915ecafc61adf2549829e2e2f6e7a61cecb88b1dd".toList) := by kernel_rfl
theorem card_goes : false = Rows.emitDeepRow.goesBy Tryz.prog := by kernel_rfl

/-- THE CARD. -/
theorem card : Rows.EmitDeepCardSaid :=
  Claim7.holds_tied_plain_at .later [] _ _ _ _ said (fun _ h => by cases h) card_wf (fun _ h => by cases h) emitDeep_row_tie rfl ⟨rfl, rfl⟩ card_main rfl plain card_goes
#print axioms card
end Go.Proofs.YteemapgpedcbkaaGreatDoor
end
