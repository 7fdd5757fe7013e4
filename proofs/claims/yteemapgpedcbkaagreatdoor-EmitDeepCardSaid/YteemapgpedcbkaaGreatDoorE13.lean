/- The statement's body, evaluated: lists and maps, anchors with, from 54 to 59. -/
import Derived.Test.YteemapgpedcbkaaGreatDoorAlive
import Derived.KernelRfl
set_option maxRecDepth 1000000
set_option linter.unusedVariables false
noncomputable section
namespace Go.Ab
open Go.Proofs
theorem ed53 : evs (evB true true) 1 53 = true := by kernel_rfl
theorem ed54 : evs (evB true true) 1 54 = true := by kernel_rfl
theorem ed55 : evs (evB true true) 1 55 = true := by kernel_rfl
theorem ed56 : evs (evB true true) 1 56 = true := by kernel_rfl
theorem ed57 : evs (evB true true) 1 57 = true := by kernel_rfl
theorem ed58 : evs (evB true true) 1 58 = true := by kernel_rfl
end Go.Ab
end
