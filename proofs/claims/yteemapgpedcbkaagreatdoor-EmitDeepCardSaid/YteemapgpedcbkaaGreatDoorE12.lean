/- The statement's body, evaluated: lists and maps, anchors with, from 45 to 53. -/
import Derived.Test.YteemapgpedcbkaaGreatDoorAlive
import Derived.KernelRfl
set_option maxRecDepth 1000000
set_option linter.unusedVariables false
noncomputable section
namespace Go.Ab
open Go.Proofs
theorem ed44 : evs (evB true true) 1 44 = true := by kernel_rfl
theorem ed45 : evs (evB true true) 1 45 = true := by kernel_rfl
theorem ed46 : evs (evB true true) 1 46 = true := by kernel_rfl
theorem ed47 : evs (evB true true) 1 47 = true := by kernel_rfl
theorem ed48 : evs (evB true true) 1 48 = true := by kernel_rfl
theorem ed49 : evs (evB true true) 1 49 = true := by kernel_rfl
theorem ed50 : evs (evB true true) 1 50 = true := by kernel_rfl
theorem ed51 : evs (evB true true) 1 51 = true := by kernel_rfl
theorem ed52 : evs (evB true true) 1 52 = true := by kernel_rfl
end Go.Ab
end
