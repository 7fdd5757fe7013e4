/- The statement's body, evaluated: lists and maps, anchors without, from 58 to 64. -/
import Derived.Test.YteemapgpedcbkaaGreatDoorAlive
import Derived.KernelRfl
set_option maxRecDepth 1000000
set_option linter.unusedVariables false
noncomputable section
namespace Go.Ab
open Go.Proofs
theorem ec57 : evs (evB true false) 1 57 = true := by kernel_rfl
theorem ec58 : evs (evB true false) 1 58 = true := by kernel_rfl
theorem ec59 : evs (evB true false) 1 59 = true := by kernel_rfl
theorem ec60 : evs (evB true false) 1 60 = true := by kernel_rfl
theorem ec61 : evs (evB true false) 1 61 = true := by kernel_rfl
theorem ec62 : evs (evB true false) 1 62 = true := by kernel_rfl
theorem ec63 : evs (evB true false) 1 63 = true := by kernel_rfl
end Go.Ab
end
