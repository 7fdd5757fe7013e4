/- The statement's body, evaluated: lists and maps, anchors with, from 60 to 64. -/
import Derived.Test.YteemapgpedcbkaaGreatDoorAlive
import Derived.KernelRfl
set_option maxRecDepth 1000000
set_option linter.unusedVariables false
noncomputable section
namespace Go.Ab
open Go.Proofs
theorem ed59 : evs (evB true true) 1 59 = true := by kernel_rfl
theorem ed60 : evs (evB true true) 1 60 = true := by kernel_rfl
theorem ed61 : evs (evB true true) 1 61 = true := by kernel_rfl
theorem ed62 : evs (evB true true) 1 62 = true := by kernel_rfl
theorem ed63 : evs (evB true true) 1 63 = true := by kernel_rfl
end Go.Ab
end
