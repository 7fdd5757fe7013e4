/- The statement's body, evaluated: lists alone, anchors with, from 58 to 64. -/
import Derived.Test.YteemapgpedcbkaaGreatDoorAlive
import Derived.KernelRfl
set_option maxRecDepth 1000000
set_option linter.unusedVariables false
noncomputable section
namespace Go.Ab
open Go.Proofs
theorem eb57 : evs (evB false true) 1 57 = true := by kernel_rfl
theorem eb58 : evs (evB false true) 1 58 = true := by kernel_rfl
theorem eb59 : evs (evB false true) 1 59 = true := by kernel_rfl
theorem eb60 : evs (evB false true) 1 60 = true := by kernel_rfl
theorem eb61 : evs (evB false true) 1 61 = true := by kernel_rfl
theorem eb62 : evs (evB false true) 1 62 = true := by kernel_rfl
theorem eb63 : evs (evB false true) 1 63 = true := by kernel_rfl
end Go.Ab
end
