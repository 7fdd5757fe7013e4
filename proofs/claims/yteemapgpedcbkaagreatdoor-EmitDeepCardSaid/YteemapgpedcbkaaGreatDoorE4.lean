/- The statement's body, evaluated: lists alone, anchors with, from 37 to 48. -/
import Derived.Test.YteemapgpedcbkaaGreatDoorAlive
import Derived.KernelRfl
set_option maxRecDepth 1000000
set_option linter.unusedVariables false
noncomputable section
namespace Go.Ab
open Go.Proofs
theorem eb36 : evs (evB false true) 1 36 = true := by kernel_rfl
theorem eb37 : evs (evB false true) 1 37 = true := by kernel_rfl
theorem eb38 : evs (evB false true) 1 38 = true := by kernel_rfl
theorem eb39 : evs (evB false true) 1 39 = true := by kernel_rfl
theorem eb40 : evs (evB false true) 1 40 = true := by kernel_rfl
theorem eb41 : evs (evB false true) 1 41 = true := by kernel_rfl
theorem eb42 : evs (evB false true) 1 42 = true := by kernel_rfl
theorem eb43 : evs (evB false true) 1 43 = true := by kernel_rfl
theorem eb44 : evs (evB false true) 1 44 = true := by kernel_rfl
theorem eb45 : evs (evB false true) 1 45 = true := by kernel_rfl
theorem eb46 : evs (evB false true) 1 46 = true := by kernel_rfl
theorem eb47 : evs (evB false true) 1 47 = true := by kernel_rfl
end Go.Ab
end
