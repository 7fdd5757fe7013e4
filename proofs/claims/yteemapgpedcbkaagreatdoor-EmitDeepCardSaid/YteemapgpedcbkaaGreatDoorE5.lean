/- The statement's body, evaluated: lists alone, anchors with, from 49 to 57. -/
import Derived.Test.YteemapgpedcbkaaGreatDoorAlive
import Derived.KernelRfl
set_option maxRecDepth 1000000
set_option linter.unusedVariables false
noncomputable section
namespace Go.Ab
open Go.Proofs
theorem eb48 : evs (evB false true) 1 48 = true := by kernel_rfl
theorem eb49 : evs (evB false true) 1 49 = true := by kernel_rfl
theorem eb50 : evs (evB false true) 1 50 = true := by kernel_rfl
theorem eb51 : evs (evB false true) 1 51 = true := by kernel_rfl
theorem eb52 : evs (evB false true) 1 52 = true := by kernel_rfl
theorem eb53 : evs (evB false true) 1 53 = true := by kernel_rfl
theorem eb54 : evs (evB false true) 1 54 = true := by kernel_rfl
theorem eb55 : evs (evB false true) 1 55 = true := by kernel_rfl
theorem eb56 : evs (evB false true) 1 56 = true := by kernel_rfl
end Go.Ab
end
