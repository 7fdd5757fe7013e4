/- The statement's body, evaluated: lists alone, anchors without, from 59 to 64. -/
import Derived.Test.YteemapgpedcbkaaGreatDoorAlive
import Derived.KernelRfl
set_option maxRecDepth 1000000
set_option linter.unusedVariables false
noncomputable section
namespace Go.Ab
open Go.Proofs
theorem ea58 : evs (evB false false) 1 58 = true := by kernel_rfl
theorem ea59 : evs (evB false false) 1 59 = true := by kernel_rfl
theorem ea60 : evs (evB false false) 1 60 = true := by kernel_rfl
theorem ea61 : evs (evB false false) 1 61 = true := by kernel_rfl
theorem ea62 : evs (evB false false) 1 62 = true := by kernel_rfl
theorem ea63 : evs (evB false false) 1 63 = true := by kernel_rfl
end Go.Ab
end
