/- The statement's body, evaluated: lists alone, anchors without, from 45 to 58. -/
import Derived.Test.YteemapgpedcbkaaGreatDoorAlive
import Derived.KernelRfl
set_option maxRecDepth 1000000
set_option linter.unusedVariables false
noncomputable section
namespace Go.Ab
open Go.Proofs
theorem ea44 : evs (evB false false) 1 44 = true := by kernel_rfl
theorem ea45 : evs (evB false false) 1 45 = true := by kernel_rfl
theorem ea46 : evs (evB false false) 1 46 = true := by kernel_rfl
theorem ea47 : evs (evB false false) 1 47 = true := by kernel_rfl
theorem ea48 : evs (evB false false) 1 48 = true := by kernel_rfl
theorem ea49 : evs (evB false false) 1 49 = true := by kernel_rfl
theorem ea50 : evs (evB false false) 1 50 = true := by kernel_rfl
theorem ea51 : evs (evB false false) 1 51 = true := by kernel_rfl
theorem ea52 : evs (evB false false) 1 52 = true := by kernel_rfl
theorem ea53 : evs (evB false false) 1 53 = true := by kernel_rfl
theorem ea54 : evs (evB false false) 1 54 = true := by kernel_rfl
theorem ea55 : evs (evB false false) 1 55 = true := by kernel_rfl
theorem ea56 : evs (evB false false) 1 56 = true := by kernel_rfl
theorem ea57 : evs (evB false false) 1 57 = true := by kernel_rfl
end Go.Ab
end
