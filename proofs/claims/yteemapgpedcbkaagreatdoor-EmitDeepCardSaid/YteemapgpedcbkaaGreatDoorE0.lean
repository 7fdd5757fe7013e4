/- The statement's body, evaluated: lists alone, anchors without, from 1 to 44. -/
import Derived.Test.YteemapgpedcbkaaGreatDoorAlive
import Derived.KernelRfl
set_option maxRecDepth 1000000
set_option linter.unusedVariables false
noncomputable section
namespace Go.Ab
open Go.Proofs
theorem ea0 : evs (evB false false) 8 0 = true := by kernel_rfl
theorem ea8 : evs (evB false false) 4 8 = true := by kernel_rfl
theorem ea12 : evs (evB false false) 4 12 = true := by kernel_rfl
theorem ea16 : evs (evB false false) 2 16 = true := by kernel_rfl
theorem ea18 : evs (evB false false) 2 18 = true := by kernel_rfl
theorem ea20 : evs (evB false false) 2 20 = true := by kernel_rfl
theorem ea22 : evs (evB false false) 2 22 = true := by kernel_rfl
theorem ea24 : evs (evB false false) 1 24 = true := by kernel_rfl
theorem ea25 : evs (evB false false) 1 25 = true := by kernel_rfl
theorem ea26 : evs (evB false false) 1 26 = true := by kernel_rfl
theorem ea27 : evs (evB false false) 1 27 = true := by kernel_rfl
theorem ea28 : evs (evB false false) 1 28 = true := by kernel_rfl
theorem ea29 : evs (evB false false) 1 29 = true := by kernel_rfl
theorem ea30 : evs (evB false false) 1 30 = true := by kernel_rfl
theorem ea31 : evs (evB false false) 1 31 = true := by kernel_rfl
theorem ea32 : evs (evB false false) 1 32 = true := by kernel_rfl
theorem ea33 : evs (evB false false) 1 33 = true := by kernel_rfl
theorem ea34 : evs (evB false false) 1 34 = true := by kernel_rfl
theorem ea35 : evs (evB false false) 1 35 = true := by kernel_rfl
theorem ea36 : evs (evB false false) 1 36 = true := by kernel_rfl
theorem ea37 : evs (evB false false) 1 37 = true := by kernel_rfl
theorem ea38 : evs (evB false false) 1 38 = true := by kernel_rfl
theorem ea39 : evs (evB false false) 1 39 = true := by kernel_rfl
theorem ea40 : evs (evB false false) 1 40 = true := by kernel_rfl
theorem ea41 : evs (evB false false) 1 41 = true := by kernel_rfl
theorem ea42 : evs (evB false false) 1 42 = true := by kernel_rfl
theorem ea43 : evs (evB false false) 1 43 = true := by kernel_rfl
end Go.Ab
end
