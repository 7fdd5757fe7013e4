/- The statement's body, evaluated: lists and maps, anchors with, from 1 to 32. -/
import Derived.Test.YteemapgpedcbkaaGreatDoorAlive
import Derived.KernelRfl
set_option maxRecDepth 1000000
set_option linter.unusedVariables false
noncomputable section
namespace Go.Ab
open Go.Proofs
theorem ed0 : evs (evB true true) 8 0 = true := by kernel_rfl
theorem ed8 : evs (evB true true) 4 8 = true := by kernel_rfl
theorem ed12 : evs (evB true true) 4 12 = true := by kernel_rfl
theorem ed16 : evs (evB true true) 2 16 = true := by kernel_rfl
theorem ed18 : evs (evB true true) 2 18 = true := by kernel_rfl
theorem ed20 : evs (evB true true) 2 20 = true := by kernel_rfl
theorem ed22 : evs (evB true true) 2 22 = true := by kernel_rfl
theorem ed24 : evs (evB true true) 1 24 = true := by kernel_rfl
theorem ed25 : evs (evB true true) 1 25 = true := by kernel_rfl
theorem ed26 : evs (evB true true) 1 26 = true := by kernel_rfl
theorem ed27 : evs (evB true true) 1 27 = true := by kernel_rfl
theorem ed28 : evs (evB true true) 1 28 = true := by kernel_rfl
theorem ed29 : evs (evB true true) 1 29 = true := by kernel_rfl
theorem ed30 : evs (evB true true) 1 30 = true := by kernel_rfl
theorem ed31 : evs (evB true true) 1 31 = true := by kernel_rfl
end Go.Ab
end
