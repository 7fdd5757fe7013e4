/- The statement's body, evaluated: lists and maps, anchors without, from 45 to 57. -/
import Derived.Test.YteemapgpedcbkaaGreatDoorAlive
import Derived.KernelRfl
set_option maxRecDepth 1000000
set_option linter.unusedVariables false
noncomputable section
namespace Go.Ab
open Go.Proofs
theorem ec44 : evs (evB true false) 1 44 = true := by kernel_rfl
theorem ec45 : evs (evB true false) 1 45 = true := by kernel_rfl
theorem ec46 : evs (evB true false) 1 46 = true := by kernel_rfl
theorem ec47 : evs (evB true false) 1 47 = true := by kernel_rfl
theorem ec48 : evs (evB true false) 1 48 = true := by kernel_rfl
theorem ec49 : evs (evB true false) 1 49 = true := by kernel_rfl
theorem ec50 : evs (evB true false) 1 50 = true := by kernel_rfl
theorem ec51 : evs (evB true false) 1 51 = true := by kernel_rfl
theorem ec52 : evs (evB true false) 1 52 = true := by kernel_rfl
theorem ec53 : evs (evB true false) 1 53 = true := by kernel_rfl
theorem ec54 : evs (evB true false) 1 54 = true := by kernel_rfl
theorem ec55 : evs (evB true false) 1 55 = true := by kernel_rfl
theorem ec56 : evs (evB true false) 1 56 = true := by kernel_rfl
end Go.Ab
end
