/- The statement's body, evaluated: lists and maps, anchors with, from 33 to 44. -/
import Derived.Test.YteemapgpedcbkaaGreatDoorAlive
import Derived.KernelRfl
set_option maxRecDepth 1000000
set_option linter.unusedVariables false
noncomputable section
namespace Go.Ab
open Go.Proofs
theorem ed32 : evs (evB true true) 1 32 = true := by kernel_rfl
theorem ed33 : evs (evB true true) 1 33 = true := by kernel_rfl
theorem ed34 : evs (evB true true) 1 34 = true := by kernel_rfl
theorem ed35 : evs (evB true true) 1 35 = true := by kernel_rfl
theorem ed36 : evs (evB true true) 1 36 = true := by kernel_rfl
theorem ed37 : evs (evB true true) 1 37 = true := by kernel_rfl
theorem ed38 : evs (evB true true) 1 38 = true := by kernel_rfl
theorem ed39 : evs (evB true true) 1 39 = true := by kernel_rfl
theorem ed40 : evs (evB true true) 1 40 = true := by kernel_rfl
theorem ed41 : evs (evB true true) 1 41 = true := by kernel_rfl
theorem ed42 : evs (evB true true) 1 42 = true := by kernel_rfl
theorem ed43 : evs (evB true true) 1 43 = true := by kernel_rfl
end Go.Ab
end
