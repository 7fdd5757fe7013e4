/- The statement's body, evaluated: lists and maps, anchors without, from 1 to 44. -/
import Derived.Test.YteemapgpedcbkaaGreatDoorAlive
import Derived.KernelRfl
set_option maxRecDepth 1000000
set_option linter.unusedVariables false
noncomputable section
namespace Go.Ab
open Go.Proofs
theorem ec0 : evs (evB true false) 8 0 = true := by kernel_rfl
theorem ec8 : evs (evB true false) 4 8 = true := by kernel_rfl
theorem ec12 : evs (evB true false) 4 12 = true := by kernel_rfl
theorem ec16 : evs (evB true false) 2 16 = true := by kernel_rfl
theorem ec18 : evs (evB true false) 2 18 = true := by kernel_rfl
theorem ec20 : evs (evB true false) 2 20 = true := by kernel_rfl
theorem ec22 : evs (evB true false) 2 22 = true := by kernel_rfl
theorem ec24 : evs (evB true false) 1 24 = true := by kernel_rfl
theorem ec25 : evs (evB true false) 1 25 = true := by kernel_rfl
theorem ec26 : evs (evB true false) 1 26 = true := by kernel_rfl
theorem ec27 : evs (evB true false) 1 27 = true := by kernel_rfl
theorem ec28 : evs (evB true false) 1 28 = true := by kernel_rfl
theorem ec29 : evs (evB true false) 1 29 = true := by kernel_rfl
theorem ec30 : evs (evB true false) 1 30 = true := by kernel_rfl
theorem ec31 : evs (evB true false) 1 31 = true := by kernel_rfl
theorem ec32 : evs (evB true false) 1 32 = true := by kernel_rfl
theorem ec33 : evs (evB true false) 1 33 = true := by kernel_rfl
theorem ec34 : evs (evB true false) 1 34 = true := by kernel_rfl
theorem ec35 : evs (evB true false) 1 35 = true := by kernel_rfl
theorem ec36 : evs (evB true false) 1 36 = true := by kernel_rfl
theorem ec37 : evs (evB true false) 1 37 = true := by kernel_rfl
theorem ec38 : evs (evB true false) 1 38 = true := by kernel_rfl
theorem ec39 : evs (evB true false) 1 39 = true := by kernel_rfl
theorem ec40 : evs (evB true false) 1 40 = true := by kernel_rfl
theorem ec41 : evs (evB true false) 1 41 = true := by kernel_rfl
theorem ec42 : evs (evB true false) 1 42 = true := by kernel_rfl
theorem ec43 : evs (evB true false) 1 43 = true := by kernel_rfl
end Go.Ab
end
