/- The statement's body, evaluated: lists alone, anchors with, from 1 to 36. -/
import Derived.Test.YteemapgpedcbkaaGreatDoorAlive
import Derived.KernelRfl
set_option maxRecDepth 1000000
set_option linter.unusedVariables false
noncomputable section
namespace Go.Ab
open Go.Proofs
theorem eb0 : evs (evB false true) 8 0 = true := by kernel_rfl
theorem eb8 : evs (evB false true) 4 8 = true := by kernel_rfl
theorem eb12 : evs (evB false true) 4 12 = true := by kernel_rfl
theorem eb16 : evs (evB false true) 2 16 = true := by kernel_rfl
theorem eb18 : evs (evB false true) 2 18 = true := by kernel_rfl
theorem eb20 : evs (evB false true) 2 20 = true := by kernel_rfl
theorem eb22 : evs (evB false true) 2 22 = true := by kernel_rfl
theorem eb24 : evs (evB false true) 1 24 = true := by kernel_rfl
theorem eb25 : evs (evB false true) 1 25 = true := by kernel_rfl
theorem eb26 : evs (evB false true) 1 26 = true := by kernel_rfl
theorem eb27 : evs (evB false true) 1 27 = true := by kernel_rfl
theorem eb28 : evs (evB false true) 1 28 = true := by kernel_rfl
theorem eb29 : evs (evB false true) 1 29 = true := by kernel_rfl
theorem eb30 : evs (evB false true) 1 30 = true := by kernel_rfl
theorem eb31 : evs (evB false true) 1 31 = true := by kernel_rfl
theorem eb32 : evs (evB false true) 1 32 = true := by kernel_rfl
theorem eb33 : evs (evB false true) 1 33 = true := by kernel_rfl
theorem eb34 : evs (evB false true) 1 34 = true := by kernel_rfl
theorem eb35 : evs (evB false true) 1 35 = true := by kernel_rfl
end Go.Ab
end
