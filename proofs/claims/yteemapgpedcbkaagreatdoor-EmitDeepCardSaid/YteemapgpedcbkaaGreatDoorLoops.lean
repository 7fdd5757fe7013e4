/- Functions with loops over functions. -/
import Derived.Test.YteemapgpedcbkaaGreatDoorSeat
set_option maxRecDepth 1000000
set_option linter.unusedVariables false
set_option linter.unusedSectionVars false
set_option linter.unusedSimpArgs false
noncomputable section
namespace Go.Ab
open Go.Proofs
def c10 : CC := .seq (.reg [⟨(some 2), none, .op (oAl 22 false 1 .zsl)⟩, ⟨(some 3), none, .op (oAl 29 true 2 (.agg [(.int .i64 0), (.int .i64 0)]))⟩])
  (.seq (.reg [⟨(some 15), none, .op (oMv (.t 0))⟩, ⟨(some 16), none, .call 22 [(.t 15)]⟩, ⟨(some 14), none, .op (oMv (.t 16))⟩, ⟨(some 17), none, .op (oEx (.t 14) 0)⟩, ⟨(some 18), none, .op (oEx (.t 14) 1)⟩, ⟨(some 4), none, .op (oAl 35 false 1 .zsl)⟩, ⟨(some 5), none, .op (oAl 29 true 2 (.agg [(.int .i64 0), (.int .i64 0)]))⟩, ⟨none, none, .op (oSt false 1 (.t 4) (.t 17))⟩, ⟨none, none, .op (oSt true 2 (.t 5) (.t 18))⟩])
  (.seq (.seq (.reg [⟨(some 19), none, .op (oLd true 2 (.t 5))⟩, ⟨(some 20), none, .op (oBd [some (0, false, 1), some (1, false, 1)] (.agg [(.int .i64 0), (.int .i64 0)]) [])⟩, ⟨(some 21), none, .op (oBn 0 (some [.int .i64, .int .i64]) .neq false (.t 19) (.t 20))⟩])
  (.cond (.t 21)
   (.seq (.drw [0, 0, 3] [⟨0, 1, ⟨(some 22), none, .op (oLd true 2 (.t 5))⟩⟩, ⟨1, 2, ⟨none, none, .op (oSt false 1 (.t 2) (.c .zsl))⟩⟩, ⟨2, 2, ⟨none, none, .op (oSt true 2 (.t 3) (.t 22))⟩⟩])
   (.ret))
   (.skip)))
  (.seq (.reg [⟨(some 6), none, .op (oAl 67 false 1 .zsl)⟩])
  (.seq (.seq (.reg [⟨(some 23), none, .op (oLd false 1 (.t 4))⟩, ⟨(some 24), none, .call 23 [(.t 23)]⟩])
  (.block 0 (.range 63 (.t 24) 10)))
  (.seq (.reg [⟨(some 9), none, .op (oMv (.c .zsl))⟩])
  (.seq (.seq (.reg [⟨(some 41), none, .op (oLd false 1 (.t 6))⟩, ⟨(some 42), none, .op (oLen 1 (.t 41))⟩, ⟨(some 43), none, .op (oMv (.c (.int .i64 0)))⟩])
  (.block 2 (.loop (.seq (.reg [⟨(some 44), none, .op (oBn 0 none .lss false (.t 43) (.t 42))⟩])
  (.seq (.cond (.t 44)
   (.skip)
   (.exit 2))
  (.seq (.block 3 (.seq (.reg [⟨(some 45), none, .op (oIa 1 (.t 41) (.t 43))⟩, ⟨(some 46), none, .op (oLd false 1 (.t 45))⟩, ⟨(some 11), none, .op (oMv (.t 46))⟩])
  (.seq (.reg [⟨(some 48), none, .op (oMv (.t 11))⟩, ⟨(some 49), none, .call 24 [(.t 48)]⟩, ⟨(some 47), none, .op (oMv (.t 49))⟩, ⟨(some 50), none, .op (oEx (.t 47) 0)⟩, ⟨(some 51), none, .op (oEx (.t 47) 1)⟩, ⟨(some 12), none, .op (oAl 24 true 4 (.agg [(.int .i64 0), (.str []), (.str []), .zsl]))⟩, ⟨(some 13), none, .op (oAl 29 true 2 (.agg [(.int .i64 0), (.int .i64 0)]))⟩, ⟨none, none, .op (oSt true 4 (.t 12) (.t 50))⟩, ⟨none, none, .op (oSt true 2 (.t 13) (.t 51))⟩])
  (.seq (.seq (.reg [⟨(some 52), none, .op (oLd true 2 (.t 13))⟩, ⟨(some 53), none, .op (oBd [some (0, false, 1), some (1, false, 1)] (.agg [(.int .i64 0), (.int .i64 0)]) [])⟩, ⟨(some 54), none, .op (oBn 0 (some [.int .i64, .int .i64]) .neq false (.t 52) (.t 53))⟩])
  (.cond (.t 54)
   (.seq (.drw [0, 0, 3] [⟨0, 1, ⟨(some 55), none, .op (oLd true 2 (.t 13))⟩⟩, ⟨1, 2, ⟨none, none, .op (oSt false 1 (.t 2) (.c .zsl))⟩⟩, ⟨2, 2, ⟨none, none, .op (oSt true 2 (.t 3) (.t 55))⟩⟩])
   (.ret))
   (.skip)))
  (.reg [⟨(some 56), none, .op (oMv (.t 9))⟩, ⟨(some 57), none, .op (oLd true 4 (.t 12))⟩, ⟨(some 58), none, .op (oBs 24 true 4 1 [(0, (.t 57))])⟩, ⟨(some 59), none, .op (oOr (oAp 24 true 4 64 (.agg [(.int .i64 0), (.str []), (.str []), .zsl]) (.t 56) (.t 58)) (oAi 24 4 64 (.t 56) (.t 58)))⟩, ⟨(some 9), none, .op (oMv (.t 59))⟩])))))
  (.reg [⟨(some 60), none, .op (oBn 0 none .add true (.t 43) (.c (.int .i64 1)))⟩, ⟨(some 43), none, .op (oMv (.t 60))⟩])))))))
  (.seq (.reg [⟨(some 61), none, .op (oMv (.t 9))⟩, ⟨(some 62), none, .op (oBd [some (0, false, 1), some (1, false, 1)] (.agg [(.int .i64 0), (.int .i64 0)]) [])⟩, ⟨none, none, .op (oSt false 1 (.t 2) (.t 61))⟩, ⟨none, none, .op (oSt true 2 (.t 3) (.t 62))⟩])
  (.ret))))))))
def d10 : List RV := [.cell 2 false 1, .cell 3 true 2]
theorem k10 : FnOk Tryz.prog 10 (.code 63 c10 d10) := fe1 10 Tryz.func10 rfl (by kernel_rfl) (by kernel_rfl) (by kernel_rfl) (by kernel_rfl) rfl rfl
def c41 : CC := .seq (.reg [⟨(some 2), none, .op (oMv (.c .zsl))⟩])
  (.seq (.reg [⟨(some 3), none, .op (oAl 83 false 1 .zsl)⟩])
  (.seq (.seq (.reg [⟨(some 7), none, .op (oMv (.t 0))⟩, ⟨(some 8), none, .call 71 [(.t 7)]⟩])
  (.block 0 (.range 23 (.t 8) 41)))
  (.seq (.reg [⟨(some 22), none, .op (oLd false 1 (.t 3))⟩, ⟨(some 2), none, .op (oMv (.t 22))⟩])
  (.ret))))
def d41 : List RV := [.t 2]
theorem k41 : FnOk Tryz.prog 41 (.code 23 c41 d41) := fe1 41 Tryz.func41 rfl (by kernel_rfl) (by kernel_rfl) (by kernel_rfl) (by kernel_rfl) rfl rfl
def p10 : List Nat := [25, 26]
def x10 : CC := .seq (.reg [⟨(some 7), none, .op (oMv (.t 25))⟩])
  (.reg [⟨(some 8), none, .op (oMv (.t 26))⟩])
def y10 : CC := .block 1 (.seq (.seq (.reg [⟨(some 27), none, .op (oLd false 1 (.t 6))⟩, ⟨(some 28), none, .op (oLen 1 (.t 27))⟩, ⟨(some 29), none, .op (oBn 0 none .eql true (.t 28) (.c (.int .i64 64)))⟩])
  (.cond (.t 29)
   (.seq (.drw [0, 0, 2, 7, 15, 31, 63, 0, 255] [⟨0, 1, ⟨(some 30), none, .op (oLd false 1 (.t 4))⟩⟩, ⟨1, 0, ⟨(some 31), none, .op (oMv (.t 7))⟩⟩, ⟨2, 0, ⟨(some 32), none, .op (oBn 0 none .sub true (.t 31) (.c (.int .i64 1)))⟩⟩, ⟨3, 1, ⟨(some 33), none, .op (oIa 3 (.t 30) (.t 32))⟩⟩, ⟨4, 0, ⟨(some 34), none, .op (oFa 2 (.t 33))⟩⟩, ⟨5, 1, ⟨(some 35), none, .op (oLd false 1 (.t 34))⟩⟩, ⟨6, 0, ⟨(some 36), none, .op (oBd [some (0, false, 1), some (1, false, 1)] (.agg [(.int .i64 0), (.int .i64 0)]) [(0, (.c (.int .i64 5))), (1, (.t 35))])⟩⟩, ⟨7, 2, ⟨none, none, .op (oSt false 1 (.t 2) (.c .zsl))⟩⟩, ⟨8, 2, ⟨none, none, .op (oSt true 2 (.t 3) (.t 36))⟩⟩])
   (.ret))
   (.skip)))
  (.reg [⟨(some 37), none, .op (oLd false 1 (.t 6))⟩, ⟨(some 38), none, .op (oMv (.t 8))⟩, ⟨(some 39), none, .op (oBs 35 false 1 1 [(0, (.t 38))])⟩, ⟨(some 40), none, .op (oOr (oAp 35 false 1 24 .zsl (.t 37) (.t 39)) (oAi 35 1 24 (.t 37) (.t 39)))⟩, ⟨none, none, .op (oSt false 1 (.t 6) (.t 40))⟩]))
def p41 : List Nat := [9]
def x41 : CC := .reg [⟨(some 4), none, .op (oMv (.t 9))⟩]
def y41 : CC := .block 1 (.seq (.seq (.reg [⟨(some 11), none, .op (oMv (.t 4))⟩, ⟨(some 12), none, .call 72 [(.t 11), (.c (.str [10]))]⟩, ⟨(some 10), none, .op (oMv (.t 12))⟩, ⟨(some 13), none, .op (oEx (.t 10) 0)⟩, ⟨(some 14), none, .op (oEx (.t 10) 1)⟩, ⟨(some 5), none, .op (oMv (.t 13))⟩, ⟨(some 6), none, .op (oMv (.t 14))⟩])
  (.seq (.reg [⟨(some 15), none, .op (oMv (.t 6))⟩])
  (.cond (.t 15)
   (.reg [⟨(some 16), none, .op (oMv (.t 5))⟩, ⟨(some 17), none, .call 73 [(.t 16), (.c (.str [13]))]⟩, ⟨(some 4), none, .op (oMv (.t 17))⟩])
   (.skip))))
  (.reg [⟨(some 18), none, .op (oLd false 1 (.t 3))⟩, ⟨(some 19), none, .op (oMv (.t 4))⟩, ⟨(some 20), none, .op (oBs 9 false 1 1 [(0, (.t 19))])⟩, ⟨(some 21), none, .op (oOr (oAp 9 false 1 16 (.str []) (.t 18) (.t 20)) (oAi 9 1 16 (.t 18) (.t 20)))⟩, ⟨none, none, .op (oSt false 1 (.t 3) (.t 21))⟩]))

end Go.Ab
end
