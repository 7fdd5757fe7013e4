/- The program's functions, staged, part 2. -/
import Derived.Test.YteemapgpedcbkaaGreatDoorSeat
set_option maxRecDepth 1000000
set_option linter.unusedVariables false
set_option linter.unusedSectionVars false
set_option linter.unusedSimpArgs false
noncomputable section
namespace Go.Ab
open Go.Proofs
def d109 : List RV := [.t 4]
noncomputable def s109 : Call → List V → HP → RB := fun call l H => unc l fun a0 l0 => unc l0 fun a1 l1 => nilK l1 (
 jn (fun J0 =>
 bnd (eqT a0 (.str []) H) fun x1 h2 =>
 jv (fun J3 => gdN x1 (J3 a0 h2) (J3 u0 h2)) fun x4 h5 =>
 jv (fun J6 => gdN x1 (bnd (eqT x4 (.str [45, 45, 45]) h5) J6) (J6 u0 h5)) fun x7 h8 =>
 bnd (pkF x1 (.bool true) x7 h8) fun x9 h10 =>
 jv (fun J11 => gdN x9 (J11 a0 h10) (J11 u0 h10)) fun x12 h13 =>
 jv (fun J14 => gdN x9 (bnd (call (.f 106) [x12, (.str [32])] h13) J14) (J14 u0 h13)) fun x15 h16 =>
 jv (fun J17 => gdN x9 (J17 a0 h16) (J17 u0 h16)) fun x18 h19 =>
 jv (fun J20 => gdN x9 (bnd (neT x15 x18 h19) J20) (J20 u0 h19)) fun x21 h22 =>
 bnd (pkF x9 (.bool true) x21 h22) fun x23 h24 =>
 jv (fun J25 => gdN x23 (J25 a0 h24) (J25 u0 h24)) fun x26 h27 =>
 jv (fun J28 => gdN x23 (bnd (call (.f 42) [x26] h27) J28) (J28 u0 h27)) fun x29 h30 =>
 jv (fun J31 => gdN x23 (bnd (bdF [some (0, false, 1), some (1, false, 1)] (.agg [(.int .i64 0), (.int .i64 0)]) [] h30) J31) (J31 u0 h30)) fun x32 h33 =>
 jv (fun J34 => gdN x23 (bnd (binB 0 (some [.int .i64, .int .i64]) .neq false x29 x32 h33) J34) (J34 u0 h33)) fun x35 h36 =>
 bnd (pkF x23 (.bool true) x35 h36) fun x37 h38 =>
 cnd x37
 (some ((.bool false), h38))
 (jn (fun J39 =>
 bnd (ixF a0 (.int .i64 0) h38) fun x40 h41 =>
 bnd (call (.f 43) [(.str [63, 58, 44, 91, 93, 123, 125, 35, 38, 42, 33, 124, 62, 39, 34, 37, 64, 96]), x40] h41) fun x42 h43 =>
 bnd (geF x42 (.int .i64 0) h43) fun x44 h45 =>
 cnd x44
 (J39 [a0, x40, x42, x44, u0, u0, u0, u0, u0, u0, u0, u0, u0, x44] h45)
 (bnd (ixF a0 (.int .i64 0) h45) fun x46 h47 =>
 bnd (eqF x46 (.int .u8 45) h47) fun x48 h49 =>
 jv (fun J50 => gdT x48 (J50 a0 h49) (J50 u0 h49)) fun x51 h52 =>
 jv (fun J53 => gdT x48 (bnd (slT1 x51 (.int .i64 1) h52) J53) (J53 u0 h52)) fun x54 h55 =>
 jv (fun J56 => gdT x48 (J56 a1 h55) (J56 u0 h55)) fun x57 h58 =>
 jv (fun J59 => gdT x48 (bnd (call (.f 141) [x54, x57] h58) J59) (J59 u0 h58)) fun x60 h61 =>
 bnd (pkF x48 x60 (.bool false) h61) fun x62 h63 =>
 J39 [a0, x40, x42, x44, a0, x46, x48, x48, x51, x54, x57, x60, x62, x62] h63)) fun c64 h65 =>
 cnd (nthV c64 13)
 (some ((.bool false), h65))
 (bnd (call (.f 106) [a0, (.str [9, 10, 13])] h65) fun x66 h67 =>
 bnd (neT x66 a0 h67) fun x68 h69 =>
 jv (fun J70 => gdN x68 (J70 a0 h69) (J70 u0 h69)) fun x71 h72 =>
 jv (fun J73 => gdN x68 (bnd (call (.f 43) [x71, (.int .u8 9)] h72) J73) (J73 u0 h72)) fun x74 h75 =>
 jv (fun J76 => gdN x68 (bnd (geF x74 (.int .i64 0) h75) J76) (J76 u0 h75)) fun x77 h78 =>
 bnd (pkF x68 (.bool true) x77 h78) fun x79 h80 =>
 jv (fun J81 => gdN x79 (J81 a0 h80) (J81 u0 h80)) fun x82 h83 =>
 jv (fun J84 => gdN x79 (bnd (call (.f 43) [x82, (.int .u8 10)] h83) J84) (J84 u0 h83)) fun x85 h86 =>
 jv (fun J87 => gdN x79 (bnd (geF x85 (.int .i64 0) h86) J87) (J87 u0 h86)) fun x88 h89 =>
 bnd (pkF x79 (.bool true) x88 h89) fun x90 h91 =>
 jv (fun J92 => gdN x90 (J92 a0 h91) (J92 u0 h91)) fun x93 h94 =>
 jv (fun J95 => gdN x90 (bnd (call (.f 43) [x93, (.int .u8 13)] h94) J95) (J95 u0 h94)) fun x96 h97 =>
 jv (fun J98 => gdN x90 (bnd (geF x96 (.int .i64 0) h97) J98) (J98 u0 h97)) fun x99 h100 =>
 bnd (pkF x90 (.bool true) x99 h100) fun x101 h102 =>
 cnd x101
 (some ((.bool false), h102))
 (J0 [a0, x1, x1, x4, x7, x9, x9, x12, x15, x18, x21, x23, x23, x26, x29, x32, x35, x37, x37, (nthV c64 0), (nthV c64 1), (nthV c64 2), (nthV c64 3), (nthV c64 4), (nthV c64 5), (nthV c64 6), (nthV c64 7), (nthV c64 8), (nthV c64 9), (nthV c64 10), (nthV c64 11), (nthV c64 12), (nthV c64 13), a0, x66, a0, x68, x68, x71, x74, x77, x79, x79, x82, x85, x88, x90, x90, x93, x96, x99, x101, x101, (.bool false)] h102)))) fun c103 h104 =>
 bnd (call (.f 142) [a0, a1] h104) fun x105 h106 =>
 bnd (lenT a0 h106) fun x107 h108 =>
 bnd (eqF x105 x107 h108) fun x109 h110 =>
 some (x109, h110))
theorem k109 : FsOk Tryz.prog 109 (.shal s109) := fs0 2 64 d109 Tryz.func109 rfl (by kernel_rfl) (by kernel_rfl) (by kernel_rfl) (by kernel_rfl)
def d112 : List RV := []
noncomputable def s112 : Call → List V → HP → RB := fun call l H => unc l fun a0 l0 => unc l0 fun a1 l1 => nilK l1 (
 lpK (fun n0 c1 h2 =>
 jn (fun J3 =>
 bnd (ld1 a1 h2) fun x4 h5 =>
 bnd (lenT x4 h5) fun x6 h7 =>
 bnd (gtF x6 (.int .i64 0) h7) fun x8 h9 =>
 cnd x8
 (J3 [x4, x6, x8] h9)
 (some (.tup [], h9))) fun c10 h11 =>
 jn (fun J12 =>
 bnd (ld1 a1 h11) fun x13 h14 =>
 bnd (call (.f 43) [x13, (.int .u8 10)] h14) fun x15 h16 =>
 bnd (geF x15 (.int .i64 0) h16) fun x17 h18 =>
 cnd x17
 (bnd (ld1 a1 h18) fun x19 _ =>
 bnd (addF x15 (.int .i64 1) h18) fun x20 _ =>
 bnd (slT0 x19 x20 h18) fun x21 _ =>
 bnd (ld1 a1 h18) fun x22 _ =>
 bnd (addF x15 (.int .i64 1) h18) fun x23 _ =>
 bnd (slT1 x22 x23 h18) fun x24 _ =>
 bnd (st2 a1 x24 h18) fun _ h26 =>
 J12 [x13, x15, x15, x15, x17, x19, x15, x20, x21, x22, x15, x23, x24, (nthV c1 16), x21] h26)
 (bnd (ld1 a1 h18) fun x27 h28 =>
 bnd (st2 a1 (.str []) h28) fun _ h30 =>
 J12 [x13, x15, x15, x15, x17, (nthV c1 8), (nthV c1 9), (nthV c1 10), (nthV c1 11), (nthV c1 12), (nthV c1 13), (nthV c1 14), (nthV c1 15), x27, x27] h30)) fun c31 h32 =>
 cvK call a0 [(nthV c31 14)] h32 fun x33 h34 =>
 bnd (ntF x33 h34) fun x35 h36 =>
 cnd x35
 (some (.tup [], h36))
 (n0 [(nthV c10 0), (nthV c10 1), (nthV c10 2), (nthV c31 0), (nthV c31 1), (nthV c31 2), (nthV c31 3), (nthV c31 4), (nthV c31 5), (nthV c31 6), (nthV c31 7), (nthV c31 8), (nthV c31 9), (nthV c31 10), (nthV c31 11), (nthV c31 12), (nthV c31 13), (nthV c31 14), a0, (nthV c31 14), x33, x35] h36)) [u0, u0, u0, u0, u0, u0, u0, u0, u0, u0, u0, u0, u0, u0, u0, u0, u0, u0, u0, u0, u0, u0] H)
theorem k112 : FsOk Tryz.prog 112 (.shal s112) := fs0 2 25 d112 Tryz.func112 rfl (by kernel_rfl) (by kernel_rfl) (by kernel_rfl) (by kernel_rfl)
def d113 : List RV := [.t 4, .t 5]
noncomputable def s113 : Call → List V → HP → RB := fun call l H => unc l fun a0 l0 => unc l0 fun a1 l1 => nilK l1 (
 jn (fun J0 =>
 bnd (call (.f 140) [a0, a1] H) fun x1 h2 =>
 bnd (ntF x1 h2) fun x3 h4 =>
 cnd x3
 (some (.tup [a0, (.bool false)], h4))
 (J0 [a0, a1, x1, x3, u0, (.str []), (.bool false)] h4)) fun c5 h6 =>
 bnd (lenT a0 h6) fun x7 h8 =>
 bnd (lenT a1 h8) fun x9 h10 =>
 bnd (subF x7 x9 h10) fun x11 h12 =>
 bnd (slT0 a0 x11 h12) fun x13 h14 =>
 some (.tup [x13, (.bool true)], h14))
theorem k113 : FsOk Tryz.prog 113 (.shal s113) := fs0 2 18 d113 Tryz.func113 rfl (by kernel_rfl) (by kernel_rfl) (by kernel_rfl) (by kernel_rfl)
def d114 : List RV := [.t 4]
noncomputable def s114 : Call → List V → HP → RB := fun call l H => unc l fun a0 l0 => unc l0 fun a1 l1 => nilK l1 (
 jn (fun J0 =>
 bnd (call (.f 140) [a0, a1] H) fun x1 h2 =>
 cnd x1
 (bnd (lenT a0 h2) fun x3 h4 =>
 bnd (lenT a1 h4) fun x5 h6 =>
 bnd (subF x3 x5 h6) fun x7 h8 =>
 bnd (slT0 a0 x7 h8) fun x9 h10 =>
 some (x9, h10))
 (J0 [a0, a1, x1, u0, u0, u0, u0, u0, u0, u0, (.str [])] h2)) fun c11 h12 =>
 some (a0, h12))
theorem k114 : FsOk Tryz.prog 114 (.shal s114) := fs0 2 16 d114 Tryz.func114 rfl (by kernel_rfl) (by kernel_rfl) (by kernel_rfl) (by kernel_rfl)
def d115 : List RV := [.t 2, .t 3]
noncomputable def s115 : Call → List V → HP → RB := fun call l H => unc l fun a0 l0 => nilK l0 (
 bnd (call (.f 101) [a0] H) fun x0 h1 =>
 bnd (exF x0 0 h1) fun x2 h3 =>
 bnd (exF x0 1 h3) fun x4 h5 =>
 jn (fun J6 =>
 bnd (eqF x2 (.int .i32 65533) h5) fun x7 h8 =>
 jv (fun J9 => gdT x7 (J9 x4 h8) (J9 u0 h8)) fun x10 h11 =>
 jv (fun J12 => gdT x7 (bnd (ltF x10 (.int .i64 3) h11) J12) (J12 u0 h11)) fun x13 h14 =>
 bnd (pkF x7 x13 (.bool false) h14) fun x15 h16 =>
 cnd x15
 (some (.tup [(.int .i64 (-1)), x4], h16))
 (J6 [x2, x7, x7, x10, x13, x15, u0, (.int .i64 0), (.int .i64 0)] h16)) fun c17 h18 =>
 bnd (cvF .i64 x2 h18) fun x19 h20 =>
 some (.tup [x19, x4], h20))
theorem k115 : FsOk Tryz.prog 115 (.shal s115) := fs0 1 21 d115 Tryz.func115 rfl (by kernel_rfl) (by kernel_rfl) (by kernel_rfl) (by kernel_rfl)
def d118 : List RV := [.t 2]
noncomputable def s118 : Call → List V → HP → RB := fun call l H => unc l fun a0 l0 => nilK l0 (
 bnd (bxA 57 3 a0 H) fun x0 h1 =>
 bnd (ldA 3 x0 h1) fun x2 h3 =>
 bnd (call (.f 88) [x2] h3) fun x4 h5 =>
 bnd (ntF x4 h5) fun x6 h7 =>
 some (x6, h7))
theorem k118 : FsOk Tryz.prog 118 (.shal s118) := fs0 1 6 d118 Tryz.func118 rfl (by kernel_rfl) (by kernel_rfl) (by kernel_rfl) (by kernel_rfl)
def d119 : List RV := [.t 2]
noncomputable def s119 : Call → List V → HP → RB := fun call l H => unc l fun a0 l0 => nilK l0 (
 jn (fun J0 =>
 bnd (lenL a0 H) fun x1 h2 =>
 lpK (fun n3 c4 h5 =>
 bnd (ltF (nthV c4 13) x1 h5) fun x6 h7 =>
 jn (fun J8 =>
 cnd x6
 (J8 [] h7)
 (J0 [a0, x1, x6, (nthV c4 1), (nthV c4 2), (nthV c4 3), (nthV c4 4), (nthV c4 5), (nthV c4 6), (nthV c4 7), (nthV c4 8), (nthV c4 9), (nthV c4 10), (nthV c4 11), (nthV c4 12), (nthV c4 13)] h7)) fun c9 h10 =>
 jn (fun J11 =>
 bnd (iaS 1 a0 (nthV c4 13) h10) fun x12 h13 =>
 bnd (ld1 x12 h13) fun x14 h15 =>
 bnd (lenL x14 h15) fun x16 h17 =>
 bnd (addF (nthV c4 8) x16 h17) fun x18 h19 =>
 bnd (ltF x18 (.int .i64 0) h19) fun x20 h21 =>
 cnd x20
 (bnd (some (.iface 9 (.str [108, 101, 110, 32, 111, 117, 116, 32, 111, 102, 32, 114, 97, 110, 103, 101]), h21)) fun x22 h23 =>
 bnd (none) fun _ h25 =>
 J11 [x12, x14, x14, (nthV c4 8), x14, x16, x18, x18, x18, x20, x22] h25)
 (J11 [x12, x14, x14, (nthV c4 8), x14, x16, x18, x18, x18, x20, (nthV c4 11)] h21)) fun c26 h27 =>
 bnd (addF (nthV c4 13) (.int .i64 1) h27) fun x28 h29 =>
 n3 [x6, (nthV c26 0), (nthV c26 1), (nthV c26 2), (nthV c26 3), (nthV c26 4), (nthV c26 5), (nthV c26 6), (nthV c26 7), (nthV c26 8), (nthV c26 9), (nthV c26 10), x28, x28] h29) [u0, u0, u0, u0, u0, u0, u0, u0, (.int .i64 0), u0, u0, u0, u0, (.int .i64 0)] h2) fun c30 h31 =>
 bnd (call (.f 145) [.zsl, (nthV c30 10)] h31) fun x32 h33 =>
 jn (fun J34 =>
 bnd (lenL a0 h33) fun x35 h36 =>
 lpK (fun n37 c38 h39 =>
 bnd (ltF (nthV c38 9) x35 h39) fun x40 h41 =>
 jn (fun J42 =>
 cnd x40
 (J42 [] h41)
 (J34 [a0, x35, x40, (nthV c38 1), (nthV c38 2), (nthV c38 3), (nthV c38 4), (nthV c38 5), (nthV c38 6), (nthV c38 7), (nthV c38 8), (nthV c38 9)] h41)) fun c43 h44 =>
 jn (fun J45 =>
 bnd (iaS 1 a0 (nthV c38 9) h44) fun x46 h47 =>
 bnd (ld1 x46 h47) fun x48 h49 =>
 bnd (orM (apF 57 true 3 32 (.agg [(.int .i64 0), (.str []), (.int .i64 0)]) (nthV c38 7) x48 h49) (orR (appendB 57 true 3 32 (.agg [(.int .i64 0), (.str []), (.int .i64 0)]) (nthV c38 7) x48 h49) (appInB 57 3 32 (nthV c38 7) x48 h49))) fun x50 h51 =>
 J45 [x46, x48, x48, (nthV c38 7), x48, x50, x50] h51) fun c52 h53 =>
 bnd (addF (nthV c38 9) (.int .i64 1) h53) fun x54 h55 =>
 n37 [x40, (nthV c52 0), (nthV c52 1), (nthV c52 2), (nthV c52 3), (nthV c52 4), (nthV c52 5), (nthV c52 6), x54, x54] h55) [u0, u0, u0, u0, u0, u0, u0, x32, u0, (.int .i64 0)] h36) fun c56 h57 =>
 some ((nthV c56 9), h57))
theorem k119 : FsOk Tryz.prog 119 (.shal s119) := fs0 1 36 d119 Tryz.func119 rfl (by kernel_rfl) (by kernel_rfl) (by kernel_rfl) (by kernel_rfl)
def d120 : List RV := [.t 4, .t 5]
noncomputable def s120 : Call → List V → HP → RB := fun call l H => unc l fun a0 l0 => unc l0 fun a1 l1 => nilK l1 (
 bnd (call (.f 146) [a0, a1] H) fun x0 h1 =>
 bnd (exF x0 0 h1) fun x2 h3 =>
 bnd (exF x0 1 h3) fun x4 h5 =>
 some (.tup [x2, x4], h5))
theorem k120 : FsOk Tryz.prog 120 (.shal s120) := fs0 2 11 d120 Tryz.func120 rfl (by kernel_rfl) (by kernel_rfl) (by kernel_rfl) (by kernel_rfl)
def d121 : List RV := [.cell 2 true 4, .t 3, .t 4]
noncomputable def s121 : Call → List V → HP → RB := fun call l H => unc l fun a0 l0 => nilK l0 (
 bnd (alF 24 true 4 (.agg [(.int .i64 0), (.str []), (.str []), .zsl]) H) fun x0 h1 =>
 jn (fun J2 =>
 bnd (call (.f 38) [a0, (.str [39])] h1) fun x3 h4 =>
 jv (fun J5 => gdN x3 (J5 a0 h4) (J5 u0 h4)) fun x6 h7 =>
 jv (fun J8 => gdN x3 (bnd (call (.f 38) [x6, (.str [34])] h7) J8) (J8 u0 h7)) fun x9 h10 =>
 bnd (pkF x3 (.bool true) x9 h10) fun x11 h12 =>
 cnd x11
 (bnd (call (.f 132) [a0] h12) fun x13 h14 =>
 bnd (exF x13 0 h14) fun x15 h16 =>
 bnd (exF x13 1 h16) fun x17 h18 =>
 bnd (exF x13 2 h18) fun x19 h20 =>
 bnd (alF 29 true 2 (.agg [(.int .i64 0), (.int .i64 0)]) h20) fun x21 h22 =>
 bnd (stA 2 x21 x19 h22) fun _ h24 =>
 bnd (bdF [some (0, false, 1), some (1, false, 1), some (2, false, 1), some (3, false, 1)] (.agg [(.int .i64 0), (.str []), (.str []), .zsl]) [(0, (.int .i64 4)), (1, x15)] h24) fun x25 _ =>
 bnd (slT1 a0 x17 h24) fun x26 _ =>
 bnd (noY call (.f 26) [x26, (.str [32])] h24) fun x27 h28 =>
 bnd (ldA 2 x21 h28) fun x29 _ =>
 bnd (ldA 2 x21 h24) fun y36 _ => ifB (eqVF y36 x29) (
 bnd (bdF [some (0, false, 1), some (1, false, 1)] (.agg [(.int .i64 0), (.int .i64 0)]) [] h28) fun x30 _ =>
 bnd (binB 0 (some [.int .i64, .int .i64]) .eql false x29 x30 h28) fun x31 _ =>
 bnd (stA 4 x0 x25 h28) fun _ h33 =>
 bnd (ldA 2 x21 h33) fun y35 _ => ifB (eqVF y35 x29) (
 bnd (ldA 4 x0 h33) fun r34 _ =>
 some (.tup [r34, x27, x31], h33))))
 (J2 [a0, x3, x3, x6, x9, x11, u0, u0, u0, u0, u0, u0, u0, u0, u0, u0, u0, u0, u0, u0, u0, u0, u0, u0, (.str []), (.bool false)] h12)) fun c37 h38 =>
 bnd (call (.f 134) [a0, (.bool false)] h38) fun x39 h40 =>
 bnd (exF x39 0 h40) fun x41 h42 =>
 bnd (exF x39 1 h42) fun x43 h44 =>
 bnd (call (.f 104) [x41] h44) fun x45 h46 =>
 bnd (bdF [some (0, false, 1), some (1, false, 1), some (2, false, 1), some (3, false, 1)] (.agg [(.int .i64 0), (.str []), (.str []), .zsl]) [(0, x45), (1, x41)] h46) fun x47 h48 =>
 bnd (alF 24 true 4 (.agg [(.int .i64 0), (.str []), (.str []), .zsl]) h48) fun x49 h50 =>
 bnd (stA 4 x49 x47 h50) fun _ h52 =>
 jn (fun J53 =>
 bnd (faF 0 x49 h52) fun x54 h55 =>
 bnd (ld1 x54 h55) fun x56 h57 =>
 bnd (eqF x56 (.int .i64 1) h57) fun x58 h59 =>
 cnd x58
 (bnd (faF 1 x49 h59) fun x60 h61 =>
 bnd (st2 x60 (.str []) h61) fun _ h63 =>
 J53 [x54, x56, x58, x60] h63)
 (J53 [x54, x56, x58, u0] h59)) fun c64 h65 =>
 bnd (ldA 4 x49 h65) fun x66 _ =>
 bnd (slT1 a0 x43 h65) fun x67 _ =>
 bnd (noY call (.f 109) [x41, (.bool false)] h65) fun x68 h69 =>
 bnd (slT1 a0 x43 h69) fun y75 _ => ifB (eqVF y75 x67) (
 bnd (ldA 4 x49 h69) fun y74 _ => ifB (eqVF y74 x66) (
 bnd (stA 4 x0 x66 h69) fun _ h71 =>
 bnd (slT1 a0 x43 h71) fun y73 _ => ifB (eqVF y73 x67) (
 bnd (ldA 4 x0 h71) fun r72 _ =>
 some (.tup [r72, x67, x68], h71)))))
theorem k121 : FsOk Tryz.prog 121 (.shal s121) := fs0 1 51 d121 Tryz.func121 rfl (by kernel_rfl) (by kernel_rfl) (by kernel_rfl) (by kernel_rfl)
def d122 : List RV := [.cell 2 true 2, .t 3]
noncomputable def s122 : Call → List V → HP → RB := fun call l H => unc l fun a0 l0 => nilK l0 (
 bnd (alF 189 true 2 (.agg [(.str []), (.int .i64 0)]) H) fun x0 h1 =>
 bnd (alF 189 true 2 (.agg [(.str []), (.int .i64 0)]) h1) fun x2 h3 =>
 bnd (boF 9 false 1 6 [(.str [33, 33, 110, 117, 108, 108]), (.str [33, 33, 98, 111, 111, 108]), (.str [33, 33, 105, 110, 116]), (.str [33, 33, 115, 116, 114]), (.str [33, 33, 115, 101, 113]), (.str [33, 33, 109, 97, 112])] h3) fun x4 h5 =>
 lpK (fun n6 c7 h8 =>
 bnd (call (.f 147) [(nthV c7 47), (.str [32])] h8) fun x9 h10 =>
 bnd (exF x9 0 h10) fun x11 h12 =>
 bnd (exF x9 1 h12) fun x13 h14 =>
 bnd (exF x9 2 h14) fun x15 h16 =>
 jn (fun J17 =>
 bnd (call (.f 120) [x11, (.str [38])] h16) fun x18 h19 =>
 bnd (exF x18 0 h19) fun x20 h21 =>
 bnd (exF x18 1 h21) fun x22 h23 =>
 jv (fun J24 => gdT x22 (bnd (faF 0 x2 h23) J24) (J24 u0 h23)) fun x25 h26 =>
 jv (fun J27 => gdT x22 (bnd (ld1 x25 h26) J27) (J27 u0 h26)) fun x28 h29 =>
 jv (fun J30 => gdT x22 (bnd (eqT x28 (.str []) h29) J30) (J30 u0 h29)) fun x31 h32 =>
 bnd (pkF x22 x31 (.bool false) h32) fun x33 h34 =>
 jv (fun J35 => gdT x33 (J35 x20 h34) (J35 u0 h34)) fun x36 h37 =>
 jv (fun J38 => gdT x33 (bnd (call (.f 60) [x36] h37) J38) (J38 u0 h37)) fun x39 h40 =>
 bnd (pkF x33 x39 (.bool false) h40) fun x41 h42 =>
 cnd x41
 (bnd (faF 0 x2 h42) fun x43 h44 =>
 bnd (st2 x43 x20 h44) fun _ h46 =>
 J17 [x11, x18, x18, x20, x22, x20, x22, x22, x22, x25, x28, x31, x33, x33, x36, x39, x41, x20, x43, (nthV c7 28), (nthV c7 29), (nthV c7 30), (nthV c7 31), (nthV c7 32), (nthV c7 33), (nthV c7 34), (nthV c7 35), (nthV c7 36), (nthV c7 37), (nthV c7 38), (nthV c7 39), (nthV c7 40), (nthV c7 41), (nthV c7 42), (nthV c7 43), (nthV c7 44)] h46)
 (bnd (call (.f 148) [x4, x11] h42) fun x47 h48 =>
 bnd (addF x47 (.int .i64 1) h48) fun x49 h50 =>
 bnd (gtF x49 (.int .i64 0) h50) fun x51 h52 =>
 jv (fun J53 => gdT x51 (bnd (faF 1 x2 h52) J53) (J53 u0 h52)) fun x54 h55 =>
 jv (fun J56 => gdT x51 (bnd (ld1 x54 h55) J56) (J56 u0 h55)) fun x57 h58 =>
 jv (fun J59 => gdT x51 (bnd (eqF x57 (.int .i64 0) h58) J59) (J59 u0 h58)) fun x60 h61 =>
 bnd (pkF x51 x60 (.bool false) h61) fun x62 h63 =>
 cnd x62
 (bnd (faF 1 x2 h63) fun x64 h65 =>
 bnd (st2 x64 x49 h65) fun _ h67 =>
 J17 [x11, x18, x18, x20, x22, x20, x22, x22, x22, x25, x28, x31, x33, x33, x36, x39, x41, (nthV c7 26), (nthV c7 27), x4, x11, x47, x49, x49, x49, x51, x51, x54, x57, x60, x62, x49, x64, (nthV c7 42), (nthV c7 43), (nthV c7 44)] h67)
 (bnd (ldA 2 x2 h63) fun x68 h69 =>
 bnd (stA 2 x0 x68 h69) fun _ h71 =>
 bnd (ldA 2 x0 h71) fun r72 _ =>
 some (.tup [r72, (nthV c7 47)], h71)))) fun c73 h74 =>
 bnd (call (.f 26) [x13, (.str [32])] h74) fun x75 h76 =>
 n6 [(nthV c7 47), x9, x9, x11, x13, x15, x11, x13, x15, (nthV c73 0), (nthV c73 1), (nthV c73 2), (nthV c73 3), (nthV c73 4), (nthV c73 5), (nthV c73 6), (nthV c73 7), (nthV c73 8), (nthV c73 9), (nthV c73 10), (nthV c73 11), (nthV c73 12), (nthV c73 13), (nthV c73 14), (nthV c73 15), (nthV c73 16), (nthV c73 17), (nthV c73 18), (nthV c73 19), (nthV c73 20), (nthV c73 21), (nthV c73 22), (nthV c73 23), (nthV c73 24), (nthV c73 25), (nthV c73 26), (nthV c73 27), (nthV c73 28), (nthV c73 29), (nthV c73 30), (nthV c73 31), (nthV c73 32), (nthV c73 33), (nthV c73 34), (nthV c73 35), x13, x75, x75] h76) [u0, u0, u0, u0, u0, u0, u0, u0, u0, u0, u0, u0, u0, u0, u0, u0, u0, u0, u0, u0, u0, u0, u0, u0, u0, u0, u0, u0, u0, u0, u0, u0, u0, u0, u0, u0, u0, u0, u0, u0, u0, u0, u0, u0, (.str []), u0, u0, a0] h5)
theorem k122 : FsOk Tryz.prog 122 (.shal s122) := fs0 1 53 d122 Tryz.func122 rfl (by kernel_rfl) (by kernel_rfl) (by kernel_rfl) (by kernel_rfl)
def d123 : List RV := [.cell 6 true 4]
noncomputable def s123 : Call → List V → HP → RB := fun call l H => unc l fun a0 l0 => unc l0 fun a1 l1 => unc l1 fun a2 l2 => nilK l2 (
 bnd (bxA 154 6 a1 H) fun x0 h1 =>
 bnd (bxA 189 2 a2 h1) fun x2 h3 =>
 bnd (alF 24 true 4 (.agg [(.int .i64 0), (.str []), (.str []), .zsl]) h3) fun x4 h5 =>
 jn (fun J6 =>
 bnd (faF 4 x0 h5) fun x7 h8 =>
 bnd (ld1 x7 h8) fun x9 h10 =>
 bnd (call (.f 81) [x9] h10) fun x11 h12 =>
 bnd (lenL x11 h12) fun x13 h14 =>
 bnd (eqF x13 (.int .i64 0) h14) fun x15 h16 =>
 cnd x15
 (bnd (bdF [some (0, false, 1), some (1, false, 1), some (2, false, 1), some (3, false, 1)] (.agg [(.int .i64 0), (.str []), (.str []), .zsl]) [(0, (.int .i64 1))] h16) fun x17 h18 =>
 bnd (ldA 2 x2 h18) fun x19 h20 =>
 bnd (faF 1 x0 h20) fun x21 h22 =>
 bnd (ldA 3 x21 h22) fun x23 h24 =>
 bnd (call (.f 128) [a0, x17, x19, x23] h24) fun x25 h26 =>
 bnd (stA 4 x4 x25 h26) fun _ h28 =>
 bnd (ldA 4 x4 h28) fun r29 _ =>
 some (r29, h28))
 (J6 [x7, x9, x11, x13, x15, u0, u0, u0, u0, u0, u0] h16)) fun c30 h31 =>
 bnd (faF 4 x0 h31) fun x32 h33 =>
 bnd (ld1 x32 h33) fun x34 h35 =>
 bnd (faF 5 x0 h35) fun x36 h37 =>
 bnd (ld1 x36 h37) fun x38 h39 =>
 bnd (addF x38 (.int .i64 1) h39) fun x40 h41 =>
 bnd (call (.f 50) [a0, x34, x40] h41) fun x42 h43 =>
 bnd (alF 24 true 4 (.agg [(.int .i64 0), (.str []), (.str []), .zsl]) h43) fun x44 h45 =>
 bnd (stA 4 x44 x42 h45) fun _ h47 =>
 jn (fun J48 =>
 bnd (ldA 2 x2 h47) fun x49 h50 =>
 bnd (bdF [some (0, false, 1), some (1, false, 1)] (.agg [(.str []), (.int .i64 0)]) [] h50) fun x51 h52 =>
 bnd (binB 0 (some [.string, .int .i64]) .eql false x49 x51 h52) fun x53 h54 =>
 cnd x53
 (bnd (ldA 4 x44 h54) fun x55 h56 =>
 bnd (stA 4 x4 x55 h56) fun _ h58 =>
 bnd (ldA 4 x4 h58) fun r59 _ =>
 some (r59, h58))
 (bnd (faF 2 x44 h54) fun x60 h61 =>
 bnd (ld1 x60 h61) fun x62 h63 =>
 bnd (neT x62 (.str []) h63) fun x64 h65 =>
 jv (fun J66 => gdN x64 (bnd (faF 0 x44 h65) J66) (J66 u0 h65)) fun x67 h68 =>
 jv (fun J69 => gdN x64 (bnd (ld1 x67 h68) J69) (J69 u0 h68)) fun x70 h71 =>
 jv (fun J72 => gdN x64 (bnd (eqF x70 (.int .i64 7) h71) J72) (J72 u0 h71)) fun x73 h74 =>
 bnd (pkF x64 (.bool true) x73 h74) fun x75 h76 =>
 jv (fun J77 => gdN x75 (bnd (faF 0 x44 h76) J77) (J77 u0 h76)) fun x78 h79 =>
 jv (fun J80 => gdN x75 (bnd (ld1 x78 h79) J80) (J80 u0 h79)) fun x81 h82 =>
 jv (fun J83 => gdN x75 (bnd (ltF x81 (.int .i64 5) h82) J83) (J83 u0 h82)) fun x84 h85 =>
 jv (fun J86 => gdN x75 (J86 x84 h85) (J86 u0 h85)) fun x87 h88 =>
 jv (fun J89 => gdT x87 (bnd (faF 1 x2 h88) J89) (J89 u0 h88)) fun x90 h91 =>
 jv (fun J92 => gdT x87 (bnd (ld1 x90 h91) J92) (J92 u0 h91)) fun x93 h94 =>
 jv (fun J95 => gdT x87 (bnd (neF x93 (.int .i64 0) h94) J95) (J95 u0 h94)) fun x96 h97 =>
 jv (fun J98 => gdN x75 (bnd (pkF x87 x96 (.bool false) h97) J98) (J98 u0 h97)) fun x99 h100 =>
 bnd (pkF x75 (.bool true) x99 h100) fun x101 h102 =>
 cnd x101
 (bnd (faF 1 x0 h102) fun x103 h104 =>
 bnd (ldA 3 x103 h104) fun x105 h106 =>
 bnd (call (.f 82) [a0, (.int .i64 3), x105] h106) fun x107 h108 =>
 bnd (stA 4 x4 x107 h108) fun _ h110 =>
 bnd (ldA 4 x4 h110) fun r111 _ =>
 some (r111, h110))
 (J48 [x49, x51, x53, x53, u0, x60, x62, x64, x64, x67, x70, x73, x75, x75, x78, x81, x84, x87, x90, x93, x96, x99, x101, x101, u0, u0, u0, u0] h102))) fun c112 h113 =>
 bnd (ldA 4 x44 h113) fun x114 h115 =>
 bnd (ldA 2 x2 h115) fun x116 h117 =>
 bnd (faF 1 x0 h117) fun x118 h119 =>
 bnd (ldA 3 x118 h119) fun x120 h121 =>
 bnd (call (.f 128) [a0, x114, x116, x120] h121) fun x122 h123 =>
 bnd (stA 4 x4 x122 h123) fun _ h125 =>
 bnd (ldA 4 x4 h125) fun r126 _ =>
 some (r126, h125))
theorem k123 : FsOk Tryz.prog 123 (.shal s123) := fs0 3 60 d123 Tryz.func123 rfl (by kernel_rfl) (by kernel_rfl) (by kernel_rfl) (by kernel_rfl)
def d124 : List RV := [.cell 2 true 2, .t 3]
noncomputable def s124 : Call → List V → HP → RB := fun call l H => unc l fun a0 l0 => nilK l0 (
 bnd (alF 82 true 2 (.agg [(.bool false), (.int .i64 0)]) H) fun x0 h1 =>
 bnd (alF 82 true 2 (.agg [(.bool false), (.int .i64 0)]) h1) fun x2 h3 =>
 jn (fun J4 =>
 bnd (call (.f 38) [a0, (.str [124])] h3) fun x5 h6 =>
 cnd x5
 (J4 [a0, x5, x5, u0, u0, u0, u0, u0, (.bool false)] h6)
 (bnd (call (.f 38) [a0, (.str [62])] h6) fun x7 h8 =>
 cnd x7
 (bnd (faF 0 x2 h8) fun x9 h10 =>
 bnd (st2 x9 (.bool true) h10) fun _ h12 =>
 J4 [a0, x5, x5, a0, x7, x7, x9, u0, (.bool false)] h12)
 (bnd (bdF [some (0, false, 1), some (1, false, 1)] (.agg [(.bool false), (.int .i64 0)]) [] h8) fun x13 h14 =>
 bnd (stA 2 x0 x13 h14) fun _ h16 =>
 bnd (ldA 2 x0 h16) fun r17 _ =>
 some (.tup [r17, (.bool false)], h16)))) fun c18 h19 =>
 jn (fun J20 =>
 bnd (slT1 a0 (.int .i64 1) h19) fun x21 h22 =>
 bnd (eqT x21 (.str []) h22) fun x23 h24 =>
 cnd x23
 (J20 [a0, x21, x23, x23, u0, u0, u0, u0, u0, u0, u0, (nthV c18 8)] h24)
 (bnd (eqT x21 (.str [45]) h24) fun x25 h26 =>
 cnd x25
 (bnd (faF 1 x2 h26) fun x27 h28 =>
 bnd (st2 x27 (.int .i64 1) h28) fun _ h30 =>
 J20 [a0, x21, x23, x23, x25, x25, x27, u0, u0, u0, u0, (nthV c18 8)] h30)
 (bnd (eqT x21 (.str [43]) h26) fun x31 h32 =>
 cnd x31
 (bnd (faF 1 x2 h32) fun x33 h34 =>
 bnd (st2 x33 (.int .i64 2) h34) fun _ h36 =>
 J20 [a0, x21, x23, x23, x25, x25, u0, x31, x31, x33, u0, (nthV c18 8)] h36)
 (bnd (bdF [some (0, false, 1), some (1, false, 1)] (.agg [(.bool false), (.int .i64 0)]) [] h32) fun x37 h38 =>
 bnd (stA 2 x0 x37 h38) fun _ h40 =>
 bnd (ldA 2 x0 h40) fun r41 _ =>
 some (.tup [r41, (.bool false)], h40))))) fun c42 h43 =>
 bnd (ldA 2 x2 h43) fun x44 h45 =>
 bnd (stA 2 x0 x44 h45) fun _ h47 =>
 bnd (ldA 2 x0 h47) fun r48 _ =>
 some (.tup [r48, (.bool true)], h47))
theorem k124 : FsOk Tryz.prog 124 (.shal s124) := fs0 1 25 d124 Tryz.func124 rfl (by kernel_rfl) (by kernel_rfl) (by kernel_rfl) (by kernel_rfl)
def d125 : List RV := [.t 2]
noncomputable def s125 : Call → List V → HP → RB := fun call l H => unc l fun a0 l0 => nilK l0 (
 jn (fun J0 =>
 bnd (lenT a0 H) fun x1 h2 =>
 lpK (fun n3 c4 h5 =>
 bnd (ltF (nthV c4 30) x1 h5) fun x6 h7 =>
 jn (fun J8 =>
 cnd x6
 (J8 [] h7)
 (J0 [a0, x1, x6, (nthV c4 1), (nthV c4 2), (nthV c4 3), (nthV c4 4), (nthV c4 5), (nthV c4 6), (nthV c4 7), (nthV c4 8), (nthV c4 9), (nthV c4 10), (nthV c4 11), (nthV c4 12), (nthV c4 13), (nthV c4 14), (nthV c4 15), (nthV c4 16), (nthV c4 17), (nthV c4 18), (nthV c4 19), (nthV c4 20), (nthV c4 21), (nthV c4 22), (nthV c4 23), (nthV c4 24), (nthV c4 25), (nthV c4 26), (nthV c4 27), (nthV c4 28), (nthV c4 29), (nthV c4 30)] h7)) fun c9 h10 =>
 jn (fun J11 =>
 bnd (ixF (nthV c4 28) (nthV c4 30) h10) fun x12 h13 =>
 bnd (eqF x12 (.int .u8 35) h13) fun x14 h15 =>
 jv (fun J16 => gdT x14 (J16 (nthV c4 30) h15) (J16 u0 h15)) fun x17 h18 =>
 jv (fun J19 => gdT x14 (bnd (eqF x17 (.int .i64 0) h18) J19) (J19 u0 h18)) fun x20 h21 =>
 jv (fun J22 => gdT x14 (J22 x20 h21) (J22 u0 h21)) fun x23 h24 =>
 jv (fun J25 => gdN x23 (J25 (nthV c4 28) h24) (J25 u0 h24)) fun x26 h27 =>
 jv (fun J28 => gdN x23 (J28 (nthV c4 30) h27) (J28 u0 h27)) fun x29 h30 =>
 jv (fun J31 => gdN x23 (bnd (subF x29 (.int .i64 1) h30) J31) (J31 u0 h30)) fun x32 h33 =>
 jv (fun J34 => gdN x23 (bnd (ixF x26 x32 h33) J34) (J34 u0 h33)) fun x35 h36 =>
 jv (fun J37 => gdN x23 (bnd (eqF x35 (.int .u8 32) h36) J37) (J37 u0 h36)) fun x38 h39 =>
 jv (fun J40 => gdT x14 (bnd (pkF x23 (.bool true) x38 h39) J40) (J40 u0 h39)) fun x41 h42 =>
 jv (fun J43 => gdT x14 (J43 x41 h42) (J43 u0 h42)) fun x44 h45 =>
 jv (fun J46 => gdN x44 (J46 (nthV c4 28) h45) (J46 u0 h45)) fun x47 h48 =>
 jv (fun J49 => gdN x44 (J49 (nthV c4 30) h48) (J49 u0 h48)) fun x50 h51 =>
 jv (fun J52 => gdN x44 (bnd (subF x50 (.int .i64 1) h51) J52) (J52 u0 h51)) fun x53 h54 =>
 jv (fun J55 => gdN x44 (bnd (ixF x47 x53 h54) J55) (J55 u0 h54)) fun x56 h57 =>
 jv (fun J58 => gdN x44 (bnd (eqF x56 (.int .u8 9) h57) J58) (J58 u0 h57)) fun x59 h60 =>
 jv (fun J61 => gdT x14 (bnd (pkF x44 (.bool true) x59 h60) J61) (J61 u0 h60)) fun x62 h63 =>
 bnd (pkF x14 x62 (.bool false) h63) fun x64 h65 =>
 cnd x64
 (bnd (slT0 (nthV c4 28) (nthV c4 30) h65) fun x66 h67 =>
 J0 [a0, x1, x6, (nthV c4 30), (nthV c4 30), (nthV c4 28), (nthV c4 30), x12, x14, x14, x17, x20, x23, x26, x29, x32, x35, x38, x41, x44, x47, x50, x53, x56, x59, x62, x64, (nthV c4 28), (nthV c4 30), x66, x66, (nthV c4 29), (nthV c4 30)] h67)
 (J11 [(nthV c4 30), (nthV c4 30), (nthV c4 28), (nthV c4 30), x12, x14, x14, x17, x20, x23, x26, x29, x32, x35, x38, x41, x44, x47, x50, x53, x56, x59, x62, x64, (nthV c4 25), (nthV c4 26), (nthV c4 27), (nthV c4 28)] h65)) fun c68 h69 =>
 bnd (addF (nthV c4 30) (.int .i64 1) h69) fun x70 h71 =>
 n3 [x6, (nthV c68 0), (nthV c68 1), (nthV c68 2), (nthV c68 3), (nthV c68 4), (nthV c68 5), (nthV c68 6), (nthV c68 7), (nthV c68 8), (nthV c68 9), (nthV c68 10), (nthV c68 11), (nthV c68 12), (nthV c68 13), (nthV c68 14), (nthV c68 15), (nthV c68 16), (nthV c68 17), (nthV c68 18), (nthV c68 19), (nthV c68 20), (nthV c68 21), (nthV c68 22), (nthV c68 23), (nthV c68 24), (nthV c68 25), (nthV c68 26), (nthV c68 27), x70, x70] h71) [u0, u0, u0, u0, u0, u0, u0, u0, u0, u0, u0, u0, u0, u0, u0, u0, u0, u0, u0, u0, u0, u0, u0, u0, u0, u0, u0, u0, a0, u0, (.int .i64 0)] h2) fun c72 h73 =>
 bnd (call (.f 44) [(nthV c72 30), (.str [32, 9])] h73) fun x74 h75 =>
 some (x74, h75))
theorem k125 : FsOk Tryz.prog 125 (.shal s125) := fs0 1 37 d125 Tryz.func125 rfl (by kernel_rfl) (by kernel_rfl) (by kernel_rfl) (by kernel_rfl)
def d127 : List RV := []
noncomputable def s127 : Call → List V → HP → RB := fun call l H => unc l fun a0 l0 => unc l0 fun a1 l1 => nilK l1 (
 bnd (call (.f 81) [a1] H) fun x0 h1 =>
 bnd (lenL x0 h1) fun x2 h3 =>
 bnd (gtF x2 (.int .i64 0) h3) fun x4 h5 =>
 cnd x4
 (bnd (iaS 3 x0 (.int .i64 0) h5) fun x6 h7 =>
 bnd (ldA 3 x6 h7) fun x8 h9 =>
 bnd (call (.f 82) [a0, (.int .i64 3), x8] h9) fun x10 h11 =>
 some (.tup [], h11))
 (some (.tup [], h5)))
theorem k127 : FsOk Tryz.prog 127 (.shal s127) := fs0 2 14 d127 Tryz.func127 rfl (by kernel_rfl) (by kernel_rfl) (by kernel_rfl) (by kernel_rfl)
def d128 : List RV := [.cell 8 true 4]
noncomputable def s128 : Call → List V → HP → RB := fun call l H => unc l fun a0 l0 => unc l0 fun a1 l1 => unc l1 fun a2 l2 => unc l2 fun a3 l3 => nilK l3 (
 bnd (bxA 24 4 a1 H) fun x0 h1 =>
 bnd (bxA 189 2 a2 h1) fun x2 h3 =>
 bnd (bxA 57 3 a3 h3) fun x4 h5 =>
 bnd (alF 24 true 4 (.agg [(.int .i64 0), (.str []), (.str []), .zsl]) h5) fun x6 h7 =>
 bnd (faF 0 x2 h7) fun x8 h9 =>
 bnd (ld1 x8 h9) fun x10 h11 =>
 bnd (faF 2 x0 h11) fun x12 h13 =>
 bnd (st2 x12 x10 h13) fun _ h15 =>
 jn (fun J16 =>
 bnd (faF 1 x2 h15) fun x17 h18 =>
 bnd (ld1 x17 h18) fun x19 h20 =>
 bnd (eqF x19 (.int .i64 4) h20) fun x21 h22 =>
 jv (fun J23 => gdT x21 (bnd (faF 0 x0 h22) J23) (J23 u0 h22)) fun x24 h25 =>
 jv (fun J26 => gdT x21 (bnd (ld1 x24 h25) J26) (J26 u0 h25)) fun x27 h28 =>
 jv (fun J29 => gdT x21 (bnd (eqF x27 (.int .i64 1) h28) J29) (J29 u0 h28)) fun x30 h31 =>
 bnd (pkF x21 x30 (.bool false) h31) fun x32 h33 =>
 cnd x32
 (bnd (faF 0 x0 h33) fun x34 h35 =>
 bnd (st2 x34 (.int .i64 4) h35) fun _ h37 =>
 J16 [x17, x19, x21, x21, x24, x27, x30, x32, x34] h37)
 (J16 [x17, x19, x21, x21, x24, x27, x30, x32, u0] h33)) fun c38 h39 =>
 jn (fun J40 =>
 bnd (faF 1 x2 h39) fun x41 h42 =>
 bnd (ld1 x41 h42) fun x43 h44 =>
 bnd (neF x43 (.int .i64 0) h44) fun x45 h46 =>
 jv (fun J47 => gdT x45 (bnd (faF 1 x2 h46) J47) (J47 u0 h46)) fun x48 h49 =>
 jv (fun J50 => gdT x45 (bnd (ld1 x48 h49) J50) (J50 u0 h49)) fun x51 h52 =>
 jv (fun J53 => gdT x45 (bnd (faF 0 x0 h52) J53) (J53 u0 h52)) fun x54 h55 =>
 jv (fun J56 => gdT x45 (bnd (ld1 x54 h55) J56) (J56 u0 h55)) fun x57 h58 =>
 jv (fun J59 => gdT x45 (bnd (neF x51 x57 h58) J59) (J59 u0 h58)) fun x60 h61 =>
 bnd (pkF x45 x60 (.bool false) h61) fun x62 h63 =>
 cnd x62
 (bnd (ldA 3 x4 h63) fun x64 h65 =>
 bnd (call (.f 82) [a0, (.int .i64 12), x64] h65) fun x66 h67 =>
 bnd (stA 4 x6 x66 h67) fun _ h69 =>
 bnd (ldA 4 x6 h69) fun r70 _ =>
 some (r70, h69))
 (J40 [x41, x43, x45, x45, x48, x51, x54, x57, x60, x62, u0, u0, u0] h63)) fun c71 h72 =>
 bnd (ldA 4 x0 h72) fun x73 h74 =>
 bnd (stA 4 x6 x73 h74) fun _ h76 =>
 bnd (ldA 4 x6 h76) fun r77 _ =>
 some (r77, h76))
theorem k128 : FsOk Tryz.prog 128 (.shal s128) := fs0 4 35 d128 Tryz.func128 rfl (by kernel_rfl) (by kernel_rfl) (by kernel_rfl) (by kernel_rfl)
def d129 : List RV := [.cell 6 true 4]
noncomputable def s129 : Call → List V → HP → RB := fun call l H => unc l fun a0 l0 => unc l0 fun a1 l1 => unc l1 fun a2 l2 => nilK l2 (
 bnd (bxA 57 3 a2 H) fun x0 h1 =>
 bnd (alF 24 true 4 (.agg [(.int .i64 0), (.str []), (.str []), .zsl]) h1) fun x2 h3 =>
 bnd (call (.f 25) [a1, (.bool false)] h3) fun x4 h5 =>
 bnd (exF x4 0 h5) fun x6 h7 =>
 bnd (exF x4 1 h7) fun x8 h9 =>
 bnd (exF x4 2 h9) fun x10 h11 =>
 bnd (alF 24 true 4 (.agg [(.int .i64 0), (.str []), (.str []), .zsl]) h11) fun x12 h13 =>
 bnd (alF 29 true 2 (.agg [(.int .i64 0), (.int .i64 0)]) h13) fun x14 h15 =>
 bnd (stA 4 x12 x6 h15) fun _ h17 =>
 bnd (stA 2 x14 x10 h17) fun _ h19 =>
 jn (fun J20 =>
 bnd (ldA 2 x14 h19) fun x21 h22 =>
 bnd (bdF [some (0, false, 1), some (1, false, 1)] (.agg [(.int .i64 0), (.int .i64 0)]) [] h22) fun x23 h24 =>
 bnd (binB 0 (some [.int .i64, .int .i64]) .neq false x21 x23 h24) fun x25 h26 =>
 cnd x25
 (bnd (faF 0 x14 h26) fun x27 h28 =>
 bnd (ld1 x27 h28) fun x29 h30 =>
 bnd (ldA 3 x0 h30) fun x31 h32 =>
 bnd (call (.f 82) [a0, x29, x31] h32) fun x33 h34 =>
 bnd (stA 4 x2 x33 h34) fun _ h36 =>
 bnd (ldA 4 x2 h36) fun r37 _ =>
 some (r37, h36))
 (J20 [x21, x23, x25, u0, u0, u0, u0, u0] h26)) fun c38 h39 =>
 jn (fun J40 =>
 bnd (slT1 a1 x8 h39) fun x41 h42 =>
 bnd (call (.f 106) [x41, (.str [32])] h42) fun x43 h44 =>
 bnd (neT x43 (.str []) h44) fun x45 h46 =>
 jv (fun J47 => gdT x45 (J47 x41 h46) (J47 u0 h46)) fun x48 h49 =>
 jv (fun J50 => gdT x45 (bnd (call (.f 26) [x48, (.str [32])] h49) J50) (J50 u0 h49)) fun x51 h52 =>
 jv (fun J53 => gdT x45 (bnd (call (.f 38) [x51, (.str [35])] h52) J53) (J53 u0 h52)) fun x54 h55 =>
 jv (fun J56 => gdT x45 (bnd (ntF x54 h55) J56) (J56 u0 h55)) fun x57 h58 =>
 bnd (pkF x45 x57 (.bool false) h58) fun x59 h60 =>
 jv (fun J61 => gdN x59 (J61 x41 h60) (J61 u0 h60)) fun x62 h63 =>
 jv (fun J64 => gdN x59 (bnd (call (.f 38) [x62, (.str [35])] h63) J64) (J64 u0 h63)) fun x65 h66 =>
 bnd (pkF x59 (.bool true) x65 h66) fun x67 h68 =>
 cnd x67
 (bnd (ldA 3 x0 h68) fun x69 h70 =>
 bnd (call (.f 82) [a0, (.int .i64 3), x69] h70) fun x71 h72 =>
 bnd (stA 4 x2 x71 h72) fun _ h74 =>
 bnd (ldA 4 x2 h74) fun r75 _ =>
 some (r75, h74))
 (J40 [a1, x8, x41, x41, x41, x43, x45, x45, x48, x51, x54, x57, x59, x59, x62, x65, x67, u0, u0, u0] h68)) fun c76 h77 =>
 bnd (ldA 4 x12 h77) fun x78 h79 =>
 bnd (stA 4 x2 x78 h79) fun _ h81 =>
 bnd (ldA 4 x2 h81) fun r82 _ =>
 some (r82, h81))
theorem k129 : FsOk Tryz.prog 129 (.shal s129) := fs0 3 45 d129 Tryz.func129 rfl (by kernel_rfl) (by kernel_rfl) (by kernel_rfl) (by kernel_rfl)
def d134 : List RV := [.t 4, .t 5]
noncomputable def s134 : Call → List V → HP → RB := fun call l H => unc l fun a0 l0 => unc l0 fun a1 l1 => nilK l1 (
 bnd (call (.f 142) [a0, a1] H) fun x0 h1 =>
 bnd (slT0 a0 x0 h1) fun x2 h3 =>
 bnd (call (.f 44) [x2, (.str [32])] h3) fun x4 h5 =>
 some (.tup [x4, x0], h5))
theorem k134 : FsOk Tryz.prog 134 (.shal s134) := fs0 2 15 d134 Tryz.func134 rfl (by kernel_rfl) (by kernel_rfl) (by kernel_rfl) (by kernel_rfl)
def d137 : List RV := [.t 2, .t 3]
noncomputable def s137 : Call → List V → HP → RB := fun call l H => unc l fun a0 l0 => nilK l0 (
 bnd (call (.f 158) [a0] H) fun x0 h1 =>
 bnd (exF x0 0 h1) fun x2 h3 =>
 bnd (exF x0 1 h3) fun x4 h5 =>
 jn (fun J6 =>
 bnd (orR (binB 2 none .neq true x4 .niliface h5) (eqFaB ity .neq x4 .niliface h5)) fun x7 h8 =>
 jv (fun J9 => gdN x7 (J9 x2 h8) (J9 u0 h8)) fun x10 h11 =>
 jv (fun J12 => gdN x7 (bnd (call (.f 159) [x10] h11) J12) (J12 u0 h11)) fun x13 h14 =>
 jv (fun J15 => gdN x7 (J15 a0 h14) (J15 u0 h14)) fun x16 h17 =>
 jv (fun J18 => gdN x7 (bnd (neT x13 x16 h17) J18) (J18 u0 h17)) fun x19 h20 =>
 bnd (pkF x7 (.bool true) x19 h20) fun x21 h22 =>
 cnd x21
 (some (.tup [(.int .i64 0), (.bool false)], h22))
 (J6 [x4, x7, x7, x10, x13, x16, x19, x21, (.int .i64 0), (.bool false)] h22)) fun c23 h24 =>
 some (.tup [x2, (.bool true)], h24))
theorem k137 : FsOk Tryz.prog 137 (.shal s137) := fs0 1 20 d137 Tryz.func137 rfl (by kernel_rfl) (by kernel_rfl) (by kernel_rfl) (by kernel_rfl)
def d138 : List RV := [.t 3]
noncomputable def s138 : Call → List V → HP → RB := fun call l H => unc l fun a0 l0 => unc l0 fun a1 l1 => nilK l1 (
 bnd (ld1 a1 H) fun x0 h1 =>
 bnd (boF 3 false 1 1 [a0] h1) fun x2 h3 =>
 bnd (orM (apF 3 false 1 8 (.int .i64 0) x0 x2 h3) (orR (appendB 3 false 1 8 (.int .i64 0) x0 x2 h3) (appInB 3 1 8 x0 x2 h3))) fun x4 h5 =>
 bnd (st2 a1 x4 h5) fun _ h7 =>
 bnd (geF a0 (.int .i64 0) h7) fun x8 h9 =>
 some (x8, h9))
theorem k138 : FsOk Tryz.prog 138 (.shal s138) := fs0 2 10 d138 Tryz.func138 rfl (by kernel_rfl) (by kernel_rfl) (by kernel_rfl) (by kernel_rfl)
def d140 : List RV := [.t 4]
noncomputable def s140 : Call → List V → HP → RB := fun call l H => unc l fun a0 l0 => unc l0 fun a1 l1 => nilK l1 (
 bnd (lenT a0 H) fun x0 h1 =>
 bnd (lenT a1 h1) fun x2 h3 =>
 bnd (geF x0 x2 h3) fun x4 h5 =>
 jv (fun J6 => gdT x4 (J6 a0 h5) (J6 u0 h5)) fun x7 h8 =>
 jv (fun J9 => gdT x4 (J9 a0 h8) (J9 u0 h8)) fun x10 h11 =>
 jv (fun J12 => gdT x4 (bnd (lenT x10 h11) J12) (J12 u0 h11)) fun x13 h14 =>
 jv (fun J15 => gdT x4 (J15 a1 h14) (J15 u0 h14)) fun x16 h17 =>
 jv (fun J18 => gdT x4 (bnd (lenT x16 h17) J18) (J18 u0 h17)) fun x19 h20 =>
 jv (fun J21 => gdT x4 (bnd (subF x13 x19 h20) J21) (J21 u0 h20)) fun x22 h23 =>
 jv (fun J24 => gdT x4 (bnd (slT1 x7 x22 h23) J24) (J24 u0 h23)) fun x25 h26 =>
 jv (fun J27 => gdT x4 (J27 a1 h26) (J27 u0 h26)) fun x28 h29 =>
 jv (fun J30 => gdT x4 (bnd (eqT x25 x28 h29) J30) (J30 u0 h29)) fun x31 h32 =>
 bnd (pkF x4 x31 (.bool false) h32) fun x33 h34 =>
 some (x33, h34))
theorem k140 : FsOk Tryz.prog 140 (.shal s140) := fs0 2 21 d140 Tryz.func140 rfl (by kernel_rfl) (by kernel_rfl) (by kernel_rfl) (by kernel_rfl)
def d141 : List RV := [.t 4]
noncomputable def s141 : Call → List V → HP → RB := fun call l H => unc l fun a0 l0 => unc l0 fun a1 l1 => nilK l1 (
 bnd (eqT a0 (.str []) H) fun x0 h1 =>
 jv (fun J2 => gdN x0 (J2 a0 h1) (J2 u0 h1)) fun x3 h4 =>
 jv (fun J5 => gdN x0 (bnd (ixF x3 (.int .i64 0) h4) J5) (J5 u0 h4)) fun x6 h7 =>
 jv (fun J8 => gdN x0 (bnd (eqF x6 (.int .u8 32) h7) J8) (J8 u0 h7)) fun x9 h10 =>
 bnd (pkF x0 (.bool true) x9 h10) fun x11 h12 =>
 jv (fun J13 => gdN x11 (J13 a0 h12) (J13 u0 h12)) fun x14 h15 =>
 jv (fun J16 => gdN x11 (J16 a1 h15) (J16 u0 h15)) fun x17 h18 =>
 jv (fun J19 => gdN x11 (bnd (call (.f 163) [x14, x17] h18) J19) (J19 u0 h18)) fun x20 h21 =>
 bnd (pkF x11 (.bool true) x20 h21) fun x22 h23 =>
 some (x22, h23))
theorem k141 : FsOk Tryz.prog 141 (.shal s141) := fs0 2 17 d141 Tryz.func141 rfl (by kernel_rfl) (by kernel_rfl) (by kernel_rfl) (by kernel_rfl)
def d142 : List RV := [.t 4]
noncomputable def s142 : Call → List V → HP → RB := fun call l H => unc l fun a0 l0 => unc l0 fun a1 l1 => nilK l1 (
 bnd (bx1 9 a0 H) fun x0 h1 =>
 bnd (bx1 4 a1 h1) fun x2 h3 =>
 bnd (some (.fn 164 [] [x0, x2], h3)) fun x4 h5 =>
 jn (fun J6 =>
 bnd (ld1 x0 h5) fun x7 h8 =>
 bnd (lenT x7 h8) fun x9 h10 =>
 lpK (fun n11 c12 h13 =>
 bnd (ltF (nthV c12 9) x9 h13) fun x14 h15 =>
 jn (fun J16 =>
 cnd x14
 (J16 [] h15)
 (J6 [x7, x9, x14, (nthV c12 1), (nthV c12 2), (nthV c12 3), (nthV c12 4), (nthV c12 5), (nthV c12 6), (nthV c12 7), (nthV c12 8), (nthV c12 9)] h15)) fun c17 h18 =>
 jn (fun J19 =>
 cvK call x4 [(nthV c12 9)] h18 fun x20 h21 =>
 cnd x20
 (some ((nthV c12 9), h21))
 (J19 [(nthV c12 9), (nthV c12 9), x4, (nthV c12 9), x20, (nthV c12 6), (nthV c12 7)] h21)) fun c22 h23 =>
 bnd (addF (nthV c12 9) (.int .i64 1) h23) fun x24 h25 =>
 n11 [x14, (nthV c22 0), (nthV c22 1), (nthV c22 2), (nthV c22 3), (nthV c22 4), (nthV c22 5), (nthV c22 6), x24, x24] h25) [u0, u0, u0, u0, u0, u0, u0, (.int .i64 0), u0, (.int .i64 0)] h10) fun c26 h27 =>
 bnd (ld1 x0 h27) fun x28 h29 =>
 bnd (lenT x28 h29) fun x30 h31 =>
 some (x30, h31))
theorem k142 : FsOk Tryz.prog 142 (.shal s142) := fs0 2 20 d142 Tryz.func142 rfl (by kernel_rfl) (by kernel_rfl) (by kernel_rfl) (by kernel_rfl)
def d145 : List RV := [.t 4]
noncomputable def s145 : Call → List V → HP → RB := fun call l H => unc l fun a0 l0 => unc l0 fun a1 l1 => nilK l1 (
 jn (fun J0 =>
 bnd (ltF a1 (.int .i64 0) H) fun x1 h2 =>
 cnd x1
 (bnd (some (.iface 9 (.str [99, 97, 110, 110, 111, 116, 32, 98, 101, 32, 110, 101, 103, 97, 116, 105, 118, 101]), h2)) fun x3 h4 =>
 bnd (none) fun _ h6 =>
 J0 [a1, x1, x3] h6)
 (J0 [a1, x1, u0] h2)) fun c7 h8 =>
 jn (fun J9 =>
 bnd (capB a0 h8) fun x10 h11 =>
 bnd (lenL a0 h11) fun x12 h13 =>
 bnd (subF x10 x12 h13) fun x14 h15 =>
 bnd (subF a1 x14 h15) fun x16 h17 =>
 bnd (gtF x16 (.int .i64 0) h17) fun x18 h19 =>
 cnd x18
 (bnd (capB a0 h19) fun x20 h21 =>
 bnd (sliceSlB 3 a0 none (some x20) none h21) fun x22 h23 =>
 bnd (growB 57 true 3 32 (.agg [(.int .i64 0), (.str []), (.int .i64 0)]) x22 x16 h23) fun x24 h25 =>
 bnd (lenL a0 h25) fun x26 h27 =>
 bnd (sliceSlB 3 x24 none (some x26) none h27) fun x28 h29 =>
 J9 [a1, a0, x10, a0, x12, x14, x16, x16, x16, x18, a0, a0, x20, x22, x16, x24, a0, x26, x28, x28] h29)
 (J9 [a1, a0, x10, a0, x12, x14, x16, x16, x16, x18, u0, u0, u0, u0, u0, u0, u0, u0, u0, a0] h19)) fun c30 h31 =>
 some ((nthV c30 19), h31))
theorem k145 : FsOk Tryz.prog 145 (.shal s145) := fs0 2 27 d145 Tryz.func145 rfl (by kernel_rfl) (by kernel_rfl) (by kernel_rfl) (by kernel_rfl)
def d146 : List RV := [.t 4, .t 5]
noncomputable def s146 : Call → List V → HP → RB := fun call l H => unc l fun a0 l0 => unc l0 fun a1 l1 => nilK l1 (
 jn (fun J0 =>
 bnd (call (.f 69) [a0, a1] H) fun x1 h2 =>
 bnd (ntF x1 h2) fun x3 h4 =>
 cnd x3
 (some (.tup [a0, (.bool false)], h4))
 (J0 [a0, a1, x1, x3, u0, (.str []), (.bool false)] h4)) fun c5 h6 =>
 bnd (lenT a1 h6) fun x7 h8 =>
 bnd (slT1 a0 x7 h8) fun x9 h10 =>
 some (.tup [x9, (.bool true)], h10))
theorem k146 : FsOk Tryz.prog 146 (.shal s146) := fs0 2 15 d146 Tryz.func146 rfl (by kernel_rfl) (by kernel_rfl) (by kernel_rfl) (by kernel_rfl)
def d147 : List RV := [.t 4, .t 5, .t 6]
noncomputable def s147 : Call → List V → HP → RB := fun call l H => unc l fun a0 l0 => unc l0 fun a1 l1 => nilK l1 (
 bnd (call (.f 169) [a0, a1] H) fun x0 h1 =>
 bnd (exF x0 0 h1) fun x2 h3 =>
 bnd (exF x0 1 h3) fun x4 h5 =>
 bnd (exF x0 2 h5) fun x6 h7 =>
 some (.tup [x2, x4, x6], h7))
theorem k147 : FsOk Tryz.prog 147 (.shal s147) := fs0 2 13 d147 Tryz.func147 rfl (by kernel_rfl) (by kernel_rfl) (by kernel_rfl) (by kernel_rfl)
def d148 : List RV := [.t 4]
noncomputable def s148 : Call → List V → HP → RB := fun call l H => unc l fun a0 l0 => unc l0 fun a1 l1 => nilK l1 (
 jn (fun J0 =>
 bnd (lenL a0 H) fun x1 h2 =>
 lpK (fun n3 c4 h5 =>
 bnd (ltF (nthV c4 12) x1 h5) fun x6 h7 =>
 jn (fun J8 =>
 cnd x6
 (J8 [] h7)
 (J0 [a0, x1, x6, (nthV c4 1), (nthV c4 2), (nthV c4 3), (nthV c4 4), (nthV c4 5), (nthV c4 6), (nthV c4 7), (nthV c4 8), (nthV c4 9), (nthV c4 10), (nthV c4 11), (nthV c4 12)] h7)) fun c9 h10 =>
 jn (fun J11 =>
 bnd (iaS 1 a0 (nthV c4 12) h10) fun x12 h13 =>
 bnd (ld1 x12 h13) fun x14 h15 =>
 bnd (eqT a1 x14 h15) fun x16 h17 =>
 cnd x16
 (some ((nthV c4 12), h17))
 (J11 [(nthV c4 12), (nthV c4 12), a1, a0, (nthV c4 12), x12, x14, x16, (nthV c4 9), (nthV c4 10)] h17)) fun c18 h19 =>
 bnd (addF (nthV c4 12) (.int .i64 1) h19) fun x20 h21 =>
 n3 [x6, (nthV c18 0), (nthV c18 1), (nthV c18 2), (nthV c18 3), (nthV c18 4), (nthV c18 5), (nthV c18 6), (nthV c18 7), (nthV c18 8), (nthV c18 9), x20, x20] h21) [u0, u0, u0, u0, u0, u0, u0, u0, u0, u0, (.int .i64 0), u0, (.int .i64 0)] h2) fun c22 h23 =>
 some ((.int .i64 (-1)), h23))
theorem k148 : FsOk Tryz.prog 148 (.shal s148) := fs0 2 19 d148 Tryz.func148 rfl (by kernel_rfl) (by kernel_rfl) (by kernel_rfl) (by kernel_rfl)
def d158 : List RV := [.t 2, .t 3]
noncomputable def s158 : Call → List V → HP → RB := fun call l H => unc l fun a0 l0 => nilK l0 (
 bnd (call (.f 175) [a0] H) fun x0 h1 =>
 bnd (exF x0 0 h1) fun x2 h3 =>
 bnd (exF x0 1 h3) fun x4 h5 =>
 jn (fun J6 =>
 bnd (orR (binB 2 none .neq true x4 .niliface h5) (eqFaB ity .neq x4 .niliface h5)) fun x7 h8 =>
 cnd x7
 (bnd (call (.f 176) [(.str [65, 116, 111, 105]), a0, (.int .i64 0), (.int .i64 0), x4] h8) fun x9 h10 =>
 some (.tup [x2, x9], h10))
 (J6 [x4, x7, u0, u0, u0, u0, (.int .i64 0), .niliface] h8)) fun c11 h12 =>
 some (.tup [x2, .niliface], h12))
theorem k158 : FsOk Tryz.prog 158 (.shal s158) := fs0 1 18 d158 Tryz.func158 rfl (by kernel_rfl) (by kernel_rfl) (by kernel_rfl) (by kernel_rfl)
def d159 : List RV := [.t 2]
noncomputable def s159 : Call → List V → HP → RB := fun call l H => unc l fun a0 l0 => nilK l0 (
 bnd (call (.f 177) [a0] H) fun x0 h1 =>
 some (x0, h1))
theorem k159 : FsOk Tryz.prog 159 (.shal s159) := fs0 1 5 d159 Tryz.func159 rfl (by kernel_rfl) (by kernel_rfl) (by kernel_rfl) (by kernel_rfl)
def d163 : List RV := [.t 4]
noncomputable def s163 : Call → List V → HP → RB := fun call l H => unc l fun a0 l0 => unc l0 fun a1 l1 => nilK l1 (
 jv (fun J0 => gdT a1 (J0 a0 H) (J0 u0 H)) fun x1 h2 =>
 jv (fun J3 => gdT a1 (bnd (neT x1 (.str []) h2) J3) (J3 u0 h2)) fun x4 h5 =>
 bnd (pkF a1 x4 (.bool false) h5) fun x6 h7 =>
 jv (fun J8 => gdT x6 (J8 a0 h7) (J8 u0 h7)) fun x9 h10 =>
 jv (fun J11 => gdT x6 (bnd (ixF x9 (.int .i64 0) h10) J11) (J11 u0 h10)) fun x12 h13 =>
 jv (fun J14 => gdT x6 (bnd (call (.f 43) [(.str [44, 91, 93, 123, 125]), x12] h13) J14) (J14 u0 h13)) fun x15 h16 =>
 jv (fun J17 => gdT x6 (bnd (geF x15 (.int .i64 0) h16) J17) (J17 u0 h16)) fun x18 h19 =>
 bnd (pkF x6 x18 (.bool false) h19) fun x20 h21 =>
 some (x20, h21))
theorem k163 : FsOk Tryz.prog 163 (.shal s163) := fs0 2 16 d163 Tryz.func163 rfl (by kernel_rfl) (by kernel_rfl) (by kernel_rfl) (by kernel_rfl)
def d164 : List RV := [.t 4]
noncomputable def s164 : Call → List V → HP → RB := fun call l H => unc l fun a0 l0 => unc l0 fun a1 l1 => unc l1 fun a2 l2 => nilK l2 (
 jn (fun J0 =>
 bnd (ld1 a1 H) fun x1 h2 =>
 bnd (ixF x1 a0 h2) fun x3 h4 =>
 bnd (eqF x3 (.int .u8 58) h4) fun x5 h6 =>
 cnd x5
 (bnd (ld1 a1 h6) fun x7 _ =>
 bnd (addF a0 (.int .i64 1) h6) fun x8 _ =>
 bnd (slT1 x7 x8 h6) fun x9 _ =>
 bnd (ld1 a2 h6) fun x10 _ =>
 bnd (noY call (.f 141) [x9, x10] h6) fun x11 h12 =>
 some (x11, h12))
 (bnd (eqF x3 (.int .u8 35) h6) fun x13 h14 =>
 cnd x13
 (bnd (gtF a0 (.int .i64 0) h14) fun x15 h16 =>
 jv (fun J17 => gdT x15 (bnd (ld1 a1 h16) J17) (J17 u0 h16)) fun x18 h19 =>
 jv (fun J20 => gdT x15 (J20 a0 h19) (J20 u0 h19)) fun x21 h22 =>
 jv (fun J23 => gdT x15 (bnd (subF x21 (.int .i64 1) h22) J23) (J23 u0 h22)) fun x24 h25 =>
 jv (fun J26 => gdT x15 (bnd (ixF x18 x24 h25) J26) (J26 u0 h25)) fun x27 h28 =>
 jv (fun J29 => gdT x15 (bnd (eqF x27 (.int .u8 32) h28) J29) (J29 u0 h28)) fun x30 h31 =>
 bnd (pkF x15 x30 (.bool false) h31) fun x32 h33 =>
 some (x32, h33))
 (J0 [x1, a0, x3, x5, x5, u0, u0, u0, u0, u0, u0, x13, x13, u0, u0, u0, u0, u0, u0, u0, u0, u0, (.bool false)] h14))) fun c34 h35 =>
 bnd (ld1 a1 h35) fun x36 _ =>
 bnd (slT1 x36 a0 h35) fun x37 _ =>
 bnd (ld1 a2 h35) fun x38 _ =>
 bnd (noY call (.f 163) [x37, x38] h35) fun x39 h40 =>
 some (x39, h40))
theorem k164 : FsOk Tryz.prog 164 (.shal s164) := fs0 3 32 d164 Tryz.func164 rfl (by kernel_rfl) (by kernel_rfl) (by kernel_rfl) (by kernel_rfl)
def d169 : List RV := [.t 4, .t 5, .t 6]
noncomputable def s169 : Call → List V → HP → RB := fun call l H => unc l fun a0 l0 => unc l0 fun a1 l1 => nilK l1 (
 jn (fun J0 =>
 bnd (call (.f 180) [a0, a1] H) fun x1 h2 =>
 bnd (geF x1 (.int .i64 0) h2) fun x3 h4 =>
 cnd x3
 (bnd (slT0 a0 x1 h4) fun x5 _ =>
 bnd (lenT a1 h4) fun x6 _ =>
 bnd (addF x1 x6 h4) fun x7 _ =>
 bnd (slT1 a0 x7 h4) fun x8 _ =>
 some (.tup [x5, x8, (.bool true)], h4))
 (J0 [a0, a1, x1, x1, x1, x3, u0, u0, u0, u0, u0, u0, u0, u0, u0, (.str []), (.str []), (.bool false)] h4)) fun c9 h10 =>
 some (.tup [a0, (.str []), (.bool false)], h10))
theorem k169 : FsOk Tryz.prog 169 (.shal s169) := fs0 2 23 d169 Tryz.func169 rfl (by kernel_rfl) (by kernel_rfl) (by kernel_rfl) (by kernel_rfl)
def d175 : List RV := [.t 2, .t 3]
noncomputable def s175 : Call → List V → HP → RB := fun call l H => unc l fun a0 l0 => nilK l0 (
 bnd (lenT a0 H) fun x0 h1 =>
 jn (fun J2 =>
 jv (fun J3 => gdT (.bool false) (J3 x0 h1) (J3 u0 h1)) fun x4 h5 =>
 jv (fun J6 => gdT (.bool false) (bnd (ltF (.int .i64 0) x4 h5) J6) (J6 u0 h5)) fun x7 h8 =>
 jv (fun J9 => gdT (.bool false) (J9 x7 h8) (J9 u0 h8)) fun x10 h11 =>
 jv (fun J12 => gdT x10 (J12 x0 h11) (J12 u0 h11)) fun x13 h14 =>
 jv (fun J15 => gdT x10 (bnd (ltF x13 (.int .i64 10) h14) J15) (J15 u0 h14)) fun x16 h17 =>
 jv (fun J18 => gdT (.bool false) (bnd (pkF x10 x16 (.bool false) h17) J18) (J18 u0 h17)) fun x19 h20 =>
 bnd (pkF (.bool false) x19 (.bool false) h20) fun x21 h22 =>
 jv (fun J23 => gdN x21 (J23 (.bool true) h22) (J23 u0 h22)) fun x24 h25 =>
 jv (fun J26 => gdT x24 (J26 x0 h25) (J26 u0 h25)) fun x27 h28 =>
 jv (fun J29 => gdT x24 (bnd (ltF (.int .i64 0) x27 h28) J29) (J29 u0 h28)) fun x30 h31 =>
 jv (fun J32 => gdT x24 (J32 x30 h31) (J32 u0 h31)) fun x33 h34 =>
 jv (fun J35 => gdT x33 (J35 x0 h34) (J35 u0 h34)) fun x36 h37 =>
 jv (fun J38 => gdT x33 (bnd (ltF x36 (.int .i64 19) h37) J38) (J38 u0 h37)) fun x39 h40 =>
 jv (fun J41 => gdT x24 (bnd (pkF x33 x39 (.bool false) h40) J41) (J41 u0 h40)) fun x42 h43 =>
 jv (fun J44 => gdN x21 (bnd (pkF x24 x42 (.bool false) h43) J44) (J44 u0 h43)) fun x45 h46 =>
 bnd (pkF x21 (.bool true) x45 h46) fun x47 h48 =>
 cnd x47
 (jn (fun J49 =>
 bnd (ixF a0 (.int .i64 0) h48) fun x50 h51 =>
 bnd (eqF x50 (.int .u8 45) h51) fun x52 h53 =>
 jv (fun J54 => gdN x52 (J54 a0 h53) (J54 u0 h53)) fun x55 h56 =>
 jv (fun J57 => gdN x52 (bnd (ixF x55 (.int .i64 0) h56) J57) (J57 u0 h56)) fun x58 h59 =>
 jv (fun J60 => gdN x52 (bnd (eqF x58 (.int .u8 43) h59) J60) (J60 u0 h59)) fun x61 h62 =>
 bnd (pkF x52 (.bool true) x61 h62) fun x63 h64 =>
 cnd x63
 (bnd (slT1 a0 (.int .i64 1) h64) fun x65 h66 =>
 bnd (lenT x65 h66) fun x67 h68 =>
 bnd (ltF x67 (.int .i64 1) h68) fun x69 h70 =>
 cnd x69
 (bnd (some (.iface 243 (.int .i64 2), h70)) fun x71 h72 =>
 some (.tup [(.int .i64 0), x71], h72))
 (J49 [a0, x50, x52, x52, x55, x58, x61, x63, a0, x65, x65, x65, x67, x69, u0, (.int .i64 0), .niliface] h70))
 (J49 [a0, x50, x52, x52, x55, x58, x61, x63, u0, u0, a0, u0, u0, u0, u0, (.int .i64 0), .niliface] h64)) fun c73 h74 =>
 jn (fun J75 =>
 bnd (cvtBB true 5 (nthV c73 10) h74) fun x76 h77 =>
 bnd (lenL x76 h77) fun x78 h79 =>
 lpK (fun n80 c81 h82 =>
 bnd (ltF (nthV c81 18) x78 h82) fun x83 h84 =>
 jn (fun J85 =>
 cnd x83
 (J85 [] h84)
 (J75 [(nthV c73 10), x76, x78, x83, (nthV c81 1), (nthV c81 2), (nthV c81 3), (nthV c81 4), (nthV c81 5), (nthV c81 6), (nthV c81 7), (nthV c81 8), (nthV c81 9), (nthV c81 10), (nthV c81 11), (nthV c81 12), (nthV c81 13), (nthV c81 14), (nthV c81 15), (nthV c81 16), (nthV c81 17), (nthV c81 18)] h84)) fun c86 h87 =>
 jn (fun J88 =>
 bnd (iaS 1 x76 (nthV c81 18) h87) fun x89 h90 =>
 bnd (ld1 x89 h90) fun x91 h92 =>
 bnd (subF x91 (.int .u8 48) h92) fun x93 h94 =>
 jn (fun J95 =>
 bnd (gtF x93 (.int .u8 9) h94) fun x96 h97 =>
 cnd x96
 (bnd (some (.iface 243 (.int .i64 2), h97)) fun x98 h99 =>
 some (.tup [(.int .i64 0), x98], h99))
 (J95 [x93, x96, (nthV c81 8), (nthV c81 9), (nthV c81 10)] h97)) fun c100 h101 =>
 bnd (binB 0 none .mul true (nthV c81 16) (.int .i64 10) h101) fun x102 h103 =>
 bnd (cvF .i64 x93 h103) fun x104 h105 =>
 bnd (addF x102 x104 h105) fun x106 h107 =>
 J88 [x89, x91, x91, x93, x93, (nthV c100 0), (nthV c100 1), (nthV c100 2), (nthV c100 3), (nthV c100 4), (nthV c81 16), x102, x93, x104, x106, x106] h107) fun c108 h109 =>
 bnd (addF (nthV c81 18) (.int .i64 1) h109) fun x110 h111 =>
 n80 [x83, (nthV c108 0), (nthV c108 1), (nthV c108 2), (nthV c108 3), (nthV c108 4), (nthV c108 5), (nthV c108 6), (nthV c108 7), (nthV c108 8), (nthV c108 9), (nthV c108 10), (nthV c108 11), (nthV c108 12), (nthV c108 13), (nthV c108 14), (nthV c108 15), x110, x110] h111) [u0, u0, u0, u0, u0, u0, u0, u0, u0, (nthV c73 15), (nthV c73 16), u0, u0, u0, u0, u0, (.int .i64 0), u0, (.int .i64 0)] h79) fun c112 h113 =>
 jn (fun J114 =>
 bnd (ixF a0 (.int .i64 0) h113) fun x115 h116 =>
 bnd (eqF x115 (.int .u8 45) h116) fun x117 h118 =>
 cnd x117
 (bnd (unB .neg (nthV c112 19) h118) fun x119 h120 =>
 J114 [a0, x115, x117, (nthV c112 19), x119, x119] h120)
 (J114 [a0, x115, x117, u0, u0, (nthV c112 19)] h118)) fun c121 h122 =>
 some (.tup [(nthV c121 5), .niliface], h122))
 (J2 [(.bool false), x4, x7, x10, x13, x16, x19, x21, x21, x24, x27, x30, x33, x36, x39, x42, x45, x47, u0, u0, u0, u0, u0, u0, u0, u0, u0, u0, u0, u0, a0, u0, u0, u0, u0, u0, u0, u0, u0, u0, u0, u0, u0, u0, u0, u0, u0, u0, u0, u0, u0, u0, u0, u0, u0, u0, u0, u0, u0, u0, u0, (.int .i64 0), .niliface] h48)) fun c123 h124 =>
 bnd (call (.f 184) [(nthV c123 30), (.int .i64 10), (.int .i64 0)] h124) fun x125 h126 =>
 bnd (exF x125 0 h126) fun x127 h128 =>
 bnd (exF x125 1 h128) fun x129 h130 =>
 some (.tup [x127, x129], h130))
theorem k175 : FsOk Tryz.prog 175 (.shal s175) := fs0 1 77 d175 Tryz.func175 rfl (by kernel_rfl) (by kernel_rfl) (by kernel_rfl) (by kernel_rfl)
def d176 : List RV := [.t 10]
noncomputable def s176 : Call → List V → HP → RB := fun call l H => unc l fun a0 l0 => unc l0 fun a1 l1 => unc l1 fun a2 l2 => unc l2 fun a3 l3 => unc l3 fun a4 l4 => nilK l4 (
 jn (fun J0 =>
 bnd (some (.iface 243 (.int .i64 2), H)) fun x1 h2 =>
 bnd (orR (binB 2 none .eql false a4 x1 h2) (eqFaB ity .eql a4 x1 h2)) fun x3 h4 =>
 cnd x3
 (bnd (call (.f 185) [a0, a1] h4) fun x5 h6 =>
 bnd (some (.iface 246 x5, h6)) fun x7 h8 =>
 some (x7, h8))
 (bnd (some (.iface 243 (.int .i64 1), h4)) fun x9 h10 =>
 bnd (orR (binB 2 none .eql false a4 x9 h10) (eqFaB ity .eql a4 x9 h10)) fun x11 h12 =>
 cnd x11
 (bnd (call (.f 186) [a0, a1] h12) fun x13 h14 =>
 bnd (some (.iface 246 x13, h14)) fun x15 h16 =>
 some (x15, h16))
 (bnd (some (.iface 243 (.int .i64 3), h12)) fun x17 h18 =>
 bnd (orR (binB 2 none .eql false a4 x17 h18) (eqFaB ity .eql a4 x17 h18)) fun x19 h20 =>
 cnd x19
 (bnd (call (.f 187) [a0, a1, a2] h20) fun x21 h22 =>
 bnd (some (.iface 246 x21, h22)) fun x23 h24 =>
 some (x23, h24))
 (bnd (some (.iface 243 (.int .i64 4), h20)) fun x25 h26 =>
 bnd (orR (binB 2 none .eql false a4 x25 h26) (eqFaB ity .eql a4 x25 h26)) fun x27 h28 =>
 cnd x27
 (bnd (call (.f 188) [a0, a1, a3] h28) fun x29 h30 =>
 bnd (some (.iface 246 x29, h30)) fun x31 h32 =>
 some (x31, h32))
 (J0 [a4, x1, x3, x3, u0, u0, u0, u0, x9, x11, x11, u0, u0, u0, u0, x17, x19, x19, u0, u0, u0, u0, u0, x25, x27, x27, u0, u0, u0, u0, u0, .niliface] h28))))) fun c33 h34 =>
 some (a4, h34))
theorem k176 : FsOk Tryz.prog 176 (.shal s176) := fs0 5 43 d176 Tryz.func176 rfl (by kernel_rfl) (by kernel_rfl) (by kernel_rfl) (by kernel_rfl)
def d177 : List RV := [.t 2]
noncomputable def s177 : Call → List V → HP → RB := fun call l H => unc l fun a0 l0 => nilK l0 (
 bnd (call (.f 189) [a0] H) fun x0 h1 =>
 some (x0, h1))
theorem k177 : FsOk Tryz.prog 177 (.shal s177) := fs0 1 5 d177 Tryz.func177 rfl (by kernel_rfl) (by kernel_rfl) (by kernel_rfl) (by kernel_rfl)
def d180 : List RV := [.t 4]
noncomputable def s180 : Call → List V → HP → RB := fun call l H => unc l fun a0 l0 => unc l0 fun a1 l1 => nilK l1 (
 bnd (lenT a1 H) fun x0 h1 =>
 jn (fun J2 =>
 bnd (eqF x0 (.int .i64 0) h1) fun x3 h4 =>
 jv (fun J5 => gdN x3 (J5 a1 h4) (J5 u0 h4)) fun x6 h7 =>
 jv (fun J8 => gdN x3 (J8 a0 h7) (J8 u0 h7)) fun x9 h10 =>
 jv (fun J11 => gdN x3 (bnd (eqT x6 x9 h10) J11) (J11 u0 h10)) fun x12 h13 =>
 bnd (pkF x3 (.bool true) x12 h13) fun x14 h15 =>
 cnd x14
 (some ((.int .i64 0), h15))
 (bnd (eqF x0 (.int .i64 1) h15) fun x16 h17 =>
 cnd x16
 (bnd (ixF a1 (.int .i64 0) h17) fun x18 h19 =>
 bnd (call (.f 77) [a0, x18] h19) fun x20 h21 =>
 some (x20, h21))
 (bnd (lenT a0 h17) fun x22 h23 =>
 bnd (geF x0 x22 h23) fun x24 h25 =>
 cnd x24
 (some ((.int .i64 (-1)), h25))
 (bnd (ld1 (gv 0) h25) fun x26 h27 =>
 bnd (leF x0 x26 h27) fun x28 h29 =>
 jv (fun J30 => gdT x28 (J30 a0 h29) (J30 u0 h29)) fun x31 h32 =>
 jv (fun J33 => gdT x28 (bnd (lenT x31 h32) J33) (J33 u0 h32)) fun x34 h35 =>
 jv (fun J36 => gdT x28 (bnd (leF x34 (.int .i64 64) h35) J36) (J36 u0 h35)) fun x37 h38 =>
 bnd (pkF x28 x37 (.bool false) h38) fun x39 h40 =>
 cnd x39
 (bnd (call (.f 157) [a0, a1] h40) fun x41 h42 =>
 some (x41, h42))
 (J2 [x0, x3, x3, x6, x9, x12, x14, x14, x0, x16, x16, u0, u0, u0, u0, x0, a0, x22, x24, x24, x0, x26, x28, x28, x31, x34, x37, x39, x39, u0, u0, u0, (.int .i64 0)] h40))))) fun c43 h44 =>
 bnd (ixF a1 (.int .i64 0) h44) fun x45 h46 =>
 bnd (ixF a1 (.int .i64 1) h46) fun x47 h48 =>
 bnd (lenT a0 h48) fun x49 h50 =>
 bnd (subF x49 x0 h50) fun x51 h52 =>
 bnd (addF x51 (.int .i64 1) h52) fun x53 h54 =>
 jn (fun J55 =>
 lpK (fun n56 c57 h58 =>
 jn (fun J59 =>
 bnd (ltF (nthV c57 41) x53 h58) fun x60 h61 =>
 cnd x60
 (J59 [(nthV c57 41), x53, x60] h61)
 (J55 [(nthV c57 41), x53, x60, (nthV c57 3), (nthV c57 4), (nthV c57 5), (nthV c57 6), (nthV c57 7), (nthV c57 8), (nthV c57 9), (nthV c57 10), (nthV c57 11), (nthV c57 12), (nthV c57 13), (nthV c57 14), (nthV c57 15), (nthV c57 16), (nthV c57 17), (nthV c57 18), (nthV c57 19), (nthV c57 20), (nthV c57 21), (nthV c57 22), (nthV c57 23), (nthV c57 24), (nthV c57 25), (nthV c57 26), (nthV c57 27), (nthV c57 28), (nthV c57 29), (nthV c57 30), (nthV c57 31), (nthV c57 32), (nthV c57 33), (nthV c57 34), (nthV c57 35), (nthV c57 36), (nthV c57 37), (nthV c57 38), (nthV c57 39), (nthV c57 40), (nthV c57 41), (nthV c57 42), (nthV c57 43), (nthV c57 44), (nthV c57 45), (nthV c57 46), (nthV c57 47), (nthV c57 48), (nthV c57 49), (nthV c57 50), (nthV c57 51), (nthV c57 52), (nthV c57 53), (nthV c57 54), (nthV c57 55), (nthV c57 56), (nthV c57 57), (nthV c57 58), (nthV c57 59), (nthV c57 60), (nthV c57 61), (nthV c57 62), (nthV c57 63), (nthV c57 64), (nthV c57 65), (nthV c57 66), (nthV c57 67), (nthV c57 68), (nthV c57 69), (nthV c57 70), (nthV c57 71), (nthV c57 72), (nthV c57 73), (nthV c57 74), (nthV c57 75), (nthV c57 76), (nthV c57 77), (nthV c57 78), (nthV c57 79), (nthV c57 80), (nthV c57 81), (nthV c57 82), (nthV c57 83), (nthV c57 84), (nthV c57 85), (nthV c57 86), (nthV c57 87), (nthV c57 88), (nthV c57 89), (nthV c57 90), (nthV c57 91)] h61)) fun c62 h63 =>
 jn (fun J64 =>
 bnd (ixF a0 (nthV c57 41) h63) fun x65 h66 =>
 bnd (neF x65 x45 h66) fun x67 h68 =>
 cnd x67
 (bnd (addF (nthV c57 41) (.int .i64 1) h68) fun x69 h70 =>
 bnd (slT2 a0 x69 x53 h70) fun x71 h72 =>
 bnd (call (.f 77) [x71, x45] h72) fun x73 h74 =>
 jn (fun J75 =>
 bnd (ltF x73 (.int .i64 0) h74) fun x76 h77 =>
 cnd x76
 (some ((.int .i64 (-1)), h77))
 (J75 [x73, x76, (nthV c57 91)] h77)) fun c78 h79 =>
 bnd (addF x73 (.int .i64 1) h79) fun x80 h81 =>
 bnd (addF (nthV c57 41) x80 h81) fun x82 h83 =>
 J64 [a0, (nthV c57 41), x65, x45, x67, a0, (nthV c57 41), x69, x53, x71, x45, x73, x73, (nthV c78 0), (nthV c78 1), (nthV c78 2), (nthV c57 41), x73, x80, x82, x82] h83)
 (J64 [a0, (nthV c57 41), x65, x45, x67, (nthV c57 8), (nthV c57 9), (nthV c57 10), (nthV c57 11), (nthV c57 12), (nthV c57 13), (nthV c57 14), (nthV c57 15), (nthV c57 16), (nthV c57 17), (nthV c57 91), (nthV c57 18), (nthV c57 19), (nthV c57 20), (nthV c57 21), (nthV c57 41)] h68)) fun c84 h85 =>
 jn (fun J86 =>
 bnd (addF (nthV c84 20) (.int .i64 1) h85) fun x87 h88 =>
 bnd (ixF a0 x87 h88) fun x89 h90 =>
 bnd (eqF x89 x47 h90) fun x91 h92 =>
 jv (fun J93 => gdT x91 (J93 a0 h92) (J93 u0 h92)) fun x94 h95 =>
 jv (fun J96 => gdT x91 (J96 (nthV c84 20) h95) (J96 u0 h95)) fun x97 h98 =>
 jv (fun J99 => gdT x91 (J99 (nthV c84 20) h98) (J99 u0 h98)) fun x100 h101 =>
 jv (fun J102 => gdT x91 (J102 x0 h101) (J102 u0 h101)) fun x103 h104 =>
 jv (fun J105 => gdT x91 (bnd (addF x100 x103 h104) J105) (J105 u0 h104)) fun x106 h107 =>
 jv (fun J108 => gdT x91 (bnd (slT2 x94 x97 x106 h107) J108) (J108 u0 h107)) fun x109 h110 =>
 jv (fun J111 => gdT x91 (J111 a1 h110) (J111 u0 h110)) fun x112 h113 =>
 jv (fun J114 => gdT x91 (bnd (eqT x109 x112 h113) J114) (J114 u0 h113)) fun x115 h116 =>
 bnd (pkF x91 x115 (.bool false) h116) fun x117 h118 =>
 cnd x117
 (some ((nthV c84 20), h118))
 (J86 [a0, (nthV c84 20), x87, x89, x47, x91, x91, x94, x97, x100, x103, x106, x109, x112, x115, x117, (nthV c57 38), (nthV c84 15)] h118)) fun c119 h120 =>
 bnd (addF (nthV c84 20) (.int .i64 1) h120) fun x121 h122 =>
 bnd (addF (nthV c57 44) (.int .i64 1) h122) fun x123 h124 =>
 bnd (ld1 (gv 0) h124) fun x125 h126 =>
 bnd (leF x0 x125 h126) fun x127 h128 =>
 jv (fun J129 => gdT x127 (J129 x123 h128) (J129 u0 h128)) fun x130 h131 =>
 jv (fun J132 => gdT x127 (J132 x121 h131) (J132 u0 h131)) fun x133 h134 =>
 jv (fun J135 => gdT x127 (bnd (call (.f 156) [x133] h134) J135) (J135 u0 h134)) fun x136 h137 =>
 jv (fun J138 => gdT x127 (bnd (gtF x130 x136 h137) J138) (J138 u0 h137)) fun x139 h140 =>
 bnd (pkF x127 x139 (.bool false) h140) fun x141 h142 =>
 cnd x141
 (bnd (slT1 a0 x121 h142) fun x143 h144 =>
 bnd (call (.f 157) [x143, a1] h144) fun x145 h146 =>
 jn (fun J147 =>
 bnd (geF x145 (.int .i64 0) h146) fun x148 h149 =>
 cnd x148
 (bnd (addF x145 x121 h149) fun x150 h151 =>
 some (x150, h151))
 (J147 [x145, x148, (nthV c57 62), (nthV c57 63), (nthV c57 64), (nthV c119 17)] h149)) fun c152 h153 =>
 some ((.int .i64 (-1)), h153))
 (bnd (ld1 (gv 0) h142) fun x154 h155 =>
 bnd (gtF x0 x154 h155) fun x156 h157 =>
 jv (fun J158 => gdT x156 (J158 x123 h157) (J158 u0 h157)) fun x159 h160 =>
 jv (fun J161 => gdT x156 (J161 x121 h160) (J161 u0 h160)) fun x162 h163 =>
 jv (fun J164 => gdT x156 (bnd (binB 0 none .shr true x162 (.int .u64 4) h163) J164) (J164 u0 h163)) fun x165 h166 =>
 jv (fun J167 => gdT x156 (bnd (addF (.int .i64 4) x165 h166) J167) (J167 u0 h166)) fun x168 h169 =>
 jv (fun J170 => gdT x156 (bnd (geF x159 x168 h169) J170) (J170 u0 h169)) fun x171 h172 =>
 bnd (pkF x156 x171 (.bool false) h172) fun x173 h174 =>
 jv (fun J175 => gdT x173 (J175 x121 h174) (J175 u0 h174)) fun x176 h177 =>
 jv (fun J178 => gdT x173 (J178 x53 h177) (J178 u0 h177)) fun x179 h180 =>
 jv (fun J181 => gdT x173 (bnd (ltF x176 x179 h180) J181) (J181 u0 h180)) fun x182 h183 =>
 bnd (pkF x173 x182 (.bool false) h183) fun x184 h185 =>
 cnd x184
 (bnd (slT1 a0 x121 h185) fun x186 h187 =>
 bnd (call (.f 190) [x186, a1] h187) fun x188 h189 =>
 jn (fun J190 =>
 bnd (ltF x188 (.int .i64 0) h189) fun x191 h192 =>
 cnd x191
 (some ((.int .i64 (-1)), h192))
 (J190 [x188, x191, (nthV c119 17)] h192)) fun c193 h194 =>
 bnd (addF x121 x188 h194) fun x195 h196 =>
 some (x195, h196))
 (n56 [(nthV c62 0), (nthV c62 1), (nthV c62 2), (nthV c84 0), (nthV c84 1), (nthV c84 2), (nthV c84 3), (nthV c84 4), (nthV c84 5), (nthV c84 6), (nthV c84 7), (nthV c84 8), (nthV c84 9), (nthV c84 10), (nthV c84 11), (nthV c84 12), (nthV c84 13), (nthV c84 14), (nthV c84 16), (nthV c84 17), (nthV c84 18), (nthV c84 19), (nthV c119 0), (nthV c119 1), (nthV c119 2), (nthV c119 3), (nthV c119 4), (nthV c119 5), (nthV c119 6), (nthV c119 7), (nthV c119 8), (nthV c119 9), (nthV c119 10), (nthV c119 11), (nthV c119 12), (nthV c119 13), (nthV c119 14), (nthV c119 15), (nthV c119 16), (nthV c84 20), x121, x121, (nthV c57 44), x123, x123, x0, x125, x127, x127, x130, x133, x136, x139, x141, (nthV c57 54), (nthV c57 55), (nthV c57 56), (nthV c57 57), (nthV c57 58), (nthV c57 59), (nthV c57 60), (nthV c57 61), (nthV c57 62), (nthV c57 63), (nthV c57 64), x0, x154, x156, x156, x159, x162, x165, x168, x171, x173, x173, x176, x179, x182, x184, (nthV c57 80), (nthV c57 81), (nthV c57 82), (nthV c57 83), (nthV c57 84), (nthV c57 85), (nthV c57 86), (nthV c57 87), (nthV c57 88), (nthV c57 89), (nthV c57 90), (nthV c119 17)] h185))) [u0, u0, u0, u0, u0, u0, u0, u0, u0, u0, u0, u0, u0, u0, u0, u0, u0, u0, u0, u0, u0, u0, u0, u0, u0, u0, u0, u0, u0, u0, u0, u0, u0, u0, u0, u0, u0, u0, u0, u0, u0, (.int .i64 0), u0, u0, (.int .i64 0), u0, u0, u0, u0, u0, u0, u0, u0, u0, u0, u0, u0, u0, u0, u0, u0, u0, u0, u0, u0, u0, u0, u0, u0, u0, u0, u0, u0, u0, u0, u0, u0, u0, u0, u0, u0, u0, u0, u0, u0, u0, u0, u0, u0, u0, u0, (nthV c43 32)] h54) fun c197 h198 =>
 some ((.int .i64 (-1)), h198))
theorem k180 : FsOk Tryz.prog 180 (.shal s180) := fs0 2 143 d180 Tryz.func180 rfl (by kernel_rfl) (by kernel_rfl) (by kernel_rfl) (by kernel_rfl)
def d184 : List RV := [.t 6, .t 7]
noncomputable def s184 : Call → List V → HP → RB := fun call l H => unc l fun a0 l0 => unc l0 fun a1 l1 => unc l1 fun a2 l2 => nilK l2 (
 jn (fun J0 =>
 bnd (eqT a0 (.str []) H) fun x1 h2 =>
 cnd x1
 (bnd (some (.iface 243 (.int .i64 2), h2)) fun x3 h4 =>
 some (.tup [(.int .i64 0), x3], h4))
 (J0 [a0, x1, u0, (.int .i64 0), .niliface] h2)) fun c5 h6 =>
 jn (fun J7 =>
 bnd (ixF a0 (.int .i64 0) h6) fun x8 h9 =>
 bnd (eqF x8 (.int .u8 43) h9) fun x10 h11 =>
 cnd x10
 (bnd (slT1 a0 (.int .i64 1) h11) fun x12 h13 =>
 J7 [a0, x8, x10, x10, a0, x12, u0, u0, u0, u0, x12, (.bool false)] h13)
 (bnd (eqF x8 (.int .u8 45) h11) fun x14 h15 =>
 cnd x14
 (bnd (slT1 a0 (.int .i64 1) h15) fun x16 h17 =>
 J7 [a0, x8, x10, x10, u0, u0, x14, x14, a0, x16, x16, (.bool true)] h17)
 (J7 [a0, x8, x10, x10, u0, u0, x14, x14, u0, u0, a0, (.bool false)] h15))) fun c18 h19 =>
 bnd (call (.f 193) [(nthV c18 10), a1, a2] h19) fun x20 h21 =>
 bnd (exF x20 0 h21) fun x22 h23 =>
 bnd (exF x20 1 h23) fun x24 h25 =>
 jn (fun J26 =>
 bnd (orR (binB 2 none .neq true x24 .niliface h25) (eqFaB ity .neq x24 .niliface h25)) fun x27 h28 =>
 jv (fun J29 => gdT x27 (J29 x24 h28) (J29 u0 h28)) fun x30 h31 =>
 jv (fun J32 => gdT x27 (bnd (some (.iface 243 (.int .i64 1), h31)) J32) (J32 u0 h31)) fun x33 h34 =>
 jv (fun J35 => gdT x27 (bnd (orR (binB 2 none .neq false x30 x33 h34) (eqFaB ity .neq x30 x33 h34)) J35) (J35 u0 h34)) fun x36 h37 =>
 bnd (pkF x27 x36 (.bool false) h37) fun x38 h39 =>
 cnd x38
 (some (.tup [(.int .i64 0), x24], h39))
 (J26 [x24, x27, x27, x30, x33, x36, x38, u0, (nthV c5 3), x24] h39)) fun c40 h41 =>
 jn (fun J42 =>
 bnd (eqF a2 (.int .i64 0) h41) fun x43 h44 =>
 cnd x43
 (J42 [a2, x43, (.int .i64 64)] h44)
 (J42 [a2, x43, a2] h44)) fun c45 h46 =>
 bnd (subF (nthV c45 2) (.int .i64 1) h46) fun x47 h48 =>
 bnd (cvF .u64 x47 h48) fun x49 h50 =>
 bnd (binB 0 none .shl true (.int .u64 1) x49 h50) fun x51 h52 =>
 jn (fun J53 =>
 bnd (ntF (nthV c18 11) h52) fun x54 h55 =>
 jv (fun J56 => gdT x54 (J56 x22 h55) (J56 u0 h55)) fun x57 h58 =>
 jv (fun J59 => gdT x54 (J59 x51 h58) (J59 u0 h58)) fun x60 h61 =>
 jv (fun J62 => gdT x54 (bnd (geF x57 x60 h61) J62) (J62 u0 h61)) fun x63 h64 =>
 bnd (pkF x54 x63 (.bool false) h64) fun x65 h66 =>
 cnd x65
 (bnd (subF x51 (.int .u64 1) h66) fun x67 h68 =>
 bnd (cvF .i64 x67 h68) fun x69 h70 =>
 bnd (some (.iface 243 (.int .i64 1), h70)) fun x71 h72 =>
 some (.tup [x69, x71], h72))
 (J53 [(nthV c18 11), x54, x54, x57, x60, x63, x65, u0, u0, u0, u0, (nthV c40 8), (nthV c40 9)] h66)) fun c73 h74 =>
 jn (fun J75 =>
 jv (fun J76 => gdT (nthV c18 11) (J76 x22 h74) (J76 u0 h74)) fun x77 h78 =>
 jv (fun J79 => gdT (nthV c18 11) (J79 x51 h78) (J79 u0 h78)) fun x80 h81 =>
 jv (fun J82 => gdT (nthV c18 11) (bnd (gtF x77 x80 h81) J82) (J82 u0 h81)) fun x83 h84 =>
 bnd (pkF (nthV c18 11) x83 (.bool false) h84) fun x85 h86 =>
 cnd x85
 (bnd (cvF .i64 x51 h86) fun x87 h88 =>
 bnd (unB .neg x87 h88) fun x89 h90 =>
 bnd (some (.iface 243 (.int .i64 1), h90)) fun x91 h92 =>
 some (.tup [x89, x91], h92))
 (J75 [(nthV c18 11), (nthV c18 11), x77, x80, x83, x85, u0, u0, u0, u0, (nthV c73 11), (nthV c73 12)] h86)) fun c93 h94 =>
 bnd (cvF .i64 x22 h94) fun x95 h96 =>
 jn (fun J97 =>
 cnd (nthV c18 11)
 (bnd (unB .neg x95 h96) fun x98 h99 =>
 J97 [(nthV c18 11), x95, x98, x98] h99)
 (J97 [(nthV c18 11), u0, u0, x95] h96)) fun c100 h101 =>
 some (.tup [(nthV c100 3), .niliface], h101))
theorem k184 : FsOk Tryz.prog 184 (.shal s184) := fs0 3 73 d184 Tryz.func184 rfl (by kernel_rfl) (by kernel_rfl) (by kernel_rfl) (by kernel_rfl)
def d185 : List RV := [.t 4]
noncomputable def s185 : Call → List V → HP → RB := fun call l H => unc l fun a0 l0 => unc l0 fun a1 l1 => nilK l1 (
 bnd (noY call (.f 194) [a1] H) fun x0 h1 =>
 bnd (ld1 (gv 3) h1) fun x2 _ =>
 bnd (ld1 (gv 3) H) fun y6 _ => ifB (eqVF y6 x2) (
 bnd (bdF [some (0, false, 1), some (1, false, 1), some (2, false, 1)] (.agg [(.str []), (.str []), .niliface]) [(0, a0), (1, x0), (2, x2)] h1) fun x3 _ =>
 bnd (bxA 250 3 x3 h1) fun x4 h5 =>
 some (x4, h5)))
theorem k185 : FsOk Tryz.prog 185 (.shal s185) := fs0 2 11 d185 Tryz.func185 rfl (by kernel_rfl) (by kernel_rfl) (by kernel_rfl) (by kernel_rfl)
def d189 : List RV := [.t 2]
noncomputable def s189 : Call → List V → HP → RB := fun call l H => unc l fun a0 l0 => nilK l0 (
 bnd (call (.f 192) [a0, (.int .i64 10)] H) fun x0 h1 =>
 some (x0, h1))
theorem k189 : FsOk Tryz.prog 189 (.shal s189) := fs0 1 5 d189 Tryz.func189 rfl (by kernel_rfl) (by kernel_rfl) (by kernel_rfl) (by kernel_rfl)
def d192 : List RV := [.t 4]
noncomputable def s192 : Call → List V → HP → RB := fun call l H => unc l fun a0 l0 => unc l0 fun a1 l1 => nilK l1 (
 jn (fun J0 =>
 bnd (eqF a1 (.int .i64 10) H) fun x1 h2 =>
 cnd x1
 (jn (fun J3 =>
 bnd (leF (.int .i64 0) a0 h2) fun x4 h5 =>
 jv (fun J6 => gdT x4 (J6 a0 h5) (J6 u0 h5)) fun x7 h8 =>
 jv (fun J9 => gdT x4 (bnd (ltF x7 (.int .i64 100) h8) J9) (J9 u0 h8)) fun x10 h11 =>
 bnd (pkF x4 x10 (.bool false) h11) fun x12 h13 =>
 cnd x12
 (bnd (call (.f 197) [a0] h13) fun x14 h15 =>
 some (x14, h15))
 (J3 [a0, x4, x4, x7, x10, x12, u0, u0, (.str [])] h13)) fun c16 h17 =>
 bnd (alF 253 true 24 (.agg [(.int .u8 0), (.int .u8 0), (.int .u8 0), (.int .u8 0), (.int .u8 0), (.int .u8 0), (.int .u8 0), (.int .u8 0), (.int .u8 0), (.int .u8 0), (.int .u8 0), (.int .u8 0), (.int .u8 0), (.int .u8 0), (.int .u8 0), (.int .u8 0), (.int .u8 0), (.int .u8 0), (.int .u8 0), (.int .u8 0), (.int .u8 0), (.int .u8 0), (.int .u8 0), (.int .u8 0)]) h17) fun x18 h19 =>
 bnd (cvF .u64 a0 h19) fun x20 h21 =>
 jn (fun J22 =>
 bnd (ltF a0 (.int .i64 0) h21) fun x23 h24 =>
 cnd x23
 (bnd (unB .neg x20 h24) fun x25 h26 =>
 J22 [a0, x23, x20, x25, x25] h26)
 (J22 [a0, x23, u0, u0, x20] h24)) fun c27 h28 =>
 bnd (call (.f 198) [(nthV c27 4)] h28) fun x29 h30 =>
 bnd (addF (.int .i64 1) x29 h30) fun x31 h32 =>
 bnd (none) fun x33 h34 =>
 bnd (call (.f 199) [x33, (nthV c27 4)] h34) fun x35 h36 =>
 jn (fun J37 =>
 bnd (ltF a0 (.int .i64 0) h36) fun x38 h39 =>
 cnd x38
 (bnd (iaF 24 1 x18 (.int .i64 0) h39) fun x40 h41 =>
 bnd (st2 x40 (.int .u8 45) h41) fun _ h43 =>
 bnd (addF (.int .i64 1) x29 h43) fun x44 h45 =>
 bnd (none) fun x46 h47 =>
 bnd (cvtTB true x46 h47) fun x48 h49 =>
 some (x48, h49))
 (J37 [a0, x38, u0, u0, u0, u0, u0, (nthV c16 8)] h39)) fun c50 h51 =>
 bnd (addF (.int .i64 1) x29 h51) fun x52 h53 =>
 bnd (none) fun x54 h55 =>
 bnd (cvtTB true x54 h55) fun x56 h57 =>
 some (x56, h57))
 (J0 [a1, x1, u0, u0, u0, u0, u0, u0, u0, u0, u0, u0, u0, u0, u0, u0, u0, u0, u0, u0, u0, u0, u0, u0, u0, u0, u0, u0, u0, u0, u0, u0, u0, u0, u0, u0, u0, (.str [])] h2)) fun c58 h59 =>
 bnd (cvF .u64 a0 h59) fun x60 h61 =>
 bnd (ltF a0 (.int .i64 0) h61) fun x62 h63 =>
 bnd (call (.f 200) [.zsl, x60, a1, x62, (.bool false)] h63) fun x64 h65 =>
 bnd (exF x64 0 h65) fun x66 h67 =>
 bnd (exF x64 1 h67) fun x68 h69 =>
 some (x68, h69))
theorem k192 : FsOk Tryz.prog 192 (.shal s192) := fs0 2 54 d192 Tryz.func192 rfl (by kernel_rfl) (by kernel_rfl) (by kernel_rfl) (by kernel_rfl)
def d193 : List RV := [.t 6, .t 7]
noncomputable def s193 : Call → List V → HP → RB := fun call l H => unc l fun a0 l0 => unc l0 fun a1 l1 => unc l1 fun a2 l2 => nilK l2 (
 jn (fun J0 =>
 bnd (eqT a0 (.str []) H) fun x1 h2 =>
 cnd x1
 (bnd (some (.iface 243 (.int .i64 2), h2)) fun x3 h4 =>
 some (.tup [(.int .u64 0), x3], h4))
 (J0 [a0, x1, u0, (.int .u64 0), .niliface] h2)) fun c5 h6 =>
 bnd (eqF a1 (.int .i64 0) h6) fun x7 h8 =>
 jn (fun J9 =>
 bnd (leF (.int .i64 2) a1 h8) fun x10 h11 =>
 jv (fun J12 => gdT x10 (J12 a1 h11) (J12 u0 h11)) fun x13 h14 =>
 jv (fun J15 => gdT x10 (bnd (leF x13 (.int .i64 36) h14) J15) (J15 u0 h14)) fun x16 h17 =>
 bnd (pkF x10 x16 (.bool false) h17) fun x18 h19 =>
 cnd x18
 (J9 [a1, x10, x10, x13, x16, x18, x18, u0, u0, u0, u0, u0, u0, u0, u0, u0, u0, u0, u0, u0, u0, u0, u0, u0, u0, u0, u0, u0, u0, u0, u0, u0, u0, u0, u0, u0, u0, u0, u0, u0, u0, u0, u0, u0, u0, u0, u0, u0, u0, a1, u0, u0, a0, u0, (nthV c5 3), (nthV c5 4)] h19)
 (bnd (eqF a1 (.int .i64 0) h19) fun x20 h21 =>
 cnd x20
 (bnd (ixF a0 (.int .i64 0) h21) fun x22 h23 =>
 bnd (eqF x22 (.int .u8 48) h23) fun x24 h25 =>
 cnd x24
 (bnd (lenT a0 h25) fun x26 h27 =>
 bnd (geF x26 (.int .i64 3) h27) fun x28 h29 =>
 jv (fun J30 => gdT x28 (J30 a0 h29) (J30 u0 h29)) fun x31 h32 =>
 jv (fun J33 => gdT x28 (bnd (ixF x31 (.int .i64 1) h32) J33) (J33 u0 h32)) fun x34 h35 =>
 jv (fun J36 => gdT x28 (bnd (call (.f 201) [x34] h35) J36) (J36 u0 h35)) fun x37 h38 =>
 jv (fun J39 => gdT x28 (bnd (eqF x37 (.int .u8 98) h38) J39) (J39 u0 h38)) fun x40 h41 =>
 bnd (pkF x28 x40 (.bool false) h41) fun x42 h43 =>
 cnd x42
 (bnd (slT1 a0 (.int .i64 2) h43) fun x44 h45 =>
 J9 [a1, x10, x10, x13, x16, x18, x18, a1, x20, x20, a0, x22, x24, a0, x26, x28, x28, x31, x34, x37, x40, x42, x42, a0, x44, u0, u0, u0, u0, u0, u0, u0, u0, u0, u0, u0, u0, u0, u0, u0, u0, u0, u0, u0, u0, u0, u0, u0, u0, (.int .i64 2), u0, u0, x44, u0, (nthV c5 3), (nthV c5 4)] h45)
 (bnd (lenT a0 h43) fun x46 h47 =>
 bnd (geF x46 (.int .i64 3) h47) fun x48 h49 =>
 jv (fun J50 => gdT x48 (J50 a0 h49) (J50 u0 h49)) fun x51 h52 =>
 jv (fun J53 => gdT x48 (bnd (ixF x51 (.int .i64 1) h52) J53) (J53 u0 h52)) fun x54 h55 =>
 jv (fun J56 => gdT x48 (bnd (call (.f 201) [x54] h55) J56) (J56 u0 h55)) fun x57 h58 =>
 jv (fun J59 => gdT x48 (bnd (eqF x57 (.int .u8 111) h58) J59) (J59 u0 h58)) fun x60 h61 =>
 bnd (pkF x48 x60 (.bool false) h61) fun x62 h63 =>
 cnd x62
 (bnd (slT1 a0 (.int .i64 2) h63) fun x64 h65 =>
 J9 [a1, x10, x10, x13, x16, x18, x18, a1, x20, x20, a0, x22, x24, a0, x26, x28, x28, x31, x34, x37, x40, x42, x42, u0, u0, a0, x46, x48, x48, x51, x54, x57, x60, x62, x62, a0, x64, u0, u0, u0, u0, u0, u0, u0, u0, u0, u0, u0, u0, (.int .i64 8), u0, u0, x64, u0, (nthV c5 3), (nthV c5 4)] h65)
 (bnd (lenT a0 h63) fun x66 h67 =>
 bnd (geF x66 (.int .i64 3) h67) fun x68 h69 =>
 jv (fun J70 => gdT x68 (J70 a0 h69) (J70 u0 h69)) fun x71 h72 =>
 jv (fun J73 => gdT x68 (bnd (ixF x71 (.int .i64 1) h72) J73) (J73 u0 h72)) fun x74 h75 =>
 jv (fun J76 => gdT x68 (bnd (call (.f 201) [x74] h75) J76) (J76 u0 h75)) fun x77 h78 =>
 jv (fun J79 => gdT x68 (bnd (eqF x77 (.int .u8 120) h78) J79) (J79 u0 h78)) fun x80 h81 =>
 bnd (pkF x68 x80 (.bool false) h81) fun x82 h83 =>
 cnd x82
 (bnd (slT1 a0 (.int .i64 2) h83) fun x84 h85 =>
 J9 [a1, x10, x10, x13, x16, x18, x18, a1, x20, x20, a0, x22, x24, a0, x26, x28, x28, x31, x34, x37, x40, x42, x42, u0, u0, a0, x46, x48, x48, x51, x54, x57, x60, x62, x62, u0, u0, a0, x66, x68, x68, x71, x74, x77, x80, x82, x82, a0, x84, (.int .i64 16), u0, u0, x84, u0, (nthV c5 3), (nthV c5 4)] h85)
 (bnd (slT1 a0 (.int .i64 1) h83) fun x86 h87 =>
 J9 [a1, x10, x10, x13, x16, x18, x18, a1, x20, x20, a0, x22, x24, a0, x26, x28, x28, x31, x34, x37, x40, x42, x42, u0, u0, a0, x46, x48, x48, x51, x54, x57, x60, x62, x62, u0, u0, a0, x66, x68, x68, x71, x74, x77, x80, x82, x82, u0, u0, (.int .i64 8), a0, x86, x86, u0, (nthV c5 3), (nthV c5 4)] h87))))
 (J9 [a1, x10, x10, x13, x16, x18, x18, a1, x20, x20, a0, x22, x24, u0, u0, u0, u0, u0, u0, u0, u0, u0, u0, u0, u0, u0, u0, u0, u0, u0, u0, u0, u0, u0, u0, u0, u0, u0, u0, u0, u0, u0, u0, u0, u0, u0, u0, u0, u0, (.int .i64 10), u0, u0, a0, u0, (nthV c5 3), (nthV c5 4)] h25))
 (bnd (some (.iface 243 (.int .i64 3), h21)) fun x88 h89 =>
 some (.tup [(.int .u64 0), x88], h89)))) fun c90 h91 =>
 jn (fun J92 =>
 bnd (eqF a2 (.int .i64 0) h91) fun x93 h94 =>
 cnd x93
 (J92 [a2, x93, (.int .i64 64), u0, u0, u0, u0, u0, u0, u0, (nthV c90 54), (nthV c90 55)] h94)
 (bnd (ltF a2 (.int .i64 0) h94) fun x95 h96 =>
 jv (fun J97 => gdN x95 (J97 a2 h96) (J97 u0 h96)) fun x98 h99 =>
 jv (fun J100 => gdN x95 (bnd (gtF x98 (.int .i64 64) h99) J100) (J100 u0 h99)) fun x101 h102 =>
 bnd (pkF x95 (.bool true) x101 h102) fun x103 h104 =>
 cnd x103
 (bnd (some (.iface 243 (.int .i64 4), h104)) fun x105 h106 =>
 some (.tup [(.int .u64 0), x105], h106))
 (J92 [a2, x93, a2, a2, x95, x95, x98, x101, x103, u0, (nthV c90 54), (nthV c90 55)] h104))) fun c107 h108 =>
 jn (fun J109 =>
 bnd (eqF (nthV c90 49) (.int .i64 10) h108) fun x110 h111 =>
 cnd x110
 (J109 [(nthV c90 49), x110, x110, u0, u0, u0, u0, u0, u0, (.int .u64 1844674407370955162)] h111)
 (bnd (eqF (nthV c90 49) (.int .i64 16) h111) fun x112 h113 =>
 cnd x112
 (J109 [(nthV c90 49), x110, x110, x112, x112, u0, u0, u0, u0, (.int .u64 1152921504606846976)] h113)
 (bnd (cvF .u64 (nthV c90 49) h113) fun x114 h115 =>
 bnd (binB 0 none .quo true (.int .u64 18446744073709551615) x114 h115) fun x116 h117 =>
 bnd (addF x116 (.int .u64 1) h117) fun x118 h119 =>
 J109 [(nthV c90 49), x110, x110, x112, x112, (nthV c90 49), x114, x116, x118, x118] h119))) fun c120 h121 =>
 bnd (cvF .u64 (nthV c107 2) h121) fun x122 h123 =>
 bnd (binB 0 none .shl true (.int .u64 1) x122 h123) fun x124 h125 =>
 bnd (subF x124 (.int .u64 1) h125) fun x126 h127 =>
 jn (fun J128 =>
 bnd (cvtBB true 5 (nthV c90 52) h127) fun x129 h130 =>
 bnd (lenL x129 h130) fun x131 h132 =>
 lpK (fun n133 c134 h135 =>
 bnd (ltF (nthV c134 69) x131 h135) fun x136 h137 =>
 jn (fun J138 =>
 cnd x136
 (J138 [] h137)
 (J128 [(nthV c90 52), x129, x131, x136, (nthV c134 1), (nthV c134 2), (nthV c134 3), (nthV c134 4), (nthV c134 5), (nthV c134 6), (nthV c134 7), (nthV c134 8), (nthV c134 9), (nthV c134 10), (nthV c134 11), (nthV c134 12), (nthV c134 13), (nthV c134 14), (nthV c134 15), (nthV c134 16), (nthV c134 17), (nthV c134 18), (nthV c134 19), (nthV c134 20), (nthV c134 21), (nthV c134 22), (nthV c134 23), (nthV c134 24), (nthV c134 25), (nthV c134 26), (nthV c134 27), (nthV c134 28), (nthV c134 29), (nthV c134 30), (nthV c134 31), (nthV c134 32), (nthV c134 33), (nthV c134 34), (nthV c134 35), (nthV c134 36), (nthV c134 37), (nthV c134 38), (nthV c134 39), (nthV c134 40), (nthV c134 41), (nthV c134 42), (nthV c134 43), (nthV c134 44), (nthV c134 45), (nthV c134 46), (nthV c134 47), (nthV c134 48), (nthV c134 49), (nthV c134 50), (nthV c134 51), (nthV c134 52), (nthV c134 53), (nthV c134 54), (nthV c134 55), (nthV c134 56), (nthV c134 57), (nthV c134 58), (nthV c134 59), (nthV c134 60), (nthV c134 61), (nthV c134 62), (nthV c134 63), (nthV c134 64), (nthV c134 65), (nthV c134 66), (nthV c134 67), (nthV c134 68), (nthV c134 69)] h137)) fun c139 h140 =>
 jn (fun J141 =>
 bnd (iaS 1 x129 (nthV c134 69) h140) fun x142 h143 =>
 bnd (ld1 x142 h143) fun x144 h145 =>
 jn (fun J146 =>
 bnd (eqF x144 (.int .u8 95) h145) fun x147 h148 =>
 jv (fun J149 => gdT x147 (J149 x7 h148) (J149 u0 h148)) fun x150 h151 =>
 bnd (pkF x147 x150 (.bool false) h151) fun x152 h153 =>
 cnd x152
 (J141 [x142, x144, x144, x144, x147, x147, x150, x152, x152, (.bool true), (nthV c134 11), (nthV c134 12), (nthV c134 13), (nthV c134 14), (nthV c134 15), (nthV c134 16), (nthV c134 17), (nthV c134 18), (nthV c134 19), (nthV c134 20), (nthV c134 21), (nthV c134 22), (nthV c134 23), (nthV c134 24), (nthV c134 25), (nthV c134 26), (nthV c134 27), (nthV c134 28), (nthV c134 29), (nthV c134 30), (nthV c134 31), (nthV c134 32), (.int .u8 0), (nthV c134 34), (nthV c134 35), (nthV c134 36), (nthV c134 37), (nthV c134 38), (nthV c134 39), (nthV c134 40), (nthV c134 41), (nthV c134 42), (nthV c134 43), (nthV c134 44), (nthV c134 45), (nthV c134 46), (nthV c134 47), (nthV c134 48), (nthV c134 49), (nthV c134 50), (nthV c134 51), (nthV c134 52), (nthV c134 53), (nthV c134 54), (nthV c134 55), (nthV c134 56), (nthV c134 57), (nthV c134 58), (nthV c134 59), (nthV c134 60), (nthV c134 61), (nthV c134 62), (nthV c134 63), (nthV c134 64), (nthV c134 65), (nthV c134 66), (nthV c134 67)] h153)
 (bnd (leF (.int .u8 48) x144 h153) fun x154 h155 =>
 jv (fun J156 => gdT x154 (J156 x144 h155) (J156 u0 h155)) fun x157 h158 =>
 jv (fun J159 => gdT x154 (bnd (leF x157 (.int .u8 57) h158) J159) (J159 u0 h158)) fun x160 h161 =>
 bnd (pkF x154 x160 (.bool false) h161) fun x162 h163 =>
 cnd x162
 (bnd (subF x144 (.int .u8 48) h163) fun x164 h165 =>
 J146 [x144, x147, x147, x150, x152, x152, (nthV c134 10), x144, x154, x154, x157, x160, x162, x162, x144, x164, (nthV c134 20), (nthV c134 21), (nthV c134 22), (nthV c134 23), (nthV c134 24), (nthV c134 25), (nthV c134 26), (nthV c134 27), (nthV c134 28), (nthV c134 29), (nthV c134 30), (nthV c134 31), (nthV c134 32), x164, (nthV c134 34), (nthV c134 64), (nthV c134 65)] h165)
 (bnd (call (.f 201) [x144] h163) fun x166 h167 =>
 bnd (leF (.int .u8 97) x166 h167) fun x168 h169 =>
 jv (fun J170 => gdT x168 (J170 x144 h169) (J170 u0 h169)) fun x171 h172 =>
 jv (fun J173 => gdT x168 (bnd (call (.f 201) [x171] h172) J173) (J173 u0 h172)) fun x174 h175 =>
 jv (fun J176 => gdT x168 (bnd (leF x174 (.int .u8 122) h175) J176) (J176 u0 h175)) fun x177 h178 =>
 bnd (pkF x168 x177 (.bool false) h178) fun x179 h180 =>
 cnd x179
 (bnd (call (.f 201) [x144] h180) fun x181 h182 =>
 bnd (subF x181 (.int .u8 97) h182) fun x183 h184 =>
 bnd (addF x183 (.int .u8 10) h184) fun x185 h186 =>
 J146 [x144, x147, x147, x150, x152, x152, (nthV c134 10), x144, x154, x154, x157, x160, x162, x162, (nthV c134 18), (nthV c134 19), x144, x166, x168, x168, x171, x174, x177, x179, x179, x144, x181, x183, x185, x185, (nthV c134 34), (nthV c134 64), (nthV c134 65)] h186)
 (bnd (some (.iface 243 (.int .i64 2), h180)) fun x187 h188 =>
 some (.tup [(.int .u64 0), x187], h188))))) fun c189 h190 =>
 jn (fun J191 =>
 bnd (cvF .u8 (nthV c90 49) h190) fun x192 h193 =>
 bnd (geF (nthV c189 29) x192 h193) fun x194 h195 =>
 cnd x194
 (bnd (some (.iface 243 (.int .i64 2), h195)) fun x196 h197 =>
 some (.tup [(.int .u64 0), x196], h197))
 (J191 [(nthV c189 29), (nthV c90 49), x192, x194, (nthV c134 39), (nthV c189 31), (nthV c189 32)] h195)) fun c198 h199 =>
 jn (fun J200 =>
 bnd (geF (nthV c134 67) (nthV c120 9) h199) fun x201 h202 =>
 cnd x201
 (bnd (some (.iface 243 (.int .i64 1), h202)) fun x203 h204 =>
 some (.tup [x126, x203], h204))
 (J200 [(nthV c134 67), (nthV c120 9), x201, (nthV c134 43), (nthV c134 44), (nthV c198 5), (nthV c198 6)] h202)) fun c205 h206 =>
 bnd (cvF .u64 (nthV c90 49) h206) fun x207 h208 =>
 bnd (binB 0 none .mul false (nthV c134 67) x207 h208) fun x209 h210 =>
 bnd (cvF .u64 (nthV c189 29) h210) fun x211 h212 =>
 bnd (addF x209 x211 h212) fun x213 h214 =>
 jn (fun J215 =>
 bnd (ltF x213 x209 h214) fun x216 h217 =>
 jv (fun J218 => gdN x216 (J218 x213 h217) (J218 u0 h217)) fun x219 h220 =>
 jv (fun J221 => gdN x216 (J221 x126 h220) (J221 u0 h220)) fun x222 h223 =>
 jv (fun J224 => gdN x216 (bnd (gtF x219 x222 h223) J224) (J224 u0 h223)) fun x225 h226 =>
 bnd (pkF x216 (.bool true) x225 h226) fun x227 h228 =>
 cnd x227
 (bnd (some (.iface 243 (.int .i64 1), h228)) fun x229 h230 =>
 some (.tup [x126, x229], h230))
 (J215 [x213, x209, x216, x216, x219, x222, x225, x227, (nthV c134 62), (nthV c134 63), (nthV c205 5), (nthV c205 6)] h228)) fun c231 h232 =>
 J141 [x142, x144, x144, (nthV c189 0), (nthV c189 1), (nthV c189 2), (nthV c189 3), (nthV c189 4), (nthV c189 5), (nthV c189 6), (nthV c189 7), (nthV c189 8), (nthV c189 9), (nthV c189 10), (nthV c189 11), (nthV c189 12), (nthV c189 13), (nthV c189 14), (nthV c189 15), (nthV c189 16), (nthV c189 17), (nthV c189 18), (nthV c189 19), (nthV c189 20), (nthV c189 21), (nthV c189 22), (nthV c189 23), (nthV c189 24), (nthV c189 25), (nthV c189 26), (nthV c189 27), (nthV c189 28), (nthV c189 29), (nthV c189 30), (nthV c198 0), (nthV c198 1), (nthV c198 2), (nthV c198 3), (nthV c198 4), (nthV c205 0), (nthV c205 1), (nthV c205 2), (nthV c205 3), (nthV c205 4), (nthV c134 67), (nthV c90 49), x207, x209, x209, (nthV c189 29), x211, x213, x213, (nthV c231 0), (nthV c231 1), (nthV c231 2), (nthV c231 3), (nthV c231 4), (nthV c231 5), (nthV c231 6), (nthV c231 7), (nthV c231 8), (nthV c231 9), (nthV c231 10), (nthV c231 11), x213, x213] h232) fun c233 h234 =>
 bnd (addF (nthV c134 69) (.int .i64 1) h234) fun x235 h236 =>
 n133 [x136, (nthV c233 0), (nthV c233 1), (nthV c233 2), (nthV c233 3), (nthV c233 4), (nthV c233 5), (nthV c233 6), (nthV c233 7), (nthV c233 8), (nthV c233 9), (nthV c233 10), (nthV c233 11), (nthV c233 12), (nthV c233 13), (nthV c233 14), (nthV c233 15), (nthV c233 16), (nthV c233 17), (nthV c233 18), (nthV c233 19), (nthV c233 20), (nthV c233 21), (nthV c233 22), (nthV c233 23), (nthV c233 24), (nthV c233 25), (nthV c233 26), (nthV c233 27), (nthV c233 28), (nthV c233 29), (nthV c233 30), (nthV c233 31), (nthV c233 32), (nthV c233 33), (nthV c233 34), (nthV c233 35), (nthV c233 36), (nthV c233 37), (nthV c233 38), (nthV c233 39), (nthV c233 40), (nthV c233 41), (nthV c233 42), (nthV c233 43), (nthV c233 44), (nthV c233 45), (nthV c233 46), (nthV c233 47), (nthV c233 48), (nthV c233 49), (nthV c233 50), (nthV c233 51), (nthV c233 52), (nthV c233 53), (nthV c233 54), (nthV c233 55), (nthV c233 56), (nthV c233 57), (nthV c233 58), (nthV c233 59), (nthV c233 60), (nthV c233 61), (nthV c233 62), (nthV c233 63), (nthV c233 64), (nthV c233 65), (nthV c233 66), x235, x235] h236) [u0, u0, u0, u0, u0, u0, u0, u0, u0, u0, (.bool false), u0, u0, u0, u0, u0, u0, u0, u0, u0, u0, u0, u0, u0, u0, u0, u0, u0, u0, u0, u0, u0, u0, u0, u0, u0, u0, u0, u0, u0, u0, u0, u0, u0, u0, u0, u0, u0, u0, u0, u0, u0, u0, u0, u0, u0, u0, u0, u0, u0, u0, u0, u0, u0, (nthV c107 10), (nthV c107 11), u0, (.int .u64 0), u0, (.int .i64 0)] h132) fun c237 h238 =>
 jn (fun J239 =>
 jv (fun J240 => gdT (nthV c237 13) (J240 a0 h238) (J240 u0 h238)) fun x241 h242 =>
 jv (fun J243 => gdT (nthV c237 13) (bnd (call (.f 202) [x241] h242) J243) (J243 u0 h242)) fun x244 h245 =>
 jv (fun J246 => gdT (nthV c237 13) (bnd (ntF x244 h245) J246) (J246 u0 h245)) fun x247 h248 =>
 bnd (pkF (nthV c237 13) x247 (.bool false) h248) fun x249 h250 =>
 cnd x249
 (bnd (some (.iface 243 (.int .i64 2), h250)) fun x251 h252 =>
 some (.tup [(.int .u64 0), x251], h252))
 (J239 [(nthV c237 13), (nthV c237 13), x241, x244, x247, x249, u0, (nthV c237 67), (nthV c237 68)] h250)) fun c253 h254 =>
 some (.tup [(nthV c237 70), .niliface], h254))
theorem k193 : FsOk Tryz.prog 193 (.shal s193) := fs0 3 172 d193 Tryz.func193 rfl (by kernel_rfl) (by kernel_rfl) (by kernel_rfl) (by kernel_rfl)
def d194 : List RV := [.t 2]
noncomputable def s194 : Call → List V → HP → RB := fun call l H => unc l fun a0 l0 => nilK l0 (
 jn (fun J0 =>
 bnd (lenT a0 H) fun x1 h2 =>
 bnd (eqF x1 (.int .i64 0) h2) fun x3 h4 =>
 cnd x3
 (some ((.str []), h4))
 (J0 [a0, x1, x3, (.str [])] h4)) fun c5 h6 =>
 bnd (lenT a0 h6) fun x7 h8 =>
 bnd (makeSliceB 5 false 1 1 (.int .u8 0) x7 x7 h8) fun x9 h10 =>
 bnd (copyB 1 x9 a0 h10) fun x11 h12 =>
 bnd (iaS 1 x9 (.int .i64 0) h12) fun x13 h14 =>
 bnd (lenL x9 h14) fun x15 h16 =>
 bnd (unsafeStringB 5 x13 x15 h16) fun x17 h18 =>
 some (x17, h18))
theorem k194 : FsOk Tryz.prog 194 (.shal s194) := fs0 1 18 d194 Tryz.func194 rfl (by kernel_rfl) (by kernel_rfl) (by kernel_rfl) (by kernel_rfl)
def d197 : List RV := [.t 2]
noncomputable def s197 : Call → List V → HP → RB := fun call l H => unc l fun a0 l0 => nilK l0 (
 jn (fun J0 =>
 bnd (ltF a0 (.int .i64 10) H) fun x1 h2 =>
 cnd x1
 (bnd (addF a0 (.int .i64 1) h2) fun x3 h4 =>
 bnd (slT2 (.str [48, 49, 50, 51, 52, 53, 54, 55, 56, 57, 97, 98, 99, 100, 101, 102, 103, 104, 105, 106, 107, 108, 109, 110, 111, 112, 113, 114, 115, 116, 117, 118, 119, 120, 121, 122]) a0 x3 h4) fun x5 h6 =>
 some (x5, h6))
 (J0 [a0, x1, u0, u0, u0, u0, (.str [])] h2)) fun c7 h8 =>
 bnd (binB 0 none .mul true a0 (.int .i64 2) h8) fun x9 h10 =>
 bnd (binB 0 none .mul true a0 (.int .i64 2) h10) fun x11 h12 =>
 bnd (addF x11 (.int .i64 2) h12) fun x13 h14 =>
 bnd (slT2 (.str [48, 48, 48, 49, 48, 50, 48, 51, 48, 52, 48, 53, 48, 54, 48, 55, 48, 56, 48, 57, 49, 48, 49, 49, 49, 50, 49, 51, 49, 52, 49, 53, 49, 54, 49, 55, 49, 56, 49, 57, 50, 48, 50, 49, 50, 50, 50, 51, 50, 52, 50, 53, 50, 54, 50, 55, 50, 56, 50, 57, 51, 48, 51, 49, 51, 50, 51, 51, 51, 52, 51, 53, 51, 54, 51, 55, 51, 56, 51, 57, 52, 48, 52, 49, 52, 50, 52, 51, 52, 52, 52, 53, 52, 54, 52, 55, 52, 56, 52, 57, 53, 48, 53, 49, 53, 50, 53, 51, 53, 52, 53, 53, 53, 54, 53, 55, 53, 56, 53, 57, 54, 48, 54, 49, 54, 50, 54, 51, 54, 52, 54, 53, 54, 54, 54, 55, 54, 56, 54, 57, 55, 48, 55, 49, 55, 50, 55, 51, 55, 52, 55, 53, 55, 54, 55, 55, 55, 56, 55, 57, 56, 48, 56, 49, 56, 50, 56, 51, 56, 52, 56, 53, 56, 54, 56, 55, 56, 56, 56, 57, 57, 48, 57, 49, 57, 50, 57, 51, 57, 52, 57, 53, 57, 54, 57, 55, 57, 56, 57, 57]) x9 x13 h14) fun x15 h16 =>
 some (x15, h16))
theorem k197 : FsOk Tryz.prog 197 (.shal s197) := fs0 1 15 d197 Tryz.func197 rfl (by kernel_rfl) (by kernel_rfl) (by kernel_rfl) (by kernel_rfl)
def d201 : List RV := [.t 2]
noncomputable def s201 : Call → List V → HP → RB := fun call l H => unc l fun a0 l0 => nilK l0 (
 bnd (binB 0 none .or true a0 (.int .u8 32) H) fun x0 h1 =>
 some (x0, h1))
theorem k201 : FsOk Tryz.prog 201 (.shal s201) := fs0 1 5 d201 Tryz.func201 rfl (by kernel_rfl) (by kernel_rfl) (by kernel_rfl) (by kernel_rfl)

end Go.Ab
end
