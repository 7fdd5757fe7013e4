/- The program's functions, staged, part 0. -/
import Derived.Test.YteemapgpedcbkaaGreatDoorSeat
set_option maxRecDepth 1000000
set_option linter.unusedVariables false
set_option linter.unusedSectionVars false
set_option linter.unusedSimpArgs false
noncomputable section
namespace Go.Ab
open Go.Proofs
def d3 : List RV := [.t 6]
noncomputable def s3 : Call → List V → HP → RB := fun call l H => unc l fun a0 l0 => unc l0 fun a1 l1 => unc l1 fun a2 l2 => nilK l2 (
 bnd (cvF .i64 a0 H) fun x0 h1 =>
 bnd (binB 0 none .rem true x0 (.int .i64 64) h1) fun x2 h3 =>
 bnd (addF x2 (.int .i64 1) h3) fun x4 h5 =>
 bnd (bdF [some (0, false, 1), some (1, false, 1), some (2, false, 1), some (3, false, 1)] (.agg [(.int .i64 0), (.str []), (.str []), .zsl]) [(0, (.int .i64 3)), (1, (.str [53]))] h5) fun x6 h7 =>
 bnd (alF 24 true 4 (.agg [(.int .i64 0), (.str []), (.str []), .zsl]) h7) fun x8 h9 =>
 bnd (stA 4 x8 x6 h9) fun _ h11 =>
 jn (fun J12 =>
 lpK (fun n13 c14 h15 =>
 bnd (ltF (nthV c14 21) x4 h15) fun x16 h17 =>
 jn (fun J18 =>
 cnd x16
 (J18 [] h17)
 (J12 [x4, x16, (nthV c14 1), (nthV c14 2), (nthV c14 3), (nthV c14 4), (nthV c14 5), (nthV c14 6), (nthV c14 7), (nthV c14 8), (nthV c14 9), (nthV c14 10), (nthV c14 11), (nthV c14 12), (nthV c14 13), (nthV c14 14), (nthV c14 15), (nthV c14 16), (nthV c14 17), (nthV c14 18), (nthV c14 19), (nthV c14 20), (nthV c14 21)] h17)) fun c19 h20 =>
 jn (fun J21 =>
 bnd (ldA 4 x8 h20) fun x22 h23 =>
 bnd (boF 24 true 4 1 [x22] h23) fun x24 h25 =>
 bnd (bdF [some (0, false, 1), some (1, false, 1), some (2, false, 1), some (3, false, 1)] (.agg [(.int .i64 0), (.str []), (.str []), .zsl]) [(0, (.int .i64 5)), (3, x24)] h25) fun x26 h27 =>
 bnd (alF 24 true 4 (.agg [(.int .i64 0), (.str []), (.str []), .zsl]) h27) fun x28 h29 =>
 bnd (stA 4 x28 x26 h29) fun _ h31 =>
 jn (fun J32 =>
 jv (fun J33 => gdT a1 (J33 (nthV c14 21) h31) (J33 u0 h31)) fun x34 h35 =>
 jv (fun J36 => gdT a1 (bnd (binB 0 none .rem true x34 (.int .i64 2) h35) J36) (J36 u0 h35)) fun x37 h38 =>
 jv (fun J39 => gdT a1 (bnd (eqF x37 (.int .i64 0) h38) J39) (J39 u0 h38)) fun x40 h41 =>
 bnd (pkF a1 x40 (.bool false) h41) fun x42 h43 =>
 cnd x42
 (bnd (bdF [some (0, false, 1), some (1, false, 1), some (2, false, 1), some (3, false, 1)] (.agg [(.int .i64 0), (.str []), (.str []), .zsl]) [(0, (.int .i64 4)), (1, (.str [107]))] h43) fun x44 h45 =>
 bnd (ldA 4 x8 h45) fun x46 h47 =>
 bnd (boF 24 true 4 2 [x44, x46] h47) fun x48 h49 =>
 bnd (bdF [some (0, false, 1), some (1, false, 1), some (2, false, 1), some (3, false, 1)] (.agg [(.int .i64 0), (.str []), (.str []), .zsl]) [(0, (.int .i64 6)), (3, x48)] h49) fun x50 h51 =>
 bnd (stA 4 x28 x50 h51) fun _ h53 =>
 J32 [a1, a1, x34, x37, x40, x42, x44, x46, x48, x50] h53)
 (J32 [a1, a1, x34, x37, x40, x42, (nthV c14 13), (nthV c14 14), (nthV c14 15), (nthV c14 16)] h43)) fun c54 h55 =>
 jn (fun J56 =>
 cnd a2
 (bnd (faF 2 x28 h55) fun x57 h58 =>
 bnd (st2 x57 (.str [97]) h58) fun _ h60 =>
 J56 [a2, x57] h60)
 (J56 [a2, (nthV c14 18)] h55)) fun c61 h62 =>
 bnd (ldA 4 x28 h62) fun x63 h64 =>
 bnd (stA 4 x8 x63 h64) fun _ h66 =>
 J21 [(nthV c14 21), (nthV c14 21), x22, x24, x26, x28, (nthV c54 0), (nthV c54 1), (nthV c54 2), (nthV c54 3), (nthV c54 4), (nthV c54 5), (nthV c54 6), (nthV c54 7), (nthV c54 8), (nthV c54 9), (nthV c61 0), (nthV c61 1), x63] h66) fun c67 h68 =>
 bnd (addF (nthV c14 21) (.int .i64 1) h68) fun x69 h70 =>
 n13 [x16, (nthV c67 0), (nthV c67 1), (nthV c67 2), (nthV c67 3), (nthV c67 4), (nthV c67 5), (nthV c67 6), (nthV c67 7), (nthV c67 8), (nthV c67 9), (nthV c67 10), (nthV c67 11), (nthV c67 12), (nthV c67 13), (nthV c67 14), (nthV c67 15), (nthV c67 16), (nthV c67 17), (nthV c67 18), x69, x69] h70) [u0, u0, u0, u0, u0, u0, u0, u0, u0, u0, u0, u0, u0, u0, u0, u0, u0, u0, u0, u0, u0, (.int .i64 0)] h11) fun c71 h72 =>
 bnd (ldA 4 x8 h72) fun x73 h74 =>
 bnd (call (.f 4) [x73] h74) fun x75 h76 =>
 bnd (exF x75 0 h76) fun x77 h78 =>
 bnd (exF x75 1 h78) fun x79 h80 =>
 bnd (call (.f 5) [x77] h80) fun x81 h82 =>
 bnd (exF x81 0 h82) fun x83 h84 =>
 bnd (exF x81 1 h84) fun x85 h86 =>
 bnd (alF 24 true 4 (.agg [(.int .i64 0), (.str []), (.str []), .zsl]) h86) fun x87 h88 =>
 bnd (alF 29 true 2 (.agg [(.int .i64 0), (.int .i64 0)]) h88) fun x89 h90 =>
 bnd (stA 4 x87 x83 h90) fun _ h92 =>
 bnd (stA 2 x89 x85 h92) fun _ h94 =>
 bnd (eqF x79 (.int .i64 0) h94) fun x95 h96 =>
 jv (fun J97 => gdT x95 (bnd (ldA 2 x89 h96) J97) (J97 u0 h96)) fun x98 h99 =>
 jv (fun J100 => gdT x95 (bnd (bdF [some (0, false, 1), some (1, false, 1)] (.agg [(.int .i64 0), (.int .i64 0)]) [] h99) J100) (J100 u0 h99)) fun x101 h102 =>
 jv (fun J103 => gdT x95 (bnd (binB 0 (some [.int .i64, .int .i64]) .eql false x98 x101 h102) J103) (J103 u0 h102)) fun x104 h105 =>
 bnd (pkF x95 x104 (.bool false) h105) fun x106 h107 =>
 jv (fun J108 => gdT x106 (bnd (ldA 4 x8 h107) J108) (J108 u0 h107)) fun x109 h110 =>
 jv (fun J111 => gdT x106 (bnd (ldA 4 x87 h110) J111) (J111 u0 h110)) fun x112 h113 =>
 jv (fun J114 => gdT x106 (bnd (call (.f 6) [x109, x112] h113) J114) (J114 u0 h113)) fun x115 h116 =>
 bnd (pkF x106 x115 (.bool false) h116) fun x117 h118 =>
 jv (fun J119 => gdT x117 (bnd (call (.f 7) [] h118) J119) (J119 u0 h118)) fun x120 h121 =>
 bnd (pkF x117 x120 (.bool false) h121) fun x122 h123 =>
 some (x122, h123))
theorem k3 : FsOk Tryz.prog 3 (.shal s3) := fs0 3 66 d3 Tryz.func3 rfl (by kernel_rfl) (by kernel_rfl) (by kernel_rfl) (by kernel_rfl)
def d4 : List RV := [.t 2, .t 3]
noncomputable def s4 : Call → List V → HP → RB := fun call l H => unc l fun a0 l0 => nilK l0 (
 bnd (bxA 24 4 a0 H) fun x0 h1 =>
 bnd (ldA 4 x0 h1) fun x2 h3 =>
 bnd (call (.f 8) [x2] h3) fun x4 h5 =>
 bnd (exF x4 0 h5) fun x6 h7 =>
 bnd (exF x4 1 h7) fun x8 h9 =>
 jn (fun J10 =>
 bnd (neF x8 (.int .i64 0) h9) fun x11 h12 =>
 cnd x11
 (some (.tup [(.str []), x8], h12))
 (J10 [x8, x11, u0, (.str []), (.int .i64 0)] h12)) fun c13 h14 =>
 bnd (call (.f 9) [x6] h14) fun x15 h16 =>
 jn (fun J17 =>
 bnd (lenT x15 h16) fun x18 h19 =>
 bnd (gtF x18 (.int .i64 65536) h19) fun x20 h21 =>
 cnd x20
 (some (.tup [(.str []), (.int .i64 5)], h21))
 (J17 [x15, x18, x20, (nthV c13 3), (nthV c13 4)] h21)) fun c22 h23 =>
 some (.tup [x15, (.int .i64 0)], h23))
theorem k4 : FsOk Tryz.prog 4 (.shal s4) := fs0 1 21 d4 Tryz.func4 rfl (by kernel_rfl) (by kernel_rfl) (by kernel_rfl) (by kernel_rfl)
def d5 : List RV := [.cell 2 true 4, .cell 3 true 2]
noncomputable def s5 : Call → List V → HP → RB := fun call l H => unc l fun a0 l0 => nilK l0 (
 bnd (alF 24 true 4 (.agg [(.int .i64 0), (.str []), (.str []), .zsl]) H) fun x0 h1 =>
 bnd (alF 29 true 2 (.agg [(.int .i64 0), (.int .i64 0)]) h1) fun x2 h3 =>
 bnd (call (.f 10) [a0] h3) fun x4 h5 =>
 bnd (exF x4 0 h5) fun x6 h7 =>
 bnd (exF x4 1 h7) fun x8 h9 =>
 bnd (alF 29 true 2 (.agg [(.int .i64 0), (.int .i64 0)]) h9) fun x10 h11 =>
 bnd (stA 2 x10 x8 h11) fun _ h13 =>
 jn (fun J14 =>
 bnd (ldA 2 x10 h13) fun x15 h16 =>
 bnd (bdF [some (0, false, 1), some (1, false, 1)] (.agg [(.int .i64 0), (.int .i64 0)]) [] h16) fun x17 h18 =>
 bnd (binB 0 (some [.int .i64, .int .i64]) .neq false x15 x17 h18) fun x19 h20 =>
 cnd x19
 (bnd (bdF [some (0, false, 1), some (1, false, 1), some (2, false, 1), some (3, false, 1)] (.agg [(.int .i64 0), (.str []), (.str []), .zsl]) [] h20) fun x21 _ =>
 bnd (ldA 2 x10 h20) fun x22 _ =>
 bnd (stA 4 x0 x21 h20) fun _ h24 =>
 bnd (ldA 2 x10 h24) fun y29 _ => ifB (eqVF y29 x22) (
 bnd (stA 2 x2 x22 h24) fun _ h26 =>
 bnd (ldA 4 x0 h26) fun r27 _ =>
 bnd (ldA 2 x2 h26) fun r28 _ =>
 some (.tup [r27, r28], h26)))
 (bnd (lenL x6 h20) fun x30 h31 =>
 bnd (gtF x30 (.int .i64 1) h31) fun x32 h33 =>
 cnd x32
 (bnd (bdF [some (0, false, 1), some (1, false, 1), some (2, false, 1), some (3, false, 1)] (.agg [(.int .i64 0), (.str []), (.str []), .zsl]) [] h33) fun x34 h35 =>
 bnd (bdF [some (0, false, 1), some (1, false, 1)] (.agg [(.int .i64 0), (.int .i64 0)]) [(0, (.int .i64 5))] h35) fun x36 h37 =>
 bnd (stA 4 x0 x34 h37) fun _ h39 =>
 bnd (stA 2 x2 x36 h39) fun _ h41 =>
 bnd (ldA 4 x0 h41) fun r42 _ =>
 bnd (ldA 2 x2 h41) fun r43 _ =>
 some (.tup [r42, r43], h41))
 (bnd (lenL x6 h33) fun x44 h45 =>
 bnd (eqF x44 (.int .i64 0) h45) fun x46 h47 =>
 cnd x46
 (bnd (bdF [some (0, false, 1), some (1, false, 1), some (2, false, 1), some (3, false, 1)] (.agg [(.int .i64 0), (.str []), (.str []), .zsl]) [(0, (.int .i64 1))] h47) fun x48 h49 =>
 bnd (bdF [some (0, false, 1), some (1, false, 1)] (.agg [(.int .i64 0), (.int .i64 0)]) [] h49) fun x50 h51 =>
 bnd (stA 4 x0 x48 h51) fun _ h53 =>
 bnd (stA 2 x2 x50 h53) fun _ h55 =>
 bnd (ldA 4 x0 h55) fun r56 _ =>
 bnd (ldA 2 x2 h55) fun r57 _ =>
 some (.tup [r56, r57], h55))
 (J14 [x15, x17, x19, x19, u0, u0, x6, x30, x32, x32, u0, u0, x6, x44, x46, x46, u0, u0] h47)))) fun c58 h59 =>
 bnd (iaS 4 x6 (.int .i64 0) h59) fun x60 h61 =>
 bnd (ldA 4 x60 h61) fun x62 h63 =>
 bnd (bdF [some (0, false, 1), some (1, false, 1)] (.agg [(.int .i64 0), (.int .i64 0)]) [] h63) fun x64 h65 =>
 bnd (stA 4 x0 x62 h65) fun _ h67 =>
 bnd (stA 2 x2 x64 h67) fun _ h69 =>
 bnd (ldA 4 x0 h69) fun r70 _ =>
 bnd (ldA 2 x2 h69) fun r71 _ =>
 some (.tup [r70, r71], h69))
theorem k5 : FsOk Tryz.prog 5 (.shal s5) := fs0 1 33 d5 Tryz.func5 rfl (by kernel_rfl) (by kernel_rfl) (by kernel_rfl) (by kernel_rfl)
def d6 : List RV := [.t 4]
noncomputable def s6 : Call → List V → HP → RB := fun call l H => unc l fun a0 l0 => unc l0 fun a1 l1 => nilK l1 (
 bnd (bxA 24 4 a0 H) fun x0 h1 =>
 bnd (bxA 24 4 a1 h1) fun x2 h3 =>
 jn (fun J4 =>
 bnd (faF 0 x0 h3) fun x5 h6 =>
 bnd (ld1 x5 h6) fun x7 h8 =>
 bnd (faF 0 x2 h8) fun x9 h10 =>
 bnd (ld1 x9 h10) fun x11 h12 =>
 bnd (neF x7 x11 h12) fun x13 h14 =>
 jv (fun J15 => gdN x13 (bnd (faF 1 x0 h14) J15) (J15 u0 h14)) fun x16 h17 =>
 jv (fun J18 => gdN x13 (bnd (ld1 x16 h17) J18) (J18 u0 h17)) fun x19 h20 =>
 jv (fun J21 => gdN x13 (bnd (faF 1 x2 h20) J21) (J21 u0 h20)) fun x22 h23 =>
 jv (fun J24 => gdN x13 (bnd (ld1 x22 h23) J24) (J24 u0 h23)) fun x25 h26 =>
 jv (fun J27 => gdN x13 (bnd (neT x19 x25 h26) J27) (J27 u0 h26)) fun x28 h29 =>
 bnd (pkF x13 (.bool true) x28 h29) fun x30 h31 =>
 jv (fun J32 => gdN x30 (bnd (faF 2 x0 h31) J32) (J32 u0 h31)) fun x33 h34 =>
 jv (fun J35 => gdN x30 (bnd (ld1 x33 h34) J35) (J35 u0 h34)) fun x36 h37 =>
 jv (fun J38 => gdN x30 (bnd (faF 2 x2 h37) J38) (J38 u0 h37)) fun x39 h40 =>
 jv (fun J41 => gdN x30 (bnd (ld1 x39 h40) J41) (J41 u0 h40)) fun x42 h43 =>
 jv (fun J44 => gdN x30 (bnd (neT x36 x42 h43) J44) (J44 u0 h43)) fun x45 h46 =>
 bnd (pkF x30 (.bool true) x45 h46) fun x47 h48 =>
 jv (fun J49 => gdN x47 (bnd (faF 3 x0 h48) J49) (J49 u0 h48)) fun x50 h51 =>
 jv (fun J52 => gdN x47 (bnd (ld1 x50 h51) J52) (J52 u0 h51)) fun x53 h54 =>
 jv (fun J55 => gdN x47 (bnd (lenL x53 h54) J55) (J55 u0 h54)) fun x56 h57 =>
 jv (fun J58 => gdN x47 (bnd (faF 3 x2 h57) J58) (J58 u0 h57)) fun x59 h60 =>
 jv (fun J61 => gdN x47 (bnd (ld1 x59 h60) J61) (J61 u0 h60)) fun x62 h63 =>
 jv (fun J64 => gdN x47 (bnd (lenL x62 h63) J64) (J64 u0 h63)) fun x65 h66 =>
 jv (fun J67 => gdN x47 (bnd (neF x56 x65 h66) J67) (J67 u0 h66)) fun x68 h69 =>
 bnd (pkF x47 (.bool true) x68 h69) fun x70 h71 =>
 cnd x70
 (some ((.bool false), h71))
 (J4 [x5, x7, x9, x11, x13, x13, x16, x19, x22, x25, x28, x30, x30, x33, x36, x39, x42, x45, x47, x47, x50, x53, x56, x59, x62, x65, x68, x70, (.bool false)] h71)) fun c72 h73 =>
 jn (fun J74 =>
 lpK (fun n75 c76 h77 =>
 jn (fun J78 =>
 bnd (faF 3 x0 h77) fun x79 h80 =>
 bnd (ld1 x79 h80) fun x81 h82 =>
 bnd (lenL x81 h82) fun x83 h84 =>
 bnd (ltF (nthV c76 20) x83 h84) fun x85 h86 =>
 cnd x85
 (J78 [(nthV c76 20), x79, x81, x83, x85] h86)
 (J74 [(nthV c76 20), x79, x81, x83, x85, (nthV c76 5), (nthV c76 6), (nthV c76 7), (nthV c76 8), (nthV c76 9), (nthV c76 10), (nthV c76 11), (nthV c76 12), (nthV c76 13), (nthV c76 14), (nthV c76 15), (nthV c76 16), (nthV c76 17), (nthV c76 18), (nthV c76 19), (nthV c76 20)] h86)) fun c87 h88 =>
 jn (fun J89 =>
 bnd (faF 3 x0 h88) fun x90 _ =>
 bnd (ld1 x90 h88) fun x91 _ =>
 bnd (iaS 4 x91 (nthV c76 20) h88) fun x92 _ =>
 bnd (ldA 4 x92 h88) fun x93 _ =>
 bnd (faF 3 x2 h88) fun x94 _ =>
 bnd (ld1 x94 h88) fun x95 _ =>
 bnd (iaS 4 x95 (nthV c76 20) h88) fun x96 _ =>
 bnd (ldA 4 x96 h88) fun x97 _ =>
 bnd (noY call (.f 6) [x93, x97] h88) fun x98 h99 =>
 bnd (ntF x98 h99) fun x100 _ =>
 cnd x100
 (some ((.bool false), h99))
 (J89 [x90, x91, (nthV c76 20), x92, x93, x94, x95, (nthV c76 20), x96, x97, x98, x100, (nthV c76 17)] h99)) fun c101 h102 =>
 bnd (addF (nthV c76 20) (.int .i64 1) h102) fun x103 h104 =>
 n75 [(nthV c87 0), (nthV c87 1), (nthV c87 2), (nthV c87 3), (nthV c87 4), (nthV c101 0), (nthV c101 1), (nthV c101 2), (nthV c101 3), (nthV c101 4), (nthV c101 5), (nthV c101 6), (nthV c101 7), (nthV c101 8), (nthV c101 9), (nthV c101 10), (nthV c101 11), (nthV c101 12), (nthV c76 20), x103, x103] h104) [u0, u0, u0, u0, u0, u0, u0, u0, u0, u0, u0, u0, u0, u0, u0, u0, u0, (nthV c72 28), u0, u0, (.int .i64 0)] h73) fun c105 h106 =>
 some ((.bool true), h106))
theorem k6 : FsOk Tryz.prog 6 (.shal s6) := fs0 2 53 d6 Tryz.func6 rfl (by kernel_rfl) (by kernel_rfl) (by kernel_rfl) (by kernel_rfl)
def d7 : List RV := [.t 0]
noncomputable def s7 : Call → List V → HP → RB := fun call l H => nilK l (
 bnd (call (.f 11) [(.str [123, 107, 58, 32, 91, 49, 44, 32, 123, 97, 58, 32, 98, 125, 93, 125])] H) fun x0 h1 =>
 bnd (exF x0 0 h1) fun x2 h3 =>
 bnd (exF x0 1 h3) fun x4 h5 =>
 bnd (alF 24 true 4 (.agg [(.int .i64 0), (.str []), (.str []), .zsl]) h5) fun x6 h7 =>
 bnd (alF 29 true 2 (.agg [(.int .i64 0), (.int .i64 0)]) h7) fun x8 h9 =>
 bnd (stA 4 x6 x2 h9) fun _ h11 =>
 bnd (stA 2 x8 x4 h11) fun _ h13 =>
 bnd (ldA 4 x6 h13) fun x14 h15 =>
 bnd (call (.f 4) [x14] h15) fun x16 h17 =>
 bnd (exF x16 0 h17) fun x18 h19 =>
 bnd (exF x16 1 h19) fun x20 h21 =>
 bnd (call (.f 12) [x18] h21) fun x22 h23 =>
 bnd (exF x22 0 h23) fun x24 h25 =>
 bnd (exF x22 1 h25) fun x26 h27 =>
 bnd (alF 43 true 2 (.agg [.zsl, (.int .i64 0)]) h27) fun x28 h29 =>
 bnd (alF 29 true 2 (.agg [(.int .i64 0), (.int .i64 0)]) h29) fun x30 h31 =>
 bnd (stA 2 x28 x24 h31) fun _ h33 =>
 bnd (stA 2 x30 x26 h33) fun _ h35 =>
 bnd (ldA 2 x8 h35) fun x36 h37 =>
 bnd (bdF [some (0, false, 1), some (1, false, 1)] (.agg [(.int .i64 0), (.int .i64 0)]) [] h37) fun x38 h39 =>
 bnd (binB 0 (some [.int .i64, .int .i64]) .eql false x36 x38 h39) fun x40 h41 =>
 jv (fun J42 => gdT x40 (J42 x20 h41) (J42 u0 h41)) fun x43 h44 =>
 jv (fun J45 => gdT x40 (bnd (eqF x43 (.int .i64 0) h44) J45) (J45 u0 h44)) fun x46 h47 =>
 bnd (pkF x40 x46 (.bool false) h47) fun x48 h49 =>
 jv (fun J50 => gdT x48 (J50 x18 h49) (J50 u0 h49)) fun x51 h52 =>
 jv (fun J53 => gdT x48 (bnd (eqT x51 (.str [107, 58, 10, 32, 32, 45, 32, 49, 10, 32, 32, 45, 32, 97, 58, 32, 98, 10]) h52) J53) (J53 u0 h52)) fun x54 h55 =>
 bnd (pkF x48 x54 (.bool false) h55) fun x56 h57 =>
 jv (fun J58 => gdT x56 (bnd (ldA 2 x30 h57) J58) (J58 u0 h57)) fun x59 h60 =>
 jv (fun J61 => gdT x56 (bnd (bdF [some (0, false, 1), some (1, false, 1)] (.agg [(.int .i64 0), (.int .i64 0)]) [] h60) J61) (J61 u0 h60)) fun x62 h63 =>
 jv (fun J64 => gdT x56 (bnd (binB 0 (some [.int .i64, .int .i64]) .eql false x59 x62 h63) J64) (J64 u0 h63)) fun x65 h66 =>
 bnd (pkF x56 x65 (.bool false) h66) fun x67 h68 =>
 jv (fun J69 => gdT x67 (bnd (faF 0 x28 h68) J69) (J69 u0 h68)) fun x70 h71 =>
 jv (fun J72 => gdT x67 (bnd (ld1 x70 h71) J72) (J72 u0 h71)) fun x73 h74 =>
 jv (fun J75 => gdT x67 (bnd (lenL x73 h74) J75) (J75 u0 h74)) fun x76 h77 =>
 jv (fun J78 => gdT x67 (bnd (eqF x76 (.int .i64 7) h77) J78) (J78 u0 h77)) fun x79 h80 =>
 bnd (pkF x67 x79 (.bool false) h80) fun x81 h82 =>
 some (x81, h82))
theorem k7 : FsOk Tryz.prog 7 (.shal s7) := fs0 0 43 d7 Tryz.func7 rfl (by kernel_rfl) (by kernel_rfl) (by kernel_rfl) (by kernel_rfl)
def d8 : List RV := [.t 2, .t 3]
noncomputable def s8 : Call → List V → HP → RB := fun call l H => unc l fun a0 l0 => nilK l0 (
 bnd (bxA 24 4 a0 H) fun x0 h1 =>
 jn (fun J2 =>
 bnd (ldA 4 x0 h1) fun x3 h4 =>
 bnd (call (.f 13) [x3] h4) fun x5 h6 =>
 bnd (ntF x5 h6) fun x7 h8 =>
 cnd x7
 (some (.tup [.zsl, (.int .i64 1)], h8))
 (bnd (ldA 4 x0 h8) fun x9 h10 =>
 bnd (call (.f 14) [x9] h10) fun x11 h12 =>
 cnd x11
 (some (.tup [.zsl, (.int .i64 5)], h12))
 (J2 [x3, x5, x7, x7, x9, x11, x11, .zsl, (.int .i64 0)] h12))) fun c13 h14 =>
 bnd (alF 49 true 1 (.agg [.zsl]) h14) fun x15 h16 =>
 bnd (alF 47 false 1 .nilptr h16) fun x17 h18 =>
 bnd (st2 x17 x15 h18) fun _ h20 =>
 bnd (ld1 x17 h20) fun x21 h22 =>
 bnd (ldA 4 x0 h22) fun x23 h24 =>
 bnd (some (.fn 16 [] [x17, x0], h24)) fun x25 h26 =>
 bnd (call (.f 15) [x21, x23, (.int .i64 0), (.str []), x25] h26) fun x27 h28 =>
 bnd (ld1 x17 h28) fun x29 h30 =>
 bnd (ncF x29 h30) fun x31 h32 =>
 bnd (faF 0 x31 h32) fun x33 h34 =>
 bnd (ld1 x33 h34) fun x35 h36 =>
 some (.tup [x35, (.int .i64 0)], h36))
theorem k8 : FsOk Tryz.prog 8 (.shal s8) := fs0 1 21 d8 Tryz.func8 rfl (by kernel_rfl) (by kernel_rfl) (by kernel_rfl) (by kernel_rfl)
def d9 : List RV := [.t 2]
noncomputable def s9 : Call → List V → HP → RB := fun call l H => unc l fun a0 l0 => nilK l0 (
 bnd (alF 55 true 2 (.agg [.nilptr, .zsl]) H) fun x0 h1 =>
 jn (fun J2 =>
 bnd (lenL a0 h1) fun x3 h4 =>
 lpK (fun n5 c6 h7 =>
 bnd (ltF (nthV c6 15) x3 h7) fun x8 h9 =>
 jn (fun J10 =>
 cnd x8
 (J10 [] h9)
 (J2 [a0, x3, x8, (nthV c6 1), (nthV c6 2), (nthV c6 3), (nthV c6 4), (nthV c6 5), (nthV c6 6), (nthV c6 7), (nthV c6 8), (nthV c6 9), (nthV c6 10), (nthV c6 11), (nthV c6 12), (nthV c6 13), (nthV c6 14), (nthV c6 15)] h9)) fun c11 h12 =>
 jn (fun J13 =>
 bnd (iaS 3 a0 (nthV c6 15) h12) fun x14 h15 =>
 bnd (ldA 3 x14 h15) fun x16 h17 =>
 bnd (alF 57 true 3 (.agg [(.int .i64 0), (.str []), (.int .i64 0)]) h17) fun x18 h19 =>
 bnd (stA 3 x18 x16 h19) fun _ h21 =>
 bnd (faF 0 x18 h21) fun x22 h23 =>
 bnd (ld1 x22 h23) fun x24 h25 =>
 bnd (minB true x24 (.int .i64 0) h25) fun x26 h27 =>
 bnd (minB false x26 (.int .i64 65536) h27) fun x28 h29 =>
 bnd (call (.f 19) [(.str [32]), x28] h29) fun x30 h31 =>
 bnd (call (.f 18) [x0, x30] h31) fun x32 h33 =>
 bnd (faF 1 x18 h33) fun x34 h35 =>
 bnd (ld1 x34 h35) fun x36 h37 =>
 bnd (call (.f 18) [x0, x36] h37) fun x38 h39 =>
 bnd (call (.f 20) [x0, (.int .u8 10)] h39) fun x40 h41 =>
 J13 [x14, x16, x18, x22, x24, x26, x28, x30, x32, x34, x36, x38, x40] h41) fun c42 h43 =>
 bnd (addF (nthV c6 15) (.int .i64 1) h43) fun x44 h45 =>
 n5 [x8, (nthV c42 0), (nthV c42 1), (nthV c42 2), (nthV c42 3), (nthV c42 4), (nthV c42 5), (nthV c42 6), (nthV c42 7), (nthV c42 8), (nthV c42 9), (nthV c42 10), (nthV c42 11), (nthV c42 12), x44, x44] h45) [u0, u0, u0, u0, u0, u0, u0, u0, u0, u0, u0, u0, u0, u0, u0, (.int .i64 0)] h4) fun c46 h47 =>
 bnd (call (.f 21) [x0] h47) fun x48 h49 =>
 some (x48, h49))
theorem k9 : FsOk Tryz.prog 9 (.shal s9) := fs0 1 24 d9 Tryz.func9 rfl (by kernel_rfl) (by kernel_rfl) (by kernel_rfl) (by kernel_rfl)
def d11 : List RV := [.cell 2 true 4, .cell 3 true 2]
noncomputable def s11 : Call → List V → HP → RB := fun call l H => unc l fun a0 l0 => nilK l0 (
 bnd (alF 24 true 4 (.agg [(.int .i64 0), (.str []), (.str []), .zsl]) H) fun x0 h1 =>
 bnd (alF 29 true 2 (.agg [(.int .i64 0), (.int .i64 0)]) h1) fun x2 h3 =>
 jn (fun J4 =>
 bnd (lenT a0 h3) fun x5 h6 =>
 bnd (gtF x5 (.int .i64 65536) h6) fun x7 h8 =>
 cnd x7
 (bnd (bdF [some (0, false, 1), some (1, false, 1), some (2, false, 1), some (3, false, 1)] (.agg [(.int .i64 0), (.str []), (.str []), .zsl]) [] h8) fun x9 h10 =>
 bnd (bdF [some (0, false, 1), some (1, false, 1)] (.agg [(.int .i64 0), (.int .i64 0)]) [(0, (.int .i64 5))] h10) fun x11 h12 =>
 bnd (stA 4 x0 x9 h12) fun _ h14 =>
 bnd (stA 2 x2 x11 h14) fun _ h16 =>
 bnd (ldA 4 x0 h16) fun r17 _ =>
 bnd (ldA 2 x2 h16) fun r18 _ =>
 some (.tup [r17, r18], h16))
 (J4 [a0, x5, x7, u0, u0] h8)) fun c19 h20 =>
 bnd (call (.f 25) [a0, (.bool false)] h20) fun x21 h22 =>
 bnd (exF x21 0 h22) fun x23 h24 =>
 bnd (exF x21 1 h24) fun x25 h26 =>
 bnd (exF x21 2 h26) fun x27 h28 =>
 bnd (alF 24 true 4 (.agg [(.int .i64 0), (.str []), (.str []), .zsl]) h28) fun x29 h30 =>
 bnd (alF 29 true 2 (.agg [(.int .i64 0), (.int .i64 0)]) h30) fun x31 h32 =>
 bnd (stA 4 x29 x23 h32) fun _ h34 =>
 bnd (stA 2 x31 x27 h34) fun _ h36 =>
 jn (fun J37 =>
 bnd (ldA 2 x31 h36) fun x38 h39 =>
 bnd (bdF [some (0, false, 1), some (1, false, 1)] (.agg [(.int .i64 0), (.int .i64 0)]) [] h39) fun x40 h41 =>
 bnd (binB 0 (some [.int .i64, .int .i64]) .neq false x38 x40 h41) fun x42 h43 =>
 cnd x42
 (bnd (bdF [some (0, false, 1), some (1, false, 1), some (2, false, 1), some (3, false, 1)] (.agg [(.int .i64 0), (.str []), (.str []), .zsl]) [] h43) fun x44 _ =>
 bnd (ldA 2 x31 h43) fun x45 _ =>
 bnd (stA 4 x0 x44 h43) fun _ h47 =>
 bnd (ldA 2 x31 h47) fun y52 _ => ifB (eqVF y52 x45) (
 bnd (stA 2 x2 x45 h47) fun _ h49 =>
 bnd (ldA 4 x0 h49) fun r50 _ =>
 bnd (ldA 2 x2 h49) fun r51 _ =>
 some (.tup [r50, r51], h49)))
 (J37 [x38, x40, x42, u0, u0] h43)) fun c53 h54 =>
 jn (fun J55 =>
 bnd (slT1 a0 x25 h54) fun x56 h57 =>
 bnd (call (.f 26) [x56, (.str [32])] h57) fun x58 h59 =>
 bnd (neT x58 (.str []) h59) fun x60 h61 =>
 cnd x60
 (bnd (bdF [some (0, false, 1), some (1, false, 1), some (2, false, 1), some (3, false, 1)] (.agg [(.int .i64 0), (.str []), (.str []), .zsl]) [] h61) fun x62 h63 =>
 bnd (lenT a0 h63) fun x64 h65 =>
 bnd (lenT x58 h65) fun x66 h67 =>
 bnd (subF x64 x66 h67) fun x68 h69 =>
 bnd (bdF [some (0, false, 1), some (1, false, 1)] (.agg [(.int .i64 0), (.int .i64 0)]) [(0, (.int .i64 3)), (1, x68)] h69) fun x70 h71 =>
 bnd (stA 4 x0 x62 h71) fun _ h73 =>
 bnd (stA 2 x2 x70 h73) fun _ h75 =>
 bnd (ldA 4 x0 h75) fun r76 _ =>
 bnd (ldA 2 x2 h75) fun r77 _ =>
 some (.tup [r76, r77], h75))
 (J55 [a0, x25, x56, x58, x58, x58, x60, u0, u0, u0, u0, u0, u0, u0] h61)) fun c78 h79 =>
 bnd (ldA 4 x29 h79) fun x80 h81 =>
 bnd (bdF [some (0, false, 1), some (1, false, 1)] (.agg [(.int .i64 0), (.int .i64 0)]) [] h81) fun x82 h83 =>
 bnd (stA 4 x0 x80 h83) fun _ h85 =>
 bnd (stA 2 x2 x82 h85) fun _ h87 =>
 bnd (ldA 4 x0 h87) fun r88 _ =>
 bnd (ldA 2 x2 h87) fun r89 _ =>
 some (.tup [r88, r89], h87))
theorem k11 : FsOk Tryz.prog 11 (.shal s11) := fs0 1 39 d11 Tryz.func11 rfl (by kernel_rfl) (by kernel_rfl) (by kernel_rfl) (by kernel_rfl)
def d12 : List RV := [.cell 2 true 2, .cell 3 true 2]
noncomputable def s12 : Call → List V → HP → RB := fun call l H => unc l fun a0 l0 => nilK l0 (
 bnd (alF 43 true 2 (.agg [.zsl, (.int .i64 0)]) H) fun x0 h1 =>
 bnd (alF 29 true 2 (.agg [(.int .i64 0), (.int .i64 0)]) h1) fun x2 h3 =>
 bnd (call (.f 5) [a0] h3) fun x4 h5 =>
 bnd (exF x4 0 h5) fun x6 h7 =>
 bnd (exF x4 1 h7) fun x8 h9 =>
 bnd (alF 24 true 4 (.agg [(.int .i64 0), (.str []), (.str []), .zsl]) h9) fun x10 h11 =>
 bnd (alF 29 true 2 (.agg [(.int .i64 0), (.int .i64 0)]) h11) fun x12 h13 =>
 bnd (stA 4 x10 x6 h13) fun _ h15 =>
 bnd (stA 2 x12 x8 h15) fun _ h17 =>
 jn (fun J18 =>
 bnd (ldA 2 x12 h17) fun x19 h20 =>
 bnd (bdF [some (0, false, 1), some (1, false, 1)] (.agg [(.int .i64 0), (.int .i64 0)]) [] h20) fun x21 h22 =>
 bnd (binB 0 (some [.int .i64, .int .i64]) .neq false x19 x21 h22) fun x23 h24 =>
 cnd x23
 (bnd (bdF [some (0, false, 1), some (1, false, 1)] (.agg [.zsl, (.int .i64 0)]) [] h24) fun x25 _ =>
 bnd (ldA 2 x12 h24) fun x26 _ =>
 bnd (stA 2 x0 x25 h24) fun _ h28 =>
 bnd (ldA 2 x12 h28) fun y33 _ => ifB (eqVF y33 x26) (
 bnd (stA 2 x2 x26 h28) fun _ h30 =>
 bnd (ldA 2 x0 h30) fun r31 _ =>
 bnd (ldA 2 x2 h30) fun r32 _ =>
 some (.tup [r31, r32], h30)))
 (J18 [x19, x21, x23, u0, u0] h24)) fun c34 h35 =>
 bnd (ldA 4 x10 h35) fun x36 h37 =>
 bnd (call (.f 27) [x36] h37) fun x38 h39 =>
 bnd (exF x38 0 h39) fun x40 h41 =>
 bnd (exF x38 1 h41) fun x42 h43 =>
 bnd (alF 43 true 2 (.agg [.zsl, (.int .i64 0)]) h43) fun x44 h45 =>
 bnd (stA 2 x44 x40 h45) fun _ h47 =>
 bnd (ldA 2 x44 h47) fun x48 h49 =>
 bnd (bdF [some (0, false, 1), some (1, false, 1)] (.agg [(.int .i64 0), (.int .i64 0)]) [(0, x42)] h49) fun x50 h51 =>
 bnd (stA 2 x0 x48 h51) fun _ h53 =>
 bnd (stA 2 x2 x50 h53) fun _ h55 =>
 bnd (ldA 2 x0 h55) fun r56 _ =>
 bnd (ldA 2 x2 h55) fun r57 _ =>
 some (.tup [r56, r57], h55))
theorem k12 : FsOk Tryz.prog 12 (.shal s12) := fs0 1 26 d12 Tryz.func12 rfl (by kernel_rfl) (by kernel_rfl) (by kernel_rfl) (by kernel_rfl)
def d13 : List RV := [.t 2]
noncomputable def s13 : Call → List V → HP → RB := fun call l H => unc l fun a0 l0 => nilK l0 (
 bnd (bxA 24 4 a0 H) fun x0 h1 =>
 bnd (bdF [some (0, false, 1)] (.agg [(.int .i64 0)]) [(0, (.int .i64 4096))] h1) fun x2 h3 =>
 bnd (bxA 79 1 x2 h3) fun x4 h5 =>
 bnd (ldA 4 x0 h5) fun x6 h7 =>
 bnd (call (.f 28) [x4, x6, (.int .i64 0)] h7) fun x8 h9 =>
 some (x8, h9))
theorem k13 : FsOk Tryz.prog 13 (.shal s13) := fs0 1 9 d13 Tryz.func13 rfl (by kernel_rfl) (by kernel_rfl) (by kernel_rfl) (by kernel_rfl)
def d14 : List RV := [.t 2]
noncomputable def s14 : Call → List V → HP → RB := fun call l H => unc l fun a0 l0 => nilK l0 (
 bnd (bxA 24 4 a0 H) fun x0 h1 =>
 jn (fun J2 =>
 bnd (faF 3 x0 h1) fun x3 h4 =>
 bnd (ld1 x3 h4) fun x5 h6 =>
 bnd (lenL x5 h6) fun x7 h8 =>
 lpK (fun n9 c10 h11 =>
 bnd (ltF (nthV c10 26) x7 h11) fun x12 h13 =>
 jn (fun J14 =>
 cnd x12
 (J14 [] h13)
 (J2 [x3, x5, x7, x12, (nthV c10 1), (nthV c10 2), (nthV c10 3), (nthV c10 4), (nthV c10 5), (nthV c10 6), (nthV c10 7), (nthV c10 8), (nthV c10 9), (nthV c10 10), (nthV c10 11), (nthV c10 12), (nthV c10 13), (nthV c10 14), (nthV c10 15), (nthV c10 16), (nthV c10 17), (nthV c10 18), (nthV c10 19), (nthV c10 20), (nthV c10 21), (nthV c10 22), (nthV c10 23), (nthV c10 24), (nthV c10 25), (nthV c10 26)] h13)) fun c15 h16 =>
 jn (fun J17 =>
 bnd (iaS 4 x5 (nthV c10 26) h16) fun x18 h19 =>
 bnd (ldA 4 x18 h19) fun x20 h21 =>
 bnd (alF 24 true 4 (.agg [(.int .i64 0), (.str []), (.str []), .zsl]) h21) fun x22 h23 =>
 bnd (stA 4 x22 x20 h23) fun _ h25 =>
 bnd (faF 0 x0 h25) fun x26 h27 =>
 bnd (ld1 x26 h27) fun x28 h29 =>
 bnd (eqF x28 (.int .i64 6) h29) fun x30 h31 =>
 jv (fun J32 => gdT x30 (J32 (nthV c10 26) h31) (J32 u0 h31)) fun x33 h34 =>
 jv (fun J35 => gdT x30 (bnd (binB 0 none .rem true x33 (.int .i64 2) h34) J35) (J35 u0 h34)) fun x36 h37 =>
 jv (fun J38 => gdT x30 (bnd (eqF x36 (.int .i64 0) h37) J38) (J38 u0 h37)) fun x39 h40 =>
 bnd (pkF x30 x39 (.bool false) h40) fun x41 h42 =>
 jv (fun J43 => gdT x41 (bnd (faF 1 x22 h42) J43) (J43 u0 h42)) fun x44 h45 =>
 jv (fun J46 => gdT x41 (bnd (ld1 x44 h45) J46) (J46 u0 h45)) fun x47 h48 =>
 jv (fun J49 => gdT x41 (bnd (lenT x47 h48) J49) (J49 u0 h48)) fun x50 h51 =>
 jv (fun J52 => gdT x41 (bnd (gtF x50 (.int .i64 256) h51) J52) (J52 u0 h51)) fun x53 h54 =>
 bnd (pkF x41 x53 (.bool false) h54) fun x55 h56 =>
 jv (fun J57 => gdN x55 (bnd (ldA 4 x22 h56) J57) (J57 u0 h56)) fun x58 h59 =>
 jv (fun J60 => gdN x55 (bnd (call (.f 14) [x58] h59) J60) (J60 u0 h59)) fun x61 h62 =>
 bnd (pkF x55 (.bool true) x61 h62) fun x63 h64 =>
 cnd x63
 (some ((.bool true), h64))
 (J17 [(nthV c10 26), x18, x20, x22, (nthV c10 26), x26, x28, x30, x30, x33, x36, x39, x41, x41, x44, x47, x50, x53, x55, x55, x58, x61, x63, (nthV c10 24)] h64)) fun c65 h66 =>
 bnd (addF (nthV c10 26) (.int .i64 1) h66) fun x67 h68 =>
 n9 [x12, (nthV c65 0), (nthV c65 1), (nthV c65 2), (nthV c65 3), (nthV c65 4), (nthV c65 5), (nthV c65 6), (nthV c65 7), (nthV c65 8), (nthV c65 9), (nthV c65 10), (nthV c65 11), (nthV c65 12), (nthV c65 13), (nthV c65 14), (nthV c65 15), (nthV c65 16), (nthV c65 17), (nthV c65 18), (nthV c65 19), (nthV c65 20), (nthV c65 21), (nthV c65 22), (nthV c65 23), x67, x67] h68) [u0, u0, u0, u0, u0, u0, u0, u0, u0, u0, u0, u0, u0, u0, u0, u0, u0, u0, u0, u0, u0, u0, u0, u0, (.bool false), u0, (.int .i64 0)] h8) fun c69 h70 =>
 some ((.bool false), h70))
theorem k14 : FsOk Tryz.prog 14 (.shal s14) := fs0 1 32 d14 Tryz.func14 rfl (by kernel_rfl) (by kernel_rfl) (by kernel_rfl) (by kernel_rfl)
def d15 : List RV := []
noncomputable def s15 : Call → List V → HP → RB := fun call l H => unc l fun a0 l0 => unc l0 fun a1 l1 => unc l1 fun a2 l2 => unc l2 fun a3 l3 => unc l3 fun a4 l4 => nilK l4 (
 bnd (bxA 24 4 a1 H) fun x0 h1 =>
 jn (fun J2 =>
 bnd (faF 2 x0 h1) fun x3 h4 =>
 bnd (ld1 x3 h4) fun x5 h6 =>
 bnd (neT x5 (.str []) h6) fun x7 h8 =>
 jv (fun J9 => gdT x7 (bnd (faF 0 x0 h8) J9) (J9 u0 h8)) fun x10 h11 =>
 jv (fun J12 => gdT x7 (bnd (ld1 x10 h11) J12) (J12 u0 h11)) fun x13 h14 =>
 jv (fun J15 => gdT x7 (bnd (neF x13 (.int .i64 7) h14) J15) (J15 u0 h14)) fun x16 h17 =>
 bnd (pkF x7 x16 (.bool false) h17) fun x18 h19 =>
 cnd x18
 (bnd (faF 2 x0 h19) fun x20 h21 =>
 bnd (ld1 x20 h21) fun x22 h23 =>
 bnd (addT (.str [38]) x22 h23) fun x24 h25 =>
 bnd (addT x24 (.str [32]) h25) fun x26 h27 =>
 J2 [x3, x5, x7, x7, x10, x13, x16, x18, x20, x22, x24, x26, x26] h27)
 (J2 [x3, x5, x7, x7, x10, x13, x16, x18, u0, u0, u0, u0, (.str [])] h19)) fun c28 h29 =>
 bnd (ldA 4 x0 h29) fun x30 h31 =>
 bnd (call (.f 29) [x30] h31) fun x32 h33 =>
 bnd (exF x32 0 h33) fun x34 h35 =>
 bnd (exF x32 1 h35) fun x36 h37 =>
 bnd (exF x32 2 h37) fun x38 h39 =>
 bnd (alF 82 true 2 (.agg [(.bool false), (.int .i64 0)]) h39) fun x40 h41 =>
 bnd (stA 2 x40 x34 h41) fun _ h43 =>
 cnd x38
 (bnd (addT a3 (nthV c28 12) h43) fun x44 h45 =>
 bnd (ldA 2 x40 h45) fun x46 h47 =>
 bnd (call (.f 31) [x46] h47) fun x48 h49 =>
 bnd (addT x44 x48 h49) fun x50 h51 =>
 bnd (call (.f 30) [a0, a2, x50] h51) fun x52 h53 =>
 bnd (lenL x36 h53) fun x54 h55 =>
 lpK (fun n56 c57 h58 =>
 bnd (ltF (nthV c57 10) x54 h58) fun x59 h60 =>
 jn (fun J61 =>
 cnd x59
 (J61 [] h60)
 (some (.tup [], h60))) fun c62 h63 =>
 jn (fun J64 =>
 bnd (iaS 1 x36 (nthV c57 10) h63) fun x65 h66 =>
 bnd (ld1 x65 h66) fun x67 h68 =>
 bnd (addF a2 (.int .i64 2) h68) fun x69 h70 =>
 bnd (call (.f 32) [a0, x69, x67] h70) fun x71 h72 =>
 J64 [x65, x67, x67, a0, a2, x69, x67, x71] h72) fun c73 h74 =>
 bnd (addF (nthV c57 10) (.int .i64 1) h74) fun x75 h76 =>
 n56 [x59, (nthV c73 0), (nthV c73 1), (nthV c73 2), (nthV c73 3), (nthV c73 4), (nthV c73 5), (nthV c73 6), (nthV c73 7), x75, x75] h76) [u0, u0, u0, u0, u0, u0, u0, u0, u0, u0, (.int .i64 0)] h55)
 (bnd (faF 3 x0 h43) fun x77 h78 =>
 bnd (ld1 x77 h78) fun x79 h80 =>
 bnd (lenL x79 h80) fun x81 h82 =>
 bnd (eqF x81 (.int .i64 0) h82) fun x83 h84 =>
 cnd x83
 (bnd (addT a3 (nthV c28 12) h84) fun x85 h86 =>
 bnd (ldA 4 x0 h86) fun x87 h88 =>
 bnd (call (.f 33) [x87] h88) fun x89 h90 =>
 bnd (addT x85 x89 h90) fun x91 h92 =>
 bnd (call (.f 30) [a0, a2, x91] h92) fun x93 h94 =>
 some (.tup [], h94))
 (bnd (neT (nthV c28 12) (.str []) h84) fun x95 h96 =>
 cnd x95
 (bnd (addT a3 (nthV c28 12) h96) fun x97 h98 =>
 bnd (call (.f 30) [a0, a2, x97] h98) fun x99 h100 =>
 jn (fun J101 =>
 bnd (neT a3 (.str []) h100) fun x102 h103 =>
 cnd x102
 (bnd (addF a2 (.int .i64 2) h103) fun x104 h105 =>
 J101 [a3, x102, a2, x104, x104] h105)
 (J101 [a3, x102, u0, u0, a2] h103)) fun c106 h107 =>
 bnd (ldA 4 x0 h107) fun x108 h109 =>
 bnd (call (.f 17) [a0, x108, (nthV c106 4), (.str [])] h109) fun x110 h111 =>
 some (.tup [], h111))
 (cvK call a4 [] h96 fun x112 h113 =>
 some (.tup [], h113)))))
theorem k15 : FsOk Tryz.prog 15 (.shal s15) := fs0 5 90 d15 Tryz.func15 rfl (by kernel_rfl) (by kernel_rfl) (by kernel_rfl) (by kernel_rfl)
def d16 : List RV := []
noncomputable def s16 : Call → List V → HP → RB := fun call l H => unc l fun a0 l0 => unc l0 fun a1 l1 => nilK l1 (
 bnd (ld1 a0 H) fun x0 h1 =>
 bnd (ldA 4 a1 h1) fun x2 h3 =>
 bnd (call (.f 17) [x0, x2, (.int .i64 0), (.str [])] h3) fun x4 h5 =>
 some (.tup [], h5))
theorem k16 : FsOk Tryz.prog 16 (.shal s16) := fs0 2 5 d16 Tryz.func16 rfl (by kernel_rfl) (by kernel_rfl) (by kernel_rfl) (by kernel_rfl)
def d17 : List RV := []
noncomputable def s17 : Call → List V → HP → RB := fun call l H => unc l fun a0 l0 => unc l0 fun a1 l1 => unc l1 fun a2 l2 => unc l2 fun a3 l3 => nilK l3 (
 bnd (bxA 24 4 a1 H) fun x0 h1 =>
 lpK (fun n2 c3 h4 =>
 jn (fun J5 =>
 bnd (faF 3 x0 h4) fun x6 h7 =>
 bnd (ld1 x6 h7) fun x8 h9 =>
 bnd (lenL x8 h9) fun x10 h11 =>
 bnd (ltF (nthV c3 73) x10 h11) fun x12 h13 =>
 cnd x12
 (J5 [(nthV c3 73), x6, x8, x10, x12] h13)
 (some (.tup [], h13))) fun c14 h15 =>
 jn (fun J16 =>
 bnd (ncF a0 h15) fun x17 h18 =>
 bnd (faF 0 x17 h18) fun x19 h20 =>
 bnd (ld1 x19 h20) fun x21 h22 =>
 bnd (lenL x21 h22) fun x23 h24 =>
 jn (fun J25 =>
 bnd (faF 0 x0 h24) fun x26 h27 =>
 bnd (ld1 x26 h27) fun x28 h29 =>
 bnd (eqF x28 (.int .i64 6) h29) fun x30 h31 =>
 cnd x30
 (bnd (faF 3 x0 h31) fun x32 _ =>
 bnd (ld1 x32 h31) fun x33 _ =>
 bnd (iaS 4 x33 (nthV c3 73) h31) fun x34 _ =>
 bnd (ldA 4 x34 h31) fun x35 _ =>
 bnd (faF 3 x0 h31) fun x36 _ =>
 bnd (ld1 x36 h31) fun x37 _ =>
 bnd (addF (nthV c3 73) (.int .i64 1) h31) fun x38 _ =>
 bnd (iaS 4 x37 x38 h31) fun x39 _ =>
 bnd (ldA 4 x39 h31) fun x40 _ =>
 bnd (noY call (.f 34) [a0, x35, x40, a2] h31) fun x41 h42 =>
 bnd (addF (nthV c3 73) (.int .i64 1) h42) fun x43 h44 =>
 J25 [x26, x28, x30, a0, x32, x33, (nthV c3 73), x34, x35, x36, x37, (nthV c3 73), x38, x39, x40, a2, x41, (nthV c3 73), x43, x43, (nthV c3 30), (nthV c3 31), (nthV c3 32), (nthV c3 33), (nthV c3 34), (nthV c3 35), (nthV c3 36), (nthV c3 37)] h44)
 (bnd (faF 3 x0 h31) fun x45 h46 =>
 bnd (ld1 x45 h46) fun x47 h48 =>
 bnd (iaS 4 x47 (nthV c3 73) h48) fun x49 h50 =>
 bnd (ldA 4 x49 h50) fun x51 h52 =>
 bnd (call (.f 35) [a0, x51, a2] h52) fun x53 h54 =>
 J25 [x26, x28, x30, (nthV c3 14), (nthV c3 15), (nthV c3 16), (nthV c3 17), (nthV c3 18), (nthV c3 19), (nthV c3 20), (nthV c3 21), (nthV c3 22), (nthV c3 23), (nthV c3 24), (nthV c3 25), (nthV c3 26), (nthV c3 27), (nthV c3 28), (nthV c3 29), (nthV c3 73), a0, x45, x47, (nthV c3 73), x49, x51, a2, x53] h54)) fun c55 h56 =>
 bnd (neT (nthV c3 70) (.str []) h56) fun x57 h58 =>
 cnd x57
 (bnd (ncF a0 h58) fun x59 h60 =>
 bnd (faF 0 x59 h60) fun x61 h62 =>
 bnd (ld1 x61 h62) fun x63 h64 =>
 bnd (iaS 3 x63 x23 h64) fun x65 h66 =>
 bnd (faF 0 x65 h66) fun x67 h68 =>
 bnd (ld1 x67 h68) fun x69 h70 =>
 bnd (lenT (nthV c3 70) h70) fun x71 h72 =>
 bnd (subF x69 x71 h72) fun x73 h74 =>
 bnd (iaS 3 x63 x23 h74) fun x75 h76 =>
 bnd (faF 0 x75 h76) fun x77 h78 =>
 bnd (st2 x77 x73 h78) fun _ h80 =>
 bnd (ncF a0 h80) fun x81 _ =>
 bnd (faF 0 x81 h80) fun x82 _ =>
 bnd (ld1 x82 h80) fun x83 _ =>
 bnd (ncF a0 h80) fun x84 _ =>
 bnd (faF 0 x84 h80) fun x85 _ =>
 bnd (ld1 x85 h80) fun x86 _ =>
 bnd (iaS 3 x86 x23 h80) fun x87 _ =>
 bnd (faF 1 x87 h80) fun x88 _ =>
 bnd (ld1 x88 h80) fun x89 _ =>
 bnd (addT (nthV c3 70) x89 h80) fun x90 _ =>
 bnd (iaS 3 x83 x23 h80) fun x91 _ =>
 bnd (faF 1 x91 h80) fun x92 _ =>
 bnd (st2 x92 x90 h80) fun _ h94 =>
 J16 [a0, x17, x19, x21, x23, x23, (nthV c55 0), (nthV c55 1), (nthV c55 2), (nthV c55 3), (nthV c55 4), (nthV c55 5), (nthV c55 6), (nthV c55 7), (nthV c55 8), (nthV c55 9), (nthV c55 10), (nthV c55 11), (nthV c55 12), (nthV c55 13), (nthV c55 14), (nthV c55 15), (nthV c55 16), (nthV c55 17), (nthV c55 18), (nthV c55 19), (nthV c55 20), (nthV c55 21), (nthV c55 22), (nthV c55 23), (nthV c55 24), (nthV c55 25), (nthV c55 26), (nthV c55 27), (nthV c3 70), x57, a0, x59, x61, x63, x23, x65, x67, x69, (nthV c3 70), x71, x73, x75, x77, a0, x81, x82, x83, x23, (nthV c3 70), a0, x84, x85, x86, x23, x87, x88, x89, x90, x91, x92, (.str [])] h94)
 (J16 [a0, x17, x19, x21, x23, x23, (nthV c55 0), (nthV c55 1), (nthV c55 2), (nthV c55 3), (nthV c55 4), (nthV c55 5), (nthV c55 6), (nthV c55 7), (nthV c55 8), (nthV c55 9), (nthV c55 10), (nthV c55 11), (nthV c55 12), (nthV c55 13), (nthV c55 14), (nthV c55 15), (nthV c55 16), (nthV c55 17), (nthV c55 18), (nthV c55 19), (nthV c55 20), (nthV c55 21), (nthV c55 22), (nthV c55 23), (nthV c55 24), (nthV c55 25), (nthV c55 26), (nthV c55 27), (nthV c3 70), x57, (nthV c3 40), (nthV c3 41), (nthV c3 42), (nthV c3 43), (nthV c3 44), (nthV c3 45), (nthV c3 46), (nthV c3 47), (nthV c3 48), (nthV c3 49), (nthV c3 50), (nthV c3 51), (nthV c3 52), (nthV c3 53), (nthV c3 54), (nthV c3 55), (nthV c3 56), (nthV c3 57), (nthV c3 58), (nthV c3 59), (nthV c3 60), (nthV c3 61), (nthV c3 62), (nthV c3 63), (nthV c3 64), (nthV c3 65), (nthV c3 66), (nthV c3 67), (nthV c3 68), (nthV c3 69), (nthV c3 70)] h58)) fun c95 h96 =>
 bnd (addF (nthV c95 25) (.int .i64 1) h96) fun x97 h98 =>
 n2 [(nthV c14 0), (nthV c14 1), (nthV c14 2), (nthV c14 3), (nthV c14 4), (nthV c95 0), (nthV c95 1), (nthV c95 2), (nthV c95 3), (nthV c95 4), (nthV c95 5), (nthV c95 6), (nthV c95 7), (nthV c95 8), (nthV c95 9), (nthV c95 10), (nthV c95 11), (nthV c95 12), (nthV c95 13), (nthV c95 14), (nthV c95 15), (nthV c95 16), (nthV c95 17), (nthV c95 18), (nthV c95 19), (nthV c95 20), (nthV c95 21), (nthV c95 22), (nthV c95 23), (nthV c95 24), (nthV c95 26), (nthV c95 27), (nthV c95 28), (nthV c95 29), (nthV c95 30), (nthV c95 31), (nthV c95 32), (nthV c95 33), (nthV c95 34), (nthV c95 35), (nthV c95 36), (nthV c95 37), (nthV c95 38), (nthV c95 39), (nthV c95 40), (nthV c95 41), (nthV c95 42), (nthV c95 43), (nthV c95 44), (nthV c95 45), (nthV c95 46), (nthV c95 47), (nthV c95 48), (nthV c95 49), (nthV c95 50), (nthV c95 51), (nthV c95 52), (nthV c95 53), (nthV c95 54), (nthV c95 55), (nthV c95 56), (nthV c95 57), (nthV c95 58), (nthV c95 59), (nthV c95 60), (nthV c95 61), (nthV c95 62), (nthV c95 63), (nthV c95 64), (nthV c95 65), (nthV c95 66), (nthV c95 25), x97, x97] h98) [u0, u0, u0, u0, u0, u0, u0, u0, u0, u0, u0, u0, u0, u0, u0, u0, u0, u0, u0, u0, u0, u0, u0, u0, u0, u0, u0, u0, u0, u0, u0, u0, u0, u0, u0, u0, u0, u0, u0, u0, u0, u0, u0, u0, u0, u0, u0, u0, u0, u0, u0, u0, u0, u0, u0, u0, u0, u0, u0, u0, u0, u0, u0, u0, u0, u0, u0, u0, u0, u0, a3, u0, u0, (.int .i64 0)] h1)
theorem k17 : FsOk Tryz.prog 17 (.shal s17) := fs0 4 81 d17 Tryz.func17 rfl (by kernel_rfl) (by kernel_rfl) (by kernel_rfl) (by kernel_rfl)
def d18 : List RV := [.t 4, .t 5]
noncomputable def s18 : Call → List V → HP → RB := fun call l H => unc l fun a0 l0 => unc l0 fun a1 l1 => nilK l1 (
 bnd (call (.f 36) [a0] H) fun x0 h1 =>
 bnd (ncF a0 h1) fun x2 h3 =>
 bnd (faF 1 x2 h3) fun x4 h5 =>
 bnd (ld1 x4 h5) fun x6 h7 =>
 bnd (orM (apF 5 false 1 1 (.int .u8 0) x6 a1 h7) (orR (appendB 5 false 1 1 (.int .u8 0) x6 a1 h7) (appInB 5 1 1 x6 a1 h7))) fun x8 h9 =>
 bnd (ncF a0 h9) fun x10 h11 =>
 bnd (faF 1 x10 h11) fun x12 h13 =>
 bnd (st2 x12 x8 h13) fun _ h15 =>
 bnd (lenT a1 h15) fun x16 h17 =>
 some (.tup [x16, .niliface], h17))
theorem k18 : FsOk Tryz.prog 18 (.shal s18) := fs0 2 19 d18 Tryz.func18 rfl (by kernel_rfl) (by kernel_rfl) (by kernel_rfl) (by kernel_rfl)
def d19 : List RV := [.t 4]
noncomputable def s19 : Call → List V → HP → RB := fun call l H => unc l fun a0 l0 => unc l0 fun a1 l1 => nilK l1 (
 jn (fun J0 =>
 bnd (eqF a1 (.int .i64 0) H) fun x1 h2 =>
 cnd x1
 (some ((.str []), h2))
 (bnd (eqF a1 (.int .i64 1) h2) fun x3 h4 =>
 cnd x3
 (some (a0, h4))
 (J0 [a1, x1, x1, x3, x3, u0, (.str [])] h4))) fun c5 h6 =>
 jn (fun J7 =>
 bnd (ltF a1 (.int .i64 0) h6) fun x8 h9 =>
 cnd x8
 (bnd (some (.iface 9 (.str [115, 116, 114, 105, 110, 103, 115, 58, 32, 110, 101, 103, 97, 116, 105, 118, 101, 32, 82, 101, 112, 101, 97, 116, 32, 99, 111, 117, 110, 116]), h9)) fun x10 h11 =>
 bnd (none) fun _ h13 =>
 J7 [a1, x8, x10] h13)
 (J7 [a1, x8, u0] h9)) fun c14 h15 =>
 bnd (lenT a0 h15) fun x16 h17 =>
 bnd (cvF .u64 x16 h17) fun x18 h19 =>
 bnd (cvF .u64 a1 h19) fun x20 h21 =>
 bnd (call (.f 37) [x18, x20] h21) fun x22 h23 =>
 bnd (exF x22 0 h23) fun x24 h25 =>
 bnd (exF x22 1 h25) fun x26 h27 =>
 jn (fun J28 =>
 bnd (gtF x24 (.int .u64 0) h27) fun x29 h30 =>
 jv (fun J31 => gdN x29 (J31 x26 h30) (J31 u0 h30)) fun x32 h33 =>
 jv (fun J34 => gdN x29 (bnd (gtF x32 (.int .u64 9223372036854775807) h33) J34) (J34 u0 h33)) fun x35 h36 =>
 bnd (pkF x29 (.bool true) x35 h36) fun x37 h38 =>
 cnd x37
 (bnd (some (.iface 9 (.str [115, 116, 114, 105, 110, 103, 115, 58, 32, 82, 101, 112, 101, 97, 116, 32, 111, 117, 116, 112, 117, 116, 32, 108, 101, 110, 103, 116, 104, 32, 111, 118, 101, 114, 102, 108, 111, 119]), h38)) fun x39 h40 =>
 bnd (none) fun _ h42 =>
 J28 [x24, x29, x29, x32, x35, x37, x39] h42)
 (J28 [x24, x29, x29, x32, x35, x37, u0] h38)) fun c43 h44 =>
 bnd (cvF .i64 x26 h44) fun x45 h46 =>
 jn (fun J47 =>
 bnd (lenT a0 h46) fun x48 h49 =>
 bnd (eqF x48 (.int .i64 0) h49) fun x50 h51 =>
 cnd x50
 (some ((.str []), h51))
 (J47 [a0, x48, x50, (nthV c5 6)] h51)) fun c52 h53 =>
 jn (fun J54 =>
 bnd (ixF a0 (.int .i64 0) h53) fun x55 h56 =>
 jn (fun J57 =>
 bnd (eqF x55 (.int .u8 32) h56) fun x58 h59 =>
 cnd x58
 (J57 [x58, u0, u0, u0, u0, x58] h59)
 (bnd (eqF x55 (.int .u8 45) h59) fun x60 h61 =>
 cnd x60
 (J57 [x58, x60, u0, u0, u0, x60] h61)
 (bnd (eqF x55 (.int .u8 48) h61) fun x62 h63 =>
 cnd x62
 (J57 [x58, x60, x62, u0, u0, x62] h63)
 (bnd (eqF x55 (.int .u8 61) h63) fun x64 h65 =>
 cnd x64
 (J57 [x58, x60, x62, x64, u0, x64] h65)
 (bnd (eqF x55 (.int .u8 9) h65) fun x66 h67 =>
 J57 [x58, x60, x62, x64, x66, x66] h67))))) fun c68 h69 =>
 cnd (nthV c68 5)
 (bnd (leF x45 (.int .i64 128) h69) fun x70 h71 =>
 jv (fun J72 => gdT x70 (J72 a0 h71) (J72 u0 h71)) fun x73 h74 =>
 jv (fun J75 => gdT x70 (bnd (call (.f 38) [(.str [32, 32, 32, 32, 32, 32, 32, 32, 32, 32, 32, 32, 32, 32, 32, 32, 32, 32, 32, 32, 32, 32, 32, 32, 32, 32, 32, 32, 32, 32, 32, 32, 32, 32, 32, 32, 32, 32, 32, 32, 32, 32, 32, 32, 32, 32, 32, 32, 32, 32, 32, 32, 32, 32, 32, 32, 32, 32, 32, 32, 32, 32, 32, 32, 32, 32, 32, 32, 32, 32, 32, 32, 32, 32, 32, 32, 32, 32, 32, 32, 32, 32, 32, 32, 32, 32, 32, 32, 32, 32, 32, 32, 32, 32, 32, 32, 32, 32, 32, 32, 32, 32, 32, 32, 32, 32, 32, 32, 32, 32, 32, 32, 32, 32, 32, 32, 32, 32, 32, 32, 32, 32, 32, 32, 32, 32, 32, 32]), x73] h74) J75) (J75 u0 h74)) fun x76 h77 =>
 bnd (pkF x70 x76 (.bool false) h77) fun x78 h79 =>
 cnd x78
 (bnd (slT0 (.str [32, 32, 32, 32, 32, 32, 32, 32, 32, 32, 32, 32, 32, 32, 32, 32, 32, 32, 32, 32, 32, 32, 32, 32, 32, 32, 32, 32, 32, 32, 32, 32, 32, 32, 32, 32, 32, 32, 32, 32, 32, 32, 32, 32, 32, 32, 32, 32, 32, 32, 32, 32, 32, 32, 32, 32, 32, 32, 32, 32, 32, 32, 32, 32, 32, 32, 32, 32, 32, 32, 32, 32, 32, 32, 32, 32, 32, 32, 32, 32, 32, 32, 32, 32, 32, 32, 32, 32, 32, 32, 32, 32, 32, 32, 32, 32, 32, 32, 32, 32, 32, 32, 32, 32, 32, 32, 32, 32, 32, 32, 32, 32, 32, 32, 32, 32, 32, 32, 32, 32, 32, 32, 32, 32, 32, 32, 32, 32]) x45 h79) fun x80 h81 =>
 some (x80, h81))
 (bnd (leF x45 (.int .i64 128) h79) fun x82 h83 =>
 jv (fun J84 => gdT x82 (J84 a0 h83) (J84 u0 h83)) fun x85 h86 =>
 jv (fun J87 => gdT x82 (bnd (call (.f 38) [(.str [45, 45, 45, 45, 45, 45, 45, 45, 45, 45, 45, 45, 45, 45, 45, 45, 45, 45, 45, 45, 45, 45, 45, 45, 45, 45, 45, 45, 45, 45, 45, 45, 45, 45, 45, 45, 45, 45, 45, 45, 45, 45, 45, 45, 45, 45, 45, 45, 45, 45, 45, 45, 45, 45, 45, 45, 45, 45, 45, 45, 45, 45, 45, 45, 45, 45, 45, 45, 45, 45, 45, 45, 45, 45, 45, 45, 45, 45, 45, 45, 45, 45, 45, 45, 45, 45, 45, 45, 45, 45, 45, 45, 45, 45, 45, 45, 45, 45, 45, 45, 45, 45, 45, 45, 45, 45, 45, 45, 45, 45, 45, 45, 45, 45, 45, 45, 45, 45, 45, 45, 45, 45, 45, 45, 45, 45, 45, 45]), x85] h86) J87) (J87 u0 h86)) fun x88 h89 =>
 bnd (pkF x82 x88 (.bool false) h89) fun x90 h91 =>
 cnd x90
 (bnd (slT0 (.str [45, 45, 45, 45, 45, 45, 45, 45, 45, 45, 45, 45, 45, 45, 45, 45, 45, 45, 45, 45, 45, 45, 45, 45, 45, 45, 45, 45, 45, 45, 45, 45, 45, 45, 45, 45, 45, 45, 45, 45, 45, 45, 45, 45, 45, 45, 45, 45, 45, 45, 45, 45, 45, 45, 45, 45, 45, 45, 45, 45, 45, 45, 45, 45, 45, 45, 45, 45, 45, 45, 45, 45, 45, 45, 45, 45, 45, 45, 45, 45, 45, 45, 45, 45, 45, 45, 45, 45, 45, 45, 45, 45, 45, 45, 45, 45, 45, 45, 45, 45, 45, 45, 45, 45, 45, 45, 45, 45, 45, 45, 45, 45, 45, 45, 45, 45, 45, 45, 45, 45, 45, 45, 45, 45, 45, 45, 45, 45]) x45 h91) fun x92 h93 =>
 some (x92, h93))
 (bnd (leF x45 (.int .i64 64) h91) fun x94 h95 =>
 jv (fun J96 => gdT x94 (J96 a0 h95) (J96 u0 h95)) fun x97 h98 =>
 jv (fun J99 => gdT x94 (bnd (call (.f 38) [(.str [48, 48, 48, 48, 48, 48, 48, 48, 48, 48, 48, 48, 48, 48, 48, 48, 48, 48, 48, 48, 48, 48, 48, 48, 48, 48, 48, 48, 48, 48, 48, 48, 48, 48, 48, 48, 48, 48, 48, 48, 48, 48, 48, 48, 48, 48, 48, 48, 48, 48, 48, 48, 48, 48, 48, 48, 48, 48, 48, 48, 48, 48, 48, 48]), x97] h98) J99) (J99 u0 h98)) fun x100 h101 =>
 bnd (pkF x94 x100 (.bool false) h101) fun x102 h103 =>
 cnd x102
 (bnd (slT0 (.str [48, 48, 48, 48, 48, 48, 48, 48, 48, 48, 48, 48, 48, 48, 48, 48, 48, 48, 48, 48, 48, 48, 48, 48, 48, 48, 48, 48, 48, 48, 48, 48, 48, 48, 48, 48, 48, 48, 48, 48, 48, 48, 48, 48, 48, 48, 48, 48, 48, 48, 48, 48, 48, 48, 48, 48, 48, 48, 48, 48, 48, 48, 48, 48]) x45 h103) fun x104 h105 =>
 some (x104, h105))
 (bnd (leF x45 (.int .i64 128) h103) fun x106 h107 =>
 jv (fun J108 => gdT x106 (J108 a0 h107) (J108 u0 h107)) fun x109 h110 =>
 jv (fun J111 => gdT x106 (bnd (call (.f 38) [(.str [61, 61, 61, 61, 61, 61, 61, 61, 61, 61, 61, 61, 61, 61, 61, 61, 61, 61, 61, 61, 61, 61, 61, 61, 61, 61, 61, 61, 61, 61, 61, 61, 61, 61, 61, 61, 61, 61, 61, 61, 61, 61, 61, 61, 61, 61, 61, 61, 61, 61, 61, 61, 61, 61, 61, 61, 61, 61, 61, 61, 61, 61, 61, 61, 61, 61, 61, 61, 61, 61, 61, 61, 61, 61, 61, 61, 61, 61, 61, 61, 61, 61, 61, 61, 61, 61, 61, 61, 61, 61, 61, 61, 61, 61, 61, 61, 61, 61, 61, 61, 61, 61, 61, 61, 61, 61, 61, 61, 61, 61, 61, 61, 61, 61, 61, 61, 61, 61, 61, 61, 61, 61, 61, 61, 61, 61, 61, 61]), x109] h110) J111) (J111 u0 h110)) fun x112 h113 =>
 bnd (pkF x106 x112 (.bool false) h113) fun x114 h115 =>
 cnd x114
 (bnd (slT0 (.str [61, 61, 61, 61, 61, 61, 61, 61, 61, 61, 61, 61, 61, 61, 61, 61, 61, 61, 61, 61, 61, 61, 61, 61, 61, 61, 61, 61, 61, 61, 61, 61, 61, 61, 61, 61, 61, 61, 61, 61, 61, 61, 61, 61, 61, 61, 61, 61, 61, 61, 61, 61, 61, 61, 61, 61, 61, 61, 61, 61, 61, 61, 61, 61, 61, 61, 61, 61, 61, 61, 61, 61, 61, 61, 61, 61, 61, 61, 61, 61, 61, 61, 61, 61, 61, 61, 61, 61, 61, 61, 61, 61, 61, 61, 61, 61, 61, 61, 61, 61, 61, 61, 61, 61, 61, 61, 61, 61, 61, 61, 61, 61, 61, 61, 61, 61, 61, 61, 61, 61, 61, 61, 61, 61, 61, 61, 61, 61]) x45 h115) fun x116 h117 =>
 some (x116, h117))
 (bnd (leF x45 (.int .i64 64) h115) fun x118 h119 =>
 jv (fun J120 => gdT x118 (J120 a0 h119) (J120 u0 h119)) fun x121 h122 =>
 jv (fun J123 => gdT x118 (bnd (call (.f 38) [(.str [9, 9, 9, 9, 9, 9, 9, 9, 9, 9, 9, 9, 9, 9, 9, 9, 9, 9, 9, 9, 9, 9, 9, 9, 9, 9, 9, 9, 9, 9, 9, 9, 9, 9, 9, 9, 9, 9, 9, 9, 9, 9, 9, 9, 9, 9, 9, 9, 9, 9, 9, 9, 9, 9, 9, 9, 9, 9, 9, 9, 9, 9, 9, 9]), x121] h122) J123) (J123 u0 h122)) fun x124 h125 =>
 bnd (pkF x118 x124 (.bool false) h125) fun x126 h127 =>
 cnd x126
 (bnd (slT0 (.str [9, 9, 9, 9, 9, 9, 9, 9, 9, 9, 9, 9, 9, 9, 9, 9, 9, 9, 9, 9, 9, 9, 9, 9, 9, 9, 9, 9, 9, 9, 9, 9, 9, 9, 9, 9, 9, 9, 9, 9, 9, 9, 9, 9, 9, 9, 9, 9, 9, 9, 9, 9, 9, 9, 9, 9, 9, 9, 9, 9, 9, 9, 9, 9]) x45 h127) fun x128 h129 =>
 some (x128, h129))
 (J54 [a0, x55, (nthV c68 0), (nthV c68 1), (nthV c68 2), (nthV c68 3), (nthV c68 4), (nthV c68 5), x45, x70, x70, x73, x76, x78, x78, u0, u0, x45, x82, x82, x85, x88, x90, x90, u0, u0, x45, x94, x94, x97, x100, x102, x102, u0, u0, x45, x106, x106, x109, x112, x114, x114, u0, u0, x45, x118, x118, x121, x124, x126, x126, u0, u0, (nthV c52 3)] h127))))))
 (J54 [a0, x55, (nthV c68 0), (nthV c68 1), (nthV c68 2), (nthV c68 3), (nthV c68 4), (nthV c68 5), u0, u0, u0, u0, u0, u0, u0, u0, u0, u0, u0, u0, u0, u0, u0, u0, u0, u0, u0, u0, u0, u0, u0, u0, u0, u0, u0, u0, u0, u0, u0, u0, u0, u0, u0, u0, u0, u0, u0, u0, u0, u0, u0, u0, u0, (nthV c52 3)] h69)) fun c130 h131 =>
 jn (fun J132 =>
 bnd (gtF x45 (.int .i64 8192) h131) fun x133 h134 =>
 cnd x133
 (bnd (lenT a0 h134) fun x135 h136 =>
 bnd (binB 0 none .quo true (.int .i64 8192) x135 h136) fun x137 h138 =>
 bnd (lenT a0 h138) fun x139 h140 =>
 bnd (binB 0 none .mul false x137 x139 h140) fun x141 h142 =>
 bnd (eqF x141 (.int .i64 0) h142) fun x143 h144 =>
 cnd x143
 (bnd (lenT a0 h144) fun x145 h146 =>
 J132 [x45, x133, a0, x135, x137, a0, x139, x141, x141, x143, a0, x145, x145] h146)
 (J132 [x45, x133, a0, x135, x137, a0, x139, x141, x141, x143, u0, u0, x141] h144))
 (J132 [x45, x133, u0, u0, u0, u0, u0, u0, u0, u0, u0, u0, x45] h134)) fun c147 h148 =>
 bnd (alF 55 true 2 (.agg [.nilptr, .zsl]) h148) fun x149 h150 =>
 bnd (call (.f 39) [x149, x45] h150) fun x151 h152 =>
 bnd (call (.f 18) [x149, a0] h152) fun x153 h154 =>
 jn (fun J155 =>
 lpK (fun n156 c157 h158 =>
 jn (fun J159 =>
 bnd (call (.f 40) [x149] h158) fun x160 h161 =>
 bnd (ltF x160 x45 h161) fun x162 h163 =>
 cnd x162
 (J159 [x160, x45, x162] h163)
 (J155 [x160, x45, x162, (nthV c157 3), (nthV c157 4), (nthV c157 5), (nthV c157 6), (nthV c157 7), (nthV c157 8), (nthV c157 9), (nthV c157 10), (nthV c157 11), (nthV c157 12), (nthV c157 13)] h163)) fun c164 h165 =>
 bnd (call (.f 40) [x149] h165) fun x166 h167 =>
 bnd (subF x45 x166 h167) fun x168 h169 =>
 bnd (call (.f 40) [x149] h169) fun x170 h171 =>
 bnd (none) fun x172 h173 =>
 bnd (call (.f 21) [x149] h173) fun x174 h175 =>
 bnd (slT0 x174 x172 h175) fun x176 h177 =>
 bnd (call (.f 18) [x149, x176] h177) fun x178 h179 =>
 n156 [(nthV c164 0), (nthV c164 1), (nthV c164 2), x45, x166, x168, x170, (nthV c147 12), x172, x172, x174, x172, x176, x178] h179) [u0, u0, u0, u0, u0, u0, u0, u0, u0, u0, u0, u0, u0, u0] h154) fun c180 h181 =>
 bnd (call (.f 21) [x149] h181) fun x182 h183 =>
 some (x182, h183))
theorem k19 : FsOk Tryz.prog 19 (.shal s19) := fs0 2 125 d19 Tryz.func19 rfl (by kernel_rfl) (by kernel_rfl) (by kernel_rfl) (by kernel_rfl)
def d20 : List RV := [.t 4]
noncomputable def s20 : Call → List V → HP → RB := fun call l H => unc l fun a0 l0 => unc l0 fun a1 l1 => nilK l1 (
 bnd (call (.f 36) [a0] H) fun x0 h1 =>
 bnd (ncF a0 h1) fun x2 h3 =>
 bnd (faF 1 x2 h3) fun x4 h5 =>
 bnd (ld1 x4 h5) fun x6 h7 =>
 bnd (boF 5 false 1 1 [a1] h7) fun x8 h9 =>
 bnd (orM (apF 5 false 1 1 (.int .u8 0) x6 x8 h9) (orR (appendB 5 false 1 1 (.int .u8 0) x6 x8 h9) (appInB 5 1 1 x6 x8 h9))) fun x10 h11 =>
 bnd (ncF a0 h11) fun x12 h13 =>
 bnd (faF 1 x12 h13) fun x14 h15 =>
 bnd (st2 x14 x10 h15) fun _ h17 =>
 some (.niliface, h17))
theorem k20 : FsOk Tryz.prog 20 (.shal s20) := fs0 2 17 d20 Tryz.func20 rfl (by kernel_rfl) (by kernel_rfl) (by kernel_rfl) (by kernel_rfl)
def d21 : List RV := [.t 2]
noncomputable def s21 : Call → List V → HP → RB := fun call l H => unc l fun a0 l0 => nilK l0 (
 bnd (ncF a0 H) fun x0 _ =>
 bnd (faF 1 x0 H) fun x1 _ =>
 bnd (ld1 x1 H) fun x2 _ =>
 bnd (sliceDataB x2 H) fun x3 h4 =>
 bnd (ncF a0 h4) fun x5 _ =>
 bnd (faF 1 x5 h4) fun x6 _ =>
 bnd (ld1 x6 h4) fun x7 _ =>
 bnd (ld1 x6 H) fun y12 _ => ifB (eqVF y12 x7) (
 bnd (lenL x7 h4) fun x8 _ =>
 bnd (lenL x7 H) fun y11 _ => ifB (eqVF y11 x8) (
 bnd (unsafeStringB 5 x3 x8 h4) fun x9 h10 =>
 some (x9, h10))))
theorem k21 : FsOk Tryz.prog 21 (.shal s21) := fs0 1 14 d21 Tryz.func21 rfl (by kernel_rfl) (by kernel_rfl) (by kernel_rfl) (by kernel_rfl)
def d22 : List RV := [.t 2, .cell 3 true 2]
noncomputable def s22 : Call → List V → HP → RB := fun call l H => unc l fun a0 l0 => nilK l0 (
 bnd (alF 29 true 2 (.agg [(.int .i64 0), (.int .i64 0)]) H) fun x0 h1 =>
 jn (fun J2 =>
 bnd (lenT a0 h1) fun x3 h4 =>
 bnd (gtF x3 (.int .i64 65536) h4) fun x5 h6 =>
 cnd x5
 (bnd (bdF [some (0, false, 1), some (1, false, 1)] (.agg [(.int .i64 0), (.int .i64 0)]) [(0, (.int .i64 5))] h6) fun x7 h8 =>
 bnd (stA 2 x0 x7 h8) fun _ h10 =>
 bnd (ldA 2 x0 h10) fun r11 _ =>
 some (.tup [.zsl, r11], h10))
 (J2 [a0, x3, x5, u0, .zsl] h6)) fun c12 h13 =>
 jn (fun J14 =>
 bnd (call (.f 41) [a0] h13) fun x15 h16 =>
 bnd (lenL x15 h16) fun x17 h18 =>
 lpK (fun n19 c20 h21 =>
 bnd (ltF (nthV c20 45) x17 h21) fun x22 h23 =>
 jn (fun J24 =>
 cnd x22
 (J24 [] h23)
 (J14 [a0, x15, x17, x22, (nthV c20 1), (nthV c20 2), (nthV c20 3), (nthV c20 4), (nthV c20 5), (nthV c20 6), (nthV c20 7), (nthV c20 8), (nthV c20 9), (nthV c20 10), (nthV c20 11), (nthV c20 12), (nthV c20 13), (nthV c20 14), (nthV c20 15), (nthV c20 16), (nthV c20 17), (nthV c20 18), (nthV c20 19), (nthV c20 20), (nthV c20 21), (nthV c20 22), (nthV c20 23), (nthV c20 24), (nthV c20 25), (nthV c20 26), (nthV c20 27), (nthV c20 28), (nthV c20 29), (nthV c20 30), (nthV c20 31), (nthV c20 32), (nthV c20 33), (nthV c20 34), (nthV c20 35), (nthV c20 36), (nthV c20 37), (nthV c20 38), (nthV c20 39), (nthV c20 40), (nthV c20 41), (nthV c20 42), (nthV c20 43), (nthV c20 44), (nthV c20 45)] h23)) fun c25 h26 =>
 jn (fun J27 =>
 bnd (iaS 1 x15 (nthV c20 45) h26) fun x28 h29 =>
 bnd (ld1 x28 h29) fun x30 h31 =>
 jn (fun J32 =>
 bnd (call (.f 42) [x30] h31) fun x33 h34 =>
 bnd (bdF [some (0, false, 1), some (1, false, 1)] (.agg [(.int .i64 0), (.int .i64 0)]) [] h34) fun x35 h36 =>
 bnd (binB 0 (some [.int .i64, .int .i64]) .neq false x33 x35 h36) fun x37 h38 =>
 jv (fun J39 => gdN x37 (J39 x30 h38) (J39 u0 h38)) fun x40 h41 =>
 jv (fun J42 => gdN x37 (bnd (call (.f 43) [x40, (.int .u8 13)] h41) J42) (J42 u0 h41)) fun x43 h44 =>
 jv (fun J45 => gdN x37 (bnd (geF x43 (.int .i64 0) h44) J45) (J45 u0 h44)) fun x46 h47 =>
 bnd (pkF x37 (.bool true) x46 h47) fun x48 h49 =>
 cnd x48
 (bnd (addF (nthV c20 45) (.int .i64 1) h49) fun x50 h51 =>
 bnd (bdF [some (0, false, 1), some (1, false, 1)] (.agg [(.int .i64 0), (.int .i64 0)]) [(0, (.int .i64 8)), (1, x50)] h51) fun x52 h53 =>
 bnd (stA 2 x0 x52 h53) fun _ h55 =>
 bnd (ldA 2 x0 h55) fun r56 _ =>
 some (.tup [.zsl, r56], h55))
 (J32 [x30, x33, x35, x37, x37, x40, x43, x46, x48, (nthV c20 15), (nthV c20 16), (nthV c20 17), (nthV c20 38)] h49)) fun c57 h58 =>
 bnd (call (.f 26) [x30, (.str [32])] h58) fun x59 h60 =>
 bnd (lenT x30 h60) fun x61 h62 =>
 bnd (lenT x59 h62) fun x63 h64 =>
 bnd (subF x61 x63 h64) fun x65 h66 =>
 bnd (call (.f 44) [x59, (.str [32])] h66) fun x67 h68 =>
 bnd (addF (nthV c20 45) (.int .i64 1) h68) fun x69 h70 =>
 bnd (bdF [some (0, false, 1), some (1, false, 1), some (2, false, 1)] (.agg [(.int .i64 0), (.str []), (.int .i64 0)]) [(0, x65), (1, x67), (2, x69)] h70) fun x71 h72 =>
 bnd (alF 57 true 3 (.agg [(.int .i64 0), (.str []), (.int .i64 0)]) h72) fun x73 h74 =>
 bnd (stA 3 x73 x71 h74) fun _ h76 =>
 jn (fun J77 =>
 bnd (faF 1 x73 h76) fun x78 h79 =>
 bnd (ld1 x78 h79) fun x80 h81 =>
 bnd (call (.f 38) [x80, (.str [9])] h81) fun x82 h83 =>
 cnd x82
 (bnd (addF (nthV c20 45) (.int .i64 1) h83) fun x84 h85 =>
 bnd (bdF [some (0, false, 1), some (1, false, 1)] (.agg [(.int .i64 0), (.int .i64 0)]) [(0, (.int .i64 9)), (1, x84)] h85) fun x86 h87 =>
 bnd (stA 2 x0 x86 h87) fun _ h89 =>
 bnd (ldA 2 x0 h89) fun r90 _ =>
 some (.tup [.zsl, r90], h89))
 (J77 [x78, x80, x82, (nthV c20 35), (nthV c20 36), (nthV c20 37), (nthV c57 12)] h83)) fun c91 h92 =>
 bnd (ldA 3 x73 h92) fun x93 h94 =>
 bnd (boF 57 true 3 1 [x93] h94) fun x95 h96 =>
 bnd (orM (apF 57 true 3 32 (.agg [(.int .i64 0), (.str []), (.int .i64 0)]) (nthV c20 43) x95 h96) (orR (appendB 57 true 3 32 (.agg [(.int .i64 0), (.str []), (.int .i64 0)]) (nthV c20 43) x95 h96) (appInB 57 3 32 (nthV c20 43) x95 h96))) fun x97 h98 =>
 J27 [(nthV c20 45), x28, x30, (nthV c20 45), x30, (nthV c57 0), (nthV c57 1), (nthV c57 2), (nthV c57 3), (nthV c57 4), (nthV c57 5), (nthV c57 6), (nthV c57 7), (nthV c57 8), (nthV c57 9), (nthV c57 10), (nthV c57 11), x30, x59, x59, x30, x61, x59, x63, x65, x59, x67, (nthV c20 45), x69, x71, x73, (nthV c91 0), (nthV c91 1), (nthV c91 2), (nthV c91 3), (nthV c91 4), (nthV c91 5), (nthV c91 6), (nthV c20 43), x93, x95, x97, x97] h98) fun c99 h100 =>
 bnd (addF (nthV c20 45) (.int .i64 1) h100) fun x101 h102 =>
 n19 [x22, (nthV c99 0), (nthV c99 1), (nthV c99 2), (nthV c99 3), (nthV c99 4), (nthV c99 5), (nthV c99 6), (nthV c99 7), (nthV c99 8), (nthV c99 9), (nthV c99 10), (nthV c99 11), (nthV c99 12), (nthV c99 13), (nthV c99 14), (nthV c99 15), (nthV c99 16), (nthV c99 17), (nthV c99 18), (nthV c99 19), (nthV c99 20), (nthV c99 21), (nthV c99 22), (nthV c99 23), (nthV c99 24), (nthV c99 25), (nthV c99 26), (nthV c99 27), (nthV c99 28), (nthV c99 29), (nthV c99 30), (nthV c99 31), (nthV c99 32), (nthV c99 33), (nthV c99 34), (nthV c99 35), (nthV c99 36), (nthV c99 37), (nthV c99 38), (nthV c99 39), (nthV c99 40), (nthV c99 41), (nthV c99 42), x101, x101] h102) [u0, u0, u0, u0, u0, u0, u0, u0, u0, u0, u0, u0, u0, u0, u0, u0, u0, u0, u0, u0, u0, u0, u0, u0, u0, u0, u0, u0, u0, u0, u0, u0, u0, u0, u0, u0, u0, u0, (nthV c12 4), u0, u0, u0, u0, .zsl, u0, (.int .i64 0)] h18) fun c103 h104 =>
 bnd (bdF [some (0, false, 1), some (1, false, 1)] (.agg [(.int .i64 0), (.int .i64 0)]) [] h104) fun x105 h106 =>
 bnd (stA 2 x0 x105 h106) fun _ h108 =>
 bnd (ldA 2 x0 h108) fun r109 _ =>
 some (.tup [(nthV c103 46), r109], h108))
theorem k22 : FsOk Tryz.prog 22 (.shal s22) := fs0 1 58 d22 Tryz.func22 rfl (by kernel_rfl) (by kernel_rfl) (by kernel_rfl) (by kernel_rfl)
def d23 : List RV := [.t 2]
noncomputable def s23 : Call → List V → HP → RB := fun call l H => unc l fun a0 l0 => nilK l0 (
 bnd (bx1 35 a0 H) fun x0 h1 =>
 bnd (some (.fn 45 [] [x0], h1)) fun x2 h3 =>
 some (x2, h3))
theorem k23 : FsOk Tryz.prog 23 (.shal s23) := fs0 1 4 d23 Tryz.func23 rfl (by kernel_rfl) (by kernel_rfl) (by kernel_rfl) (by kernel_rfl)
def d24 : List RV := [.cell 2 true 4, .cell 3 true 2]
noncomputable def s24 : Call → List V → HP → RB := fun call l H => unc l fun a0 l0 => nilK l0 (
 bnd (alF 24 true 4 (.agg [(.int .i64 0), (.str []), (.str []), .zsl]) H) fun x0 h1 =>
 bnd (alF 29 true 2 (.agg [(.int .i64 0), (.int .i64 0)]) h1) fun x2 h3 =>
 bnd (alF 107 true 2 (.agg [(.int .i64 0), (.int .i64 0)]) h3) fun x4 h5 =>
 bnd (call (.f 50) [x4, a0, (.int .i64 0)] h5) fun x6 h7 =>
 bnd (alF 24 true 4 (.agg [(.int .i64 0), (.str []), (.str []), .zsl]) h7) fun x8 h9 =>
 bnd (stA 4 x8 x6 h9) fun _ h11 =>
 jn (fun J12 =>
 bnd (ncF x4 h11) fun x13 h14 =>
 bnd (faF 0 x13 h14) fun x15 h16 =>
 bnd (ldA 2 x15 h16) fun x17 h18 =>
 bnd (bdF [some (0, false, 1), some (1, false, 1)] (.agg [(.int .i64 0), (.int .i64 0)]) [] h18) fun x19 h20 =>
 bnd (binB 0 (some [.int .i64, .int .i64]) .eql false x17 x19 h20) fun x21 h22 =>
 jv (fun J23 => gdT x21 (bnd (ldA 4 x8 h22) J23) (J23 u0 h22)) fun x24 h25 =>
 jv (fun J26 => gdT x21 (bnd (call (.f 13) [x24] h25) J26) (J26 u0 h25)) fun x27 h28 =>
 jv (fun J29 => gdT x21 (bnd (ntF x27 h28) J29) (J29 u0 h28)) fun x30 h31 =>
 bnd (pkF x21 x30 (.bool false) h31) fun x32 h33 =>
 cnd x32
 (bnd (bdF [some (0, false, 1), some (1, false, 1)] (.agg [(.int .i64 0), (.int .i64 0)]) [(0, (.int .i64 5))] h33) fun x34 h35 =>
 bnd (ncF x4 h35) fun x36 h37 =>
 bnd (faF 0 x36 h37) fun x38 h39 =>
 bnd (stA 2 x38 x34 h39) fun _ h41 =>
 J12 [x4, x13, x15, x17, x19, x21, x21, x24, x27, x30, x32, x4, x34, x36, x38] h41)
 (J12 [x4, x13, x15, x17, x19, x21, x21, x24, x27, x30, x32, u0, u0, u0, u0] h33)) fun c42 h43 =>
 jn (fun J44 =>
 bnd (ncF x4 h43) fun x45 h46 =>
 bnd (faF 0 x45 h46) fun x47 h48 =>
 bnd (ldA 2 x47 h48) fun x49 h50 =>
 bnd (bdF [some (0, false, 1), some (1, false, 1)] (.agg [(.int .i64 0), (.int .i64 0)]) [] h50) fun x51 h52 =>
 bnd (binB 0 (some [.int .i64, .int .i64]) .neq false x49 x51 h52) fun x53 h54 =>
 cnd x53
 (bnd (bdF [some (0, false, 1), some (1, false, 1), some (2, false, 1), some (3, false, 1)] (.agg [(.int .i64 0), (.str []), (.str []), .zsl]) [] h54) fun x55 _ =>
 bnd (ncF x4 h54) fun x56 _ =>
 bnd (faF 0 x56 h54) fun x57 _ =>
 bnd (ldA 2 x57 h54) fun x58 _ =>
 bnd (stA 4 x0 x55 h54) fun _ h60 =>
 bnd (ldA 2 x57 h60) fun y65 _ => ifB (eqVF y65 x58) (
 bnd (stA 2 x2 x58 h60) fun _ h62 =>
 bnd (ldA 4 x0 h62) fun r63 _ =>
 bnd (ldA 2 x2 h62) fun r64 _ =>
 some (.tup [r63, r64], h62)))
 (J44 [x4, x45, x47, x49, x51, x53, u0, u0, u0, u0, u0] h54)) fun c66 h67 =>
 bnd (ldA 4 x8 h67) fun x68 h69 =>
 bnd (bdF [some (0, false, 1), some (1, false, 1)] (.agg [(.int .i64 0), (.int .i64 0)]) [] h69) fun x70 h71 =>
 bnd (stA 4 x0 x68 h71) fun _ h73 =>
 bnd (stA 2 x2 x70 h73) fun _ h75 =>
 bnd (ldA 4 x0 h75) fun r76 _ =>
 bnd (ldA 2 x2 h75) fun r77 _ =>
 some (.tup [r76, r77], h75))
theorem k24 : FsOk Tryz.prog 24 (.shal s24) := fs0 1 38 d24 Tryz.func24 rfl (by kernel_rfl) (by kernel_rfl) (by kernel_rfl) (by kernel_rfl)
def d25 : List RV := [.cell 4 true 4, .t 5, .cell 6 true 2]
noncomputable def s25 : Call → List V → HP → RB := fun call l H => unc l fun a0 l0 => unc l0 fun a1 l1 => nilK l1 (
 bnd (alF 24 true 4 (.agg [(.int .i64 0), (.str []), (.str []), .zsl]) H) fun x0 h1 =>
 bnd (alF 29 true 2 (.agg [(.int .i64 0), (.int .i64 0)]) h1) fun x2 h3 =>
 bnd (lenT a0 h3) fun x4 h5 =>
 bnd (bdF [some (0, false, 1), some (1, false, 1), some (2, true, 2)] (.agg [(.int .i64 0), (.str []), (.int .i64 0), (.int .i64 0)]) [(0, x4), (1, a0)] h5) fun x6 h7 =>
 bnd (bxA 111 4 x6 h7) fun x8 h9 =>
 bnd (call (.f 51) [x8, a1, (.int .i64 0)] h9) fun x10 h11 =>
 bnd (alF 24 true 4 (.agg [(.int .i64 0), (.str []), (.str []), .zsl]) h11) fun x12 h13 =>
 bnd (stA 4 x12 x10 h13) fun _ h15 =>
 jn (fun J16 =>
 bnd (call (.f 52) [x8] h15) fun x17 h18 =>
 bnd (ntF x17 h18) fun x19 h20 =>
 cnd x19
 (bnd (bdF [some (0, false, 1), some (1, false, 1), some (2, false, 1), some (3, false, 1)] (.agg [(.int .i64 0), (.str []), (.str []), .zsl]) [] h20) fun x21 _ =>
 bnd (ncF x8 h20) fun x22 _ =>
 bnd (faF 2 x22 h20) fun x23 _ =>
 bnd (ldA 2 x23 h20) fun x24 _ =>
 bnd (stA 4 x0 x21 h20) fun _ h26 =>
 bnd (ldA 2 x23 h26) fun y31 _ => ifB (eqVF y31 x24) (
 bnd (stA 2 x2 x24 h26) fun _ h28 =>
 bnd (ldA 4 x0 h28) fun r29 _ =>
 bnd (ldA 2 x2 h28) fun r30 _ =>
 some (.tup [r29, (.int .i64 0), r30], h28)))
 (J16 [x8, x17, x19, u0, u0, u0, u0, u0, (.int .i64 0)] h20)) fun c32 h33 =>
 bnd (ldA 4 x12 h33) fun x34 _ =>
 bnd (noY call (.f 53) [x8] h33) fun x35 h36 =>
 bnd (ldA 4 x12 h36) fun y50 _ => ifB (eqVF y50 x34) (
 bnd (slT0 a0 x35 h36) fun x37 _ =>
 bnd (noY call (.f 44) [x37, (.str [32])] h36) fun x38 h39 =>
 bnd (ldA 4 x12 h39) fun y49 _ => ifB (eqVF y49 x34) (
 bnd (lenT x38 h39) fun x40 _ =>
 bnd (bdF [some (0, false, 1), some (1, false, 1)] (.agg [(.int .i64 0), (.int .i64 0)]) [] h39) fun x41 _ =>
 bnd (stA 4 x0 x34 h39) fun _ h43 =>
 bnd (lenT x38 h43) fun y48 _ => ifB (eqVF y48 x40) (
 bnd (stA 2 x2 x41 h43) fun _ h45 =>
 bnd (ldA 4 x0 h45) fun r46 _ =>
 bnd (ldA 2 x2 h45) fun r47 _ =>
 some (.tup [r46, x40, r47], h45)))))
theorem k25 : FsOk Tryz.prog 25 (.shal s25) := fs0 2 33 d25 Tryz.func25 rfl (by kernel_rfl) (by kernel_rfl) (by kernel_rfl) (by kernel_rfl)
def d26 : List RV := [.t 4]
noncomputable def s26 : Call → List V → HP → RB := fun call l H => unc l fun a0 l0 => unc l0 fun a1 l1 => nilK l1 (
 jn (fun J0 =>
 bnd (eqT a0 (.str []) H) fun x1 h2 =>
 jv (fun J3 => gdN x1 (J3 a1 h2) (J3 u0 h2)) fun x4 h5 =>
 jv (fun J6 => gdN x1 (bnd (eqT x4 (.str []) h5) J6) (J6 u0 h5)) fun x7 h8 =>
 bnd (pkF x1 (.bool true) x7 h8) fun x9 h10 =>
 cnd x9
 (some (a0, h10))
 (J0 [a0, x1, x1, x4, x7, x9, u0, (.str [])] h10)) fun c11 h12 =>
 jn (fun J13 =>
 bnd (lenT a1 h12) fun x14 h15 =>
 bnd (eqF x14 (.int .i64 1) h15) fun x16 h17 =>
 jv (fun J18 => gdT x16 (J18 a1 h17) (J18 u0 h17)) fun x19 h20 =>
 jv (fun J21 => gdT x16 (bnd (ixF x19 (.int .i64 0) h20) J21) (J21 u0 h20)) fun x22 h23 =>
 jv (fun J24 => gdT x16 (bnd (ltF x22 (.int .u8 128) h23) J24) (J24 u0 h23)) fun x25 h26 =>
 bnd (pkF x16 x25 (.bool false) h26) fun x27 h28 =>
 cnd x27
 (bnd (ixF a1 (.int .i64 0) h28) fun x29 h30 =>
 bnd (call (.f 54) [a0, x29] h30) fun x31 h32 =>
 some (x31, h32))
 (J13 [a1, x14, x16, x16, x19, x22, x25, x27, u0, u0, u0, u0, (nthV c11 7)] h28)) fun c33 h34 =>
 jn (fun J35 =>
 bnd (call (.f 55) [a1] h34) fun x36 h37 =>
 bnd (exF x36 0 h37) fun x38 h39 =>
 bnd (exF x36 1 h39) fun x40 h41 =>
 bnd (alF 115 true 256 (.agg [(.bool false), (.bool false), (.bool false), (.bool false), (.bool false), (.bool false), (.bool false), (.bool false), (.bool false), (.bool false), (.bool false), (.bool false), (.bool false), (.bool false), (.bool false), (.bool false), (.bool false), (.bool false), (.bool false), (.bool false), (.bool false), (.bool false), (.bool false), (.bool false), (.bool false), (.bool false), (.bool false), (.bool false), (.bool false), (.bool false), (.bool false), (.bool false), (.bool false), (.bool false), (.bool false), (.bool false), (.bool false), (.bool false), (.bool false), (.bool false), (.bool false), (.bool false), (.bool false), (.bool false), (.bool false), (.bool false), (.bool false), (.bool false), (.bool false), (.bool false), (.bool false), (.bool false), (.bool false), (.bool false), (.bool false), (.bool false), (.bool false), (.bool false), (.bool false), (.bool false), (.bool false), (.bool false), (.bool false), (.bool false), (.bool false), (.bool false), (.bool false), (.bool false), (.bool false), (.bool false), (.bool false), (.bool false), (.bool false), (.bool false), (.bool false), (.bool false), (.bool false), (.bool false), (.bool false), (.bool false), (.bool false), (.bool false), (.bool false), (.bool false), (.bool false), (.bool false), (.bool false), (.bool false), (.bool false), (.bool false), (.bool false), (.bool false), (.bool false), (.bool false), (.bool false), (.bool false), (.bool false), (.bool false), (.bool false), (.bool false), (.bool false), (.bool false), (.bool false), (.bool false), (.bool false), (.bool false), (.bool false), (.bool false), (.bool false), (.bool false), (.bool false), (.bool false), (.bool false), (.bool false), (.bool false), (.bool false), (.bool false), (.bool false), (.bool false), (.bool false), (.bool false), (.bool false), (.bool false), (.bool false), (.bool false), (.bool false), (.bool false), (.bool false), (.bool false), (.bool false), (.bool false), (.bool false), (.bool false), (.bool false), (.bool false), (.bool false), (.bool false), (.bool false), (.bool false), (.bool false), (.bool false), (.bool false), (.bool false), (.bool false), (.bool false), (.bool false), (.bool false), (.bool false), (.bool false), (.bool false), (.bool false), (.bool false), (.bool false), (.bool false), (.bool false), (.bool false), (.bool false), (.bool false), (.bool false), (.bool false), (.bool false), (.bool false), (.bool false), (.bool false), (.bool false), (.bool false), (.bool false), (.bool false), (.bool false), (.bool false), (.bool false), (.bool false), (.bool false), (.bool false), (.bool false), (.bool false), (.bool false), (.bool false), (.bool false), (.bool false), (.bool false), (.bool false), (.bool false), (.bool false), (.bool false), (.bool false), (.bool false), (.bool false), (.bool false), (.bool false), (.bool false), (.bool false), (.bool false), (.bool false), (.bool false), (.bool false), (.bool false), (.bool false), (.bool false), (.bool false), (.bool false), (.bool false), (.bool false), (.bool false), (.bool false), (.bool false), (.bool false), (.bool false), (.bool false), (.bool false), (.bool false), (.bool false), (.bool false), (.bool false), (.bool false), (.bool false), (.bool false), (.bool false), (.bool false), (.bool false), (.bool false), (.bool false), (.bool false), (.bool false), (.bool false), (.bool false), (.bool false), (.bool false), (.bool false), (.bool false), (.bool false), (.bool false), (.bool false), (.bool false), (.bool false), (.bool false), (.bool false), (.bool false), (.bool false), (.bool false), (.bool false), (.bool false), (.bool false), (.bool false), (.bool false), (.bool false), (.bool false), (.bool false), (.bool false), (.bool false), (.bool false), (.bool false), (.bool false), (.bool false), (.bool false), (.bool false)]) h41) fun x42 h43 =>
 bnd (stA 256 x42 x38 h43) fun _ h45 =>
 cnd x40
 (bnd (call (.f 56) [a0, x42] h45) fun x46 h47 =>
 some (x46, h47))
 (J35 [a1, x36, x36, x38, x40, x42, x40, x40, u0, u0, (nthV c33 12)] h45)) fun c48 h49 =>
 bnd (call (.f 57) [a0, a1] h49) fun x50 h51 =>
 some (x50, h51))
theorem k26 : FsOk Tryz.prog 26 (.shal s26) := fs0 2 37 d26 Tryz.func26 rfl (by kernel_rfl) (by kernel_rfl) (by kernel_rfl) (by kernel_rfl)
def d27 : List RV := [.cell 2 true 2, .t 3]
noncomputable def s27 : Call → List V → HP → RB := fun call l H => unc l fun a0 l0 => nilK l0 (
 bnd (bxA 24 4 a0 H) fun x0 h1 =>
 bnd (alF 43 true 2 (.agg [.zsl, (.int .i64 0)]) h1) fun x2 h3 =>
 jn (fun J4 =>
 bnd (ldA 4 x0 h3) fun x5 h6 =>
 bnd (call (.f 13) [x5] h6) fun x7 h8 =>
 bnd (ntF x7 h8) fun x9 h10 =>
 cnd x9
 (bnd (bdF [some (0, false, 1), some (1, false, 1)] (.agg [.zsl, (.int .i64 0)]) [] h10) fun x11 h12 =>
 bnd (stA 2 x2 x11 h12) fun _ h14 =>
 bnd (ldA 2 x2 h14) fun r15 _ =>
 some (.tup [r15, (.int .i64 1)], h14))
 (J4 [x5, x7, x9, u0, (.int .i64 0)] h10)) fun c16 h17 =>
 bnd (some (.mp h17.n, h17.push (.mp []))) fun x18 h19 =>
 bnd (bdF [some (0, false, 1), some (1, false, 1), some (2, false, 1)] (.agg [.zsl, .nilmap, (.int .i64 0)]) [(1, x18)] h19) fun x20 h21 =>
 bnd (bxA 123 3 x20 h21) fun x22 h23 =>
 jn (fun J24 =>
 bnd (ldA 4 x0 h23) fun x25 h26 =>
 bnd (call (.f 58) [x22, x25] h26) fun x27 h28 =>
 bnd (ncF x22 h28) fun x29 h30 =>
 bnd (faF 2 x29 h30) fun x31 h32 =>
 bnd (ld1 x31 h32) fun x33 h34 =>
 bnd (neF x33 (.int .i64 0) h34) fun x35 h36 =>
 cnd x35
 (bnd (bdF [some (0, false, 1), some (1, false, 1)] (.agg [.zsl, (.int .i64 0)]) [] h36) fun x37 _ =>
 bnd (ncF x22 h36) fun x38 _ =>
 bnd (faF 2 x38 h36) fun x39 _ =>
 bnd (ld1 x39 h36) fun x40 _ =>
 bnd (stA 2 x2 x37 h36) fun _ h42 =>
 bnd (ld1 x39 h42) fun y44 _ => ifB (eqVF y44 x40) (
 bnd (ldA 2 x2 h42) fun r43 _ =>
 some (.tup [r43, x40], h42)))
 (J24 [x22, x25, x27, x22, x29, x31, x33, x35, u0, u0, u0, u0, u0, (nthV c16 4)] h36)) fun c45 h46 =>
 bnd (ncF x22 h46) fun x47 h48 =>
 bnd (faF 0 x47 h48) fun x49 h50 =>
 bnd (ld1 x49 h50) fun x51 h52 =>
 bnd (bdF [some (0, false, 1), some (1, false, 1)] (.agg [.zsl, (.int .i64 0)]) [(0, x51)] h52) fun x53 h54 =>
 bnd (stA 2 x2 x53 h54) fun _ h56 =>
 bnd (ldA 2 x2 h56) fun r57 _ =>
 some (.tup [r57, (.int .i64 0)], h56))
theorem k27 : FsOk Tryz.prog 27 (.shal s27) := fs0 1 30 d27 Tryz.func27 rfl (by kernel_rfl) (by kernel_rfl) (by kernel_rfl) (by kernel_rfl)
def d28 : List RV := [.t 6]
noncomputable def s28 : Call → List V → HP → RB := fun call l H => unc l fun a0 l0 => unc l0 fun a1 l1 => unc l1 fun a2 l2 => nilK l2 (
 bnd (bxA 24 4 a1 H) fun x0 h1 =>
 bnd (ncF a0 h1) fun x2 h3 =>
 bnd (faF 0 x2 h3) fun x4 h5 =>
 bnd (ld1 x4 h5) fun x6 h7 =>
 bnd (subF x6 (.int .i64 1) h7) fun x8 h9 =>
 bnd (ncF a0 h9) fun x10 h11 =>
 bnd (faF 0 x10 h11) fun x12 h13 =>
 bnd (st2 x12 x8 h13) fun _ h15 =>
 jn (fun J16 =>
 bnd (ncF a0 h15) fun x17 h18 =>
 bnd (faF 0 x17 h18) fun x19 h20 =>
 bnd (ld1 x19 h20) fun x21 h22 =>
 bnd (ltF x21 (.int .i64 0) h22) fun x23 h24 =>
 jv (fun J25 => gdN x23 (bnd (faF 0 x0 h24) J25) (J25 u0 h24)) fun x26 h27 =>
 jv (fun J28 => gdN x23 (bnd (ld1 x26 h27) J28) (J28 u0 h27)) fun x29 h30 =>
 jv (fun J31 => gdN x23 (bnd (ltF x29 (.int .i64 1) h30) J31) (J31 u0 h30)) fun x32 h33 =>
 bnd (pkF x23 (.bool true) x32 h33) fun x34 h35 =>
 jv (fun J36 => gdN x34 (bnd (faF 0 x0 h35) J36) (J36 u0 h35)) fun x37 h38 =>
 jv (fun J39 => gdN x34 (bnd (ld1 x37 h38) J39) (J39 u0 h38)) fun x40 h41 =>
 jv (fun J42 => gdN x34 (bnd (gtF x40 (.int .i64 7) h41) J42) (J42 u0 h41)) fun x43 h44 =>
 bnd (pkF x34 (.bool true) x43 h44) fun x45 h46 =>
 jv (fun J47 => gdN x45 (bnd (faF 0 x0 h46) J47) (J47 u0 h46)) fun x48 h49 =>
 jv (fun J50 => gdN x45 (bnd (ld1 x48 h49) J50) (J50 u0 h49)) fun x51 h52 =>
 jv (fun J53 => gdN x45 (bnd (faF 1 x0 h52) J53) (J53 u0 h52)) fun x54 h55 =>
 jv (fun J56 => gdN x45 (bnd (ld1 x54 h55) J56) (J56 u0 h55)) fun x57 h58 =>
 jv (fun J59 => gdN x45 (bnd (call (.f 59) [x51, x57] h58) J59) (J59 u0 h58)) fun x60 h61 =>
 jv (fun J62 => gdN x45 (bnd (ntF x60 h61) J62) (J62 u0 h61)) fun x63 h64 =>
 bnd (pkF x45 (.bool true) x63 h64) fun x65 h66 =>
 cnd x65
 (some ((.bool false), h66))
 (J16 [a0, x17, x19, x21, x23, x23, x26, x29, x32, x34, x34, x37, x40, x43, x45, x45, x48, x51, x54, x57, x60, x63, x65, (.bool false)] h66)) fun c67 h68 =>
 jn (fun J69 =>
 bnd (faF 2 x0 h68) fun x70 h71 =>
 bnd (ld1 x70 h71) fun x72 h73 =>
 bnd (neT x72 (.str []) h73) fun x74 h75 =>
 jv (fun J76 => gdN x74 (bnd (faF 0 x0 h75) J76) (J76 u0 h75)) fun x77 h78 =>
 jv (fun J79 => gdN x74 (bnd (ld1 x77 h78) J79) (J79 u0 h78)) fun x80 h81 =>
 jv (fun J82 => gdN x74 (bnd (eqF x80 (.int .i64 7) h81) J82) (J82 u0 h81)) fun x83 h84 =>
 bnd (pkF x74 (.bool true) x83 h84) fun x85 h86 =>
 jv (fun J87 => gdT x85 (bnd (faF 2 x0 h86) J87) (J87 u0 h86)) fun x88 h89 =>
 jv (fun J90 => gdT x85 (bnd (ld1 x88 h89) J90) (J90 u0 h89)) fun x91 h92 =>
 jv (fun J93 => gdT x85 (bnd (call (.f 60) [x91] h92) J93) (J93 u0 h92)) fun x94 h95 =>
 jv (fun J96 => gdT x85 (bnd (ntF x94 h95) J96) (J96 u0 h95)) fun x97 h98 =>
 bnd (pkF x85 x97 (.bool false) h98) fun x99 h100 =>
 cnd x99
 (some ((.bool false), h100))
 (J69 [x70, x72, x74, x74, x77, x80, x83, x85, x85, x88, x91, x94, x97, x99, (nthV c67 23)] h100)) fun c101 h102 =>
 jn (fun J103 =>
 bnd (faF 0 x0 h102) fun x104 h105 =>
 bnd (ld1 x104 h105) fun x106 h107 =>
 bnd (neF x106 (.int .i64 5) h107) fun x108 h109 =>
 jv (fun J110 => gdT x108 (bnd (faF 0 x0 h109) J110) (J110 u0 h109)) fun x111 h112 =>
 jv (fun J113 => gdT x108 (bnd (ld1 x111 h112) J113) (J113 u0 h112)) fun x114 h115 =>
 jv (fun J116 => gdT x108 (bnd (neF x114 (.int .i64 6) h115) J116) (J116 u0 h115)) fun x117 h118 =>
 bnd (pkF x108 x117 (.bool false) h118) fun x119 h120 =>
 cnd x119
 (bnd (faF 3 x0 h120) fun x121 h122 =>
 bnd (ld1 x121 h122) fun x123 h124 =>
 bnd (lenL x123 h124) fun x125 h126 =>
 bnd (eqF x125 (.int .i64 0) h126) fun x127 h128 =>
 some (x127, h128))
 (J103 [x104, x106, x108, x108, x111, x114, x117, x119, u0, u0, u0, u0, (nthV c101 14)] h120)) fun c129 h130 =>
 jn (fun J131 =>
 bnd (eqF a2 (.int .i64 64) h130) fun x132 h133 =>
 jv (fun J134 => gdN x132 (bnd (faF 0 x0 h133) J134) (J134 u0 h133)) fun x135 h136 =>
 jv (fun J137 => gdN x132 (bnd (ld1 x135 h136) J137) (J137 u0 h136)) fun x138 h139 =>
 jv (fun J140 => gdN x132 (bnd (eqF x138 (.int .i64 6) h139) J140) (J140 u0 h139)) fun x141 h142 =>
 jv (fun J143 => gdN x132 (J143 x141 h142) (J143 u0 h142)) fun x144 h145 =>
 jv (fun J146 => gdT x144 (bnd (faF 3 x0 h145) J146) (J146 u0 h145)) fun x147 h148 =>
 jv (fun J149 => gdT x144 (bnd (ld1 x147 h148) J149) (J149 u0 h148)) fun x150 h151 =>
 jv (fun J152 => gdT x144 (bnd (lenL x150 h151) J152) (J152 u0 h151)) fun x153 h154 =>
 jv (fun J155 => gdT x144 (bnd (binB 0 none .rem true x153 (.int .i64 2) h154) J155) (J155 u0 h154)) fun x156 h157 =>
 jv (fun J158 => gdT x144 (bnd (neF x156 (.int .i64 0) h157) J158) (J158 u0 h157)) fun x159 h160 =>
 jv (fun J161 => gdN x132 (bnd (pkF x144 x159 (.bool false) h160) J161) (J161 u0 h160)) fun x162 h163 =>
 bnd (pkF x132 (.bool true) x162 h163) fun x164 h165 =>
 cnd x164
 (some ((.bool false), h165))
 (J131 [a2, x132, x132, x135, x138, x141, x144, x147, x150, x153, x156, x159, x162, x164, (nthV c129 12)] h165)) fun c166 h167 =>
 jn (fun J168 =>
 bnd (faF 3 x0 h167) fun x169 h170 =>
 bnd (ld1 x169 h170) fun x171 h172 =>
 bnd (lenL x171 h172) fun x173 h174 =>
 lpK (fun n175 c176 h177 =>
 bnd (ltF (nthV c176 37) x173 h177) fun x178 h179 =>
 jn (fun J180 =>
 cnd x178
 (J180 [] h179)
 (J168 [x169, x171, x173, x178, (nthV c176 1), (nthV c176 2), (nthV c176 3), (nthV c176 4), (nthV c176 5), (nthV c176 6), (nthV c176 7), (nthV c176 8), (nthV c176 9), (nthV c176 10), (nthV c176 11), (nthV c176 12), (nthV c176 13), (nthV c176 14), (nthV c176 15), (nthV c176 16), (nthV c176 17), (nthV c176 18), (nthV c176 19), (nthV c176 20), (nthV c176 21), (nthV c176 22), (nthV c176 23), (nthV c176 24), (nthV c176 25), (nthV c176 26), (nthV c176 27), (nthV c176 28), (nthV c176 29), (nthV c176 30), (nthV c176 31), (nthV c176 32), (nthV c176 33), (nthV c176 34), (nthV c176 35), (nthV c176 36), (nthV c176 37)] h179)) fun c181 h182 =>
 jn (fun J183 =>
 bnd (iaS 4 x171 (nthV c176 37) h182) fun x184 h185 =>
 bnd (ldA 4 x184 h185) fun x186 h187 =>
 bnd (alF 24 true 4 (.agg [(.int .i64 0), (.str []), (.str []), .zsl]) h187) fun x188 h189 =>
 bnd (stA 4 x188 x186 h189) fun _ h191 =>
 bnd (faF 0 x0 h191) fun x192 h193 =>
 bnd (ld1 x192 h193) fun x194 h195 =>
 bnd (eqF x194 (.int .i64 6) h195) fun x196 h197 =>
 jv (fun J198 => gdT x196 (J198 (nthV c176 37) h197) (J198 u0 h197)) fun x199 h200 =>
 jv (fun J201 => gdT x196 (bnd (binB 0 none .rem true x199 (.int .i64 2) h200) J201) (J201 u0 h200)) fun x202 h203 =>
 jv (fun J204 => gdT x196 (bnd (eqF x202 (.int .i64 0) h203) J204) (J204 u0 h203)) fun x205 h206 =>
 bnd (pkF x196 x205 (.bool false) h206) fun x207 h208 =>
 jv (fun J209 => gdT x207 (bnd (faF 0 x188 h208) J209) (J209 u0 h208)) fun x210 h211 =>
 jv (fun J212 => gdT x207 (bnd (ld1 x210 h211) J212) (J212 u0 h211)) fun x213 h214 =>
 jv (fun J215 => gdT x207 (bnd (call (.f 61) [x213] h214) J215) (J215 u0 h214)) fun x216 h217 =>
 jv (fun J218 => gdT x207 (bnd (ntF x216 h217) J218) (J218 u0 h217)) fun x219 h220 =>
 jv (fun J221 => gdT x207 (J221 x219 h220) (J221 u0 h220)) fun x222 h223 =>
 jv (fun J224 => gdN x222 (bnd (faF 2 x188 h223) J224) (J224 u0 h223)) fun x225 h226 =>
 jv (fun J227 => gdN x222 (bnd (ld1 x225 h226) J227) (J227 u0 h226)) fun x228 h229 =>
 jv (fun J230 => gdN x222 (bnd (neT x228 (.str []) h229) J230) (J230 u0 h229)) fun x231 h232 =>
 jv (fun J233 => gdT x207 (bnd (pkF x222 (.bool true) x231 h232) J233) (J233 u0 h232)) fun x234 h235 =>
 bnd (pkF x207 x234 (.bool false) h235) fun x236 h237 =>
 jv (fun J238 => gdN x236 (J238 a0 h237) (J238 u0 h237)) fun x239 h240 =>
 jv (fun J241 => gdN x236 (bnd (ldA 4 x188 h240) J241) (J241 u0 h240)) fun x242 h243 =>
 jv (fun J244 => gdN x236 (J244 a2 h243) (J244 u0 h243)) fun x245 h246 =>
 jv (fun J247 => gdN x236 (bnd (addF x245 (.int .i64 1) h246) J247) (J247 u0 h246)) fun x248 h249 =>
 jv (fun J250 => gdN x236 (bnd (call (.f 28) [x239, x242, x248] h249) J250) (J250 u0 h249)) fun x251 h252 =>
 jv (fun J253 => gdN x236 (bnd (ntF x251 h252) J253) (J253 u0 h252)) fun x254 h255 =>
 bnd (pkF x236 (.bool true) x254 h255) fun x256 h257 =>
 cnd x256
 (some ((.bool false), h257))
 (J183 [(nthV c176 37), x184, x186, x188, (nthV c176 37), x192, x194, x196, x196, x199, x202, x205, x207, x207, x207, x207, x210, x213, x216, x219, x222, x225, x228, x231, x234, x236, x236, x239, x242, x245, x248, x251, x254, x256, (nthV c176 35)] h257)) fun c258 h259 =>
 bnd (addF (nthV c176 37) (.int .i64 1) h259) fun x260 h261 =>
 n175 [x178, (nthV c258 0), (nthV c258 1), (nthV c258 2), (nthV c258 3), (nthV c258 4), (nthV c258 5), (nthV c258 6), (nthV c258 7), (nthV c258 8), (nthV c258 9), (nthV c258 10), (nthV c258 11), (nthV c258 12), (nthV c258 13), (nthV c258 14), (nthV c258 15), (nthV c258 16), (nthV c258 17), (nthV c258 18), (nthV c258 19), (nthV c258 20), (nthV c258 21), (nthV c258 22), (nthV c258 23), (nthV c258 24), (nthV c258 25), (nthV c258 26), (nthV c258 27), (nthV c258 28), (nthV c258 29), (nthV c258 30), (nthV c258 31), (nthV c258 32), (nthV c258 33), (nthV c258 34), x260, x260] h261) [u0, u0, u0, u0, u0, u0, u0, u0, u0, u0, u0, u0, u0, u0, u0, u0, u0, u0, u0, u0, u0, u0, u0, u0, u0, u0, u0, u0, u0, u0, u0, u0, u0, u0, u0, (nthV c166 14), u0, (.int .i64 0)] h174) fun c262 h263 =>
 some ((.bool true), h263))
theorem k28 : FsOk Tryz.prog 28 (.shal s28) := fs0 3 117 d28 Tryz.func28 rfl (by kernel_rfl) (by kernel_rfl) (by kernel_rfl) (by kernel_rfl)
def d29 : List RV := [.cell 2 true 2, .t 3, .t 4]
noncomputable def s29 : Call → List V → HP → RB := fun call l H => unc l fun a0 l0 => nilK l0 (
 bnd (bxA 24 4 a0 H) fun x0 h1 =>
 bnd (alF 82 true 2 (.agg [(.bool false), (.int .i64 0)]) h1) fun x2 h3 =>
 jn (fun J4 =>
 bnd (faF 0 x0 h3) fun x5 h6 =>
 bnd (ld1 x5 h6) fun x7 h8 =>
 bnd (neF x7 (.int .i64 4) h8) fun x9 h10 =>
 jv (fun J11 => gdN x9 (bnd (faF 1 x0 h10) J11) (J11 u0 h10)) fun x12 h13 =>
 jv (fun J14 => gdN x9 (bnd (ld1 x12 h13) J14) (J14 u0 h13)) fun x15 h16 =>
 jv (fun J17 => gdN x9 (bnd (call (.f 43) [x15, (.int .u8 10)] h16) J17) (J17 u0 h16)) fun x18 h19 =>
 jv (fun J20 => gdN x9 (bnd (ltF x18 (.int .i64 0) h19) J20) (J20 u0 h19)) fun x21 h22 =>
 bnd (pkF x9 (.bool true) x21 h22) fun x23 h24 =>
 cnd x23
 (bnd (bdF [some (0, false, 1), some (1, false, 1)] (.agg [(.bool false), (.int .i64 0)]) [] h24) fun x25 h26 =>
 bnd (stA 2 x2 x25 h26) fun _ h28 =>
 bnd (ldA 2 x2 h28) fun r29 _ =>
 some (.tup [r29, .zsl, (.bool false)], h28))
 (J4 [x5, x7, x9, x9, x12, x15, x18, x21, x23, u0, .zsl, (.bool false)] h24)) fun c30 h31 =>
 bnd (faF 1 x0 h31) fun x32 h33 =>
 bnd (ld1 x32 h33) fun x34 h35 =>
 bnd (call (.f 62) [x34] h35) fun x36 h37 =>
 bnd (exF x36 0 h37) fun x38 h39 =>
 bnd (exF x36 1 h39) fun x40 h41 =>
 bnd (exF x36 2 h41) fun x42 h43 =>
 bnd (stA 2 x2 x38 h43) fun _ h45 =>
 bnd (ldA 2 x2 h45) fun r46 _ =>
 some (.tup [r46, x40, x42], h45))
theorem k29 : FsOk Tryz.prog 29 (.shal s29) := fs0 1 21 d29 Tryz.func29 rfl (by kernel_rfl) (by kernel_rfl) (by kernel_rfl) (by kernel_rfl)
def d30 : List RV := []
noncomputable def s30 : Call → List V → HP → RB := fun call l H => unc l fun a0 l0 => unc l0 fun a1 l1 => unc l1 fun a2 l2 => nilK l2 (
 bnd (ncF a0 H) fun x0 _ =>
 bnd (faF 0 x0 H) fun x1 _ =>
 bnd (ld1 x1 H) fun x2 _ =>
 bnd (noY call (.f 44) [a2, (.str [32])] H) fun x3 h4 =>
 bnd (ld1 x1 h4) fun y20 _ => ifB (eqVF y20 x2) (
 bnd (ncF a0 h4) fun x5 _ =>
 bnd (faF 0 x5 h4) fun x6 _ =>
 bnd (ld1 x6 h4) fun x7 _ =>
 bnd (ld1 x6 H) fun y19 _ => ifB (eqVF y19 x7) (
 bnd (lenL x7 h4) fun x8 _ =>
 bnd (lenL x7 H) fun y18 _ => ifB (eqVF y18 x8) (
 bnd (addF x8 (.int .i64 1) h4) fun x9 _ =>
 bnd (bdF [some (0, false, 1), some (1, false, 1), some (2, false, 1)] (.agg [(.int .i64 0), (.str []), (.int .i64 0)]) [(0, a1), (1, x3), (2, x9)] h4) fun x10 _ =>
 bnd (buildSliceB true 3 1 [(0, x10)] h4) fun x11 _ =>
 bnd (appendB 57 true 3 32 (.agg [(.int .i64 0), (.str []), (.int .i64 0)]) x2 x11 h4) fun x12 h13 =>
 bnd (ncF a0 h13) fun x14 _ =>
 bnd (faF 0 x14 h13) fun x15 _ =>
 bnd (st2 x15 x12 h13) fun _ h17 =>
 some (.tup [], h17)))))
theorem k30 : FsOk Tryz.prog 30 (.shal s30) := fs0 3 25 d30 Tryz.func30 rfl (by kernel_rfl) (by kernel_rfl) (by kernel_rfl) (by kernel_rfl)
def d33 : List RV := [.t 2]
noncomputable def s33 : Call → List V → HP → RB := fun call l H => unc l fun a0 l0 => nilK l0 (
 bnd (bxA 24 4 a0 H) fun x0 h1 =>
 jn (fun J2 =>
 bnd (faF 0 x0 h1) fun x3 h4 =>
 bnd (ld1 x3 h4) fun x5 h6 =>
 bnd (eqF x5 (.int .i64 7) h6) fun x7 h8 =>
 cnd x7
 (bnd (faF 2 x0 h8) fun x9 h10 =>
 bnd (ld1 x9 h10) fun x11 h12 =>
 bnd (addT (.str [42]) x11 h12) fun x13 h14 =>
 some (x13, h14))
 (bnd (eqF x5 (.int .i64 5) h8) fun x15 h16 =>
 cnd x15
 (some ((.str [91, 93]), h16))
 (bnd (eqF x5 (.int .i64 6) h16) fun x17 h18 =>
 cnd x17
 (some ((.str [123, 125]), h18))
 (J2 [x3, x5, x7, x7, u0, u0, u0, x15, x15, x17, x17, (.str [])] h18)))) fun c19 h20 =>
 bnd (ldA 4 x0 h20) fun x21 h22 =>
 bnd (call (.f 63) [x21, (.bool false)] h22) fun x23 h24 =>
 some (x23, h24))
theorem k33 : FsOk Tryz.prog 33 (.shal s33) := fs0 1 16 d33 Tryz.func33 rfl (by kernel_rfl) (by kernel_rfl) (by kernel_rfl) (by kernel_rfl)
def d34 : List RV := []
noncomputable def s34 : Call → List V → HP → RB := fun call l H => unc l fun a0 l0 => unc l0 fun a1 l1 => unc l1 fun a2 l2 => unc l2 fun a3 l3 => nilK l3 (
 bnd (bx1 47 a0 H) fun x0 h1 =>
 bnd (bxA 24 4 a1 h1) fun x2 h3 =>
 bnd (bxA 24 4 a2 h3) fun x4 h5 =>
 bnd (bx1 3 a3 h5) fun x6 h7 =>
 bnd (ldA 4 x2 h7) fun x8 h9 =>
 bnd (call (.f 63) [x8, (.bool false)] h9) fun x10 h11 =>
 bnd (addT x10 (.str [58, 32]) h11) fun x12 h13 =>
 bnd (alF 9 false 1 (.str []) h13) fun x14 h15 =>
 bnd (st2 x14 x12 h15) fun _ h17 =>
 bnd (ld1 x0 h17) fun x18 h19 =>
 bnd (ldA 4 x4 h19) fun x20 h21 =>
 bnd (ld1 x6 h21) fun x22 h23 =>
 bnd (ld1 x14 h23) fun x24 h25 =>
 bnd (some (.fn 64 [] [x0, x6, x14, x4], h25)) fun x26 h27 =>
 bnd (call (.f 15) [x18, x20, x22, x24, x26] h27) fun x28 h29 =>
 some (.tup [], h29))
theorem k34 : FsOk Tryz.prog 34 (.shal s34) := fs0 4 18 d34 Tryz.func34 rfl (by kernel_rfl) (by kernel_rfl) (by kernel_rfl) (by kernel_rfl)
def d35 : List RV := []
noncomputable def s35 : Call → List V → HP → RB := fun call l H => unc l fun a0 l0 => unc l0 fun a1 l1 => unc l1 fun a2 l2 => nilK l2 (
 bnd (bx1 47 a0 H) fun x0 h1 =>
 bnd (bxA 24 4 a1 h1) fun x2 h3 =>
 bnd (bx1 3 a2 h3) fun x4 h5 =>
 bnd (ld1 x0 h5) fun x6 h7 =>
 bnd (ldA 4 x2 h7) fun x8 h9 =>
 bnd (ld1 x4 h9) fun x10 h11 =>
 bnd (some (.fn 65 [] [x0, x2, x4], h11)) fun x12 h13 =>
 bnd (call (.f 15) [x6, x8, x10, (.str [45, 32]), x12] h13) fun x14 h15 =>
 some (.tup [], h15))
theorem k35 : FsOk Tryz.prog 35 (.shal s35) := fs0 3 11 d35 Tryz.func35 rfl (by kernel_rfl) (by kernel_rfl) (by kernel_rfl) (by kernel_rfl)
def d36 : List RV := []
noncomputable def s36 : Call → List V → HP → RB := fun call l H => unc l fun a0 l0 => nilK l0 (
 bnd (ncF a0 H) fun x0 h1 =>
 bnd (faF 0 x0 h1) fun x2 h3 =>
 bnd (ld1 x2 h3) fun x4 h5 =>
 bnd (orR (binB 1 none .eql true x4 .nilptr h5) (eqPtrB .eql x4 .nilptr h5)) fun x6 h7 =>
 cnd x6
 (bnd (unsafeOfB a0 h7) fun x8 h9 =>
 bnd (call (.f 66) [x8] h9) fun x10 h11 =>
 bnd (unsafeToB 55 2 x10 h11) fun x12 h13 =>
 bnd (ncF a0 h13) fun x14 h15 =>
 bnd (faF 0 x14 h15) fun x16 h17 =>
 bnd (st2 x16 x12 h17) fun _ h19 =>
 some (.tup [], h19))
 (bnd (ncF a0 h7) fun x20 h21 =>
 bnd (faF 0 x20 h21) fun x22 h23 =>
 bnd (ld1 x22 h23) fun x24 h25 =>
 bnd (orR (binB 1 none .neq false x24 a0 h25) (eqPtrB .neq x24 a0 h25)) fun x26 h27 =>
 cnd x26
 (none)
 (some (.tup [], h27))))
theorem k36 : FsOk Tryz.prog 36 (.shal s36) := fs0 1 20 d36 Tryz.func36 rfl (by kernel_rfl) (by kernel_rfl) (by kernel_rfl) (by kernel_rfl)
def d37 : List RV := [.t 4, .t 5]
noncomputable def s37 : Call → List V → HP → RB := fun call l H => unc l fun a0 l0 => unc l0 fun a1 l1 => nilK l1 (
 jn (fun J0 =>
 cnd (.bool false)
 (bnd (cvF .u32 a0 H) fun x1 h2 =>
 bnd (cvF .u32 a1 h2) fun x3 h4 =>
 bnd (call (.f 67) [x1, x3] h4) fun x5 h6 =>
 bnd (exF x5 0 h6) fun x7 h8 =>
 bnd (exF x5 1 h8) fun x9 h10 =>
 bnd (cvF .u64 x7 h10) fun x11 h12 =>
 bnd (cvF .u64 x9 h12) fun x13 h14 =>
 some (.tup [x11, x13], h14))
 (J0 [u0, u0, u0, u0, u0, u0, u0, u0, u0, u0, u0, u0, u0, u0, (.int .u64 0), (.int .u64 0)] H)) fun c15 h16 =>
 bnd (call (.f 68) [a0, a1] h16) fun x17 h18 =>
 bnd (exF x17 0 h18) fun x19 h20 =>
 bnd (exF x17 1 h20) fun x21 h22 =>
 some (.tup [x19, x21], h22))
theorem k37 : FsOk Tryz.prog 37 (.shal s37) := fs0 2 30 d37 Tryz.func37 rfl (by kernel_rfl) (by kernel_rfl) (by kernel_rfl) (by kernel_rfl)
def d38 : List RV := [.t 4]
noncomputable def s38 : Call → List V → HP → RB := fun call l H => unc l fun a0 l0 => unc l0 fun a1 l1 => nilK l1 (
 bnd (call (.f 69) [a0, a1] H) fun x0 h1 =>
 some (x0, h1))
theorem k38 : FsOk Tryz.prog 38 (.shal s38) := fs0 2 8 d38 Tryz.func38 rfl (by kernel_rfl) (by kernel_rfl) (by kernel_rfl) (by kernel_rfl)
def d42 : List RV := [.cell 2 true 2]
noncomputable def s42 : Call → List V → HP → RB := fun call l H => unc l fun a0 l0 => nilK l0 (
 bnd (alF 29 true 2 (.agg [(.int .i64 0), (.int .i64 0)]) H) fun x0 h1 =>
 bnd (call (.f 75) [a0, (.fn 76 [] [])] h1) fun x2 h3 =>
 bnd (call (.f 74) [a0, x2] h3) fun x4 h5 =>
 bnd (stA 2 x0 x4 h5) fun _ h7 =>
 bnd (ldA 2 x0 h7) fun r8 _ =>
 some (r8, h7))
theorem k42 : FsOk Tryz.prog 42 (.shal s42) := fs0 1 7 d42 Tryz.func42 rfl (by kernel_rfl) (by kernel_rfl) (by kernel_rfl) (by kernel_rfl)
def d43 : List RV := [.t 4]
noncomputable def s43 : Call → List V → HP → RB := fun call l H => unc l fun a0 l0 => unc l0 fun a1 l1 => nilK l1 (
 bnd (call (.f 77) [a0, a1] H) fun x0 h1 =>
 some (x0, h1))
theorem k43 : FsOk Tryz.prog 43 (.shal s43) := fs0 2 8 d43 Tryz.func43 rfl (by kernel_rfl) (by kernel_rfl) (by kernel_rfl) (by kernel_rfl)
def d44 : List RV := [.t 4]
noncomputable def s44 : Call → List V → HP → RB := fun call l H => unc l fun a0 l0 => unc l0 fun a1 l1 => nilK l1 (
 jn (fun J0 =>
 bnd (eqT a0 (.str []) H) fun x1 h2 =>
 jv (fun J3 => gdN x1 (J3 a1 h2) (J3 u0 h2)) fun x4 h5 =>
 jv (fun J6 => gdN x1 (bnd (eqT x4 (.str []) h5) J6) (J6 u0 h5)) fun x7 h8 =>
 bnd (pkF x1 (.bool true) x7 h8) fun x9 h10 =>
 cnd x9
 (some (a0, h10))
 (J0 [a0, x1, x1, x4, x7, x9, u0, (.str [])] h10)) fun c11 h12 =>
 jn (fun J13 =>
 bnd (lenT a1 h12) fun x14 h15 =>
 bnd (eqF x14 (.int .i64 1) h15) fun x16 h17 =>
 jv (fun J18 => gdT x16 (J18 a1 h17) (J18 u0 h17)) fun x19 h20 =>
 jv (fun J21 => gdT x16 (bnd (ixF x19 (.int .i64 0) h20) J21) (J21 u0 h20)) fun x22 h23 =>
 jv (fun J24 => gdT x16 (bnd (ltF x22 (.int .u8 128) h23) J24) (J24 u0 h23)) fun x25 h26 =>
 bnd (pkF x16 x25 (.bool false) h26) fun x27 h28 =>
 cnd x27
 (bnd (ixF a1 (.int .i64 0) h28) fun x29 h30 =>
 bnd (call (.f 78) [a0, x29] h30) fun x31 h32 =>
 some (x31, h32))
 (J13 [a1, x14, x16, x16, x19, x22, x25, x27, u0, u0, u0, u0, (nthV c11 7)] h28)) fun c33 h34 =>
 jn (fun J35 =>
 bnd (call (.f 55) [a1] h34) fun x36 h37 =>
 bnd (exF x36 0 h37) fun x38 h39 =>
 bnd (exF x36 1 h39) fun x40 h41 =>
 bnd (alF 115 true 256 (.agg [(.bool false), (.bool false), (.bool false), (.bool false), (.bool false), (.bool false), (.bool false), (.bool false), (.bool false), (.bool false), (.bool false), (.bool false), (.bool false), (.bool false), (.bool false), (.bool false), (.bool false), (.bool false), (.bool false), (.bool false), (.bool false), (.bool false), (.bool false), (.bool false), (.bool false), (.bool false), (.bool false), (.bool false), (.bool false), (.bool false), (.bool false), (.bool false), (.bool false), (.bool false), (.bool false), (.bool false), (.bool false), (.bool false), (.bool false), (.bool false), (.bool false), (.bool false), (.bool false), (.bool false), (.bool false), (.bool false), (.bool false), (.bool false), (.bool false), (.bool false), (.bool false), (.bool false), (.bool false), (.bool false), (.bool false), (.bool false), (.bool false), (.bool false), (.bool false), (.bool false), (.bool false), (.bool false), (.bool false), (.bool false), (.bool false), (.bool false), (.bool false), (.bool false), (.bool false), (.bool false), (.bool false), (.bool false), (.bool false), (.bool false), (.bool false), (.bool false), (.bool false), (.bool false), (.bool false), (.bool false), (.bool false), (.bool false), (.bool false), (.bool false), (.bool false), (.bool false), (.bool false), (.bool false), (.bool false), (.bool false), (.bool false), (.bool false), (.bool false), (.bool false), (.bool false), (.bool false), (.bool false), (.bool false), (.bool false), (.bool false), (.bool false), (.bool false), (.bool false), (.bool false), (.bool false), (.bool false), (.bool false), (.bool false), (.bool false), (.bool false), (.bool false), (.bool false), (.bool false), (.bool false), (.bool false), (.bool false), (.bool false), (.bool false), (.bool false), (.bool false), (.bool false), (.bool false), (.bool false), (.bool false), (.bool false), (.bool false), (.bool false), (.bool false), (.bool false), (.bool false), (.bool false), (.bool false), (.bool false), (.bool false), (.bool false), (.bool false), (.bool false), (.bool false), (.bool false), (.bool false), (.bool false), (.bool false), (.bool false), (.bool false), (.bool false), (.bool false), (.bool false), (.bool false), (.bool false), (.bool false), (.bool false), (.bool false), (.bool false), (.bool false), (.bool false), (.bool false), (.bool false), (.bool false), (.bool false), (.bool false), (.bool false), (.bool false), (.bool false), (.bool false), (.bool false), (.bool false), (.bool false), (.bool false), (.bool false), (.bool false), (.bool false), (.bool false), (.bool false), (.bool false), (.bool false), (.bool false), (.bool false), (.bool false), (.bool false), (.bool false), (.bool false), (.bool false), (.bool false), (.bool false), (.bool false), (.bool false), (.bool false), (.bool false), (.bool false), (.bool false), (.bool false), (.bool false), (.bool false), (.bool false), (.bool false), (.bool false), (.bool false), (.bool false), (.bool false), (.bool false), (.bool false), (.bool false), (.bool false), (.bool false), (.bool false), (.bool false), (.bool false), (.bool false), (.bool false), (.bool false), (.bool false), (.bool false), (.bool false), (.bool false), (.bool false), (.bool false), (.bool false), (.bool false), (.bool false), (.bool false), (.bool false), (.bool false), (.bool false), (.bool false), (.bool false), (.bool false), (.bool false), (.bool false), (.bool false), (.bool false), (.bool false), (.bool false), (.bool false), (.bool false), (.bool false), (.bool false), (.bool false), (.bool false), (.bool false), (.bool false), (.bool false), (.bool false), (.bool false), (.bool false), (.bool false), (.bool false), (.bool false), (.bool false), (.bool false), (.bool false), (.bool false), (.bool false), (.bool false), (.bool false), (.bool false), (.bool false)]) h41) fun x42 h43 =>
 bnd (stA 256 x42 x38 h43) fun _ h45 =>
 cnd x40
 (bnd (call (.f 79) [a0, x42] h45) fun x46 h47 =>
 some (x46, h47))
 (J35 [a1, x36, x36, x38, x40, x42, x40, x40, u0, u0, (nthV c33 12)] h45)) fun c48 h49 =>
 bnd (call (.f 80) [a0, a1] h49) fun x50 h51 =>
 some (x50, h51))
theorem k44 : FsOk Tryz.prog 44 (.shal s44) := fs0 2 37 d44 Tryz.func44 rfl (by kernel_rfl) (by kernel_rfl) (by kernel_rfl) (by kernel_rfl)
def d45 : List RV := []
noncomputable def s45 : Call → List V → HP → RB := fun call l H => unc l fun a0 l0 => unc l0 fun a1 l1 => nilK l1 (
 lpK (fun n0 c1 h2 =>
 jn (fun J3 =>
 bnd (ld1 a1 h2) fun x4 h5 =>
 bnd (lenL x4 h5) fun x6 h7 =>
 bnd (leF (nthV c1 39) x6 h7) fun x8 h9 =>
 cnd x8
 (J3 [(nthV c1 39), x4, x6, x8] h9)
 (some (.tup [], h9))) fun c10 h11 =>
 bnd (ld1 a1 h11) fun x12 h13 =>
 bnd (sliceSlB 3 x12 (some (nthV c1 39)) none none h13) fun x14 h15 =>
 bnd (call (.f 46) [x14, (.fn 47 [] [])] h15) fun x16 h17 =>
 jn (fun J18 =>
 bnd (ltF x16 (.int .i64 0) h17) fun x19 h20 =>
 cnd x19
 (bnd (ld1 a1 h20) fun x21 h22 =>
 bnd (lenL x21 h22) fun x23 h24 =>
 bnd (subF x23 (nthV c1 39) h24) fun x25 h26 =>
 J18 [x16, x19, x21, x23, (nthV c1 39), x25, x25] h26)
 (J18 [x16, x19, (nthV c1 10), (nthV c1 11), (nthV c1 12), (nthV c1 13), x16] h20)) fun c27 h28 =>
 bnd (ld1 a1 h28) fun x29 h30 =>
 bnd (addF (nthV c1 39) (nthV c27 6) h30) fun x31 h32 =>
 bnd (sliceSlB 3 x29 (some (nthV c1 39)) (some x31) none h32) fun x33 h34 =>
 jn (fun J35 =>
 bnd (gtF (nthV c1 39) (.int .i64 0) h34) fun x36 h37 =>
 jv (fun J38 => gdN x36 (J38 x33 h37) (J38 u0 h37)) fun x39 h40 =>
 jv (fun J41 => gdN x36 (bnd (call (.f 48) [x39, (.fn 49 [] [])] h40) J41) (J41 u0 h40)) fun x42 h43 =>
 bnd (pkF x36 (.bool true) x42 h43) fun x44 h45 =>
 jv (fun J46 => gdT x44 (J46 a0 h45) (J46 u0 h45)) fun x47 h48 =>
 jv (fun J49 => gdT x44 (J49 (nthV c1 39) h48) (J49 u0 h48)) fun x50 h51 =>
 jv (fun J52 => gdT x44 (J52 x33 h51) (J52 u0 h51)) fun x53 h54 =>
 jv (fun J55 => gdT x44 (cvK call x47 [x50, x53] h54 J55) (J55 u0 h54)) fun x56 h57 =>
 jv (fun J58 => gdT x44 (bnd (ntF x56 h57) J58) (J58 u0 h57)) fun x59 h60 =>
 bnd (pkF x44 x59 (.bool false) h60) fun x61 h62 =>
 cnd x61
 (some (.tup [], h62))
 (J35 [(nthV c1 39), x36, x36, x39, x42, x44, x44, x47, x50, x53, x56, x59, x61] h62)) fun c63 h64 =>
 bnd (addF (nthV c27 6) (.int .i64 1) h64) fun x65 h66 =>
 bnd (addF (nthV c1 39) x65 h66) fun x67 h68 =>
 n0 [(nthV c10 0), (nthV c10 1), (nthV c10 2), (nthV c10 3), x12, (nthV c1 39), x14, x16, (nthV c27 0), (nthV c27 1), (nthV c27 2), (nthV c27 3), (nthV c27 4), (nthV c27 5), (nthV c27 6), x29, (nthV c1 39), (nthV c1 39), (nthV c27 6), x31, x33, x33, (nthV c63 0), (nthV c63 1), (nthV c63 2), (nthV c63 3), (nthV c63 4), (nthV c63 5), (nthV c63 6), (nthV c63 7), (nthV c63 8), (nthV c63 9), (nthV c63 10), (nthV c63 11), (nthV c63 12), (nthV c1 39), (nthV c27 6), x65, x67, x67] h68) [u0, u0, u0, u0, u0, u0, u0, u0, u0, u0, u0, u0, u0, u0, u0, u0, u0, u0, u0, u0, u0, u0, u0, u0, u0, u0, u0, u0, u0, u0, u0, u0, u0, u0, u0, u0, u0, u0, u0, (.int .i64 0)] H)
theorem k45 : FsOk Tryz.prog 45 (.shal s45) := fs0 2 43 d45 Tryz.func45 rfl (by kernel_rfl) (by kernel_rfl) (by kernel_rfl) (by kernel_rfl)
def d46 : List RV := [.t 4]
noncomputable def s46 : Call → List V → HP → RB := fun call l H => unc l fun a0 l0 => unc l0 fun a1 l1 => nilK l1 (
 jn (fun J0 =>
 bnd (lenL a0 H) fun x1 h2 =>
 lpK (fun n3 c4 h5 =>
 bnd (ltF (nthV c4 12) x1 h5) fun x6 h7 =>
 jn (fun J8 =>
 cnd x6
 (J8 [] h7)
 (J0 [a0, x1, x6, (nthV c4 1), (nthV c4 2), (nthV c4 3), (nthV c4 4), (nthV c4 5), (nthV c4 6), (nthV c4 7), (nthV c4 8), (nthV c4 9), (nthV c4 10), (nthV c4 11), (nthV c4 12)] h7)) fun c9 h10 =>
 jn (fun J11 =>
 bnd (iaS 3 a0 (nthV c4 12) h10) fun x12 h13 =>
 bnd (ldA 3 x12 h13) fun x14 h15 =>
 cvK call a1 [x14] h15 fun x16 h17 =>
 cnd x16
 (some ((nthV c4 12), h17))
 (J11 [(nthV c4 12), (nthV c4 12), a1, a0, (nthV c4 12), x12, x14, x16, (nthV c4 9), (nthV c4 10)] h17)) fun c18 h19 =>
 bnd (addF (nthV c4 12) (.int .i64 1) h19) fun x20 h21 =>
 n3 [x6, (nthV c18 0), (nthV c18 1), (nthV c18 2), (nthV c18 3), (nthV c18 4), (nthV c18 5), (nthV c18 6), (nthV c18 7), (nthV c18 8), (nthV c18 9), x20, x20] h21) [u0, u0, u0, u0, u0, u0, u0, u0, u0, u0, (.int .i64 0), u0, (.int .i64 0)] h2) fun c22 h23 =>
 some ((.int .i64 (-1)), h23))
theorem k46 : FsOk Tryz.prog 46 (.shal s46) := fs0 2 19 d46 Tryz.func46 rfl (by kernel_rfl) (by kernel_rfl) (by kernel_rfl) (by kernel_rfl)
def d47 : List RV := [.t 2]
noncomputable def s47 : Call → List V → HP → RB := fun call l H => unc l fun a0 l0 => nilK l0 (
 bnd (bxA 57 3 a0 H) fun x0 h1 =>
 bnd (faF 0 x0 h1) fun x2 h3 =>
 bnd (ld1 x2 h3) fun x4 h5 =>
 bnd (eqF x4 (.int .i64 0) h5) fun x6 h7 =>
 jv (fun J8 => gdT x6 (bnd (faF 1 x0 h7) J8) (J8 u0 h7)) fun x9 h10 =>
 jv (fun J11 => gdT x6 (bnd (ld1 x9 h10) J11) (J11 u0 h10)) fun x12 h13 =>
 jv (fun J14 => gdT x6 (bnd (eqT x12 (.str [45, 45, 45]) h13) J14) (J14 u0 h13)) fun x15 h16 =>
 bnd (pkF x6 x15 (.bool false) h16) fun x17 h18 =>
 some (x17, h18))
theorem k47 : FsOk Tryz.prog 47 (.shal s47) := fs0 1 11 d47 Tryz.func47 rfl (by kernel_rfl) (by kernel_rfl) (by kernel_rfl) (by kernel_rfl)
def d48 : List RV := [.t 4]
noncomputable def s48 : Call → List V → HP → RB := fun call l H => unc l fun a0 l0 => unc l0 fun a1 l1 => nilK l1 (
 bnd (call (.f 46) [a0, a1] H) fun x0 h1 =>
 bnd (geF x0 (.int .i64 0) h1) fun x2 h3 =>
 some (x2, h3))
theorem k48 : FsOk Tryz.prog 48 (.shal s48) := fs0 2 9 d48 Tryz.func48 rfl (by kernel_rfl) (by kernel_rfl) (by kernel_rfl) (by kernel_rfl)
def d49 : List RV := [.t 2]
noncomputable def s49 : Call → List V → HP → RB := fun call l H => unc l fun a0 l0 => nilK l0 (
 bnd (bxA 57 3 a0 H) fun x0 h1 =>
 bnd (faF 1 x0 h1) fun x2 h3 =>
 bnd (ld1 x2 h3) fun x4 h5 =>
 bnd (neT x4 (.str []) h5) fun x6 h7 =>
 jv (fun J8 => gdT x6 (bnd (faF 1 x0 h7) J8) (J8 u0 h7)) fun x9 h10 =>
 jv (fun J11 => gdT x6 (bnd (ld1 x9 h10) J11) (J11 u0 h10)) fun x12 h13 =>
 jv (fun J14 => gdT x6 (bnd (ixF x12 (.int .i64 0) h13) J14) (J14 u0 h13)) fun x15 h16 =>
 jv (fun J17 => gdT x6 (bnd (neF x15 (.int .u8 35) h16) J17) (J17 u0 h16)) fun x18 h19 =>
 bnd (pkF x6 x18 (.bool false) h19) fun x20 h21 =>
 some (x20, h21))
theorem k49 : FsOk Tryz.prog 49 (.shal s49) := fs0 1 12 d49 Tryz.func49 rfl (by kernel_rfl) (by kernel_rfl) (by kernel_rfl) (by kernel_rfl)

end Go.Ab
end
