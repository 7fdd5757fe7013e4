/- The program's functions, staged, part 1. -/
import Derived.Test.YteemapgpedcbkaaGreatDoorSeat
set_option maxRecDepth 1000000
set_option linter.unusedVariables false
set_option linter.unusedSectionVars false
set_option linter.unusedSimpArgs false
noncomputable section
namespace Go.Ab
open Go.Proofs
def d50 : List RV := [.cell 6 true 4]
noncomputable def s50 : Call → List V → HP → RB := fun call l H => unc l fun a0 l0 => unc l0 fun a1 l1 => unc l1 fun a2 l2 => nilK l2 (
 bnd (alF 24 true 4 (.agg [(.int .i64 0), (.str []), (.str []), .zsl]) H) fun x0 h1 =>
 bnd (call (.f 81) [a1] h1) fun x2 h3 =>
 jn (fun J4 =>
 bnd (lenL x2 h3) fun x5 h6 =>
 bnd (eqF x5 (.int .i64 0) h6) fun x7 h8 =>
 cnd x7
 (bnd (bdF [some (0, false, 1), some (1, false, 1), some (2, false, 1), some (3, false, 1)] (.agg [(.int .i64 0), (.str []), (.str []), .zsl]) [(0, (.int .i64 1))] h8) fun x9 h10 =>
 bnd (stA 4 x0 x9 h10) fun _ h12 =>
 bnd (ldA 4 x0 h12) fun r13 _ =>
 some (r13, h12))
 (J4 [x2, x5, x7, u0] h8)) fun c14 h15 =>
 jn (fun J16 =>
 bnd (eqF a2 (.int .i64 64) h15) fun x17 h18 =>
 cnd x17
 (bnd (iaS 3 x2 (.int .i64 0) h18) fun x19 h20 =>
 bnd (ldA 3 x19 h20) fun x21 h22 =>
 bnd (call (.f 82) [a0, (.int .i64 10), x21] h22) fun x23 h24 =>
 bnd (stA 4 x0 x23 h24) fun _ h26 =>
 bnd (ldA 4 x0 h26) fun r27 _ =>
 some (r27, h26))
 (J16 [a2, x17, u0, u0, u0, u0, u0] h18)) fun c28 h29 =>
 bnd (iaS 3 x2 (.int .i64 0) h29) fun x30 h31 =>
 bnd (ldA 3 x30 h31) fun x32 h33 =>
 bnd (alF 57 true 3 (.agg [(.int .i64 0), (.str []), (.int .i64 0)]) h33) fun x34 h35 =>
 bnd (stA 3 x34 x32 h35) fun _ h37 =>
 bnd (bdF [some (0, false, 1), some (1, false, 1), some (2, false, 1), some (3, false, 1)] (.agg [(.int .i64 0), (.str []), (.str []), .zsl]) [(0, (.int .i64 5))] h37) fun x38 h39 =>
 bnd (some (.fn 83 [a0] [], h39)) fun x40 h41 =>
 bnd (alF 24 true 4 (.agg [(.int .i64 0), (.str []), (.str []), .zsl]) h41) fun x42 h43 =>
 bnd (stA 4 x42 x38 h43) fun _ h45 =>
 jn (fun J46 =>
 bnd (faF 1 x34 h45) fun x47 h48 =>
 bnd (ld1 x47 h48) fun x49 h50 =>
 bnd (call (.f 84) [x49] h50) fun x51 h52 =>
 bnd (exF x51 0 h52) fun x53 h54 =>
 bnd (exF x51 1 h54) fun x55 h56 =>
 bnd (exF x51 2 h56) fun x57 h58 =>
 bnd (ntF x57 h58) fun x59 h60 =>
 cnd x59
 (jn (fun J61 =>
 bnd (faF 1 x34 h60) fun x62 h63 =>
 bnd (ld1 x62 h63) fun x64 h65 =>
 bnd (call (.f 85) [x64] h65) fun x66 h67 =>
 bnd (exF x66 0 h67) fun x68 h69 =>
 bnd (exF x66 1 h69) fun x70 h71 =>
 bnd (exF x66 2 h71) fun x72 h73 =>
 bnd (exF x66 3 h73) fun x74 h75 =>
 bnd (ntF x74 h75) fun x76 h77 =>
 cnd x76
 (bnd (faF 1 x34 h77) fun x78 _ =>
 bnd (ld1 x78 h77) fun x79 _ =>
 bnd (ldA 3 x34 h77) fun x80 _ =>
 bnd (sliceSlB 3 x2 (some (.int .i64 1)) none none h77) fun x81 _ =>
 bnd (subF a2 (.int .i64 1) h77) fun x82 _ =>
 bnd (bdF [some (0, false, 1), some (1, true, 3), some (4, false, 1), some (5, false, 1)] (.agg [(.str []), (.int .i64 0), (.str []), (.int .i64 0), .zsl, (.int .i64 0)]) [(0, x79), (1, x80), (2, x81), (3, x82)] h77) fun x83 _ =>
 bnd (noY call (.f 86) [a0, x83] h77) fun x84 h85 =>
 bnd (stA 4 x0 x84 h85) fun _ h87 =>
 bnd (ldA 4 x0 h87) fun r88 _ =>
 some (r88, h87))
 (J61 [x62, x64, x66, x66, x68, x70, x72, x74, x74, x74, x76, u0, u0, u0, u0, u0, u0, u0, u0, u0, u0] h77)) fun c89 h90 =>
 bnd (some (.fn 87 [a0] [], h90)) fun x91 h92 =>
 bnd (faF 0 x42 h92) fun x93 h94 =>
 bnd (st2 x93 (.int .i64 6) h94) fun _ h96 =>
 J46 [x47, x49, x51, x51, x53, x55, x57, x53, x55, x57, x59, (nthV c89 0), (nthV c89 1), (nthV c89 2), (nthV c89 3), (nthV c89 4), (nthV c89 5), (nthV c89 6), (nthV c89 7), (nthV c89 8), (nthV c89 9), (nthV c89 10), (nthV c89 11), (nthV c89 12), (nthV c89 13), (nthV c89 14), (nthV c89 15), (nthV c89 16), (nthV c89 17), (nthV c89 18), (nthV c89 19), (nthV c89 20), a0, x91, x93, x91] h96)
 (J46 [x47, x49, x51, x51, x53, x55, x57, x53, x55, x57, x59, u0, u0, u0, u0, u0, u0, u0, u0, x57, u0, u0, u0, u0, u0, u0, u0, u0, u0, u0, u0, u0, u0, u0, u0, x40] h60)) fun c97 h98 =>
 jn (fun J99 =>
 lpK (fun n100 c101 h102 =>
 jn (fun J103 =>
 bnd (lenL (nthV c101 64) h102) fun x104 h105 =>
 bnd (gtF x104 (.int .i64 0) h105) fun x106 h107 =>
 jv (fun J108 => gdT x106 (J108 a0 h107) (J108 u0 h107)) fun x109 h110 =>
 jv (fun J111 => gdT x106 (bnd (ncF x109 h110) J111) (J111 u0 h110)) fun x112 h113 =>
 jv (fun J114 => gdT x106 (bnd (faF 0 x112 h113) J114) (J114 u0 h113)) fun x115 h116 =>
 jv (fun J117 => gdT x106 (bnd (ldA 2 x115 h116) J117) (J117 u0 h116)) fun x118 h119 =>
 jv (fun J120 => gdT x106 (bnd (bdF [some (0, false, 1), some (1, false, 1)] (.agg [(.int .i64 0), (.int .i64 0)]) [] h119) J120) (J120 u0 h119)) fun x121 h122 =>
 jv (fun J123 => gdT x106 (bnd (binB 0 (some [.int .i64, .int .i64]) .eql false x118 x121 h122) J123) (J123 u0 h122)) fun x124 h125 =>
 bnd (pkF x106 x124 (.bool false) h125) fun x126 h127 =>
 cnd x126
 (J103 [(nthV c101 64), x104, x106, x106, x109, x112, x115, x118, x121, x124, x126] h127)
 (J99 [(nthV c101 64), x104, x106, x106, x109, x112, x115, x118, x121, x124, x126, (nthV c101 11), (nthV c101 12), (nthV c101 13), (nthV c101 14), (nthV c101 15), (nthV c101 16), (nthV c101 17), (nthV c101 18), (nthV c101 19), (nthV c101 20), (nthV c101 21), (nthV c101 22), (nthV c101 23), (nthV c101 24), (nthV c101 25), (nthV c101 26), (nthV c101 27), (nthV c101 28), (nthV c101 29), (nthV c101 30), (nthV c101 31), (nthV c101 32), (nthV c101 33), (nthV c101 34), (nthV c101 35), (nthV c101 36), (nthV c101 37), (nthV c101 38), (nthV c101 39), (nthV c101 40), (nthV c101 41), (nthV c101 42), (nthV c101 43), (nthV c101 44), (nthV c101 45), (nthV c101 46), (nthV c101 47), (nthV c101 48), (nthV c101 49), (nthV c101 50), (nthV c101 51), (nthV c101 52), (nthV c101 53), (nthV c101 54), (nthV c101 55), (nthV c101 56), (nthV c101 57), (nthV c101 58), (nthV c101 59), (nthV c101 60), (nthV c101 61), (nthV c101 62), (nthV c101 63), (nthV c101 64)] h127)) fun c128 h129 =>
 jn (fun J130 =>
 bnd (iaS 3 (nthV c101 64) (.int .i64 0) h129) fun x131 _ =>
 bnd (faF 0 x131 h129) fun x132 _ =>
 bnd (ld1 x132 h129) fun x133 _ =>
 bnd (faF 0 x34 h129) fun x134 _ =>
 bnd (ld1 x134 h129) fun x135 _ =>
 bnd (ltF x133 x135 h129) fun x136 _ =>
 cnd x136
 (bnd (iaS 3 (nthV c101 64) (.int .i64 0) h129) fun x137 h138 =>
 bnd (ldA 3 x137 h138) fun x139 h140 =>
 bnd (call (.f 82) [a0, (.int .i64 9), x139] h140) fun x141 h142 =>
 bnd (stA 4 x0 x141 h142) fun _ h144 =>
 bnd (ldA 4 x0 h144) fun r145 _ =>
 some (r145, h144))
 (J130 [(nthV c101 64), x131, x132, x133, x134, x135, x136, (nthV c101 18), (nthV c101 19), (nthV c101 20), (nthV c101 21), (nthV c101 22)] h129)) fun c146 h147 =>
 jn (fun J148 =>
 lpK (fun n149 c150 h151 =>
 jn (fun J152 =>
 jn (fun J153 =>
 bnd (lenL (nthV c101 64) h151) fun x154 _ =>
 bnd (ltF (nthV c150 23) x154 h151) fun x155 _ =>
 gdT x155
 (bnd (iaS 3 (nthV c101 64) (nthV c150 23) h151) fun x156 _ =>
 bnd (ldA 3 x156 h151) fun x157 _ =>
 bnd (noY call (.f 88) [x157] h151) fun x158 h159 =>
 gdN x158
 (bnd (iaS 3 (nthV c101 64) (nthV c150 23) h159) fun x160 _ =>
 bnd (faF 0 x160 h159) fun x161 _ =>
 bnd (ld1 x161 h159) fun x162 _ =>
 bnd (faF 0 x34 h159) fun x163 _ =>
 bnd (ld1 x163 h159) fun x164 _ =>
 bnd (gtF x162 x164 h159) fun x165 _ =>
 bnd (pkF x158 (.bool true) x165 h159) fun x166 _ =>
 bnd (pkF x155 x166 (.bool false) h159) fun x167 _ =>
 J153 [(nthV c150 23), (nthV c101 64), x154, x155, x155, (nthV c101 64), (nthV c150 23), x156, x157, x158, x158, (nthV c101 64), (nthV c150 23), x160, x161, x162, x163, x164, x165, x166, x167] h159)
 (bnd (pkF x158 (.bool true) u0 h159) fun x168 _ =>
 bnd (pkF x155 x168 (.bool false) h159) fun x169 _ =>
 J153 [(nthV c150 23), (nthV c101 64), x154, x155, x155, (nthV c101 64), (nthV c150 23), x156, x157, x158, x158, u0, u0, u0, u0, u0, u0, u0, u0, x168, x169] h159))
 (gdN u0
 (bnd (iaS 3 (nthV c101 64) (nthV c150 23) h151) fun x170 _ =>
 bnd (faF 0 x170 h151) fun x171 _ =>
 bnd (ld1 x171 h151) fun x172 _ =>
 bnd (faF 0 x34 h151) fun x173 _ =>
 bnd (ld1 x173 h151) fun x174 _ =>
 bnd (gtF x172 x174 h151) fun x175 _ =>
 bnd (pkF x155 u0 (.bool false) h151) fun x176 _ =>
 J153 [(nthV c150 23), (nthV c101 64), x154, x155, x155, u0, u0, u0, u0, u0, u0, (nthV c101 64), (nthV c150 23), x170, x171, x172, x173, x174, x175, u0, x176] h151)
 (bnd (pkF x155 u0 (.bool false) h151) fun x177 _ =>
 J153 [(nthV c150 23), (nthV c101 64), x154, x155, x155, u0, u0, u0, u0, u0, u0, u0, u0, u0, u0, u0, u0, u0, u0, u0, x177] h151))) fun c178 h179 =>
 cnd (nthV c178 20)
 (J152 [(nthV c178 0), (nthV c178 1), (nthV c178 2), (nthV c178 3), (nthV c178 4), (nthV c178 5), (nthV c178 6), (nthV c178 7), (nthV c178 8), (nthV c178 9), (nthV c178 10), (nthV c178 11), (nthV c178 12), (nthV c178 13), (nthV c178 14), (nthV c178 15), (nthV c178 16), (nthV c178 17), (nthV c178 18), (nthV c178 19), (nthV c178 20)] h179)
 (J148 [(nthV c178 0), (nthV c178 1), (nthV c178 2), (nthV c178 3), (nthV c178 4), (nthV c178 5), (nthV c178 6), (nthV c178 7), (nthV c178 8), (nthV c178 9), (nthV c178 10), (nthV c178 11), (nthV c178 12), (nthV c178 13), (nthV c178 14), (nthV c178 15), (nthV c178 16), (nthV c178 17), (nthV c178 18), (nthV c178 19), (nthV c178 20), (nthV c150 21), (nthV c150 22), (nthV c150 23)] h179)) fun c180 h181 =>
 bnd (addF (nthV c150 23) (.int .i64 1) h181) fun x182 h183 =>
 n149 [(nthV c180 0), (nthV c180 1), (nthV c180 2), (nthV c180 3), (nthV c180 4), (nthV c180 5), (nthV c180 6), (nthV c180 7), (nthV c180 8), (nthV c180 9), (nthV c180 10), (nthV c180 11), (nthV c180 12), (nthV c180 13), (nthV c180 14), (nthV c180 15), (nthV c180 16), (nthV c180 17), (nthV c180 18), (nthV c180 19), (nthV c180 20), (nthV c150 23), x182, x182] h183) [(nthV c101 23), (nthV c101 24), (nthV c101 25), (nthV c101 26), (nthV c101 27), (nthV c101 28), (nthV c101 29), (nthV c101 30), (nthV c101 31), (nthV c101 32), (nthV c101 33), (nthV c101 34), (nthV c101 35), (nthV c101 36), (nthV c101 37), (nthV c101 38), (nthV c101 39), (nthV c101 40), (nthV c101 41), (nthV c101 42), (nthV c101 43), (nthV c101 44), (nthV c101 45), (.int .i64 1)] h147) fun c184 h185 =>
 bnd (faF 3 x42 h185) fun x186 _ =>
 bnd (ld1 x186 h185) fun x187 _ =>
 bnd (iaS 3 (nthV c101 64) (.int .i64 0) h185) fun x188 _ =>
 bnd (ldA 3 x188 h185) fun x189 _ =>
 bnd (sliceSlB 3 (nthV c101 64) (some (.int .i64 1)) (some (nthV c184 23)) none h185) fun x190 _ =>
 bnd (bdF [some (0, false, 1), some (1, true, 3), some (4, false, 1), some (5, false, 1)] (.agg [(.str []), (.int .i64 0), (.str []), (.int .i64 0), .zsl, (.int .i64 0)]) [(0, (.str [])), (1, x189), (2, x190), (3, a2)] h185) fun x191 _ =>
 cvK (noY call) (nthV c97 35) [x191] h185 fun x192 h193 =>
 bnd (ld1 x186 h193) fun y201 _ => ifB (eqVF y201 x187) (
 bnd (appendB 24 true 4 64 (.agg [(.int .i64 0), (.str []), (.str []), .zsl]) x187 x192 h193) fun x194 h195 =>
 bnd (faF 3 x42 h195) fun x196 _ =>
 bnd (st2 x196 x194 h195) fun _ h198 =>
 bnd (sliceSlB 3 (nthV c101 64) (some (nthV c184 23)) none none h198) fun x199 h200 =>
 n100 [(nthV c128 0), (nthV c128 1), (nthV c128 2), (nthV c128 3), (nthV c128 4), (nthV c128 5), (nthV c128 6), (nthV c128 7), (nthV c128 8), (nthV c128 9), (nthV c128 10), (nthV c146 0), (nthV c146 1), (nthV c146 2), (nthV c146 3), (nthV c146 4), (nthV c146 5), (nthV c146 6), (nthV c146 7), (nthV c146 8), (nthV c146 9), (nthV c146 10), (nthV c146 11), (nthV c184 0), (nthV c184 1), (nthV c184 2), (nthV c184 3), (nthV c184 4), (nthV c184 5), (nthV c184 6), (nthV c184 7), (nthV c184 8), (nthV c184 9), (nthV c184 10), (nthV c184 11), (nthV c184 12), (nthV c184 13), (nthV c184 14), (nthV c184 15), (nthV c184 16), (nthV c184 17), (nthV c184 18), (nthV c184 19), (nthV c184 20), (nthV c184 21), (nthV c184 22), (nthV c184 23), x186, x187, (nthV c97 35), (nthV c101 64), x188, x189, (nthV c101 64), (nthV c184 23), x190, a2, x191, x192, x194, x196, (nthV c101 64), (nthV c184 23), x199, x199] h200)) [u0, u0, u0, u0, u0, u0, u0, u0, u0, u0, u0, u0, u0, u0, u0, u0, u0, u0, u0, u0, u0, u0, u0, u0, u0, u0, u0, u0, u0, u0, u0, u0, u0, u0, u0, u0, u0, u0, u0, u0, u0, u0, u0, u0, u0, u0, u0, u0, u0, u0, u0, u0, u0, u0, u0, u0, u0, u0, u0, u0, u0, u0, u0, u0, x2] h98) fun c202 h203 =>
 bnd (ldA 4 x42 h203) fun x204 h205 =>
 bnd (stA 4 x0 x204 h205) fun _ h207 =>
 bnd (ldA 4 x0 h207) fun r208 _ =>
 some (r208, h207))
theorem k50 : FsOk Tryz.prog 50 (.shal s50) := fs0 3 129 d50 Tryz.func50 rfl (by kernel_rfl) (by kernel_rfl) (by kernel_rfl) (by kernel_rfl)
def d51 : List RV := [.cell 6 true 4]
noncomputable def s51 : Call → List V → HP → RB := fun call l H => unc l fun a0 l0 => unc l0 fun a1 l1 => unc l1 fun a2 l2 => nilK l2 (
 bnd (alF 24 true 4 (.agg [(.int .i64 0), (.str []), (.str []), .zsl]) H) fun x0 h1 =>
 bnd (call (.f 89) [a0, (.int .i64 0)] h1) fun x2 h3 =>
 bnd (call (.f 90) [a0, a1] h3) fun x4 h5 =>
 bnd (alF 156 true 3 (.agg [(.str []), (.int .i64 0), (.int .i64 0)]) h5) fun x6 h7 =>
 bnd (stA 3 x6 x4 h7) fun _ h9 =>
 jn (fun J10 =>
 bnd (call (.f 91) [a0, (.str [42])] h9) fun x11 h12 =>
 cnd x11
 (jn (fun J13 =>
 bnd (ldA 3 x6 h12) fun x14 h15 =>
 bnd (bdF [some (0, false, 1), some (1, false, 1), some (2, false, 1)] (.agg [(.str []), (.int .i64 0), (.int .i64 0)]) [] h15) fun x16 h17 =>
 bnd (binB 0 (some [.string, .int .i64, .int .i64]) .neq false x14 x16 h17) fun x18 h19 =>
 cnd x18
 (bnd (call (.f 92) [a0] h19) fun x20 h21 =>
 J13 [x14, x16, x18, a0, x20] h21)
 (J13 [x14, x16, x18, u0, u0] h19)) fun c22 h23 =>
 bnd (ncF a0 h23) fun x24 h25 =>
 bnd (faF 1 x24 h25) fun x26 h27 =>
 bnd (ld1 x26 h27) fun x28 h29 =>
 bnd (slT1 x28 (.int .i64 1) h29) fun x30 h31 =>
 bnd (ncF a0 h31) fun x32 h33 =>
 bnd (faF 1 x32 h33) fun x34 h35 =>
 bnd (st2 x34 x30 h35) fun _ h37 =>
 bnd (call (.f 93) [a0] h37) fun x38 h39 =>
 bnd (bdF [some (0, false, 1), some (1, false, 1), some (2, false, 1), some (3, false, 1)] (.agg [(.int .i64 0), (.str []), (.str []), .zsl]) [(0, (.int .i64 7)), (2, x38)] h39) fun x40 h41 =>
 bnd (stA 4 x0 x40 h41) fun _ h43 =>
 bnd (ldA 4 x0 h43) fun r44 _ =>
 some (r44, h43))
 (bnd (call (.f 91) [a0, (.str [91])] h12) fun x45 h46 =>
 cnd x45
 (J10 [a0, x11, x11, u0, u0, u0, u0, u0, u0, u0, u0, u0, u0, u0, u0, u0, u0, u0, u0, a0, x45, x45, u0, u0, u0, (.int .i64 5), (.str [93]), u0, u0, u0, u0, u0, u0, u0, u0, u0, u0, u0, u0, u0] h46)
 (bnd (call (.f 91) [a0, (.str [123])] h46) fun x47 h48 =>
 cnd x47
 (J10 [a0, x11, x11, u0, u0, u0, u0, u0, u0, u0, u0, u0, u0, u0, u0, u0, u0, u0, u0, a0, x45, x45, a0, x47, x47, (.int .i64 6), (.str [125]), u0, u0, u0, u0, u0, u0, u0, u0, u0, u0, u0, u0, u0] h48)
 (bnd (call (.f 94) [a0, a1] h48) fun x49 h50 =>
 bnd (exF x49 0 h50) fun x51 h52 =>
 bnd (exF x49 1 h52) fun x53 h54 =>
 bnd (ldA 3 x6 h54) fun x55 h56 =>
 bnd (call (.f 95) [a0, x51, x53, x55] h56) fun x57 h58 =>
 bnd (stA 4 x0 x57 h58) fun _ h60 =>
 bnd (ldA 4 x0 h60) fun r61 _ =>
 some (r61, h60))))) fun c62 h63 =>
 jn (fun J64 =>
 bnd (eqF a2 (.int .i64 64) h63) fun x65 h66 =>
 cnd x65
 (bnd (call (.f 53) [a0] h66) fun x67 h68 =>
 bnd (call (.f 96) [a0, (.int .i64 10), x67] h68) fun x69 h70 =>
 bnd (bdF [some (0, false, 1), some (1, false, 1), some (2, false, 1), some (3, false, 1)] (.agg [(.int .i64 0), (.str []), (.str []), .zsl]) [] h70) fun x71 h72 =>
 bnd (stA 4 x0 x71 h72) fun _ h74 =>
 bnd (ldA 4 x0 h74) fun r75 _ =>
 some (r75, h74))
 (J64 [a2, x65, u0, u0, u0, u0, u0] h66)) fun c76 h77 =>
 bnd (some (.fn 97 [a0] [], h77)) fun x78 h79 =>
 jn (fun J80 =>
 bnd (eqF (nthV c62 25) (.int .i64 6) h79) fun x81 h82 =>
 cnd x81
 (bnd (some (.fn 98 [a0] [], h82)) fun x83 h84 =>
 J80 [(nthV c62 25), x81, a0, x83, x83] h84)
 (J80 [(nthV c62 25), x81, u0, u0, x78] h82)) fun c85 h86 =>
 bnd (faF 0 x6 h86) fun x87 _ =>
 bnd (ld1 x87 h86) fun x88 _ =>
 bnd (addF a2 (.int .i64 1) h86) fun x89 _ =>
 bnd (noY call (.f 99) [a0, (nthV c62 26), x89, (nthV c85 4)] h86) fun x90 h91 =>
 bnd (ld1 x87 h91) fun y132 _ => ifB (eqVF y132 x88) (
 bnd (bdF [some (0, false, 1), some (1, false, 1), some (2, false, 1), some (3, false, 1)] (.agg [(.int .i64 0), (.str []), (.str []), .zsl]) [(0, (nthV c62 25)), (2, x88), (3, x90)] h91) fun x92 _ =>
 bnd (alF 24 true 4 (.agg [(.int .i64 0), (.str []), (.str []), .zsl]) h91) fun x93 h94 =>
 bnd (ld1 x87 h94) fun y131 _ => ifB (eqVF y131 x88) (
 bnd (stA 4 x93 x92 h94) fun _ h96 =>
 jn (fun J97 =>
 bnd (faF 1 x6 h96) fun x98 h99 =>
 bnd (ld1 x98 h99) fun x100 h101 =>
 bnd (neF x100 (.int .i64 0) h101) fun x102 h103 =>
 jv (fun J104 => gdT x102 (bnd (faF 1 x6 h103) J104) (J104 u0 h103)) fun x105 h106 =>
 jv (fun J107 => gdT x102 (bnd (ld1 x105 h106) J107) (J107 u0 h106)) fun x108 h109 =>
 jv (fun J110 => gdT x102 (J110 (nthV c62 25) h109) (J110 u0 h109)) fun x111 h112 =>
 jv (fun J113 => gdT x102 (bnd (neF x108 x111 h112) J113) (J113 u0 h112)) fun x114 h115 =>
 bnd (pkF x102 x114 (.bool false) h115) fun x116 h117 =>
 cnd x116
 (bnd (faF 2 x6 h117) fun x118 h119 =>
 bnd (ld1 x118 h119) fun x120 h121 =>
 bnd (call (.f 96) [a0, (.int .i64 12), x120] h121) fun x122 h123 =>
 J97 [x98, x100, x102, x102, x105, x108, x111, x114, x116, a0, x118, x120, x122] h123)
 (J97 [x98, x100, x102, x102, x105, x108, x111, x114, x116, u0, u0, u0, u0] h117)) fun c124 h125 =>
 bnd (ldA 4 x93 h125) fun x126 h127 =>
 bnd (stA 4 x0 x126 h127) fun _ h129 =>
 bnd (ldA 4 x0 h129) fun r130 _ =>
 some (r130, h129))))
theorem k51 : FsOk Tryz.prog 51 (.shal s51) := fs0 3 92 d51 Tryz.func51 rfl (by kernel_rfl) (by kernel_rfl) (by kernel_rfl) (by kernel_rfl)
def d52 : List RV := [.t 2]
noncomputable def s52 : Call → List V → HP → RB := fun call l H => unc l fun a0 l0 => nilK l0 (
 bnd (ncF a0 H) fun x0 h1 =>
 bnd (faF 2 x0 h1) fun x2 h3 =>
 bnd (ldA 2 x2 h3) fun x4 h5 =>
 bnd (bdF [some (0, false, 1), some (1, false, 1)] (.agg [(.int .i64 0), (.int .i64 0)]) [] h5) fun x6 h7 =>
 bnd (binB 0 (some [.int .i64, .int .i64]) .eql false x4 x6 h7) fun x8 h9 =>
 some (x8, h9))
theorem k52 : FsOk Tryz.prog 52 (.shal s52) := fs0 1 9 d52 Tryz.func52 rfl (by kernel_rfl) (by kernel_rfl) (by kernel_rfl) (by kernel_rfl)
def d53 : List RV := [.t 2]
noncomputable def s53 : Call → List V → HP → RB := fun call l H => unc l fun a0 l0 => nilK l0 (
 bnd (ncF a0 H) fun x0 _ =>
 bnd (faF 0 x0 H) fun x1 _ =>
 bnd (ld1 x1 H) fun x2 _ =>
 bnd (ncF a0 H) fun x3 _ =>
 bnd (faF 1 x3 H) fun x4 _ =>
 bnd (ld1 x4 H) fun x5 _ =>
 bnd (lenT x5 H) fun x6 _ =>
 bnd (subF x2 x6 H) fun x7 _ =>
 some (x7, H))
theorem k53 : FsOk Tryz.prog 53 (.shal s53) := fs0 1 13 d53 Tryz.func53 rfl (by kernel_rfl) (by kernel_rfl) (by kernel_rfl) (by kernel_rfl)
def d54 : List RV := [.t 4]
noncomputable def s54 : Call → List V → HP → RB := fun call l H => unc l fun a0 l0 => unc l0 fun a1 l1 => nilK l1 (
 jn (fun J0 =>
 lpK (fun n1 c2 h3 =>
 jn (fun J4 =>
 bnd (lenT (nthV c2 11) h3) fun x5 h6 =>
 bnd (gtF x5 (.int .i64 0) h6) fun x7 h8 =>
 jv (fun J9 => gdT x7 (J9 (nthV c2 11) h8) (J9 u0 h8)) fun x10 h11 =>
 jv (fun J12 => gdT x7 (bnd (ixF x10 (.int .i64 0) h11) J12) (J12 u0 h11)) fun x13 h14 =>
 jv (fun J15 => gdT x7 (J15 a1 h14) (J15 u0 h14)) fun x16 h17 =>
 jv (fun J18 => gdT x7 (bnd (eqF x13 x16 h17) J18) (J18 u0 h17)) fun x19 h20 =>
 bnd (pkF x7 x19 (.bool false) h20) fun x21 h22 =>
 cnd x21
 (J4 [(nthV c2 11), x5, x7, x7, x10, x13, x16, x19, x21] h22)
 (J0 [(nthV c2 11), x5, x7, x7, x10, x13, x16, x19, x21, (nthV c2 9), (nthV c2 10), (nthV c2 11)] h22)) fun c23 h24 =>
 bnd (slT1 (nthV c2 11) (.int .i64 1) h24) fun x25 h26 =>
 n1 [(nthV c23 0), (nthV c23 1), (nthV c23 2), (nthV c23 3), (nthV c23 4), (nthV c23 5), (nthV c23 6), (nthV c23 7), (nthV c23 8), (nthV c2 11), x25, x25] h26) [u0, u0, u0, u0, u0, u0, u0, u0, u0, u0, u0, a0] H) fun c27 h28 =>
 some ((nthV c27 11), h28))
theorem k54 : FsOk Tryz.prog 54 (.shal s54) := fs0 2 17 d54 Tryz.func54 rfl (by kernel_rfl) (by kernel_rfl) (by kernel_rfl) (by kernel_rfl)
def d55 : List RV := [.cell 2 true 256, .t 3]
noncomputable def s55 : Call → List V → HP → RB := fun call l H => unc l fun a0 l0 => nilK l0 (
 bnd (alF 115 true 256 (.agg [(.bool false), (.bool false), (.bool false), (.bool false), (.bool false), (.bool false), (.bool false), (.bool false), (.bool false), (.bool false), (.bool false), (.bool false), (.bool false), (.bool false), (.bool false), (.bool false), (.bool false), (.bool false), (.bool false), (.bool false), (.bool false), (.bool false), (.bool false), (.bool false), (.bool false), (.bool false), (.bool false), (.bool false), (.bool false), (.bool false), (.bool false), (.bool false), (.bool false), (.bool false), (.bool false), (.bool false), (.bool false), (.bool false), (.bool false), (.bool false), (.bool false), (.bool false), (.bool false), (.bool false), (.bool false), (.bool false), (.bool false), (.bool false), (.bool false), (.bool false), (.bool false), (.bool false), (.bool false), (.bool false), (.bool false), (.bool false), (.bool false), (.bool false), (.bool false), (.bool false), (.bool false), (.bool false), (.bool false), (.bool false), (.bool false), (.bool false), (.bool false), (.bool false), (.bool false), (.bool false), (.bool false), (.bool false), (.bool false), (.bool false), (.bool false), (.bool false), (.bool false), (.bool false), (.bool false), (.bool false), (.bool false), (.bool false), (.bool false), (.bool false), (.bool false), (.bool false), (.bool false), (.bool false), (.bool false), (.bool false), (.bool false), (.bool false), (.bool false), (.bool false), (.bool false), (.bool false), (.bool false), (.bool false), (.bool false), (.bool false), (.bool false), (.bool false), (.bool false), (.bool false), (.bool false), (.bool false), (.bool false), (.bool false), (.bool false), (.bool false), (.bool false), (.bool false), (.bool false), (.bool false), (.bool false), (.bool false), (.bool false), (.bool false), (.bool false), (.bool false), (.bool false), (.bool false), (.bool false), (.bool false), (.bool false), (.bool false), (.bool false), (.bool false), (.bool false), (.bool false), (.bool false), (.bool false), (.bool false), (.bool false), (.bool false), (.bool false), (.bool false), (.bool false), (.bool false), (.bool false), (.bool false), (.bool false), (.bool false), (.bool false), (.bool false), (.bool false), (.bool false), (.bool false), (.bool false), (.bool false), (.bool false), (.bool false), (.bool false), (.bool false), (.bool false), (.bool false), (.bool false), (.bool false), (.bool false), (.bool false), (.bool false), (.bool false), (.bool false), (.bool false), (.bool false), (.bool false), (.bool false), (.bool false), (.bool false), (.bool false), (.bool false), (.bool false), (.bool false), (.bool false), (.bool false), (.bool false), (.bool false), (.bool false), (.bool false), (.bool false), (.bool false), (.bool false), (.bool false), (.bool false), (.bool false), (.bool false), (.bool false), (.bool false), (.bool false), (.bool false), (.bool false), (.bool false), (.bool false), (.bool false), (.bool false), (.bool false), (.bool false), (.bool false), (.bool false), (.bool false), (.bool false), (.bool false), (.bool false), (.bool false), (.bool false), (.bool false), (.bool false), (.bool false), (.bool false), (.bool false), (.bool false), (.bool false), (.bool false), (.bool false), (.bool false), (.bool false), (.bool false), (.bool false), (.bool false), (.bool false), (.bool false), (.bool false), (.bool false), (.bool false), (.bool false), (.bool false), (.bool false), (.bool false), (.bool false), (.bool false), (.bool false), (.bool false), (.bool false), (.bool false), (.bool false), (.bool false), (.bool false), (.bool false), (.bool false), (.bool false), (.bool false), (.bool false), (.bool false), (.bool false), (.bool false), (.bool false), (.bool false), (.bool false), (.bool false), (.bool false), (.bool false), (.bool false), (.bool false), (.bool false), (.bool false), (.bool false)]) H) fun x0 h1 =>
 jn (fun J2 =>
 lpK (fun n3 c4 h5 =>
 jn (fun J6 =>
 bnd (lenT a0 h5) fun x7 h8 =>
 bnd (ltF (nthV c4 16) x7 h8) fun x9 h10 =>
 cnd x9
 (J6 [(nthV c4 16), a0, x7, x9] h10)
 (J2 [(nthV c4 16), a0, x7, x9, (nthV c4 4), (nthV c4 5), (nthV c4 6), (nthV c4 7), (nthV c4 8), (nthV c4 9), (nthV c4 10), (nthV c4 11), (nthV c4 12), (nthV c4 13), (nthV c4 14), (nthV c4 15), (nthV c4 16)] h10)) fun c11 h12 =>
 jn (fun J13 =>
 bnd (ixF a0 (nthV c4 16) h12) fun x14 h15 =>
 jn (fun J16 =>
 bnd (geF x14 (.int .u8 128) h15) fun x17 h18 =>
 cnd x17
 (bnd (ldA 256 x0 h18) fun x19 h20 =>
 bnd (stA 256 x0 x19 h20) fun _ h22 =>
 bnd (ldA 256 x0 h22) fun r23 _ =>
 some (.tup [r23, (.bool false)], h22))
 (J16 [x14, x17, (nthV c4 10), (nthV c4 11)] h18)) fun c24 h25 =>
 bnd (iaF 256 1 x0 x14 h25) fun x26 h27 =>
 bnd (st2 x26 (.bool true) h27) fun _ h29 =>
 J13 [a0, (nthV c4 16), x14, x14, (nthV c24 0), (nthV c24 1), (nthV c24 2), (nthV c24 3), x14, x26] h29) fun c30 h31 =>
 bnd (addF (nthV c4 16) (.int .i64 1) h31) fun x32 h33 =>
 n3 [(nthV c11 0), (nthV c11 1), (nthV c11 2), (nthV c11 3), (nthV c30 0), (nthV c30 1), (nthV c30 2), (nthV c30 3), (nthV c30 4), (nthV c30 5), (nthV c30 6), (nthV c30 7), (nthV c30 8), (nthV c30 9), (nthV c4 16), x32, x32] h33) [u0, u0, u0, u0, u0, u0, u0, u0, u0, u0, u0, (.bool false), u0, u0, u0, u0, (.int .i64 0)] h1) fun c34 h35 =>
 bnd (ldA 256 x0 h35) fun x36 h37 =>
 bnd (stA 256 x0 x36 h37) fun _ h39 =>
 bnd (ldA 256 x0 h39) fun r40 _ =>
 some (.tup [r40, (.bool true)], h39))
theorem k55 : FsOk Tryz.prog 55 (.shal s55) := fs0 1 21 d55 Tryz.func55 rfl (by kernel_rfl) (by kernel_rfl) (by kernel_rfl) (by kernel_rfl)
def d56 : List RV := [.t 4]
noncomputable def s56 : Call → List V → HP → RB := fun call l H => unc l fun a0 l0 => unc l0 fun a1 l1 => nilK l1 (
 jn (fun J0 =>
 lpK (fun n1 c2 h3 =>
 jn (fun J4 =>
 bnd (lenT (nthV c2 10) h3) fun x5 h6 =>
 bnd (gtF x5 (.int .i64 0) h6) fun x7 h8 =>
 cnd x7
 (J4 [(nthV c2 10), x5, x7] h8)
 (J0 [(nthV c2 10), x5, x7, (nthV c2 3), (nthV c2 4), (nthV c2 5), (nthV c2 6), (nthV c2 7), (nthV c2 8), (nthV c2 9), (nthV c2 10)] h8)) fun c9 h10 =>
 jn (fun J11 =>
 bnd (ixF (nthV c2 10) (.int .i64 0) h10) fun x12 h13 =>
 bnd (call (.f 100) [a1, x12] h13) fun x14 h15 =>
 bnd (ntF x14 h15) fun x16 h17 =>
 cnd x16
 (J0 [(nthV c9 0), (nthV c9 1), (nthV c9 2), a1, (nthV c2 10), x12, x14, x16, (nthV c2 8), (nthV c2 9), (nthV c2 10)] h17)
 (J11 [a1, (nthV c2 10), x12, x14, x16] h17)) fun c18 h19 =>
 bnd (slT1 (nthV c2 10) (.int .i64 1) h19) fun x20 h21 =>
 n1 [(nthV c9 0), (nthV c9 1), (nthV c9 2), (nthV c18 0), (nthV c18 1), (nthV c18 2), (nthV c18 3), (nthV c18 4), (nthV c2 10), x20, x20] h21) [u0, u0, u0, u0, u0, u0, u0, u0, u0, u0, a0] H) fun c22 h23 =>
 some ((nthV c22 10), h23))
theorem k56 : FsOk Tryz.prog 56 (.shal s56) := fs0 2 16 d56 Tryz.func56 rfl (by kernel_rfl) (by kernel_rfl) (by kernel_rfl) (by kernel_rfl)
def d58 : List RV := [.t 4]
noncomputable def s58 : Call → List V → HP → RB := fun call l H => unc l fun a0 l0 => unc l0 fun a1 l1 => nilK l1 (
 bnd (bxA 24 4 a1 H) fun x0 h1 =>
 jn (fun J2 =>
 bnd (faF 0 x0 h1) fun x3 h4 =>
 bnd (ld1 x3 h4) fun x5 h6 =>
 bnd (eqF x5 (.int .i64 7) h6) fun x7 h8 =>
 cnd x7
 (bnd (ncF a0 h8) fun x9 _ =>
 bnd (faF 1 x9 h8) fun x10 _ =>
 bnd (ld1 x10 h8) fun x11 _ =>
 bnd (faF 2 x0 h8) fun x12 _ =>
 bnd (ld1 x12 h8) fun x13 _ =>
 bnd (lookupB ([.string], false) (.int .i64 0) x11 x13 true h8) fun x14 _ =>
 bnd (exF x14 0 h8) fun x15 _ =>
 bnd (exF x14 1 h8) fun x16 _ =>
 jn (fun J17 =>
 bnd (ntF x16 h8) fun x18 h19 =>
 cnd x18
 (bnd (ncF a0 h19) fun x20 h21 =>
 bnd (faF 2 x20 h21) fun x22 h23 =>
 bnd (st2 x22 (.int .i64 11) h23) fun _ h25 =>
 J17 [x16, x18, a0, x20, x22] h25)
 (J17 [x16, x18, u0, u0, u0] h19)) fun c26 h27 =>
 some (x15, h27))
 (J2 [x3, x5, x7, u0, u0, u0, u0, u0, u0, u0, u0, u0, u0, u0, u0, u0, u0, u0, u0, u0, u0, (.int .i64 0)] h8)) fun c28 h29 =>
 bnd (ncF a0 h29) fun x30 h31 =>
 bnd (faF 0 x30 h31) fun x32 h33 =>
 bnd (ld1 x32 h33) fun x34 h35 =>
 bnd (lenL x34 h35) fun x36 h37 =>
 bnd (ncF a0 h37) fun x38 _ =>
 bnd (faF 0 x38 h37) fun x39 _ =>
 bnd (ld1 x39 h37) fun x40 _ =>
 bnd (faF 0 x0 h37) fun x41 _ =>
 bnd (ld1 x41 h37) fun x42 _ =>
 bnd (faF 1 x0 h37) fun x43 _ =>
 bnd (ld1 x43 h37) fun x44 _ =>
 bnd (bdF [some (0, false, 1), some (1, false, 1), some (2, false, 1)] (.agg [(.int .i64 0), (.str []), .zsl]) [(0, x42), (1, x44)] h37) fun x45 _ =>
 bnd (buildSliceB true 3 1 [(0, x45)] h37) fun x46 _ =>
 bnd (appendB 170 true 3 48 (.agg [(.int .i64 0), (.str []), .zsl]) x40 x46 h37) fun x47 h48 =>
 bnd (ncF a0 h48) fun x49 _ =>
 bnd (faF 0 x49 h48) fun x50 _ =>
 bnd (st2 x50 x47 h48) fun _ h52 =>
 jn (fun J53 =>
 bnd (faF 2 x0 h52) fun x54 h55 =>
 bnd (ld1 x54 h55) fun x56 h57 =>
 bnd (neT x56 (.str []) h57) fun x58 h59 =>
 cnd x58
 (bnd (ncF a0 h59) fun x60 _ =>
 bnd (faF 1 x60 h59) fun x61 _ =>
 bnd (ld1 x61 h59) fun x62 _ =>
 bnd (faF 2 x0 h59) fun x63 _ =>
 bnd (ld1 x63 h59) fun x64 _ =>
 bnd (mapUpdateB ([.string], false) x62 x64 x36 h59) fun _ h66 =>
 J53 [x54, x56, x58, a0, x60, x61, x62, x63, x64, x36] h66)
 (J53 [x54, x56, x58, u0, u0, u0, u0, u0, u0, u0] h59)) fun c67 h68 =>
 bnd (some (.mp h68.n, h68.push (.mp []))) fun x69 h70 =>
 jn (fun J71 =>
 bnd (faF 3 x0 h70) fun x72 h73 =>
 bnd (ld1 x72 h73) fun x74 h75 =>
 bnd (lenL x74 h75) fun x76 h77 =>
 lpK (fun n78 c79 h80 =>
 bnd (ltF (nthV c79 49) x76 h80) fun x81 h82 =>
 jn (fun J83 =>
 cnd x81
 (J83 [] h82)
 (J71 [x72, x74, x76, x81, (nthV c79 1), (nthV c79 2), (nthV c79 3), (nthV c79 4), (nthV c79 5), (nthV c79 6), (nthV c79 7), (nthV c79 8), (nthV c79 9), (nthV c79 10), (nthV c79 11), (nthV c79 12), (nthV c79 13), (nthV c79 14), (nthV c79 15), (nthV c79 16), (nthV c79 17), (nthV c79 18), (nthV c79 19), (nthV c79 20), (nthV c79 21), (nthV c79 22), (nthV c79 23), (nthV c79 24), (nthV c79 25), (nthV c79 26), (nthV c79 27), (nthV c79 28), (nthV c79 29), (nthV c79 30), (nthV c79 31), (nthV c79 32), (nthV c79 33), (nthV c79 34), (nthV c79 35), (nthV c79 36), (nthV c79 37), (nthV c79 38), (nthV c79 39), (nthV c79 40), (nthV c79 41), (nthV c79 42), (nthV c79 43), (nthV c79 44), (nthV c79 45), (nthV c79 46), (nthV c79 47), (nthV c79 48), (nthV c79 49)] h82)) fun c84 h85 =>
 jn (fun J86 =>
 bnd (iaS 4 x74 (nthV c79 49) h85) fun x87 h88 =>
 bnd (ldA 4 x87 h88) fun x89 h90 =>
 bnd (alF 24 true 4 (.agg [(.int .i64 0), (.str []), (.str []), .zsl]) h90) fun x91 h92 =>
 bnd (stA 4 x91 x89 h92) fun _ h94 =>
 jn (fun J95 =>
 bnd (ncF a0 h94) fun x96 h97 =>
 bnd (faF 2 x96 h97) fun x98 h99 =>
 bnd (ld1 x98 h99) fun x100 h101 =>
 bnd (eqF x100 (.int .i64 0) h101) fun x102 h103 =>
 jv (fun J104 => gdT x102 (bnd (faF 0 x0 h103) J104) (J104 u0 h103)) fun x105 h106 =>
 jv (fun J107 => gdT x102 (bnd (ld1 x105 h106) J107) (J107 u0 h106)) fun x108 h109 =>
 jv (fun J110 => gdT x102 (bnd (eqF x108 (.int .i64 6) h109) J110) (J110 u0 h109)) fun x111 h112 =>
 bnd (pkF x102 x111 (.bool false) h112) fun x113 h114 =>
 jv (fun J115 => gdT x113 (J115 (nthV c79 49) h114) (J115 u0 h114)) fun x116 h117 =>
 jv (fun J118 => gdT x113 (bnd (binB 0 none .rem true x116 (.int .i64 2) h117) J118) (J118 u0 h117)) fun x119 h120 =>
 jv (fun J121 => gdT x113 (bnd (eqF x119 (.int .i64 0) h120) J121) (J121 u0 h120)) fun x122 h123 =>
 bnd (pkF x113 x122 (.bool false) h123) fun x124 h125 =>
 cnd x124
 (bnd (faF 0 x91 h125) fun x126 h127 =>
 bnd (ld1 x126 h127) fun x128 h129 =>
 bnd (faF 1 x91 h129) fun x130 h131 =>
 bnd (ld1 x130 h131) fun x132 h133 =>
 bnd (bdF [some (0, false, 1), some (1, false, 1)] (.agg [(.int .i64 0), (.str [])]) [(0, x128), (1, x132)] h133) fun x134 h135 =>
 bnd (call (.f 103) [x69, x134] h135) fun x136 h137 =>
 bnd (ntF x136 h137) fun x138 h139 =>
 cnd x138
 (bnd (ncF a0 h139) fun x140 h141 =>
 bnd (faF 2 x140 h141) fun x142 h143 =>
 bnd (st2 x142 (.int .i64 7) h143) fun _ h145 =>
 J95 [a0, x96, x98, x100, x102, x102, x105, x108, x111, x113, x113, x116, x119, x122, x124, x69, x126, x128, x130, x132, x134, x136, x138, a0, x140, x142] h145)
 (J95 [a0, x96, x98, x100, x102, x102, x105, x108, x111, x113, x113, x116, x119, x122, x124, x69, x126, x128, x130, x132, x134, x136, x138, (nthV c79 29), (nthV c79 30), (nthV c79 31)] h139))
 (J95 [a0, x96, x98, x100, x102, x102, x105, x108, x111, x113, x113, x116, x119, x122, x124, (nthV c79 21), (nthV c79 22), (nthV c79 23), (nthV c79 24), (nthV c79 25), (nthV c79 26), (nthV c79 27), (nthV c79 28), (nthV c79 29), (nthV c79 30), (nthV c79 31)] h125)) fun c146 h147 =>
 jn (fun J148 =>
 bnd (ncF a0 h147) fun x149 h150 =>
 bnd (faF 2 x149 h150) fun x151 h152 =>
 bnd (ld1 x151 h152) fun x153 h154 =>
 bnd (neF x153 (.int .i64 0) h154) fun x155 h156 =>
 cnd x155
 (some (x36, h156))
 (J148 [a0, x149, x151, x153, x155, (nthV c79 37), (nthV c79 38)] h156)) fun c157 h158 =>
 bnd (ldA 4 x91 h158) fun x159 h160 =>
 bnd (call (.f 58) [a0, x159] h160) fun x161 h162 =>
 bnd (boF 3 false 1 1 [x161] h162) fun x163 h164 =>
 bnd (orM (apF 3 false 1 8 (.int .i64 0) (nthV c79 47) x163 h164) (orR (appendB 3 false 1 8 (.int .i64 0) (nthV c79 47) x163 h164) (appInB 3 1 8 (nthV c79 47) x163 h164))) fun x165 h166 =>
 J86 [(nthV c79 49), x87, x89, x91, (nthV c79 49), (nthV c146 0), (nthV c146 1), (nthV c146 2), (nthV c146 3), (nthV c146 4), (nthV c146 5), (nthV c146 6), (nthV c146 7), (nthV c146 8), (nthV c146 9), (nthV c146 10), (nthV c146 11), (nthV c146 12), (nthV c146 13), (nthV c146 14), (nthV c146 15), (nthV c146 16), (nthV c146 17), (nthV c146 18), (nthV c146 19), (nthV c146 20), (nthV c146 21), (nthV c146 22), (nthV c146 23), (nthV c146 24), (nthV c146 25), (nthV c157 0), (nthV c157 1), (nthV c157 2), (nthV c157 3), (nthV c157 4), (nthV c157 5), (nthV c157 6), a0, x159, x161, x161, (nthV c79 47), x161, x163, x165, x165] h166) fun c167 h168 =>
 bnd (addF (nthV c79 49) (.int .i64 1) h168) fun x169 h170 =>
 n78 [x81, (nthV c167 0), (nthV c167 1), (nthV c167 2), (nthV c167 3), (nthV c167 4), (nthV c167 5), (nthV c167 6), (nthV c167 7), (nthV c167 8), (nthV c167 9), (nthV c167 10), (nthV c167 11), (nthV c167 12), (nthV c167 13), (nthV c167 14), (nthV c167 15), (nthV c167 16), (nthV c167 17), (nthV c167 18), (nthV c167 19), (nthV c167 20), (nthV c167 21), (nthV c167 22), (nthV c167 23), (nthV c167 24), (nthV c167 25), (nthV c167 26), (nthV c167 27), (nthV c167 28), (nthV c167 29), (nthV c167 30), (nthV c167 31), (nthV c167 32), (nthV c167 33), (nthV c167 34), (nthV c167 35), (nthV c167 36), (nthV c167 37), (nthV c167 38), (nthV c167 39), (nthV c167 40), (nthV c167 41), (nthV c167 42), (nthV c167 43), (nthV c167 44), (nthV c167 45), (nthV c167 46), x169, x169] h170) [u0, u0, u0, u0, u0, u0, u0, u0, u0, u0, u0, u0, u0, u0, u0, u0, u0, u0, u0, u0, u0, u0, u0, u0, u0, u0, u0, u0, u0, u0, u0, u0, u0, u0, u0, u0, u0, u0, (nthV c28 21), u0, u0, u0, u0, u0, u0, u0, u0, .zsl, u0, (.int .i64 0)] h77) fun c171 h172 =>
 bnd (ncF a0 h172) fun x173 h174 =>
 bnd (faF 0 x173 h174) fun x175 h176 =>
 bnd (ld1 x175 h176) fun x177 h178 =>
 bnd (iaS 3 x177 x36 h178) fun x179 h180 =>
 bnd (faF 2 x179 h180) fun x181 h182 =>
 bnd (st2 x181 (nthV c171 50) h182) fun _ h184 =>
 some (x36, h184))
theorem k58 : FsOk Tryz.prog 58 (.shal s58) := fs0 2 119 d58 Tryz.func58 rfl (by kernel_rfl) (by kernel_rfl) (by kernel_rfl) (by kernel_rfl)
def d59 : List RV := [.t 4]
noncomputable def s59 : Call → List V → HP → RB := fun call l H => unc l fun a0 l0 => unc l0 fun a1 l1 => nilK l1 (
 jn (fun J0 =>
 jn (fun J1 =>
 bnd (eqF a0 (.int .i64 2) H) fun x2 h3 =>
 cnd x2
 (J1 [x2, u0, x2] h3)
 (bnd (eqF a0 (.int .i64 3) h3) fun x4 h5 =>
 J1 [x2, x4, x4] h5)) fun c6 h7 =>
 cnd (nthV c6 2)
 (bnd (call (.f 104) [a1] h7) fun x8 h9 =>
 bnd (eqF x8 a0 h9) fun x10 h11 =>
 some (x10, h11))
 (bnd (eqF a0 (.int .i64 4) h7) fun x12 h13 =>
 cnd x12
 (bnd (call (.f 105) [a1] h13) fun x14 h15 =>
 bnd (exF x14 0 h15) fun x16 h17 =>
 bnd (exF x14 1 h17) fun x18 h19 =>
 bnd (alF 29 true 2 (.agg [(.int .i64 0), (.int .i64 0)]) h19) fun x20 h21 =>
 bnd (stA 2 x20 x18 h21) fun _ h23 =>
 bnd (ldA 2 x20 h23) fun x24 h25 =>
 bnd (bdF [some (0, false, 1), some (1, false, 1)] (.agg [(.int .i64 0), (.int .i64 0)]) [] h25) fun x26 h27 =>
 bnd (binB 0 (some [.int .i64, .int .i64]) .eql false x24 x26 h27) fun x28 h29 =>
 some (x28, h29))
 (J0 [a0, (nthV c6 0), (nthV c6 1), (nthV c6 2), u0, u0, u0, u0, x12, x12, u0, u0, u0, u0, u0, u0, u0, u0, u0, u0, (.bool false)] h13))) fun c30 h31 =>
 bnd (eqT a1 (.str []) h31) fun x32 h33 =>
 some (x32, h33))
theorem k59 : FsOk Tryz.prog 59 (.shal s59) := fs0 2 27 d59 Tryz.func59 rfl (by kernel_rfl) (by kernel_rfl) (by kernel_rfl) (by kernel_rfl)
def d60 : List RV := [.t 2]
noncomputable def s60 : Call → List V → HP → RB := fun call l H => unc l fun a0 l0 => nilK l0 (
 bnd (neT a0 (.str []) H) fun x0 h1 =>
 jv (fun J2 => gdT x0 (J2 a0 h1) (J2 u0 h1)) fun x3 h4 =>
 jv (fun J5 => gdT x0 (bnd (lenT x3 h4) J5) (J5 u0 h4)) fun x6 h7 =>
 jv (fun J8 => gdT x0 (bnd (leF x6 (.int .i64 32) h7) J8) (J8 u0 h7)) fun x9 h10 =>
 bnd (pkF x0 x9 (.bool false) h10) fun x11 h12 =>
 jv (fun J13 => gdT x11 (J13 a0 h12) (J13 u0 h12)) fun x14 h15 =>
 jv (fun J16 => gdT x11 (bnd (call (.f 106) [x14, (.str [97, 98, 99, 100, 101, 102, 103, 104, 105, 106, 107, 108, 109, 110, 111, 112, 113, 114, 115, 116, 117, 118, 119, 120, 121, 122, 65, 66, 67, 68, 69, 70, 71, 72, 73, 74, 75, 76, 77, 78, 79, 80, 81, 82, 83, 84, 85, 86, 87, 88, 89, 90, 48, 49, 50, 51, 52, 53, 54, 55, 56, 57, 45, 95])] h15) J16) (J16 u0 h15)) fun x17 h18 =>
 jv (fun J19 => gdT x11 (bnd (eqT x17 (.str []) h18) J19) (J19 u0 h18)) fun x20 h21 =>
 bnd (pkF x11 x20 (.bool false) h21) fun x22 h23 =>
 some (x22, h23))
theorem k60 : FsOk Tryz.prog 60 (.shal s60) := fs0 1 15 d60 Tryz.func60 rfl (by kernel_rfl) (by kernel_rfl) (by kernel_rfl) (by kernel_rfl)
def d61 : List RV := [.t 2]
noncomputable def s61 : Call → List V → HP → RB := fun call l H => unc l fun a0 l0 => nilK l0 (
 bnd (geF a0 (.int .i64 1) H) fun x0 h1 =>
 jv (fun J2 => gdT x0 (J2 a0 h1) (J2 u0 h1)) fun x3 h4 =>
 jv (fun J5 => gdT x0 (bnd (leF x3 (.int .i64 4) h4) J5) (J5 u0 h4)) fun x6 h7 =>
 bnd (pkF x0 x6 (.bool false) h7) fun x8 h9 =>
 some (x8, h9))
theorem k61 : FsOk Tryz.prog 61 (.shal s61) := fs0 1 9 d61 Tryz.func61 rfl (by kernel_rfl) (by kernel_rfl) (by kernel_rfl) (by kernel_rfl)
def d63 : List RV := [.t 4]
noncomputable def s63 : Call → List V → HP → RB := fun call l H => unc l fun a0 l0 => unc l0 fun a1 l1 => nilK l1 (
 bnd (bxA 24 4 a0 H) fun x0 h1 =>
 jn (fun J2 =>
 bnd (faF 0 x0 h1) fun x3 h4 =>
 bnd (ld1 x3 h4) fun x5 h6 =>
 bnd (eqF x5 (.int .i64 1) h6) fun x7 h8 =>
 cnd x7
 (some ((.str [110, 117, 108, 108]), h8))
 (jn (fun J9 =>
 bnd (eqF x5 (.int .i64 2) h8) fun x10 h11 =>
 cnd x10
 (J9 [x10, u0, x10] h11)
 (bnd (eqF x5 (.int .i64 3) h11) fun x12 h13 =>
 J9 [x10, x12, x12] h13)) fun c14 h15 =>
 cnd (nthV c14 2)
 (bnd (faF 1 x0 h15) fun x16 h17 =>
 bnd (ld1 x16 h17) fun x18 h19 =>
 some (x18, h19))
 (bnd (eqF x5 (.int .i64 4) h15) fun x20 h21 =>
 cnd x20
 (jn (fun J22 =>
 bnd (faF 1 x0 h21) fun x23 h24 =>
 bnd (ld1 x23 h24) fun x25 h26 =>
 bnd (call (.f 109) [x25, a1] h26) fun x27 h28 =>
 jv (fun J29 => gdT x27 (bnd (faF 1 x0 h28) J29) (J29 u0 h28)) fun x30 h31 =>
 jv (fun J32 => gdT x27 (bnd (ld1 x30 h31) J32) (J32 u0 h31)) fun x33 h34 =>
 jv (fun J35 => gdT x27 (bnd (call (.f 104) [x33] h34) J35) (J35 u0 h34)) fun x36 h37 =>
 jv (fun J38 => gdT x27 (bnd (eqF x36 (.int .i64 4) h37) J38) (J38 u0 h37)) fun x39 h40 =>
 bnd (pkF x27 x39 (.bool false) h40) fun x41 h42 =>
 cnd x41
 (bnd (faF 1 x0 h42) fun x43 h44 =>
 bnd (ld1 x43 h44) fun x45 h46 =>
 some (x45, h46))
 (J22 [x23, x25, a1, x27, x27, x30, x33, x36, x39, x41, u0, u0, (.str [])] h42)) fun c47 h48 =>
 bnd (faF 1 x0 h48) fun x49 h50 =>
 bnd (ld1 x49 h50) fun x51 h52 =>
 bnd (call (.f 110) [x51] h52) fun x53 h54 =>
 bnd (exF x53 0 h54) fun x55 h56 =>
 bnd (exF x53 1 h56) fun x57 h58 =>
 some (x55, h58))
 (J2 [x3, x5, x7, x7, (nthV c14 0), (nthV c14 1), (nthV c14 2), u0, u0, x20, x20, u0, u0, u0, u0, u0, u0, u0, u0, u0, u0, u0, u0, u0, u0, u0, u0, u0, u0, u0, u0, u0, (.str [])] h21)))) fun c59 h60 =>
 some ((.str []), h60))
theorem k63 : FsOk Tryz.prog 63 (.shal s63) := fs0 2 37 d63 Tryz.func63 rfl (by kernel_rfl) (by kernel_rfl) (by kernel_rfl) (by kernel_rfl)
def d64 : List RV := []
noncomputable def s64 : Call → List V → HP → RB := fun call l H => unc l fun a0 l0 => unc l0 fun a1 l1 => unc l1 fun a2 l2 => unc l2 fun a3 l3 => nilK l3 (
 bnd (ld1 a0 H) fun x0 h1 =>
 bnd (ld1 a1 h1) fun x2 h3 =>
 bnd (ld1 a2 h3) fun x4 h5 =>
 bnd (call (.f 30) [x0, x2, x4] h5) fun x6 h7 =>
 bnd (ld1 a0 h7) fun x8 h9 =>
 bnd (ldA 4 a3 h9) fun x10 h11 =>
 bnd (ld1 a1 h11) fun x12 h13 =>
 bnd (addF x12 (.int .i64 2) h13) fun x14 h15 =>
 bnd (call (.f 17) [x8, x10, x14, (.str [])] h15) fun x16 h17 =>
 some (.tup [], h17))
theorem k64 : FsOk Tryz.prog 64 (.shal s64) := fs0 4 13 d64 Tryz.func64 rfl (by kernel_rfl) (by kernel_rfl) (by kernel_rfl) (by kernel_rfl)
def d65 : List RV := []
noncomputable def s65 : Call → List V → HP → RB := fun call l H => unc l fun a0 l0 => unc l0 fun a1 l1 => unc l1 fun a2 l2 => nilK l2 (
 bnd (ld1 a0 H) fun x0 h1 =>
 bnd (ldA 4 a1 h1) fun x2 h3 =>
 bnd (ld1 a2 h3) fun x4 h5 =>
 bnd (addF x4 (.int .i64 2) h5) fun x6 h7 =>
 bnd (call (.f 17) [x0, x2, x6, (.str [45, 32])] h7) fun x8 h9 =>
 some (.tup [], h9))
theorem k65 : FsOk Tryz.prog 65 (.shal s65) := fs0 3 8 d65 Tryz.func65 rfl (by kernel_rfl) (by kernel_rfl) (by kernel_rfl) (by kernel_rfl)
def d68 : List RV := [.t 4, .t 5]
noncomputable def s68 : Call → List V → HP → RB := fun call l H => unc l fun a0 l0 => unc l0 fun a1 l1 => nilK l1 (
 bnd (binB 0 none .and true a0 (.int .u64 4294967295) H) fun x0 h1 =>
 bnd (binB 0 none .shr true a0 (.int .u64 32) h1) fun x2 h3 =>
 bnd (binB 0 none .and true a1 (.int .u64 4294967295) h3) fun x4 h5 =>
 bnd (binB 0 none .shr true a1 (.int .u64 32) h5) fun x6 h7 =>
 bnd (binB 0 none .mul false x0 x4 h7) fun x8 h9 =>
 bnd (binB 0 none .mul false x2 x4 h9) fun x10 h11 =>
 bnd (binB 0 none .shr true x8 (.int .u64 32) h11) fun x12 h13 =>
 bnd (addF x10 x12 h13) fun x14 h15 =>
 bnd (binB 0 none .and true x14 (.int .u64 4294967295) h15) fun x16 h17 =>
 bnd (binB 0 none .shr true x14 (.int .u64 32) h17) fun x18 h19 =>
 bnd (binB 0 none .mul false x0 x6 h19) fun x20 h21 =>
 bnd (addF x16 x20 h21) fun x22 h23 =>
 bnd (binB 0 none .mul false x2 x6 h23) fun x24 h25 =>
 bnd (addF x24 x18 h25) fun x26 h27 =>
 bnd (binB 0 none .shr true x22 (.int .u64 32) h27) fun x28 h29 =>
 bnd (addF x26 x28 h29) fun x30 h31 =>
 bnd (binB 0 none .mul false a0 a1 h31) fun x32 h33 =>
 some (.tup [x30, x32], h33))
theorem k68 : FsOk Tryz.prog 68 (.shal s68) := fs0 2 51 d68 Tryz.func68 rfl (by kernel_rfl) (by kernel_rfl) (by kernel_rfl) (by kernel_rfl)
def d69 : List RV := [.t 4]
noncomputable def s69 : Call → List V → HP → RB := fun call l H => unc l fun a0 l0 => unc l0 fun a1 l1 => nilK l1 (
 bnd (lenT a0 H) fun x0 h1 =>
 bnd (lenT a1 h1) fun x2 h3 =>
 bnd (geF x0 x2 h3) fun x4 h5 =>
 jv (fun J6 => gdT x4 (J6 a0 h5) (J6 u0 h5)) fun x7 h8 =>
 jv (fun J9 => gdT x4 (J9 a1 h8) (J9 u0 h8)) fun x10 h11 =>
 jv (fun J12 => gdT x4 (bnd (lenT x10 h11) J12) (J12 u0 h11)) fun x13 h14 =>
 jv (fun J15 => gdT x4 (bnd (slT0 x7 x13 h14) J15) (J15 u0 h14)) fun x16 h17 =>
 jv (fun J18 => gdT x4 (J18 a1 h17) (J18 u0 h17)) fun x19 h20 =>
 jv (fun J21 => gdT x4 (bnd (eqT x16 x19 h20) J21) (J21 u0 h20)) fun x22 h23 =>
 bnd (pkF x4 x22 (.bool false) h23) fun x24 h25 =>
 some (x24, h25))
theorem k69 : FsOk Tryz.prog 69 (.shal s69) := fs0 2 18 d69 Tryz.func69 rfl (by kernel_rfl) (by kernel_rfl) (by kernel_rfl) (by kernel_rfl)
def d71 : List RV := [.t 2]
noncomputable def s71 : Call → List V → HP → RB := fun call l H => unc l fun a0 l0 => nilK l0 (
 bnd (bx1 9 a0 H) fun x0 h1 =>
 bnd (some (.fn 112 [] [x0], h1)) fun x2 h3 =>
 some (x2, h3))
theorem k71 : FsOk Tryz.prog 71 (.shal s71) := fs0 1 4 d71 Tryz.func71 rfl (by kernel_rfl) (by kernel_rfl) (by kernel_rfl) (by kernel_rfl)
def d72 : List RV := [.t 4, .t 5]
noncomputable def s72 : Call → List V → HP → RB := fun call l H => unc l fun a0 l0 => unc l0 fun a1 l1 => nilK l1 (
 bnd (call (.f 113) [a0, a1] H) fun x0 h1 =>
 bnd (exF x0 0 h1) fun x2 h3 =>
 bnd (exF x0 1 h3) fun x4 h5 =>
 some (.tup [x2, x4], h5))
theorem k72 : FsOk Tryz.prog 72 (.shal s72) := fs0 2 11 d72 Tryz.func72 rfl (by kernel_rfl) (by kernel_rfl) (by kernel_rfl) (by kernel_rfl)
def d73 : List RV := [.t 4]
noncomputable def s73 : Call → List V → HP → RB := fun call l H => unc l fun a0 l0 => unc l0 fun a1 l1 => nilK l1 (
 bnd (call (.f 114) [a0, a1] H) fun x0 h1 =>
 some (x0, h1))
theorem k73 : FsOk Tryz.prog 73 (.shal s73) := fs0 2 8 d73 Tryz.func73 rfl (by kernel_rfl) (by kernel_rfl) (by kernel_rfl) (by kernel_rfl)
def d74 : List RV := [.cell 4 true 2]
noncomputable def s74 : Call → List V → HP → RB := fun call l H => unc l fun a0 l0 => unc l0 fun a1 l1 => nilK l1 (
 bnd (alF 29 true 2 (.agg [(.int .i64 0), (.int .i64 0)]) H) fun x0 h1 =>
 jn (fun J2 =>
 bnd (lenT a0 h1) fun x3 h4 =>
 bnd (ltF a1 x3 h4) fun x5 h6 =>
 cnd x5
 (bnd (bdF [some (0, false, 1), some (1, false, 1)] (.agg [(.int .i64 0), (.int .i64 0)]) [(0, (.int .i64 8)), (1, a1)] h6) fun x7 h8 =>
 bnd (stA 2 x0 x7 h8) fun _ h10 =>
 bnd (ldA 2 x0 h10) fun r11 _ =>
 some (r11, h10))
 (J2 [a1, a0, x3, x5, u0, u0] h6)) fun c12 h13 =>
 bnd (bdF [some (0, false, 1), some (1, false, 1)] (.agg [(.int .i64 0), (.int .i64 0)]) [] h13) fun x14 h15 =>
 bnd (stA 2 x0 x14 h15) fun _ h17 =>
 bnd (ldA 2 x0 h17) fun r18 _ =>
 some (r18, h17))
theorem k74 : FsOk Tryz.prog 74 (.shal s74) := fs0 2 12 d74 Tryz.func74 rfl (by kernel_rfl) (by kernel_rfl) (by kernel_rfl) (by kernel_rfl)
def d75 : List RV := [.t 4]
noncomputable def s75 : Call → List V → HP → RB := fun call l H => unc l fun a0 l0 => unc l0 fun a1 l1 => nilK l1 (
 jn (fun J0 =>
 lpK (fun n1 c2 h3 =>
 jn (fun J4 =>
 bnd (lenT a0 h3) fun x5 h6 =>
 bnd (ltF (nthV c2 20) x5 h6) fun x7 h8 =>
 cnd x7
 (J4 [(nthV c2 20), a0, x5, x7] h8)
 (J0 [(nthV c2 20), a0, x5, x7, (nthV c2 4), (nthV c2 5), (nthV c2 6), (nthV c2 7), (nthV c2 8), (nthV c2 9), (nthV c2 10), (nthV c2 11), (nthV c2 12), (nthV c2 13), (nthV c2 14), (nthV c2 15), (nthV c2 16), (nthV c2 17), (nthV c2 18), (nthV c2 19), (nthV c2 20)] h8)) fun c9 h10 =>
 bnd (slT1 a0 (nthV c2 20) h10) fun x11 h12 =>
 bnd (call (.f 115) [x11] h12) fun x13 h14 =>
 bnd (exF x13 0 h14) fun x15 h16 =>
 bnd (exF x13 1 h16) fun x17 h18 =>
 jn (fun J19 =>
 cvK call a1 [x15] h18 fun x20 h21 =>
 bnd (ntF x20 h21) fun x22 h23 =>
 cnd x22
 (J0 [(nthV c9 0), (nthV c9 1), (nthV c9 2), (nthV c9 3), a0, (nthV c2 20), x11, x13, x13, x15, x17, x15, x17, a1, x15, x20, x22, (nthV c2 17), (nthV c2 18), (nthV c2 19), (nthV c2 20)] h23)
 (J19 [a1, x15, x20, x22] h23)) fun c24 h25 =>
 bnd (addF (nthV c2 20) x17 h25) fun x26 h27 =>
 n1 [(nthV c9 0), (nthV c9 1), (nthV c9 2), (nthV c9 3), a0, (nthV c2 20), x11, x13, x13, x15, x17, x15, x17, (nthV c24 0), (nthV c24 1), (nthV c24 2), (nthV c24 3), (nthV c2 20), x17, x26, x26] h27) [u0, u0, u0, u0, u0, u0, u0, u0, u0, u0, u0, u0, u0, u0, u0, u0, u0, u0, u0, u0, (.int .i64 0)] H) fun c28 h29 =>
 some ((nthV c28 20), h29))
theorem k75 : FsOk Tryz.prog 75 (.shal s75) := fs0 2 27 d75 Tryz.func75 rfl (by kernel_rfl) (by kernel_rfl) (by kernel_rfl) (by kernel_rfl)
def d76 : List RV := [.t 2]
noncomputable def s76 : Call → List V → HP → RB := fun call l H => unc l fun a0 l0 => nilK l0 (
 jn (fun J0 =>
 bnd (ltF a0 (.int .i64 32) H) fun x1 h2 =>
 cnd x1
 (bnd (eqF a0 (.int .i64 9) h2) fun x3 h4 =>
 jv (fun J5 => gdN x3 (J5 a0 h4) (J5 u0 h4)) fun x6 h7 =>
 jv (fun J8 => gdN x3 (bnd (eqF x6 (.int .i64 10) h7) J8) (J8 u0 h7)) fun x9 h10 =>
 bnd (pkF x3 (.bool true) x9 h10) fun x11 h12 =>
 jv (fun J13 => gdN x11 (J13 a0 h12) (J13 u0 h12)) fun x14 h15 =>
 jv (fun J16 => gdN x11 (bnd (eqF x14 (.int .i64 13) h15) J16) (J16 u0 h15)) fun x17 h18 =>
 bnd (pkF x11 (.bool true) x17 h18) fun x19 h20 =>
 some (x19, h20))
 (bnd (ltF a0 (.int .i64 127) h2) fun x21 h22 =>
 cnd x21
 (some ((.bool true), h22))
 (bnd (ltF a0 (.int .i64 160) h22) fun x23 h24 =>
 cnd x23
 (bnd (eqF a0 (.int .i64 133) h24) fun x25 h26 =>
 some (x25, h26))
 (bnd (ltF a0 (.int .i64 55296) h24) fun x27 h28 =>
 cnd x27
 (some ((.bool true), h28))
 (bnd (ltF a0 (.int .i64 65536) h28) fun x29 h30 =>
 cnd x29
 (bnd (geF a0 (.int .i64 57344) h30) fun x31 h32 =>
 jv (fun J33 => gdT x31 (J33 a0 h32) (J33 u0 h32)) fun x34 h35 =>
 jv (fun J36 => gdT x31 (bnd (leF x34 (.int .i64 65533) h35) J36) (J36 u0 h35)) fun x37 h38 =>
 bnd (pkF x31 x37 (.bool false) h38) fun x39 h40 =>
 jv (fun J41 => gdT x39 (J41 a0 h40) (J41 u0 h40)) fun x42 h43 =>
 jv (fun J44 => gdT x39 (bnd (neF x42 (.int .i64 65279) h43) J44) (J44 u0 h43)) fun x45 h46 =>
 bnd (pkF x39 x45 (.bool false) h46) fun x47 h48 =>
 some (x47, h48))
 (J0 [a0, x1, x1, u0, u0, u0, u0, u0, u0, u0, u0, u0, u0, a0, x21, x21, a0, x23, x23, u0, u0, a0, x27, x27, a0, x29, x29, u0, u0, u0, u0, u0, u0, u0, u0, u0, u0, (.bool false)] h30)))))) fun c49 h50 =>
 bnd (leF a0 (.int .i64 1114111) h50) fun x51 h52 =>
 some (x51, h52))
theorem k76 : FsOk Tryz.prog 76 (.shal s76) := fs0 1 42 d76 Tryz.func76 rfl (by kernel_rfl) (by kernel_rfl) (by kernel_rfl) (by kernel_rfl)
def d77 : List RV := [.t 4]
noncomputable def s77 : Call → List V → HP → RB := fun call l H => unc l fun a0 l0 => unc l0 fun a1 l1 => nilK l1 (
 bnd (call (.f 116) [a0, a1] H) fun x0 h1 =>
 some (x0, h1))
theorem k77 : FsOk Tryz.prog 77 (.shal s77) := fs0 2 8 d77 Tryz.func77 rfl (by kernel_rfl) (by kernel_rfl) (by kernel_rfl) (by kernel_rfl)
def d78 : List RV := [.t 4]
noncomputable def s78 : Call → List V → HP → RB := fun call l H => unc l fun a0 l0 => unc l0 fun a1 l1 => nilK l1 (
 jn (fun J0 =>
 lpK (fun n1 c2 h3 =>
 jn (fun J4 =>
 bnd (lenT (nthV c2 17) h3) fun x5 h6 =>
 bnd (gtF x5 (.int .i64 0) h6) fun x7 h8 =>
 jv (fun J9 => gdT x7 (J9 (nthV c2 17) h8) (J9 u0 h8)) fun x10 h11 =>
 jv (fun J12 => gdT x7 (J12 (nthV c2 17) h11) (J12 u0 h11)) fun x13 h14 =>
 jv (fun J15 => gdT x7 (bnd (lenT x13 h14) J15) (J15 u0 h14)) fun x16 h17 =>
 jv (fun J18 => gdT x7 (bnd (subF x16 (.int .i64 1) h17) J18) (J18 u0 h17)) fun x19 h20 =>
 jv (fun J21 => gdT x7 (bnd (ixF x10 x19 h20) J21) (J21 u0 h20)) fun x22 h23 =>
 jv (fun J24 => gdT x7 (J24 a1 h23) (J24 u0 h23)) fun x25 h26 =>
 jv (fun J27 => gdT x7 (bnd (eqF x22 x25 h26) J27) (J27 u0 h26)) fun x28 h29 =>
 bnd (pkF x7 x28 (.bool false) h29) fun x30 h31 =>
 cnd x30
 (J4 [(nthV c2 17), x5, x7, x7, x10, x13, x16, x19, x22, x25, x28, x30] h31)
 (J0 [(nthV c2 17), x5, x7, x7, x10, x13, x16, x19, x22, x25, x28, x30, (nthV c2 12), (nthV c2 13), (nthV c2 14), (nthV c2 15), (nthV c2 16), (nthV c2 17)] h31)) fun c32 h33 =>
 bnd (lenT (nthV c2 17) h33) fun x34 h35 =>
 bnd (subF x34 (.int .i64 1) h35) fun x36 h37 =>
 bnd (slT0 (nthV c2 17) x36 h37) fun x38 h39 =>
 n1 [(nthV c32 0), (nthV c32 1), (nthV c32 2), (nthV c32 3), (nthV c32 4), (nthV c32 5), (nthV c32 6), (nthV c32 7), (nthV c32 8), (nthV c32 9), (nthV c32 10), (nthV c32 11), (nthV c2 17), (nthV c2 17), x34, x36, x38, x38] h39) [u0, u0, u0, u0, u0, u0, u0, u0, u0, u0, u0, u0, u0, u0, u0, u0, u0, a0] H) fun c40 h41 =>
 some ((nthV c40 17), h41))
theorem k78 : FsOk Tryz.prog 78 (.shal s78) := fs0 2 23 d78 Tryz.func78 rfl (by kernel_rfl) (by kernel_rfl) (by kernel_rfl) (by kernel_rfl)
def d79 : List RV := [.t 4]
noncomputable def s79 : Call → List V → HP → RB := fun call l H => unc l fun a0 l0 => unc l0 fun a1 l1 => nilK l1 (
 jn (fun J0 =>
 lpK (fun n1 c2 h3 =>
 jn (fun J4 =>
 bnd (lenT (nthV c2 16) h3) fun x5 h6 =>
 bnd (gtF x5 (.int .i64 0) h6) fun x7 h8 =>
 cnd x7
 (J4 [(nthV c2 16), x5, x7] h8)
 (J0 [(nthV c2 16), x5, x7, (nthV c2 3), (nthV c2 4), (nthV c2 5), (nthV c2 6), (nthV c2 7), (nthV c2 8), (nthV c2 9), (nthV c2 10), (nthV c2 11), (nthV c2 12), (nthV c2 13), (nthV c2 14), (nthV c2 15), (nthV c2 16)] h8)) fun c9 h10 =>
 jn (fun J11 =>
 bnd (lenT (nthV c2 16) h10) fun x12 h13 =>
 bnd (subF x12 (.int .i64 1) h13) fun x14 h15 =>
 bnd (ixF (nthV c2 16) x14 h15) fun x16 h17 =>
 bnd (call (.f 100) [a1, x16] h17) fun x18 h19 =>
 bnd (ntF x18 h19) fun x20 h21 =>
 cnd x20
 (J0 [(nthV c9 0), (nthV c9 1), (nthV c9 2), a1, (nthV c2 16), (nthV c2 16), x12, x14, x16, x18, x20, (nthV c2 11), (nthV c2 12), (nthV c2 13), (nthV c2 14), (nthV c2 15), (nthV c2 16)] h21)
 (J11 [a1, (nthV c2 16), (nthV c2 16), x12, x14, x16, x18, x20] h21)) fun c22 h23 =>
 bnd (lenT (nthV c2 16) h23) fun x24 h25 =>
 bnd (subF x24 (.int .i64 1) h25) fun x26 h27 =>
 bnd (slT0 (nthV c2 16) x26 h27) fun x28 h29 =>
 n1 [(nthV c9 0), (nthV c9 1), (nthV c9 2), (nthV c22 0), (nthV c22 1), (nthV c22 2), (nthV c22 3), (nthV c22 4), (nthV c22 5), (nthV c22 6), (nthV c22 7), (nthV c2 16), (nthV c2 16), x24, x26, x28, x28] h29) [u0, u0, u0, u0, u0, u0, u0, u0, u0, u0, u0, u0, u0, u0, u0, u0, a0] H) fun c30 h31 =>
 some ((nthV c30 16), h31))
theorem k79 : FsOk Tryz.prog 79 (.shal s79) := fs0 2 22 d79 Tryz.func79 rfl (by kernel_rfl) (by kernel_rfl) (by kernel_rfl) (by kernel_rfl)
def d81 : List RV := [.t 2]
noncomputable def s81 : Call → List V → HP → RB := fun call l H => unc l fun a0 l0 => nilK l0 (
 bnd (call (.f 46) [a0, (.fn 118 [] [])] H) fun x0 h1 =>
 jn (fun J2 =>
 bnd (ltF x0 (.int .i64 0) h1) fun x3 h4 =>
 cnd x3
 (some (.zsl, h4))
 (J2 [x0, x3, .zsl] h4)) fun c5 h6 =>
 bnd (sliceSlB 3 a0 (some x0) none none h6) fun x7 h8 =>
 some (x7, h8))
theorem k81 : FsOk Tryz.prog 81 (.shal s81) := fs0 1 11 d81 Tryz.func81 rfl (by kernel_rfl) (by kernel_rfl) (by kernel_rfl) (by kernel_rfl)
def d83 : List RV := [.t 4]
noncomputable def s83 : Call → List V → HP → RB := fun call l H => unc l fun a0 l0 => unc l0 fun a1 l1 => nilK l1 (
 bnd (bxA 154 6 a1 H) fun x0 h1 =>
 bnd (faF 1 x0 h1) fun x2 h3 =>
 bnd (faF 1 x2 h3) fun x4 h5 =>
 bnd (ld1 x4 h5) fun x6 h7 =>
 bnd (call (.f 84) [x6] h7) fun x8 h9 =>
 bnd (exF x8 0 h9) fun x10 h11 =>
 bnd (exF x8 1 h11) fun x12 h13 =>
 bnd (exF x8 2 h13) fun x14 h15 =>
 jn (fun J16 =>
 bnd (ntF x14 h15) fun x17 h18 =>
 cnd x17
 (bnd (faF 1 x0 h18) fun x19 h20 =>
 bnd (ldA 3 x19 h20) fun x21 h22 =>
 bnd (call (.f 82) [a0, (.int .i64 3), x21] h22) fun x23 h24 =>
 some (.zsl, h24))
 (J16 [x14, x17, u0, u0, u0, u0, .zsl] h18)) fun c25 h26 =>
 bnd (faF 0 x0 h26) fun x27 h28 =>
 bnd (st2 x27 x10 h28) fun _ h30 =>
 bnd (call (.f 84) [x10] h30) fun x31 h32 =>
 bnd (exF x31 0 h32) fun x33 h34 =>
 bnd (exF x31 1 h34) fun x35 h36 =>
 bnd (exF x31 2 h36) fun x37 h38 =>
 jn (fun J39 =>
 bnd (call (.f 85) [x10] h38) fun x40 h41 =>
 bnd (exF x40 0 h41) fun x42 h43 =>
 bnd (exF x40 1 h43) fun x44 h45 =>
 bnd (exF x40 2 h45) fun x46 h47 =>
 bnd (exF x40 3 h47) fun x48 h49 =>
 bnd (alF 24 true 4 (.agg [(.int .i64 0), (.str []), (.str []), .zsl]) h49) fun x50 h51 =>
 bnd (stA 4 x50 x42 h51) fun _ h53 =>
 jv (fun J54 => gdN x37 (J54 x48 h53) (J54 u0 h53)) fun x55 h56 =>
 bnd (pkF x37 (.bool true) x55 h56) fun x57 h58 =>
 cnd x57
 (bnd (faF 1 x0 h58) fun x59 h60 =>
 bnd (faF 0 x59 h60) fun x61 h62 =>
 bnd (ld1 x61 h62) fun x63 h64 =>
 bnd (addF x63 x12 h64) fun x65 h66 =>
 bnd (faF 1 x0 h66) fun x67 h68 =>
 bnd (faF 2 x67 h68) fun x69 h70 =>
 bnd (ld1 x69 h70) fun x71 h72 =>
 bnd (bdF [some (0, false, 1), some (1, false, 1), some (2, false, 1)] (.agg [(.int .i64 0), (.str []), (.int .i64 0)]) [(0, x65), (1, x10), (2, x71)] h72) fun x73 h74 =>
 bnd (alF 57 true 3 (.agg [(.int .i64 0), (.str []), (.int .i64 0)]) h74) fun x75 h76 =>
 bnd (stA 3 x75 x73 h76) fun _ h78 =>
 bnd (ldA 3 x75 h78) fun x79 _ =>
 bnd (buildSliceB true 3 1 [(0, x79)] h78) fun x80 _ =>
 bnd (faF 4 x0 h78) fun x81 _ =>
 bnd (ld1 x81 h78) fun x82 _ =>
 bnd (buildSliceB false 1 2 [(0, x80), (1, x82)] h78) fun x83 _ =>
 bnd (noY call (.f 119) [x83] h78) fun x84 h85 =>
 bnd (faF 5 x0 h85) fun x86 _ =>
 bnd (ld1 x86 h85) fun x87 _ =>
 bnd (ld1 x86 h78) fun y92 _ => ifB (eqVF y92 x87) (
 bnd (addF x87 (.int .i64 1) h85) fun x88 _ =>
 bnd (noY call (.f 50) [a0, x84, x88] h85) fun x89 h90 =>
 bnd (buildSliceB true 4 1 [(0, x89)] h90) fun x91 _ =>
 some (x91, h90)))
 (J39 [x10, x40, x40, x42, x44, x46, x48, x50, x44, x46, x48, x37, x37, x55, x57, u0, u0, u0, u0, u0, u0, u0, u0, u0, u0, u0, u0, u0, u0, u0, u0, u0, u0, u0, u0, u0, u0, u0, (nthV c25 6)] h58)) fun c93 h94 =>
 bnd (ldA 6 x0 h94) fun x95 h96 =>
 bnd (call (.f 86) [a0, x95] h96) fun x97 h98 =>
 bnd (boF 24 true 4 1 [x97] h98) fun x99 h100 =>
 some (x99, h100))
theorem k83 : FsOk Tryz.prog 83 (.shal s83) := fs0 2 75 d83 Tryz.func83 rfl (by kernel_rfl) (by kernel_rfl) (by kernel_rfl) (by kernel_rfl)
def d84 : List RV := [.t 2, .t 3, .t 4]
noncomputable def s84 : Call → List V → HP → RB := fun call l H => unc l fun a0 l0 => nilK l0 (
 bnd (call (.f 120) [a0, (.str [45])] H) fun x0 h1 =>
 bnd (exF x0 0 h1) fun x2 h3 =>
 bnd (exF x0 1 h3) fun x4 h5 =>
 jn (fun J6 =>
 bnd (ntF x4 h5) fun x7 h8 =>
 jv (fun J9 => gdN x7 (J9 x2 h8) (J9 u0 h8)) fun x10 h11 =>
 jv (fun J12 => gdN x7 (bnd (neT x10 (.str []) h11) J12) (J12 u0 h11)) fun x13 h14 =>
 jv (fun J15 => gdN x7 (J15 x13 h14) (J15 u0 h14)) fun x16 h17 =>
 jv (fun J18 => gdT x16 (J18 x2 h17) (J18 u0 h17)) fun x19 h20 =>
 jv (fun J21 => gdT x16 (bnd (ixF x19 (.int .i64 0) h20) J21) (J21 u0 h20)) fun x22 h23 =>
 jv (fun J24 => gdT x16 (bnd (neF x22 (.int .u8 32) h23) J24) (J24 u0 h23)) fun x25 h26 =>
 jv (fun J27 => gdN x7 (bnd (pkF x16 x25 (.bool false) h26) J27) (J27 u0 h26)) fun x28 h29 =>
 bnd (pkF x7 (.bool true) x28 h29) fun x30 h31 =>
 cnd x30
 (some (.tup [(.str []), (.int .i64 0), (.bool false)], h31))
 (J6 [x4, x7, x7, x10, x13, x16, x19, x22, x25, x28, x30, (.str []), (.int .i64 0), (.bool false)] h31)) fun c32 h33 =>
 bnd (call (.f 26) [x2, (.str [32])] h33) fun x34 h35 =>
 bnd (lenT a0 h35) fun x36 h37 =>
 bnd (lenT x34 h37) fun x38 h39 =>
 bnd (subF x36 x38 h39) fun x40 h41 =>
 some (.tup [x34, x40, (.bool true)], h41))
theorem k84 : FsOk Tryz.prog 84 (.shal s84) := fs0 1 32 d84 Tryz.func84 rfl (by kernel_rfl) (by kernel_rfl) (by kernel_rfl) (by kernel_rfl)
def d85 : List RV := [.cell 2 true 4, .t 3, .t 4, .t 5]
noncomputable def s85 : Call → List V → HP → RB := fun call l H => unc l fun a0 l0 => nilK l0 (
 bnd (alF 24 true 4 (.agg [(.int .i64 0), (.str []), (.str []), .zsl]) H) fun x0 h1 =>
 bnd (call (.f 121) [a0] h1) fun x2 h3 =>
 bnd (exF x2 0 h3) fun x4 h5 =>
 bnd (exF x2 1 h5) fun x6 h7 =>
 bnd (exF x2 2 h7) fun x8 h9 =>
 bnd (alF 24 true 4 (.agg [(.int .i64 0), (.str []), (.str []), .zsl]) h9) fun x10 h11 =>
 bnd (stA 4 x10 x4 h11) fun _ h13 =>
 bnd (call (.f 120) [x6, (.str [58])] h13) fun x14 h15 =>
 bnd (exF x14 0 h15) fun x16 h17 =>
 bnd (exF x14 1 h17) fun x18 h19 =>
 jn (fun J20 =>
 bnd (ntF x8 h19) fun x21 h22 =>
 jv (fun J23 => gdN x21 (J23 x18 h22) (J23 u0 h22)) fun x24 h25 =>
 jv (fun J26 => gdN x21 (bnd (ntF x24 h25) J26) (J26 u0 h25)) fun x27 h28 =>
 bnd (pkF x21 (.bool true) x27 h28) fun x29 h30 =>
 jv (fun J31 => gdN x29 (J31 x16 h30) (J31 u0 h30)) fun x32 h33 =>
 jv (fun J34 => gdN x29 (bnd (neT x32 (.str []) h33) J34) (J34 u0 h33)) fun x35 h36 =>
 jv (fun J37 => gdN x29 (J37 x35 h36) (J37 u0 h36)) fun x38 h39 =>
 jv (fun J40 => gdT x38 (J40 x16 h39) (J40 u0 h39)) fun x41 h42 =>
 jv (fun J43 => gdT x38 (bnd (ixF x41 (.int .i64 0) h42) J43) (J43 u0 h42)) fun x44 h45 =>
 jv (fun J46 => gdT x38 (bnd (neF x44 (.int .u8 32) h45) J46) (J46 u0 h45)) fun x47 h48 =>
 jv (fun J49 => gdN x29 (bnd (pkF x38 x47 (.bool false) h48) J49) (J49 u0 h48)) fun x50 h51 =>
 bnd (pkF x29 (.bool true) x50 h51) fun x52 h53 =>
 cnd x52
 (bnd (bdF [some (0, false, 1), some (1, false, 1), some (2, false, 1), some (3, false, 1)] (.agg [(.int .i64 0), (.str []), (.str []), .zsl]) [] h53) fun x54 h55 =>
 bnd (stA 4 x0 x54 h55) fun _ h57 =>
 bnd (ldA 4 x0 h57) fun r58 _ =>
 some (.tup [r58, (.str []), (.int .i64 0), (.bool false)], h57))
 (J20 [x8, x21, x21, x24, x27, x29, x29, x32, x35, x38, x41, x44, x47, x50, x52, u0, (.str []), (.int .i64 0), (.bool false)] h53)) fun c59 h60 =>
 bnd (call (.f 26) [x16, (.str [32])] h60) fun x61 h62 =>
 bnd (ldA 4 x10 h62) fun x63 h64 =>
 bnd (lenT a0 h64) fun x65 h66 =>
 bnd (lenT x61 h66) fun x67 h68 =>
 bnd (subF x65 x67 h68) fun x69 h70 =>
 bnd (stA 4 x0 x63 h70) fun _ h72 =>
 bnd (ldA 4 x0 h72) fun r73 _ =>
 some (.tup [r73, x61, x69, (.bool true)], h72))
theorem k85 : FsOk Tryz.prog 85 (.shal s85) := fs0 1 48 d85 Tryz.func85 rfl (by kernel_rfl) (by kernel_rfl) (by kernel_rfl) (by kernel_rfl)
def d86 : List RV := [.cell 4 true 4]
noncomputable def s86 : Call → List V → HP → RB := fun call l H => unc l fun a0 l0 => unc l0 fun a1 l1 => nilK l1 (
 bnd (bxA 154 6 a1 H) fun x0 h1 =>
 bnd (alF 24 true 4 (.agg [(.int .i64 0), (.str []), (.str []), .zsl]) h1) fun x2 h3 =>
 bnd (faF 0 x0 h3) fun x4 h5 =>
 bnd (ld1 x4 h5) fun x6 h7 =>
 bnd (call (.f 122) [x6] h7) fun x8 h9 =>
 bnd (exF x8 0 h9) fun x10 h11 =>
 bnd (exF x8 1 h11) fun x12 h13 =>
 bnd (alF 189 true 2 (.agg [(.str []), (.int .i64 0)]) h13) fun x14 h15 =>
 bnd (stA 2 x14 x10 h15) fun _ h17 =>
 jn (fun J18 =>
 bnd (eqT x12 (.str []) h17) fun x19 h20 =>
 jv (fun J21 => gdN x19 (J21 x12 h20) (J21 u0 h20)) fun x22 h23 =>
 jv (fun J24 => gdN x19 (bnd (ixF x22 (.int .i64 0) h23) J24) (J24 u0 h23)) fun x25 h26 =>
 jv (fun J27 => gdN x19 (bnd (eqF x25 (.int .u8 35) h26) J27) (J27 u0 h26)) fun x28 h29 =>
 bnd (pkF x19 (.bool true) x28 h29) fun x30 h31 =>
 cnd x30
 (bnd (ldA 6 x0 h31) fun x32 h33 =>
 bnd (ldA 2 x14 h33) fun x34 h35 =>
 bnd (call (.f 123) [a0, x32, x34] h35) fun x36 h37 =>
 bnd (stA 4 x2 x36 h37) fun _ h39 =>
 bnd (ldA 4 x2 h39) fun r40 _ =>
 some (r40, h39))
 (J18 [x12, x19, x19, x22, x25, x28, x30, u0, u0, u0, u0] h31)) fun c41 h42 =>
 jn (fun J43 =>
 bnd (call (.f 125) [x12] h42) fun x44 h45 =>
 bnd (call (.f 124) [x44] h45) fun x46 h47 =>
 bnd (exF x46 0 h47) fun x48 h49 =>
 bnd (exF x46 1 h49) fun x50 h51 =>
 bnd (alF 82 true 2 (.agg [(.bool false), (.int .i64 0)]) h51) fun x52 h53 =>
 bnd (stA 2 x52 x48 h53) fun _ h55 =>
 cnd x50
 (bnd (faF 4 x0 h55) fun x56 h57 =>
 bnd (ld1 x56 h57) fun x58 h59 =>
 bnd (faF 1 x0 h59) fun x60 h61 =>
 bnd (faF 0 x60 h61) fun x62 h63 =>
 bnd (ld1 x62 h63) fun x64 h65 =>
 bnd (ldA 2 x52 h65) fun x66 h67 =>
 bnd (call (.f 126) [x58, x64, x66] h67) fun x68 h69 =>
 bnd (exF x68 0 h69) fun x70 h71 =>
 bnd (exF x68 1 h71) fun x72 h73 =>
 bnd (exF x68 2 h73) fun x74 h75 =>
 bnd (alF 29 true 2 (.agg [(.int .i64 0), (.int .i64 0)]) h75) fun x76 h77 =>
 bnd (stA 2 x76 x74 h77) fun _ h79 =>
 jn (fun J80 =>
 bnd (ldA 2 x76 h79) fun x81 h82 =>
 bnd (bdF [some (0, false, 1), some (1, false, 1)] (.agg [(.int .i64 0), (.int .i64 0)]) [] h82) fun x83 h84 =>
 bnd (binB 0 (some [.int .i64, .int .i64]) .neq false x81 x83 h84) fun x85 h86 =>
 cnd x85
 (bnd (ldA 2 x76 h86) fun x87 h88 =>
 bnd (ncF a0 h88) fun x89 h90 =>
 bnd (faF 0 x89 h90) fun x91 h92 =>
 bnd (stA 2 x91 x87 h92) fun _ h94 =>
 bnd (bdF [some (0, false, 1), some (1, false, 1), some (2, false, 1), some (3, false, 1)] (.agg [(.int .i64 0), (.str []), (.str []), .zsl]) [] h94) fun x95 h96 =>
 bnd (stA 4 x2 x95 h96) fun _ h98 =>
 bnd (ldA 4 x2 h98) fun r99 _ =>
 some (r99, h98))
 (J80 [x81, x83, x85, u0, u0, u0, u0, u0] h86)) fun c100 h101 =>
 bnd (faF 4 x0 h101) fun x102 h103 =>
 bnd (ld1 x102 h103) fun x104 h105 =>
 bnd (sliceSlB 3 x104 (some x72) none none h105) fun x106 h107 =>
 bnd (call (.f 127) [a0, x106] h107) fun x108 h109 =>
 bnd (bdF [some (0, false, 1), some (1, false, 1), some (2, false, 1), some (3, false, 1)] (.agg [(.int .i64 0), (.str []), (.str []), .zsl]) [(0, (.int .i64 4)), (1, x70)] h109) fun x110 h111 =>
 bnd (ldA 2 x14 h111) fun x112 h113 =>
 bnd (faF 1 x0 h113) fun x114 h115 =>
 bnd (ldA 3 x114 h115) fun x116 h117 =>
 bnd (call (.f 128) [a0, x110, x112, x116] h117) fun x118 h119 =>
 bnd (stA 4 x2 x118 h119) fun _ h121 =>
 bnd (ldA 4 x2 h121) fun r122 _ =>
 some (r122, h121))
 (J43 [x12, x44, x46, x46, x48, x50, x52, x50, x50, u0, u0, u0, u0, u0, u0, u0, u0, u0, u0, u0, u0, u0, u0, u0, u0, u0, u0, u0, u0, u0, u0, u0, u0, u0, u0, u0, u0, u0, u0, u0, u0, u0, u0, u0] h55)) fun c123 h124 =>
 bnd (faF 0 x0 h124) fun x125 h126 =>
 bnd (ld1 x125 h126) fun x127 h128 =>
 bnd (faF 1 x0 h128) fun x129 h130 =>
 bnd (ldA 3 x129 h130) fun x131 h132 =>
 bnd (call (.f 129) [a0, x127, x131] h132) fun x133 h134 =>
 bnd (alF 24 true 4 (.agg [(.int .i64 0), (.str []), (.str []), .zsl]) h134) fun x135 h136 =>
 bnd (stA 4 x135 x133 h136) fun _ h138 =>
 bnd (faF 4 x0 h138) fun x139 h140 =>
 bnd (ld1 x139 h140) fun x141 h142 =>
 bnd (call (.f 127) [a0, x141] h142) fun x143 h144 =>
 bnd (ldA 4 x135 h144) fun x145 h146 =>
 bnd (stA 4 x2 x145 h146) fun _ h148 =>
 bnd (ldA 4 x2 h148) fun r149 _ =>
 some (r149, h148))
theorem k86 : FsOk Tryz.prog 86 (.shal s86) := fs0 2 80 d86 Tryz.func86 rfl (by kernel_rfl) (by kernel_rfl) (by kernel_rfl) (by kernel_rfl)
def d87 : List RV := [.t 4]
noncomputable def s87 : Call → List V → HP → RB := fun call l H => unc l fun a0 l0 => unc l0 fun a1 l1 => nilK l1 (
 bnd (bxA 154 6 a1 H) fun x0 h1 =>
 bnd (faF 1 x0 h1) fun x2 h3 =>
 bnd (faF 1 x2 h3) fun x4 h5 =>
 bnd (ld1 x4 h5) fun x6 h7 =>
 bnd (call (.f 85) [x6] h7) fun x8 h9 =>
 bnd (exF x8 0 h9) fun x10 h11 =>
 bnd (exF x8 1 h11) fun x12 h13 =>
 bnd (exF x8 2 h13) fun x14 h15 =>
 bnd (exF x8 3 h15) fun x16 h17 =>
 bnd (alF 24 true 4 (.agg [(.int .i64 0), (.str []), (.str []), .zsl]) h17) fun x18 h19 =>
 bnd (stA 4 x18 x10 h19) fun _ h21 =>
 jn (fun J22 =>
 bnd (ntF x16 h21) fun x23 h24 =>
 cnd x23
 (bnd (faF 1 x0 h24) fun x25 h26 =>
 bnd (ldA 3 x25 h26) fun x27 h28 =>
 bnd (call (.f 82) [a0, (.int .i64 3), x27] h28) fun x29 h30 =>
 some (.zsl, h30))
 (bnd (faF 1 x18 h24) fun x31 h32 =>
 bnd (ld1 x31 h32) fun x33 h34 =>
 bnd (lenT x33 h34) fun x35 h36 =>
 bnd (gtF x35 (.int .i64 256) h36) fun x37 h38 =>
 cnd x37
 (bnd (faF 1 x0 h38) fun x39 h40 =>
 bnd (ldA 3 x39 h40) fun x41 h42 =>
 bnd (call (.f 82) [a0, (.int .i64 5), x41] h42) fun x43 h44 =>
 some (.zsl, h44))
 (J22 [x16, x23, x23, u0, u0, u0, u0, x31, x33, x35, x37, x37, u0, u0, u0, u0, .zsl] h38))) fun c45 h46 =>
 bnd (faF 0 x0 h46) fun x47 h48 =>
 bnd (st2 x47 x12 h48) fun _ h50 =>
 bnd (ldA 4 x18 h50) fun x51 _ =>
 bnd (ldA 6 x0 h50) fun x52 _ =>
 bnd (noY call (.f 86) [a0, x52] h50) fun x53 h54 =>
 bnd (ldA 4 x18 h54) fun y56 _ => ifB (eqVF y56 x51) (
 bnd (buildSliceB true 4 2 [(0, x51), (1, x53)] h54) fun x55 _ =>
 some (x55, h54)))
theorem k87 : FsOk Tryz.prog 87 (.shal s87) := fs0 2 41 d87 Tryz.func87 rfl (by kernel_rfl) (by kernel_rfl) (by kernel_rfl) (by kernel_rfl)
def d88 : List RV := [.t 2]
noncomputable def s88 : Call → List V → HP → RB := fun call l H => unc l fun a0 l0 => nilK l0 (
 bnd (bxA 57 3 a0 H) fun x0 h1 =>
 bnd (faF 1 x0 h1) fun x2 h3 =>
 bnd (ld1 x2 h3) fun x4 h5 =>
 bnd (eqT x4 (.str []) h5) fun x6 h7 =>
 jv (fun J8 => gdN x6 (bnd (faF 1 x0 h7) J8) (J8 u0 h7)) fun x9 h10 =>
 jv (fun J11 => gdN x6 (bnd (ld1 x9 h10) J11) (J11 u0 h10)) fun x12 h13 =>
 jv (fun J14 => gdN x6 (bnd (ixF x12 (.int .i64 0) h13) J14) (J14 u0 h13)) fun x15 h16 =>
 jv (fun J17 => gdN x6 (bnd (eqF x15 (.int .u8 35) h16) J17) (J17 u0 h16)) fun x18 h19 =>
 bnd (pkF x6 (.bool true) x18 h19) fun x20 h21 =>
 some (x20, h21))
theorem k88 : FsOk Tryz.prog 88 (.shal s88) := fs0 1 12 d88 Tryz.func88 rfl (by kernel_rfl) (by kernel_rfl) (by kernel_rfl) (by kernel_rfl)
def d89 : List RV := []
noncomputable def s89 : Call → List V → HP → RB := fun call l H => unc l fun a0 l0 => unc l0 fun a1 l1 => nilK l1 (
 bnd (ncF a0 H) fun x0 h1 =>
 bnd (faF 1 x0 h1) fun x2 h3 =>
 bnd (ld1 x2 h3) fun x4 h5 =>
 bnd (slT1 x4 a1 h5) fun x6 h7 =>
 bnd (call (.f 26) [x6, (.str [32])] h7) fun x8 h9 =>
 bnd (ncF a0 h9) fun x10 h11 =>
 bnd (faF 1 x10 h11) fun x12 h13 =>
 bnd (st2 x12 x8 h13) fun _ h15 =>
 some (.tup [], h15))
theorem k89 : FsOk Tryz.prog 89 (.shal s89) := fs0 2 14 d89 Tryz.func89 rfl (by kernel_rfl) (by kernel_rfl) (by kernel_rfl) (by kernel_rfl)
def d90 : List RV := [.cell 4 true 3]
noncomputable def s90 : Call → List V → HP → RB := fun call l H => unc l fun a0 l0 => unc l0 fun a1 l1 => nilK l1 (
 bnd (alF 156 true 3 (.agg [(.str []), (.int .i64 0), (.int .i64 0)]) H) fun x0 h1 =>
 bnd (alF 156 true 3 (.agg [(.str []), (.int .i64 0), (.int .i64 0)]) h1) fun x2 h3 =>
 jn (fun J4 =>
 lpK (fun n5 c6 h7 =>
 jn (fun J8 =>
 bnd (call (.f 52) [a0] h7) fun x9 h10 =>
 cnd x9
 (J8 [a0, x9] h10)
 (J4 [a0, x9, (nthV c6 2), (nthV c6 3), (nthV c6 4), (nthV c6 5), (nthV c6 6), (nthV c6 7), (nthV c6 8), (nthV c6 9), (nthV c6 10), (nthV c6 11), (nthV c6 12), (nthV c6 13), (nthV c6 14), (nthV c6 15), (nthV c6 16), (nthV c6 17), (nthV c6 18), (nthV c6 19), (nthV c6 20), (nthV c6 21), (nthV c6 22), (nthV c6 23), (nthV c6 24), (nthV c6 25), (nthV c6 26), (nthV c6 27), (nthV c6 28), (nthV c6 29), (nthV c6 30), (nthV c6 31), (nthV c6 32), (nthV c6 33), (nthV c6 34), (nthV c6 35), (nthV c6 36), (nthV c6 37), (nthV c6 38), (nthV c6 39), (nthV c6 40), (nthV c6 41), (nthV c6 42), (nthV c6 43), (nthV c6 44), (nthV c6 45), (nthV c6 46), (nthV c6 47), (nthV c6 48), (nthV c6 49), (nthV c6 50), (nthV c6 51), (nthV c6 52), (nthV c6 53), (nthV c6 54), (nthV c6 55), (nthV c6 56), (nthV c6 57), (nthV c6 58), (nthV c6 59)] h10)) fun c11 h12 =>
 jn (fun J13 =>
 bnd (faF 0 x2 h12) fun x14 h15 =>
 bnd (ld1 x14 h15) fun x16 h17 =>
 bnd (eqT x16 (.str []) h17) fun x18 h19 =>
 jv (fun J20 => gdT x18 (J20 a0 h19) (J20 u0 h19)) fun x21 h22 =>
 jv (fun J23 => gdT x18 (bnd (call (.f 91) [x21, (.str [38])] h22) J23) (J23 u0 h22)) fun x24 h25 =>
 bnd (pkF x18 x24 (.bool false) h25) fun x26 h27 =>
 cnd x26
 (bnd (ncF a0 h27) fun x28 h29 =>
 bnd (faF 1 x28 h29) fun x30 h31 =>
 bnd (ld1 x30 h31) fun x32 h33 =>
 bnd (slT1 x32 (.int .i64 1) h33) fun x34 h35 =>
 bnd (ncF a0 h35) fun x36 h37 =>
 bnd (faF 1 x36 h37) fun x38 h39 =>
 bnd (st2 x38 x34 h39) fun _ h41 =>
 bnd (call (.f 93) [a0] h41) fun x42 h43 =>
 bnd (faF 0 x2 h43) fun x44 h45 =>
 bnd (st2 x44 x42 h45) fun _ h47 =>
 J13 [x14, x16, x18, x18, x21, x24, x26, x26, a0, a0, x28, x30, x32, x34, x36, x38, a0, x42, x44, (nthV c6 21), (nthV c6 22), (nthV c6 23), (nthV c6 24), (nthV c6 25), (nthV c6 26), (nthV c6 27), (nthV c6 28), (nthV c6 29), (nthV c6 30), (nthV c6 31), (nthV c6 32), (nthV c6 33), (nthV c6 34), (nthV c6 35)] h47)
 (bnd (faF 1 x2 h27) fun x48 h49 =>
 bnd (ld1 x48 h49) fun x50 h51 =>
 bnd (eqF x50 (.int .i64 0) h51) fun x52 h53 =>
 jv (fun J54 => gdT x52 (J54 a0 h53) (J54 u0 h53)) fun x55 h56 =>
 jv (fun J57 => gdT x52 (bnd (call (.f 91) [x55, (.str [33])] h56) J57) (J57 u0 h56)) fun x58 h59 =>
 bnd (pkF x52 x58 (.bool false) h59) fun x60 h61 =>
 cnd x60
 (bnd (call (.f 53) [a0] h61) fun x62 h63 =>
 bnd (faF 2 x2 h63) fun x64 h65 =>
 bnd (st2 x64 x62 h65) fun _ h67 =>
 bnd (call (.f 130) [a0] h67) fun x68 h69 =>
 bnd (faF 1 x2 h69) fun x70 h71 =>
 bnd (st2 x70 x68 h71) fun _ h73 =>
 J13 [x14, x16, x18, x18, x21, x24, x26, x26, (nthV c6 10), (nthV c6 11), (nthV c6 12), (nthV c6 13), (nthV c6 14), (nthV c6 15), (nthV c6 16), (nthV c6 17), (nthV c6 18), (nthV c6 19), (nthV c6 20), x48, x50, x52, x52, x55, x58, x60, x60, a0, x62, x64, a0, x68, x70, (nthV c6 35)] h73)
 (bnd (ldA 3 x2 h61) fun x74 h75 =>
 bnd (stA 3 x0 x74 h75) fun _ h77 =>
 bnd (ldA 3 x0 h77) fun r78 _ =>
 some (r78, h77)))) fun c79 h80 =>
 jn (fun J81 =>
 bnd (ncF a0 h80) fun x82 h83 =>
 bnd (faF 1 x82 h83) fun x84 h85 =>
 bnd (ld1 x84 h85) fun x86 h87 =>
 bnd (neT x86 (.str []) h87) fun x88 h89 =>
 jv (fun J90 => gdT x88 (J90 a0 h89) (J90 u0 h89)) fun x91 h92 =>
 jv (fun J93 => gdT x88 (bnd (call (.f 91) [x91, (.str [32])] h92) J93) (J93 u0 h92)) fun x94 h95 =>
 jv (fun J96 => gdT x88 (bnd (ntF x94 h95) J96) (J96 u0 h95)) fun x97 h98 =>
 bnd (pkF x88 x97 (.bool false) h98) fun x99 h100 =>
 jv (fun J101 => gdT x99 (J101 a1 h100) (J101 u0 h100)) fun x102 h103 =>
 jv (fun J104 => gdT x99 (J104 x102 h103) (J104 u0 h103)) fun x105 h106 =>
 jv (fun J107 => gdT x105 (J107 a0 h106) (J107 u0 h106)) fun x108 h109 =>
 jv (fun J110 => gdT x105 (bnd (call (.f 91) [x108, (.str [44, 91, 93, 123, 125])] h109) J110) (J110 u0 h109)) fun x111 h112 =>
 jv (fun J113 => gdT x99 (bnd (pkF x105 x111 (.bool false) h112) J113) (J113 u0 h112)) fun x114 h115 =>
 jv (fun J116 => gdT x99 (bnd (ntF x114 h115) J116) (J116 u0 h115)) fun x117 h118 =>
 bnd (pkF x99 x117 (.bool false) h118) fun x119 h120 =>
 cnd x119
 (bnd (call (.f 53) [a0] h120) fun x121 h122 =>
 bnd (call (.f 96) [a0, (.int .i64 3), x121] h122) fun x123 h124 =>
 J81 [a0, x82, x84, x86, x88, x88, x91, x94, x97, x99, x99, x102, x105, x108, x111, x114, x117, x119, a0, a0, x121, x123] h124)
 (J81 [a0, x82, x84, x86, x88, x88, x91, x94, x97, x99, x99, x102, x105, x108, x111, x114, x117, x119, (nthV c6 54), (nthV c6 55), (nthV c6 56), (nthV c6 57)] h120)) fun c125 h126 =>
 bnd (call (.f 89) [a0, (.int .i64 0)] h126) fun x127 h128 =>
 n5 [(nthV c11 0), (nthV c11 1), (nthV c79 0), (nthV c79 1), (nthV c79 2), (nthV c79 3), (nthV c79 4), (nthV c79 5), (nthV c79 6), (nthV c79 7), (nthV c79 8), (nthV c79 9), (nthV c79 10), (nthV c79 11), (nthV c79 12), (nthV c79 13), (nthV c79 14), (nthV c79 15), (nthV c79 16), (nthV c79 17), (nthV c79 18), (nthV c79 19), (nthV c79 20), (nthV c79 21), (nthV c79 22), (nthV c79 23), (nthV c79 24), (nthV c79 25), (nthV c79 26), (nthV c79 27), (nthV c79 28), (nthV c79 29), (nthV c79 30), (nthV c79 31), (nthV c79 32), (nthV c79 33), (nthV c125 0), (nthV c125 1), (nthV c125 2), (nthV c125 3), (nthV c125 4), (nthV c125 5), (nthV c125 6), (nthV c125 7), (nthV c125 8), (nthV c125 9), (nthV c125 10), (nthV c125 11), (nthV c125 12), (nthV c125 13), (nthV c125 14), (nthV c125 15), (nthV c125 16), (nthV c125 17), (nthV c125 18), (nthV c125 19), (nthV c125 20), (nthV c125 21), a0, x127] h128) [u0, u0, u0, u0, u0, u0, u0, u0, u0, u0, u0, u0, u0, u0, u0, u0, u0, u0, u0, u0, u0, u0, u0, u0, u0, u0, u0, u0, u0, u0, u0, u0, u0, u0, u0, u0, u0, u0, u0, u0, u0, u0, u0, u0, u0, u0, u0, u0, u0, u0, u0, u0, u0, u0, u0, u0, u0, u0, u0, u0] h3) fun c129 h130 =>
 bnd (ldA 3 x2 h130) fun x131 h132 =>
 bnd (stA 3 x0 x131 h132) fun _ h134 =>
 bnd (ldA 3 x0 h134) fun r135 _ =>
 some (r135, h134))
theorem k90 : FsOk Tryz.prog 90 (.shal s90) := fs0 2 67 d90 Tryz.func90 rfl (by kernel_rfl) (by kernel_rfl) (by kernel_rfl) (by kernel_rfl)
def d91 : List RV := [.t 4]
noncomputable def s91 : Call → List V → HP → RB := fun call l H => unc l fun a0 l0 => unc l0 fun a1 l1 => nilK l1 (
 bnd (call (.f 52) [a0] H) fun x0 h1 =>
 jv (fun J2 => gdT x0 (J2 a0 h1) (J2 u0 h1)) fun x3 h4 =>
 jv (fun J5 => gdT x0 (bnd (ncF x3 h4) J5) (J5 u0 h4)) fun x6 h7 =>
 jv (fun J8 => gdT x0 (bnd (faF 1 x6 h7) J8) (J8 u0 h7)) fun x9 h10 =>
 jv (fun J11 => gdT x0 (bnd (ld1 x9 h10) J11) (J11 u0 h10)) fun x12 h13 =>
 jv (fun J14 => gdT x0 (bnd (neT x12 (.str []) h13) J14) (J14 u0 h13)) fun x15 h16 =>
 bnd (pkF x0 x15 (.bool false) h16) fun x17 h18 =>
 jv (fun J19 => gdT x17 (J19 a1 h18) (J19 u0 h18)) fun x20 h21 =>
 jv (fun J22 => gdT x17 (J22 a0 h21) (J22 u0 h21)) fun x23 h24 =>
 jv (fun J25 => gdT x17 (bnd (ncF x23 h24) J25) (J25 u0 h24)) fun x26 h27 =>
 jv (fun J28 => gdT x17 (bnd (faF 1 x26 h27) J28) (J28 u0 h27)) fun x29 h30 =>
 jv (fun J31 => gdT x17 (bnd (ld1 x29 h30) J31) (J31 u0 h30)) fun x32 h33 =>
 jv (fun J34 => gdT x17 (bnd (ixF x32 (.int .i64 0) h33) J34) (J34 u0 h33)) fun x35 h36 =>
 jv (fun J37 => gdT x17 (bnd (call (.f 43) [x20, x35] h36) J37) (J37 u0 h36)) fun x38 h39 =>
 jv (fun J40 => gdT x17 (bnd (geF x38 (.int .i64 0) h39) J40) (J40 u0 h39)) fun x41 h42 =>
 bnd (pkF x17 x41 (.bool false) h42) fun x43 h44 =>
 some (x43, h44))
theorem k91 : FsOk Tryz.prog 91 (.shal s91) := fs0 2 24 d91 Tryz.func91 rfl (by kernel_rfl) (by kernel_rfl) (by kernel_rfl) (by kernel_rfl)
def d94 : List RV := [.t 4, .t 5]
noncomputable def s94 : Call → List V → HP → RB := fun call l H => unc l fun a0 l0 => unc l0 fun a1 l1 => nilK l1 (
 jn (fun J0 =>
 bnd (call (.f 52) [a0] H) fun x1 h2 =>
 bnd (ntF x1 h2) fun x3 h4 =>
 cnd x3
 (some (.tup [(.str []), (.bool false)], h4))
 (J0 [a0, x1, x3, (.str []), (.bool false)] h4)) fun c5 h6 =>
 jn (fun J7 =>
 bnd (call (.f 91) [a0, (.str [39, 34])] h6) fun x8 h9 =>
 cnd x8
 (bnd (ncF a0 h9) fun x10 h11 =>
 bnd (faF 1 x10 h11) fun x12 h13 =>
 bnd (ld1 x12 h13) fun x14 h15 =>
 bnd (call (.f 132) [x14] h15) fun x16 h17 =>
 bnd (exF x16 0 h17) fun x18 h19 =>
 bnd (exF x16 1 h19) fun x20 h21 =>
 bnd (exF x16 2 h21) fun x22 h23 =>
 bnd (alF 29 true 2 (.agg [(.int .i64 0), (.int .i64 0)]) h23) fun x24 h25 =>
 bnd (stA 2 x24 x22 h25) fun _ h27 =>
 bnd (ldA 2 x24 h27) fun x28 h29 =>
 bnd (call (.f 133) [a0, x28] h29) fun x30 h31 =>
 bnd (ncF a0 h31) fun x32 h33 =>
 bnd (faF 1 x32 h33) fun x34 h35 =>
 bnd (ld1 x34 h35) fun x36 h37 =>
 bnd (slT1 x36 x20 h37) fun x38 h39 =>
 bnd (ncF a0 h39) fun x40 h41 =>
 bnd (faF 1 x40 h41) fun x42 h43 =>
 bnd (st2 x42 x38 h43) fun _ h45 =>
 some (.tup [x18, (.bool true)], h45))
 (J7 [a0, x8, u0, u0, u0, u0, u0, u0, u0, u0, u0, u0, u0, u0, u0, u0, u0, u0, u0, u0, u0, u0, u0, u0, u0, u0, u0, (nthV c5 3), (nthV c5 4)] h9)) fun c46 h47 =>
 bnd (ncF a0 h47) fun x48 h49 =>
 bnd (faF 1 x48 h49) fun x50 h51 =>
 bnd (ld1 x50 h51) fun x52 h53 =>
 bnd (call (.f 134) [x52, a1] h53) fun x54 h55 =>
 bnd (exF x54 0 h55) fun x56 h57 =>
 bnd (exF x54 1 h57) fun x58 h59 =>
 jn (fun J60 =>
 bnd (neT x56 (.str []) h59) fun x61 h62 =>
 jv (fun J63 => gdT x61 (J63 x56 h62) (J63 u0 h62)) fun x64 h65 =>
 jv (fun J66 => gdT x61 (J66 a1 h65) (J66 u0 h65)) fun x67 h68 =>
 jv (fun J69 => gdT x61 (bnd (call (.f 109) [x64, x67] h68) J69) (J69 u0 h68)) fun x70 h71 =>
 jv (fun J72 => gdT x61 (bnd (ntF x70 h71) J72) (J72 u0 h71)) fun x73 h74 =>
 bnd (pkF x61 x73 (.bool false) h74) fun x75 h76 =>
 cnd x75
 (bnd (call (.f 92) [a0] h76) fun x77 h78 =>
 J60 [x56, x61, x61, x64, x67, x70, x73, x75, a0, x77] h78)
 (J60 [x56, x61, x61, x64, x67, x70, x73, x75, u0, u0] h76)) fun c79 h80 =>
 bnd (ncF a0 h80) fun x81 h82 =>
 bnd (faF 1 x81 h82) fun x83 h84 =>
 bnd (ld1 x83 h84) fun x85 h86 =>
 bnd (lenT x56 h86) fun x87 h88 =>
 bnd (slT1 x85 x87 h88) fun x89 h90 =>
 bnd (ncF a0 h90) fun x91 h92 =>
 bnd (faF 1 x91 h92) fun x93 h94 =>
 bnd (st2 x93 x89 h94) fun _ h96 =>
 some (.tup [x56, (.bool false)], h96))
theorem k94 : FsOk Tryz.prog 94 (.shal s94) := fs0 2 68 d94 Tryz.func94 rfl (by kernel_rfl) (by kernel_rfl) (by kernel_rfl) (by kernel_rfl)
def d95 : List RV := [.cell 8 true 4]
noncomputable def s95 : Call → List V → HP → RB := fun call l H => unc l fun a0 l0 => unc l0 fun a1 l1 => unc l1 fun a2 l2 => unc l2 fun a3 l3 => nilK l3 (
 bnd (bxA 156 3 a3 H) fun x0 h1 =>
 bnd (alF 24 true 4 (.agg [(.int .i64 0), (.str []), (.str []), .zsl]) h1) fun x2 h3 =>
 bnd (call (.f 104) [a1] h3) fun x4 h5 =>
 jn (fun J6 =>
 bnd (faF 1 x0 h5) fun x7 h8 =>
 bnd (ld1 x7 h8) fun x9 h10 =>
 bnd (eqF x9 (.int .i64 4) h10) fun x11 h12 =>
 cnd x11
 (J6 [x7, x9, x11, x11, u0, u0, u0, u0, u0, u0, u0, u0, u0, u0, u0, u0, u0, u0, u0, u0, u0, u0, u0, u0, u0, (.int .i64 4)] h12)
 (bnd (faF 1 x0 h12) fun x13 h14 =>
 bnd (ld1 x13 h14) fun x15 h16 =>
 bnd (neF x15 (.int .i64 0) h16) fun x17 h18 =>
 jv (fun J19 => gdT x17 (bnd (faF 1 x0 h18) J19) (J19 u0 h18)) fun x20 h21 =>
 jv (fun J22 => gdT x17 (bnd (ld1 x20 h21) J22) (J22 u0 h21)) fun x23 h24 =>
 jv (fun J25 => gdT x17 (J25 x4 h24) (J25 u0 h24)) fun x26 h27 =>
 jv (fun J28 => gdT x17 (bnd (neF x23 x26 h27) J28) (J28 u0 h27)) fun x29 h30 =>
 bnd (pkF x17 x29 (.bool false) h30) fun x31 h32 =>
 cnd x31
 (bnd (faF 2 x0 h32) fun x33 h34 =>
 bnd (ld1 x33 h34) fun x35 h36 =>
 bnd (call (.f 96) [a0, (.int .i64 12), x35] h36) fun x37 h38 =>
 J6 [x7, x9, x11, x11, x13, x15, x17, x17, x20, x23, x26, x29, x31, x31, a0, x33, x35, x37, u0, u0, u0, u0, u0, u0, u0, x4] h38)
 (bnd (faF 1 x0 h32) fun x39 h40 =>
 bnd (ld1 x39 h40) fun x41 h42 =>
 bnd (eqF x41 (.int .i64 0) h42) fun x43 h44 =>
 jv (fun J45 => gdT x43 (J45 a2 h44) (J45 u0 h44)) fun x46 h47 =>
 bnd (pkF x43 x46 (.bool false) h47) fun x48 h49 =>
 cnd x48
 (J6 [x7, x9, x11, x11, x13, x15, x17, x17, x20, x23, x26, x29, x31, x31, u0, u0, u0, u0, x39, x41, x43, x43, x46, x48, x48, (.int .i64 4)] h49)
 (J6 [x7, x9, x11, x11, x13, x15, x17, x17, x20, x23, x26, x29, x31, x31, u0, u0, u0, u0, x39, x41, x43, x43, x46, x48, x48, x4] h49)))) fun c50 h51 =>
 jn (fun J52 =>
 bnd (eqF (nthV c50 25) (.int .i64 1) h51) fun x53 h54 =>
 cnd x53
 (J52 [(nthV c50 25), x53, (.str [])] h54)
 (J52 [(nthV c50 25), x53, a1] h54)) fun c55 h56 =>
 bnd (faF 0 x0 h56) fun x57 h58 =>
 bnd (ld1 x57 h58) fun x59 h60 =>
 bnd (bdF [some (0, false, 1), some (1, false, 1), some (2, false, 1), some (3, false, 1)] (.agg [(.int .i64 0), (.str []), (.str []), .zsl]) [(0, (nthV c50 25)), (1, (nthV c55 2)), (2, x59)] h60) fun x61 h62 =>
 bnd (stA 4 x2 x61 h62) fun _ h64 =>
 bnd (ldA 4 x2 h64) fun r65 _ =>
 some (r65, h64))
theorem k95 : FsOk Tryz.prog 95 (.shal s95) := fs0 4 44 d95 Tryz.func95 rfl (by kernel_rfl) (by kernel_rfl) (by kernel_rfl) (by kernel_rfl)
def d97 : List RV := [.t 4]
noncomputable def s97 : Call → List V → HP → RB := fun call l H => unc l fun a0 l0 => unc l0 fun a1 l1 => nilK l1 (
 jn (fun J0 =>
 bnd (ncF a0 H) fun x1 h2 =>
 bnd (faF 1 x1 h2) fun x3 h4 =>
 bnd (ld1 x3 h4) fun x5 h6 =>
 bnd (eqT x5 (.str []) h6) fun x7 h8 =>
 jv (fun J9 => gdN x7 (J9 a0 h8) (J9 u0 h8)) fun x10 h11 =>
 jv (fun J12 => gdN x7 (bnd (call (.f 91) [x10, (.str [44])] h11) J12) (J12 u0 h11)) fun x13 h14 =>
 bnd (pkF x7 (.bool true) x13 h14) fun x15 h16 =>
 cnd x15
 (bnd (call (.f 92) [a0] h16) fun x17 h18 =>
 J0 [a0, x1, x3, x5, x7, x7, x10, x13, x15, a0, x17] h18)
 (J0 [a0, x1, x3, x5, x7, x7, x10, x13, x15, u0, u0] h16)) fun c19 h20 =>
 bnd (call (.f 51) [a0, (.bool true), a1] h20) fun x21 h22 =>
 bnd (boF 24 true 4 1 [x21] h22) fun x23 h24 =>
 some (x23, h24))
theorem k97 : FsOk Tryz.prog 97 (.shal s97) := fs0 2 20 d97 Tryz.func97 rfl (by kernel_rfl) (by kernel_rfl) (by kernel_rfl) (by kernel_rfl)
def d98 : List RV := [.t 4]
noncomputable def s98 : Call → List V → HP → RB := fun call l H => unc l fun a0 l0 => unc l0 fun a1 l1 => nilK l1 (
 bnd (call (.f 94) [a0, (.bool true)] H) fun x0 h1 =>
 bnd (exF x0 0 h1) fun x2 h3 =>
 bnd (exF x0 1 h3) fun x4 h5 =>
 jn (fun J6 =>
 bnd (eqT x2 (.str []) h5) fun x7 h8 =>
 jv (fun J9 => gdT x7 (J9 x4 h8) (J9 u0 h8)) fun x10 h11 =>
 jv (fun J12 => gdT x7 (bnd (ntF x10 h11) J12) (J12 u0 h11)) fun x13 h14 =>
 bnd (pkF x7 x13 (.bool false) h14) fun x15 h16 =>
 cnd x15
 (bnd (call (.f 92) [a0] h16) fun x17 h18 =>
 J6 [x2, x7, x7, x10, x13, x15, a0, x17] h18)
 (J6 [x2, x7, x7, x10, x13, x15, u0, u0] h16)) fun c19 h20 =>
 bnd (bdF [some (0, false, 1), some (1, false, 1), some (2, false, 1)] (.agg [(.str []), (.int .i64 0), (.int .i64 0)]) [] h20) fun x21 h22 =>
 bnd (call (.f 95) [a0, x2, x4, x21] h22) fun x23 h24 =>
 bnd (alF 24 true 4 (.agg [(.int .i64 0), (.str []), (.str []), .zsl]) h24) fun x25 h26 =>
 bnd (stA 4 x25 x23 h26) fun _ h28 =>
 bnd (call (.f 89) [a0, (.int .i64 0)] h28) fun x29 h30 =>
 jn (fun J31 =>
 bnd (call (.f 91) [a0, (.str [58])] h30) fun x32 h33 =>
 bnd (ntF x32 h33) fun x34 h35 =>
 jv (fun J36 => gdN x34 (J36 a0 h35) (J36 u0 h35)) fun x37 h38 =>
 jv (fun J39 => gdN x34 (bnd (ncF x37 h38) J39) (J39 u0 h38)) fun x40 h41 =>
 jv (fun J42 => gdN x34 (bnd (faF 1 x40 h41) J42) (J42 u0 h41)) fun x43 h44 =>
 jv (fun J45 => gdN x34 (bnd (ld1 x43 h44) J45) (J45 u0 h44)) fun x46 h47 =>
 jv (fun J48 => gdN x34 (bnd (lenT x46 h47) J48) (J48 u0 h47)) fun x49 h50 =>
 jv (fun J51 => gdN x34 (bnd (gtF x49 (.int .i64 1) h50) J51) (J51 u0 h50)) fun x52 h53 =>
 jv (fun J54 => gdN x34 (J54 x52 h53) (J54 u0 h53)) fun x55 h56 =>
 jv (fun J57 => gdT x55 (J57 a0 h56) (J57 u0 h56)) fun x58 h59 =>
 jv (fun J60 => gdT x55 (bnd (ncF x58 h59) J60) (J60 u0 h59)) fun x61 h62 =>
 jv (fun J63 => gdT x55 (bnd (faF 1 x61 h62) J63) (J63 u0 h62)) fun x64 h65 =>
 jv (fun J66 => gdT x55 (bnd (ld1 x64 h65) J66) (J66 u0 h65)) fun x67 h68 =>
 jv (fun J69 => gdT x55 (bnd (ixF x67 (.int .i64 1) h68) J69) (J69 u0 h68)) fun x70 h71 =>
 jv (fun J72 => gdT x55 (bnd (call (.f 43) [(.str [32, 44, 91, 93, 123, 125]), x70] h71) J72) (J72 u0 h71)) fun x73 h74 =>
 jv (fun J75 => gdT x55 (bnd (ltF x73 (.int .i64 0) h74) J75) (J75 u0 h74)) fun x76 h77 =>
 jv (fun J78 => gdN x34 (bnd (pkF x55 x76 (.bool false) h77) J78) (J78 u0 h77)) fun x79 h80 =>
 bnd (pkF x34 (.bool true) x79 h80) fun x81 h82 =>
 cnd x81
 (bnd (call (.f 92) [a0] h82) fun x83 h84 =>
 some (.zsl, h84))
 (J31 [a0, x32, x34, x34, x37, x40, x43, x46, x49, x52, x55, x58, x61, x64, x67, x70, x73, x76, x79, x81, u0, u0, .zsl] h82)) fun c85 h86 =>
 bnd (call (.f 89) [a0, (.int .i64 1)] h86) fun x87 h88 =>
 bnd (ldA 4 x25 h88) fun x89 _ =>
 bnd (noY call (.f 51) [a0, (.bool true), a1] h88) fun x90 h91 =>
 bnd (ldA 4 x25 h91) fun y93 _ => ifB (eqVF y93 x89) (
 bnd (buildSliceB true 4 2 [(0, x89), (1, x90)] h91) fun x92 _ =>
 some (x92, h91)))
theorem k98 : FsOk Tryz.prog 98 (.shal s98) := fs0 2 57 d98 Tryz.func98 rfl (by kernel_rfl) (by kernel_rfl) (by kernel_rfl) (by kernel_rfl)
def d99 : List RV := [.t 8]
noncomputable def s99 : Call → List V → HP → RB := fun call l H => unc l fun a0 l0 => unc l0 fun a1 l1 => unc l1 fun a2 l2 => unc l2 fun a3 l3 => nilK l3 (
 jn (fun J0 =>
 bnd (call (.f 89) [a0, (.int .i64 1)] H) fun x1 h2 =>
 lpK (fun n3 c4 h5 =>
 jn (fun J6 =>
 bnd (call (.f 52) [a0] h5) fun x7 h8 =>
 jv (fun J9 => gdT x7 (J9 a0 h8) (J9 u0 h8)) fun x10 h11 =>
 jv (fun J12 => gdT x7 (J12 a1 h11) (J12 u0 h11)) fun x13 h14 =>
 jv (fun J15 => gdT x7 (bnd (call (.f 91) [x10, x13] h14) J15) (J15 u0 h14)) fun x16 h17 =>
 jv (fun J18 => gdT x7 (bnd (ntF x16 h17) J18) (J18 u0 h17)) fun x19 h20 =>
 bnd (pkF x7 x19 (.bool false) h20) fun x21 h22 =>
 cnd x21
 (J6 [a0, x7, x7, x10, x13, x16, x19, x21] h22)
 (J0 [a0, x1, a0, x7, x7, x10, x13, x16, x19, x21, (nthV c4 8), (nthV c4 9), (nthV c4 10), (nthV c4 11), (nthV c4 12), (nthV c4 13), (nthV c4 14), (nthV c4 15), (nthV c4 16), (nthV c4 17), (nthV c4 18), (nthV c4 19), (nthV c4 20), (nthV c4 21), (nthV c4 22), (nthV c4 23), (nthV c4 24), (nthV c4 25)] h22)) fun c23 h24 =>
 cvK call a3 [a2] h24 fun x25 h26 =>
 bnd (orM (apF 24 true 4 64 (.agg [(.int .i64 0), (.str []), (.str []), .zsl]) (nthV c4 13) x25 h26) (orR (appendB 24 true 4 64 (.agg [(.int .i64 0), (.str []), (.str []), .zsl]) (nthV c4 13) x25 h26) (appInB 24 4 64 (nthV c4 13) x25 h26))) fun x27 h28 =>
 bnd (call (.f 89) [a0, (.int .i64 0)] h28) fun x29 h30 =>
 bnd (call (.f 91) [a0, (.str [44])] h30) fun x31 h32 =>
 cnd x31
 (bnd (call (.f 89) [a0, (.int .i64 1)] h32) fun x33 h34 =>
 n3 [(nthV c23 0), (nthV c23 1), (nthV c23 2), (nthV c23 3), (nthV c23 4), (nthV c23 5), (nthV c23 6), (nthV c23 7), (nthV c4 13), a3, a2, x25, x27, x27, a0, x29, a0, x31, a0, x33, (nthV c4 20), (nthV c4 21), (nthV c4 22), (nthV c4 23), (nthV c4 24), (nthV c4 25)] h34)
 (bnd (call (.f 91) [a0, a1] h32) fun x35 h36 =>
 bnd (ntF x35 h36) fun x37 h38 =>
 cnd x37
 (bnd (call (.f 92) [a0] h38) fun x39 h40 =>
 n3 [(nthV c23 0), (nthV c23 1), (nthV c23 2), (nthV c23 3), (nthV c23 4), (nthV c23 5), (nthV c23 6), (nthV c23 7), (nthV c4 13), a3, a2, x25, x27, x27, a0, x29, a0, x31, (nthV c4 18), (nthV c4 19), a0, a1, x35, x37, a0, x39] h40)
 (n3 [(nthV c23 0), (nthV c23 1), (nthV c23 2), (nthV c23 3), (nthV c23 4), (nthV c23 5), (nthV c23 6), (nthV c23 7), (nthV c4 13), a3, a2, x25, x27, x27, a0, x29, a0, x31, (nthV c4 18), (nthV c4 19), a0, a1, x35, x37, (nthV c4 24), (nthV c4 25)] h38))) [u0, u0, u0, u0, u0, u0, u0, u0, u0, u0, u0, u0, u0, .zsl, u0, u0, u0, u0, u0, u0, u0, u0, u0, u0, u0, u0] h2) fun c41 h42 =>
 jn (fun J43 =>
 bnd (call (.f 52) [a0] h42) fun x44 h45 =>
 cnd x44
 (bnd (ncF a0 h45) fun x46 h47 =>
 bnd (faF 1 x46 h47) fun x48 h49 =>
 bnd (ld1 x48 h49) fun x50 h51 =>
 bnd (slT1 x50 (.int .i64 1) h51) fun x52 h53 =>
 bnd (ncF a0 h53) fun x54 h55 =>
 bnd (faF 1 x54 h55) fun x56 h57 =>
 bnd (st2 x56 x52 h57) fun _ h59 =>
 J43 [a0, x44, a0, a0, x46, x48, x50, x52, x54, x56] h59)
 (J43 [a0, x44, u0, u0, u0, u0, u0, u0, u0, u0] h45)) fun c60 h61 =>
 some ((nthV c41 15), h61))
theorem k99 : FsOk Tryz.prog 99 (.shal s99) := fs0 4 48 d99 Tryz.func99 rfl (by kernel_rfl) (by kernel_rfl) (by kernel_rfl) (by kernel_rfl)
def d100 : List RV := [.t 4]
noncomputable def s100 : Call → List V → HP → RB := fun call l H => unc l fun a0 l0 => unc l0 fun a1 l1 => nilK l1 (
 bnd (ncF a0 H) fun x0 h1 =>
 bnd (iaF 256 1 x0 a1 h1) fun x2 h3 =>
 bnd (ld1 x2 h3) fun x4 h5 =>
 some (x4, h5))
theorem k100 : FsOk Tryz.prog 100 (.shal s100) := fs0 2 10 d100 Tryz.func100 rfl (by kernel_rfl) (by kernel_rfl) (by kernel_rfl) (by kernel_rfl)
def d101 : List RV := [.t 2, .t 3]
noncomputable def s101 : Call → List V → HP → RB := fun call l H => unc l fun a0 l0 => nilK l0 (
 jn (fun J0 =>
 bnd (neT a0 (.str []) H) fun x1 h2 =>
 jv (fun J3 => gdT x1 (J3 a0 h2) (J3 u0 h2)) fun x4 h5 =>
 jv (fun J6 => gdT x1 (bnd (ixF x4 (.int .i64 0) h5) J6) (J6 u0 h5)) fun x7 h8 =>
 jv (fun J9 => gdT x1 (bnd (ltF x7 (.int .u8 128) h8) J9) (J9 u0 h8)) fun x10 h11 =>
 bnd (pkF x1 x10 (.bool false) h11) fun x12 h13 =>
 cnd x12
 (bnd (ixF a0 (.int .i64 0) h13) fun x14 h15 =>
 bnd (cvF .i32 x14 h15) fun x16 h17 =>
 some (.tup [x16, (.int .i64 1)], h17))
 (bnd (call (.f 135) [a0] h13) fun x18 h19 =>
 bnd (exF x18 0 h19) fun x20 h21 =>
 bnd (exF x18 1 h21) fun x22 h23 =>
 J0 [a0, x1, x1, x4, x7, x10, x12, u0, u0, u0, a0, x18, x18, x20, x22, x20, x22] h23)) fun c24 h25 =>
 some (.tup [(nthV c24 15), (nthV c24 16)], h25))
theorem k101 : FsOk Tryz.prog 101 (.shal s101) := fs0 1 19 d101 Tryz.func101 rfl (by kernel_rfl) (by kernel_rfl) (by kernel_rfl) (by kernel_rfl)
def d103 : List RV := [.t 4]
noncomputable def s103 : Call → List V → HP → RB := fun call l H => unc l fun a0 l0 => unc l0 fun a1 l1 => nilK l1 (
 bnd (bxA 175 2 a1 H) fun x0 h1 =>
 bnd (ldA 2 x0 h1) fun x2 h3 =>
 bnd (lookupB ([.int .i64, .string], true) (.bool false) a0 x2 false h3) fun x4 h5 =>
 bnd (ldA 2 x0 h5) fun x6 h7 =>
 bnd (mapUpdateB ([.int .i64, .string], true) a0 x6 (.bool true) h7) fun _ h9 =>
 bnd (ntF x4 h9) fun x10 h11 =>
 some (x10, h11))
theorem k103 : FsOk Tryz.prog 103 (.shal s103) := fs0 2 13 d103 Tryz.func103 rfl (by kernel_rfl) (by kernel_rfl) (by kernel_rfl) (by kernel_rfl)
def d104 : List RV := [.t 2]
noncomputable def s104 : Call → List V → HP → RB := fun call l H => unc l fun a0 l0 => nilK l0 (
 jn (fun J0 =>
 jn (fun J1 =>
 bnd (eqT a0 (.str []) H) fun x2 h3 =>
 cnd x2
 (J1 [x2, u0, u0, x2] h3)
 (bnd (eqT a0 (.str [126]) h3) fun x4 h5 =>
 cnd x4
 (J1 [x2, x4, u0, x4] h5)
 (bnd (eqT a0 (.str [110, 117, 108, 108]) h5) fun x6 h7 =>
 J1 [x2, x4, x6, x6] h7))) fun c8 h9 =>
 cnd (nthV c8 3)
 (some ((.int .i64 1), h9))
 (jn (fun J10 =>
 bnd (eqT a0 (.str [116, 114, 117, 101]) h9) fun x11 h12 =>
 cnd x11
 (J10 [x11, u0, x11] h12)
 (bnd (eqT a0 (.str [102, 97, 108, 115, 101]) h12) fun x13 h14 =>
 J10 [x11, x13, x13] h14)) fun c15 h16 =>
 cnd (nthV c15 2)
 (some ((.int .i64 2), h16))
 (J0 [a0, (nthV c8 0), (nthV c8 1), (nthV c8 2), (nthV c8 3), (nthV c15 0), (nthV c15 1), (nthV c15 2), (.int .i64 0)] h16))) fun c17 h18 =>
 jn (fun J19 =>
 bnd (call (.f 137) [a0] h18) fun x20 h21 =>
 bnd (exF x20 0 h21) fun x22 h23 =>
 bnd (exF x20 1 h23) fun x24 h25 =>
 cnd x24
 (some ((.int .i64 3), h25))
 (J19 [a0, x20, x20, x22, x24, x22, x24, x24, (nthV c17 8)] h25)) fun c26 h27 =>
 some ((.int .i64 4), h27))
theorem k104 : FsOk Tryz.prog 104 (.shal s104) := fs0 1 19 d104 Tryz.func104 rfl (by kernel_rfl) (by kernel_rfl) (by kernel_rfl) (by kernel_rfl)
def d105 : List RV := [.t 2, .cell 3 true 2]
noncomputable def s105 : Call → List V → HP → RB := fun call l H => unc l fun a0 l0 => nilK l0 (
 bnd (alF 29 true 2 (.agg [(.int .i64 0), (.int .i64 0)]) H) fun x0 h1 =>
 bnd (alF 168 false 1 .zsl h1) fun x2 h3 =>
 bnd (some (.fn 138 [] [x2], h3)) fun x4 h5 =>
 bnd (call (.f 75) [a0, x4] h5) fun x6 h7 =>
 jn (fun J8 =>
 bnd (call (.f 74) [a0, x6] h7) fun x9 h10 =>
 bnd (alF 29 true 2 (.agg [(.int .i64 0), (.int .i64 0)]) h10) fun x11 h12 =>
 bnd (stA 2 x11 x9 h12) fun _ h14 =>
 bnd (ldA 2 x11 h14) fun x15 h16 =>
 bnd (bdF [some (0, false, 1), some (1, false, 1)] (.agg [(.int .i64 0), (.int .i64 0)]) [] h16) fun x17 h18 =>
 bnd (binB 0 (some [.int .i64, .int .i64]) .neq false x15 x17 h18) fun x19 h20 =>
 cnd x19
 (bnd (ldA 2 x11 h20) fun x21 _ =>
 bnd (stA 2 x0 x21 h20) fun _ h23 =>
 bnd (ldA 2 x0 h23) fun r24 _ =>
 some (.tup [.zsl, r24], h23))
 (J8 [a0, x6, x9, x11, x15, x17, x19, u0, .zsl] h20)) fun c25 h26 =>
 bnd (ld1 x2 h26) fun x27 h28 =>
 bnd (bdF [some (0, false, 1), some (1, false, 1)] (.agg [(.int .i64 0), (.int .i64 0)]) [] h28) fun x29 h30 =>
 bnd (stA 2 x0 x29 h30) fun _ h32 =>
 bnd (ldA 2 x0 h32) fun r33 _ =>
 some (.tup [x27, r33], h32))
theorem k105 : FsOk Tryz.prog 105 (.shal s105) := fs0 1 19 d105 Tryz.func105 rfl (by kernel_rfl) (by kernel_rfl) (by kernel_rfl) (by kernel_rfl)
def d106 : List RV := [.t 4]
noncomputable def s106 : Call → List V → HP → RB := fun call l H => unc l fun a0 l0 => unc l0 fun a1 l1 => nilK l1 (
 jn (fun J0 =>
 bnd (eqT a0 (.str []) H) fun x1 h2 =>
 jv (fun J3 => gdN x1 (J3 a1 h2) (J3 u0 h2)) fun x4 h5 =>
 jv (fun J6 => gdN x1 (bnd (eqT x4 (.str []) h5) J6) (J6 u0 h5)) fun x7 h8 =>
 bnd (pkF x1 (.bool true) x7 h8) fun x9 h10 =>
 cnd x9
 (some (a0, h10))
 (J0 [a0, x1, x1, x4, x7, x9, u0, (.str [])] h10)) fun c11 h12 =>
 jn (fun J13 =>
 bnd (lenT a1 h12) fun x14 h15 =>
 bnd (eqF x14 (.int .i64 1) h15) fun x16 h17 =>
 jv (fun J18 => gdT x16 (J18 a1 h17) (J18 u0 h17)) fun x19 h20 =>
 jv (fun J21 => gdT x16 (bnd (ixF x19 (.int .i64 0) h20) J21) (J21 u0 h20)) fun x22 h23 =>
 jv (fun J24 => gdT x16 (bnd (ltF x22 (.int .u8 128) h23) J24) (J24 u0 h23)) fun x25 h26 =>
 bnd (pkF x16 x25 (.bool false) h26) fun x27 h28 =>
 cnd x27
 (bnd (ixF a1 (.int .i64 0) h28) fun x29 _ =>
 bnd (noY call (.f 78) [a0, x29] h28) fun x30 h31 =>
 bnd (ixF a1 (.int .i64 0) h31) fun x32 _ =>
 bnd (noY call (.f 54) [x30, x32] h31) fun x33 h34 =>
 some (x33, h34))
 (J13 [a1, x14, x16, x16, x19, x22, x25, x27, u0, u0, u0, u0, u0, u0, u0, (nthV c11 7)] h28)) fun c35 h36 =>
 jn (fun J37 =>
 bnd (call (.f 55) [a1] h36) fun x38 h39 =>
 bnd (exF x38 0 h39) fun x40 h41 =>
 bnd (exF x38 1 h41) fun x42 h43 =>
 bnd (alF 115 true 256 (.agg [(.bool false), (.bool false), (.bool false), (.bool false), (.bool false), (.bool false), (.bool false), (.bool false), (.bool false), (.bool false), (.bool false), (.bool false), (.bool false), (.bool false), (.bool false), (.bool false), (.bool false), (.bool false), (.bool false), (.bool false), (.bool false), (.bool false), (.bool false), (.bool false), (.bool false), (.bool false), (.bool false), (.bool false), (.bool false), (.bool false), (.bool false), (.bool false), (.bool false), (.bool false), (.bool false), (.bool false), (.bool false), (.bool false), (.bool false), (.bool false), (.bool false), (.bool false), (.bool false), (.bool false), (.bool false), (.bool false), (.bool false), (.bool false), (.bool false), (.bool false), (.bool false), (.bool false), (.bool false), (.bool false), (.bool false), (.bool false), (.bool false), (.bool false), (.bool false), (.bool false), (.bool false), (.bool false), (.bool false), (.bool false), (.bool false), (.bool false), (.bool false), (.bool false), (.bool false), (.bool false), (.bool false), (.bool false), (.bool false), (.bool false), (.bool false), (.bool false), (.bool false), (.bool false), (.bool false), (.bool false), (.bool false), (.bool false), (.bool false), (.bool false), (.bool false), (.bool false), (.bool false), (.bool false), (.bool false), (.bool false), (.bool false), (.bool false), (.bool false), (.bool false), (.bool false), (.bool false), (.bool false), (.bool false), (.bool false), (.bool false), (.bool false), (.bool false), (.bool false), (.bool false), (.bool false), (.bool false), (.bool false), (.bool false), (.bool false), (.bool false), (.bool false), (.bool false), (.bool false), (.bool false), (.bool false), (.bool false), (.bool false), (.bool false), (.bool false), (.bool false), (.bool false), (.bool false), (.bool false), (.bool false), (.bool false), (.bool false), (.bool false), (.bool false), (.bool false), (.bool false), (.bool false), (.bool false), (.bool false), (.bool false), (.bool false), (.bool false), (.bool false), (.bool false), (.bool false), (.bool false), (.bool false), (.bool false), (.bool false), (.bool false), (.bool false), (.bool false), (.bool false), (.bool false), (.bool false), (.bool false), (.bool false), (.bool false), (.bool false), (.bool false), (.bool false), (.bool false), (.bool false), (.bool false), (.bool false), (.bool false), (.bool false), (.bool false), (.bool false), (.bool false), (.bool false), (.bool false), (.bool false), (.bool false), (.bool false), (.bool false), (.bool false), (.bool false), (.bool false), (.bool false), (.bool false), (.bool false), (.bool false), (.bool false), (.bool false), (.bool false), (.bool false), (.bool false), (.bool false), (.bool false), (.bool false), (.bool false), (.bool false), (.bool false), (.bool false), (.bool false), (.bool false), (.bool false), (.bool false), (.bool false), (.bool false), (.bool false), (.bool false), (.bool false), (.bool false), (.bool false), (.bool false), (.bool false), (.bool false), (.bool false), (.bool false), (.bool false), (.bool false), (.bool false), (.bool false), (.bool false), (.bool false), (.bool false), (.bool false), (.bool false), (.bool false), (.bool false), (.bool false), (.bool false), (.bool false), (.bool false), (.bool false), (.bool false), (.bool false), (.bool false), (.bool false), (.bool false), (.bool false), (.bool false), (.bool false), (.bool false), (.bool false), (.bool false), (.bool false), (.bool false), (.bool false), (.bool false), (.bool false), (.bool false), (.bool false), (.bool false), (.bool false), (.bool false), (.bool false), (.bool false), (.bool false), (.bool false), (.bool false), (.bool false), (.bool false), (.bool false), (.bool false), (.bool false), (.bool false), (.bool false), (.bool false), (.bool false)]) h43) fun x44 h45 =>
 bnd (stA 256 x44 x40 h45) fun _ h47 =>
 cnd x42
 (bnd (call (.f 79) [a0, x44] h47) fun x48 h49 =>
 bnd (call (.f 56) [x48, x44] h49) fun x50 h51 =>
 some (x50, h51))
 (J37 [a1, x38, x38, x40, x42, x44, x42, x42, u0, u0, u0, (nthV c35 15)] h47)) fun c52 h53 =>
 bnd (call (.f 80) [a0, a1] h53) fun x54 h55 =>
 bnd (call (.f 57) [x54, a1] h55) fun x56 h57 =>
 some (x56, h57))
theorem k106 : FsOk Tryz.prog 106 (.shal s106) := fs0 2 43 d106 Tryz.func106 rfl (by kernel_rfl) (by kernel_rfl) (by kernel_rfl) (by kernel_rfl)

end Go.Ab
end
