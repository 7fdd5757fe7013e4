/- The table of functions. -/
import Derived.Test.YtgpopggboiphoaaGreatDoorP0
import Derived.Test.YtgpopggboiphoaaGreatDoorP1
import Derived.Test.YtgpopggboiphoaaGreatDoorP2
import Derived.Test.YtgpopggboiphoaaGreatDoorP3
import Derived.Test.YtgpopggboiphoaaGreatDoorP4
import Derived.Test.YtgpopggboiphoaaGreatDoorP5
set_option maxRecDepth 100000
set_option linter.unusedVariables false
noncomputable section
namespace Go.Ab
open Go.Proofs

inductive BT where
  | nil
  | node (k : Nat) (fe : FE) (l r : BT)

def BT.get : BT → Nat → Option FE
  | .nil, _ => none
  | .node k fe l r, f => match Nat.beq f k with
    | true => some fe
    | false => match Nat.blt f k with
      | true => l.get f
      | false => r.get f

def BT.ok (P : Program) : BT → Prop
  | .nil => True
  | .node k fe l r => FnOk P k fe ∧ l.ok P ∧ r.ok P

theorem BT.get_ok {P : Program} : ∀ (t : BT), t.ok P → ∀ f fe, t.get f = some fe → FnOk P f fe
  | .nil, _, f, fe, h => by cases h
  | .node k x l r, ⟨h1, h2, h3⟩, f, fe, h => by
    simp only [BT.get] at h
    split at h
    · rename_i hk
      have hk := nbeq_iff.1 hk
      cases h
      rw [hk]; exact h1
    · split at h
      · exact BT.get_ok l h2 f fe h
      · exact BT.get_ok r h3 f fe h

/-- (disk.names).used, of one file. -/
def usedB (args : List V) (H : HP) : RB := match args with
  | [.mp r] => match H.get r with
    | some (.mp [(_, p)]) => match nilCheckB p H, fieldAddrB 0 p H with
      | some _, some (q, _) => match loadB false 1 q H with
        | some (x, _) => match lenB 1 x H with
          | some (.int .i64 n, _) => some (.int .i64 (IntKind.i64.wrap (0 + n)), H)
          | _ => none
        | none => none
      | _, _ => none
    | _ => none
  | _ => none
def p129 : List Nat := [25, 26]
def x129 : CC := .seq (.reg [⟨(some 7), none, .op (oMv (.t 25))⟩])
  (.reg [⟨(some 8), none, .op (oMv (.t 26))⟩])
def y129 : CC := .block 1 (.seq (.seq (.reg [⟨(some 27), none, .op (oLd false 1 (.t 6))⟩, ⟨(some 28), none, .op (oLen 1 (.t 27))⟩, ⟨(some 29), none, .op (oBn 0 none .eql true (.t 28) (.c (.int .i64 64)))⟩])
  (.cond (.t 29)
   (.seq (.drw [0, 0, 2, 7, 15, 31, 63, 0, 255] [⟨0, 1, ⟨(some 30), none, .op (oLd false 1 (.t 4))⟩⟩, ⟨1, 0, ⟨(some 31), none, .op (oMv (.t 7))⟩⟩, ⟨2, 0, ⟨(some 32), none, .op (oBn 0 none .sub true (.t 31) (.c (.int .i64 1)))⟩⟩, ⟨3, 1, ⟨(some 33), none, .op (oIa 3 (.t 30) (.t 32))⟩⟩, ⟨4, 0, ⟨(some 34), none, .op (oFa 2 (.t 33))⟩⟩, ⟨5, 1, ⟨(some 35), none, .op (oLd false 1 (.t 34))⟩⟩, ⟨6, 0, ⟨(some 36), none, .op (oBd [some (0, false, 1), some (1, false, 1)] (.agg [(.int .i64 0), (.int .i64 0)]) [(0, (.c (.int .i64 5))), (1, (.t 35))])⟩⟩, ⟨7, 2, ⟨none, none, .op (oSt false 1 (.t 2) (.c .zsl))⟩⟩, ⟨8, 2, ⟨none, none, .op (oSt true 2 (.t 3) (.t 36))⟩⟩])
   (.ret))
   (.skip)))
  (.reg [⟨(some 37), none, .op (oLd false 1 (.t 6))⟩, ⟨(some 38), none, .op (oMv (.t 8))⟩, ⟨(some 39), none, .op (oBs 199 false 1 1 [(0, (.t 38))])⟩, ⟨(some 40), none, .op (oOr (oAp 199 false 1 24 .zsl (.t 37) (.t 39)) (oAi 199 1 24 (.t 37) (.t 39)))⟩, ⟨none, none, .op (oSt false 1 (.t 6) (.t 40))⟩]))
def p235 : List Nat := [9]
def x235 : CC := .reg [⟨(some 4), none, .op (oMv (.t 9))⟩]
def y235 : CC := .block 1 (.seq (.seq (.reg [⟨(some 11), none, .op (oMv (.t 4))⟩, ⟨(some 12), none, .call 280 [(.t 11), (.c (.str [10]))]⟩, ⟨(some 10), none, .op (oMv (.t 12))⟩, ⟨(some 13), none, .op (oEx (.t 10) 0)⟩, ⟨(some 14), none, .op (oEx (.t 10) 1)⟩, ⟨(some 5), none, .op (oMv (.t 13))⟩, ⟨(some 6), none, .op (oMv (.t 14))⟩])
  (.seq (.reg [⟨(some 15), none, .op (oMv (.t 6))⟩])
  (.cond (.t 15)
   (.reg [⟨(some 16), none, .op (oMv (.t 5))⟩, ⟨(some 17), none, .call 281 [(.t 16), (.c (.str [13]))]⟩, ⟨(some 4), none, .op (oMv (.t 17))⟩])
   (.skip))))
  (.reg [⟨(some 18), none, .op (oLd false 1 (.t 3))⟩, ⟨(some 19), none, .op (oMv (.t 4))⟩, ⟨(some 20), none, .op (oBs 9 false 1 1 [(0, (.t 19))])⟩, ⟨(some 21), none, .op (oOr (oAp 9 false 1 16 (.str []) (.t 18) (.t 20)) (oAi 9 1 16 (.t 18) (.t 20)))⟩, ⟨none, none, .op (oSt false 1 (.t 3) (.t 21))⟩]))

def lpT (k : Nat) : Option (List Nat × CC × CC) := match Nat.beq k 129 with
  | true => some (p129, x129, y129)
  | false => match Nat.beq k 235 with
    | true => some (p235, x235, y235)
    | false => none

def tb : BT := (.node 179 (.code 58 c179 d179) (.node 87 (.code 9 c87 d87) (.node 48 (.code 69 c48 d48) (.node 29 (.code 37 c29 d29) (.node 20 (.code 18 c20 d20) (.node 12 (.code 59 c12 d12) (.node 10 (.code 93 c10 d10) (.node 9 (.code 76 c9 d9) (.node 7 (.code 11 c7 d7) .nil .nil) .nil) (.node 11 (.code 53 c11 d11) .nil .nil)) (.node 18 (.code 69 c18 d18) (.node 14 (.code 80 c14 d14) .nil .nil) (.node 19 (.code 12 c19 d19) .nil .nil))) (.node 25 (.code 40 c25 d25) (.node 23 (.code 28 c23 d23) (.node 22 (.code 8 c22 d22) .nil .nil) (.node 24 (.code 9 c24 d24) .nil .nil)) (.node 27 (.code 101 c27 d27) (.node 26 (.code 57 c26 d26) .nil .nil) (.node 28 (.code 71 c28 d28) .nil .nil)))) (.node 37 (.code 15 c37 d37) (.node 33 (.code 13 c33 d33) (.node 31 (.code 15 c31 d31) (.node 30 (.code 4 c30 d30) .nil .nil) (.node 32 (.code 5 c32 d32) .nil .nil)) (.node 35 (.code 24 c35 d35) (.node 34 (.code 60 c34 d34) .nil .nil) (.node 36 (.code 19 c36 d36) .nil .nil))) (.node 44 (.code 49 c44 d44) (.node 39 (.code 51 c39 d39) (.node 38 (.code 64 c38 d38) .nil .nil) (.node 40 (.code 19 c40 d40) .nil .nil)) (.node 46 (.code 19 c46 d46) (.node 45 (.code 26 c45 d45) .nil .nil) (.node 47 (.code 8 c47 d47) .nil .nil))))) (.node 70 (.code 42 c70 d70) (.node 61 (.code 4 c61 d61) (.node 56 (.code 26 c56 d56) (.node 51 (.code 8 c51 d51) (.node 50 (.code 8 c50 d50) (.node 49 (.code 21 c49 d49) .nil .nil) .nil) (.node 52 (.code 22 c52 d52) .nil .nil)) (.node 58 (.code 98 c58 d58) (.node 57 (.code 18 c57 d57) .nil .nil) (.node 60 (.code 18 c60 d60) .nil .nil))) (.node 66 (.code 15 c66 d66) (.node 63 (.code 34 c63 d63) (.node 62 (.code 34 c62 d62) .nil .nil) (.node 65 (.code 33 c65 d65) .nil .nil)) (.node 68 (.code 56 c68 d68) (.node 67 (.code 20 c67 d67) .nil .nil) (.node 69 (.code 4 c69 d69) .nil .nil)))) (.node 79 (.code 31 c79 d79) (.node 74 (.code 107 c74 d74) (.node 72 (.code 29 c72 d72) (.node 71 (.code 16 c71 d71) .nil .nil) (.node 73 (.code 41 c73 d73) .nil .nil)) (.node 77 (.code 12 c77 d77) (.node 75 (.code 12 c75 d75) .nil .nil) (.node 78 (.code 56 c78 d78) .nil .nil))) (.node 83 (.code 14 c83 d83) (.node 81 (.code 5 c81 d81) (.node 80 (.code 5 c80 d80) .nil .nil) (.node 82 (.code 11 c82 d82) .nil .nil)) (.node 85 (.code 18 c85 d85) (.node 84 (.code 5 c84 d84) .nil .nil) (.node 86 (.code 53 c86 d86) .nil .nil)))))) (.node 136 (.code 15 c136 d136) (.node 116 (.code 28 c116 d116) (.node 106 (.code 49 c106 d106) (.node 102 (.code 80 c102 d102) (.node 90 (.code 29 c90 d90) (.node 89 (.code 7 c89 d89) (.node 88 (.code 45 c88 d88) .nil .nil) .nil) (.node 101 (.code 52 c101 d101) .nil .nil)) (.node 104 (.code 106 c104 d104) (.node 103 (.code 36 c103 d103) .nil .nil) (.node 105 (.code 34 c105 d105) .nil .nil))) (.node 111 (.code 22 c111 d111) (.node 109 (.code 21 c109 d109) (.node 108 (.code 82 c108 d108) .nil .nil) (.node 110 (.code 24 c110 d110) .nil .nil)) (.node 113 (.code 27 c113 d113) (.node 112 (.code 8 c112 d112) .nil .nil) (.node 115 (.code 18 c115 d115) .nil .nil)))) (.node 124 (.code 26 c124 d124) (.node 120 (.code 17 c120 d120) (.node 118 (.code 7 c118 d118) (.node 117 (.code 9 c117 d117) .nil .nil) (.node 119 (.code 19 c119 d119) .nil .nil)) (.node 122 (.code 15 c122 d122) (.node 121 (.code 30 c121 d121) .nil .nil) (.node 123 (.code 7 c123 d123) .nil .nil))) (.node 132 (.code 13 c132 d132) (.node 130 (.code 18 c130 d130) (.node 129 (.code 63 c129 d129) .nil .nil) (.node 131 (.code 31 c131 d131) .nil .nil)) (.node 134 (.code 9 c134 d134) (.node 133 (.code 3 c133 d133) .nil .nil) (.node 135 (.code 6 c135 d135) .nil .nil))))) (.node 163 (.code 42 c163 d163) (.node 151 (.code 5 c151 d151) (.node 146 (.code 95 c146 d146) (.node 142 (.code 21 c142 d142) (.node 138 (.code 49 c138 d138) (.node 137 (.code 25 c137 d137) .nil .nil) .nil) (.node 143 (.code 15 c143 d143) .nil .nil)) (.node 149 (.code 75 c149 d149) (.node 148 (.code 23 c148 d148) .nil .nil) (.node 150 (.code 26 c150 d150) .nil .nil))) (.node 159 (.code 82 c159 d159) (.node 153 (.spec usedB) (.node 152 (.code 19 c152 d152) .nil .nil) (.node 158 (.code 97 c158 d158) .nil .nil)) (.node 161 (.code 125 c161 d161) (.node 160 (.code 52 c160 d160) .nil .nil) (.node 162 (.code 14 c162 d162) .nil .nil)))) (.node 171 (.code 125 c171 d171) (.node 167 (.code 90 c167 d167) (.node 165 (.code 9 c165 d165) (.node 164 (.code 8 c164 d164) .nil .nil) (.node 166 (.code 32 c166 d166) .nil .nil)) (.node 169 (.code 81 c169 d169) (.node 168 (.code 5 c168 d168) .nil .nil) (.node 170 (.code 19 c170 d170) .nil .nil))) (.node 175 (.code 27 c175 d175) (.node 173 (.code 14 c173 d173) (.node 172 (.code 17 c172 d172) .nil .nil) (.node 174 (.ext 2) .nil .nil)) (.node 177 (.code 43 c177 d177) (.node 176 (.code 119 c176 d176) .nil .nil) (.node 178 (.code 56 c178 d178) .nil .nil))))))) (.node 268 (.code 37 c268 d268) (.node 225 (.code 24 c225 d225) (.node 204 (.code 8 c204 d204) (.node 190 (.code 9 c190 d190) (.node 184 (.code 32 c184 d184) (.node 182 (.code 77 c182 d182) (.node 181 (.code 38 c181 d181) (.node 180 (.code 4 c180 d180) .nil .nil) .nil) (.node 183 (.code 43 c183 d183) .nil .nil)) (.node 186 (.code 12 c186 d186) (.node 185 (.code 19 c185 d185) .nil .nil) (.node 187 (.code 17 c187 d187) .nil .nil))) (.node 196 (.code 19 c196 d196) (.node 192 (.code 45 c192 d192) (.node 191 (.code 27 c191 d191) .nil .nil) (.node 193 (.code 11 c193 d193) .nil .nil)) (.node 202 (.code 5 c202 d202) (.node 201 (.code 16 c201 d201) .nil .nil) (.node 203 (.code 37 c203 d203) .nil .nil)))) (.node 213 (.code 117 c213 d213) (.node 209 (.code 9 c209 d209) (.node 207 (.code 9 c207 d207) (.node 206 (.code 82 c206 d206) .nil .nil) (.node 208 (.code 25 c208 d208) .nil .nil)) (.node 211 (.code 17 c211 d211) (.node 210 (.code 45 c210 d210) .nil .nil) (.node 212 (.code 19 c212 d212) .nil .nil))) (.node 219 (.code 18 c219 d219) (.node 215 (.code 25 c215 d215) (.node 214 (.code 21 c214 d214) .nil .nil) (.node 218 (.code 16 c218 d218) .nil .nil)) (.node 221 (.code 20 c221 d221) (.node 220 (.code 11 c220 d220) .nil .nil) (.node 222 (.code 30 c222 d222) .nil .nil))))) (.node 244 (.code 129 c244 d244) (.node 236 (.code 7 c236 d236) (.node 230 (.code 21 c230 d230) (.node 228 (.code 17 c228 d228) (.node 227 (.code 13 c227 d227) (.node 226 (.code 29 c226 d226) .nil .nil) .nil) (.node 229 (.code 23 c229 d229) .nil .nil)) (.node 232 (.code 22 c232 d232) (.node 231 (.code 16 c231 d231) .nil .nil) (.node 235 (.code 23 c235 d235) .nil .nil))) (.node 240 (.code 19 c240 d240) (.node 238 (.code 37 c238 d238) (.node 237 (.code 8 c237 d237) .nil .nil) (.node 239 (.code 43 c239 d239) .nil .nil)) (.node 242 (.code 9 c242 d242) (.node 241 (.code 11 c241 d241) .nil .nil) (.node 243 (.code 12 c243 d243) .nil .nil)))) (.node 256 (.code 18 c256 d256) (.node 252 (.code 24 c252 d252) (.node 250 (.code 72 c250 d250) (.node 246 (.code 11 c246 d246) .nil .nil) (.node 251 (.code 32 c251 d251) .nil .nil)) (.node 254 (.code 19 c254 d254) (.node 253 (.code 26 c253 d253) .nil .nil) (.node 255 (.code 19 c255 d255) .nil .nil))) (.node 263 (.code 13 c263 d263) (.node 260 (.code 54 c260 d260) (.node 257 (.code 32 c257 d257) .nil .nil) (.node 261 (.code 18 c261 d261) .nil .nil)) (.node 265 (.code 27 c265 d265) (.node 264 (.code 60 c264 d264) .nil .nil) (.node 266 (.code 9 c266 d266) .nil .nil)))))) (.node 322 (.code 11 c322 d322) (.node 290 (.code 48 c290 d290) (.node 281 (.code 8 c281 d281) (.node 275 (.code 10 c275 d275) (.node 271 (.ext 0) (.node 270 (.code 8 c270 d270) (.node 269 (.code 13 c269 d269) .nil .nil) .nil) (.node 273 (.code 51 c273 d273) .nil .nil)) (.node 279 (.code 4 c279 d279) (.node 276 (.code 19 c276 d276) .nil .nil) (.node 280 (.code 11 c280 d280) .nil .nil))) (.node 285 (.code 8 c285 d285) (.node 283 (.code 27 c283 d283) (.node 282 (.code 12 c282 d282) .nil .nil) (.node 284 (.code 42 c284 d284) .nil .nil)) (.node 288 (.code 75 c288 d288) (.node 286 (.code 11 c286 d286) .nil .nil) (.node 289 (.code 32 c289 d289) .nil .nil)))) (.node 307 (.code 21 c307 d307) (.node 295 (.code 18 c295 d295) (.node 292 (.code 41 c292 d292) (.node 291 (.code 80 c291 d291) .nil .nil) (.node 293 (.code 12 c293 d293) .nil .nil)) (.node 298 (.code 90 c298 d298) (.node 297 (.code 10 c297 d297) .nil .nil) (.node 301 (.code 15 c301 d301) .nil .nil))) (.node 318 (.code 16 c318 d318) (.node 316 (.code 25 c316 d316) (.node 311 (.code 64 c311 d311) .nil .nil) (.node 317 (.code 18 c317 d317) .nil .nil)) (.node 320 (.code 6 c320 d320) (.node 319 (.ext 1) .nil .nil) (.node 321 (.code 36 c321 d321) .nil .nil))))) (.node 358 (.code 33 c358 d358) (.node 345 (.code 21 c345 d345) (.node 326 (.code 25 c326 d326) (.node 324 (.code 53 c324 d324) (.node 323 (.code 51 c323 d323) .nil .nil) (.node 325 (.code 60 c325 d325) .nil .nil)) (.node 329 (.code 14 c329 d329) (.node 327 (.code 37 c327 d327) .nil .nil) (.node 331 (.code 45 c331 d331) .nil .nil))) (.node 351 (.code 15 c351 d351) (.node 347 (.code 20 c347 d347) (.node 346 (.code 17 c346 d346) .nil .nil) (.node 350 (.code 27 c350 d350) .nil .nil)) (.node 353 (.code 13 c353 d353) (.node 352 (.code 15 c352 d352) .nil .nil) (.node 354 (.code 19 c354 d354) .nil .nil)))) (.node 379 (.code 14 c379 d379) (.node 372 (.code 92 c372 d372) (.node 367 (.code 32 c367 d367) (.node 366 (.code 16 c366 d366) .nil .nil) (.node 368 (.code 23 c368 d368) .nil .nil)) (.node 374 (.code 13 c374 d374) (.node 373 (.code 9 c373 d373) .nil .nil) (.node 378 (.code 143 c378 d378) .nil .nil))) (.node 385 (.code 44 c385 d385) (.node 381 (.code 24 c381 d381) (.node 380 (.code 67 c380 d380) .nil .nil) (.node 384 (.code 68 c384 d384) .nil .nil)) (.node 423 (.code 25 c423 d423) (.node 416 (.code 5 c416 d416) .nil .nil) (.node 424 (.code 28 c424 d424) .nil .nil))))))))
def tabT : Tab := ⟨tb.get, lpT⟩
def hp0 : HP := ⟨.nil, 0⟩
def isTrue : RB → Bool
  | some (.bool true, _) => true
  | _ => false
end Go.Ab
end
