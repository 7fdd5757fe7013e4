/- The table says what is so. -/
import Derived.Test.YtgpopggboiphoaaGreatDoorTab
import Derived.Test.YtgpopggboiphoaaGreatDoorUse
import Derived.Test.YtgpopggboiphoaaGreatDoorEvl
set_option maxRecDepth 100000
set_option linter.unusedVariables false
noncomputable section
namespace Go.Ab
open Go.Proofs

theorem ok_nil {P : Program} : BT.nil.ok P := trivial
theorem ok_node {P : Program} {k : Nat} {fe : FE} {l r : BT} (h1 : FnOk P k fe) (h2 : l.ok P) (h3 : r.ok P) : (BT.node k fe l r).ok P := ⟨h1, h2, h3⟩

theorem k174 : FnOk Tryz.prog 174 (.ext 2) := ⟨Tryz.f174, Tryz.func174, rfl, by kernel_rfl, by kernel_rfl, Extern.MapsClone.clone, by kernel_rfl, rfl⟩
theorem k271 : FnOk Tryz.prog 271 (.ext 0) := ⟨Tryz.f271, Tryz.func271, rfl, by kernel_rfl, by kernel_rfl, Extern.AbiNoEscape.same, by kernel_rfl, rfl⟩
theorem k319 : FnOk Tryz.prog 319 (.ext 1) := ⟨Tryz.f319, Tryz.func319, rfl, by kernel_rfl, by kernel_rfl, Extern.BytealgIndexByte.indexByte, by kernel_rfl, rfl⟩

theorem tb_ok : tb.ok Tryz.prog := (ok_node k179 (ok_node k87 (ok_node k48 (ok_node k29 (ok_node k20 (ok_node k12 (ok_node k10 (ok_node k9 (ok_node k7 ok_nil ok_nil) ok_nil) (ok_node k11 ok_nil ok_nil)) (ok_node k18 (ok_node k14 ok_nil ok_nil) (ok_node k19 ok_nil ok_nil))) (ok_node k25 (ok_node k23 (ok_node k22 ok_nil ok_nil) (ok_node k24 ok_nil ok_nil)) (ok_node k27 (ok_node k26 ok_nil ok_nil) (ok_node k28 ok_nil ok_nil)))) (ok_node k37 (ok_node k33 (ok_node k31 (ok_node k30 ok_nil ok_nil) (ok_node k32 ok_nil ok_nil)) (ok_node k35 (ok_node k34 ok_nil ok_nil) (ok_node k36 ok_nil ok_nil))) (ok_node k44 (ok_node k39 (ok_node k38 ok_nil ok_nil) (ok_node k40 ok_nil ok_nil)) (ok_node k46 (ok_node k45 ok_nil ok_nil) (ok_node k47 ok_nil ok_nil))))) (ok_node k70 (ok_node k61 (ok_node k56 (ok_node k51 (ok_node k50 (ok_node k49 ok_nil ok_nil) ok_nil) (ok_node k52 ok_nil ok_nil)) (ok_node k58 (ok_node k57 ok_nil ok_nil) (ok_node k60 ok_nil ok_nil))) (ok_node k66 (ok_node k63 (ok_node k62 ok_nil ok_nil) (ok_node k65 ok_nil ok_nil)) (ok_node k68 (ok_node k67 ok_nil ok_nil) (ok_node k69 ok_nil ok_nil)))) (ok_node k79 (ok_node k74 (ok_node k72 (ok_node k71 ok_nil ok_nil) (ok_node k73 ok_nil ok_nil)) (ok_node k77 (ok_node k75 ok_nil ok_nil) (ok_node k78 ok_nil ok_nil))) (ok_node k83 (ok_node k81 (ok_node k80 ok_nil ok_nil) (ok_node k82 ok_nil ok_nil)) (ok_node k85 (ok_node k84 ok_nil ok_nil) (ok_node k86 ok_nil ok_nil)))))) (ok_node k136 (ok_node k116 (ok_node k106 (ok_node k102 (ok_node k90 (ok_node k89 (ok_node k88 ok_nil ok_nil) ok_nil) (ok_node k101 ok_nil ok_nil)) (ok_node k104 (ok_node k103 ok_nil ok_nil) (ok_node k105 ok_nil ok_nil))) (ok_node k111 (ok_node k109 (ok_node k108 ok_nil ok_nil) (ok_node k110 ok_nil ok_nil)) (ok_node k113 (ok_node k112 ok_nil ok_nil) (ok_node k115 ok_nil ok_nil)))) (ok_node k124 (ok_node k120 (ok_node k118 (ok_node k117 ok_nil ok_nil) (ok_node k119 ok_nil ok_nil)) (ok_node k122 (ok_node k121 ok_nil ok_nil) (ok_node k123 ok_nil ok_nil))) (ok_node k132 (ok_node k130 (ok_node k129 ok_nil ok_nil) (ok_node k131 ok_nil ok_nil)) (ok_node k134 (ok_node k133 ok_nil ok_nil) (ok_node k135 ok_nil ok_nil))))) (ok_node k163 (ok_node k151 (ok_node k146 (ok_node k142 (ok_node k138 (ok_node k137 ok_nil ok_nil) ok_nil) (ok_node k143 ok_nil ok_nil)) (ok_node k149 (ok_node k148 ok_nil ok_nil) (ok_node k150 ok_nil ok_nil))) (ok_node k159 (ok_node k153s (ok_node k152 ok_nil ok_nil) (ok_node k158 ok_nil ok_nil)) (ok_node k161 (ok_node k160 ok_nil ok_nil) (ok_node k162 ok_nil ok_nil)))) (ok_node k171 (ok_node k167 (ok_node k165 (ok_node k164 ok_nil ok_nil) (ok_node k166 ok_nil ok_nil)) (ok_node k169 (ok_node k168 ok_nil ok_nil) (ok_node k170 ok_nil ok_nil))) (ok_node k175 (ok_node k173 (ok_node k172 ok_nil ok_nil) (ok_node k174 ok_nil ok_nil)) (ok_node k177 (ok_node k176 ok_nil ok_nil) (ok_node k178 ok_nil ok_nil))))))) (ok_node k268 (ok_node k225 (ok_node k204 (ok_node k190 (ok_node k184 (ok_node k182 (ok_node k181 (ok_node k180 ok_nil ok_nil) ok_nil) (ok_node k183 ok_nil ok_nil)) (ok_node k186 (ok_node k185 ok_nil ok_nil) (ok_node k187 ok_nil ok_nil))) (ok_node k196 (ok_node k192 (ok_node k191 ok_nil ok_nil) (ok_node k193 ok_nil ok_nil)) (ok_node k202 (ok_node k201 ok_nil ok_nil) (ok_node k203 ok_nil ok_nil)))) (ok_node k213 (ok_node k209 (ok_node k207 (ok_node k206 ok_nil ok_nil) (ok_node k208 ok_nil ok_nil)) (ok_node k211 (ok_node k210 ok_nil ok_nil) (ok_node k212 ok_nil ok_nil))) (ok_node k219 (ok_node k215 (ok_node k214 ok_nil ok_nil) (ok_node k218 ok_nil ok_nil)) (ok_node k221 (ok_node k220 ok_nil ok_nil) (ok_node k222 ok_nil ok_nil))))) (ok_node k244 (ok_node k236 (ok_node k230 (ok_node k228 (ok_node k227 (ok_node k226 ok_nil ok_nil) ok_nil) (ok_node k229 ok_nil ok_nil)) (ok_node k232 (ok_node k231 ok_nil ok_nil) (ok_node k235 ok_nil ok_nil))) (ok_node k240 (ok_node k238 (ok_node k237 ok_nil ok_nil) (ok_node k239 ok_nil ok_nil)) (ok_node k242 (ok_node k241 ok_nil ok_nil) (ok_node k243 ok_nil ok_nil)))) (ok_node k256 (ok_node k252 (ok_node k250 (ok_node k246 ok_nil ok_nil) (ok_node k251 ok_nil ok_nil)) (ok_node k254 (ok_node k253 ok_nil ok_nil) (ok_node k255 ok_nil ok_nil))) (ok_node k263 (ok_node k260 (ok_node k257 ok_nil ok_nil) (ok_node k261 ok_nil ok_nil)) (ok_node k265 (ok_node k264 ok_nil ok_nil) (ok_node k266 ok_nil ok_nil)))))) (ok_node k322 (ok_node k290 (ok_node k281 (ok_node k275 (ok_node k271 (ok_node k270 (ok_node k269 ok_nil ok_nil) ok_nil) (ok_node k273 ok_nil ok_nil)) (ok_node k279 (ok_node k276 ok_nil ok_nil) (ok_node k280 ok_nil ok_nil))) (ok_node k285 (ok_node k283 (ok_node k282 ok_nil ok_nil) (ok_node k284 ok_nil ok_nil)) (ok_node k288 (ok_node k286 ok_nil ok_nil) (ok_node k289 ok_nil ok_nil)))) (ok_node k307 (ok_node k295 (ok_node k292 (ok_node k291 ok_nil ok_nil) (ok_node k293 ok_nil ok_nil)) (ok_node k298 (ok_node k297 ok_nil ok_nil) (ok_node k301 ok_nil ok_nil))) (ok_node k318 (ok_node k316 (ok_node k311 ok_nil ok_nil) (ok_node k317 ok_nil ok_nil)) (ok_node k320 (ok_node k319 ok_nil ok_nil) (ok_node k321 ok_nil ok_nil))))) (ok_node k358 (ok_node k345 (ok_node k326 (ok_node k324 (ok_node k323 ok_nil ok_nil) (ok_node k325 ok_nil ok_nil)) (ok_node k329 (ok_node k327 ok_nil ok_nil) (ok_node k331 ok_nil ok_nil))) (ok_node k351 (ok_node k347 (ok_node k346 ok_nil ok_nil) (ok_node k350 ok_nil ok_nil)) (ok_node k353 (ok_node k352 ok_nil ok_nil) (ok_node k354 ok_nil ok_nil)))) (ok_node k379 (ok_node k372 (ok_node k367 (ok_node k366 ok_nil ok_nil) (ok_node k368 ok_nil ok_nil)) (ok_node k374 (ok_node k373 ok_nil ok_nil) (ok_node k378 ok_nil ok_nil))) (ok_node k385 (ok_node k381 (ok_node k380 ok_nil ok_nil) (ok_node k384 ok_nil ok_nil)) (ok_node k423 (ok_node k416 ok_nil ok_nil) (ok_node k424 ok_nil ok_nil))))))))

theorem lp_ok (k : Nat) (ps : List Nat) (ca cb : CC) (h : lpT k = some (ps, ca, cb)) : ∃ x y, Env.codeOf k = some (ps.toArray, x, y) ∧ ca = ccX Tryz.prog 0 none x ∧ cb = ccX Tryz.prog 0 none y := by
  unfold lpT at h
  split at h
  · rename_i hk
    have hk := nbeq_iff.1 hk
    subst hk
    cases h
    exact ⟨_, _, rfl, by kernel_rfl, by kernel_rfl⟩
  · split at h
    · rename_i hk
      have hk := nbeq_iff.1 hk
      subst hk
      cases h
      exact ⟨_, _, rfl, by kernel_rfl, by kernel_rfl⟩
    · cases h

theorem tab_ok : TabOk Tryz.prog tabT := ⟨fun f fe h => BT.get_ok tb tb_ok f fe h, lp_ok⟩
end Go.Ab
end
