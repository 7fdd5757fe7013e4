/- The table of functions. -/
import Derived.Test.YteemapgpedcbkaaGreatDoorP0
import Derived.Test.YteemapgpedcbkaaGreatDoorP1
import Derived.Test.YteemapgpedcbkaaGreatDoorP2
import Derived.Test.YteemapgpedcbkaaGreatDoorLoops
set_option maxRecDepth 1000000
set_option linter.unusedVariables false
set_option linter.unusedSectionVars false
set_option linter.unusedSimpArgs false
noncomputable section
namespace Go.Ab
open Go.Proofs

inductive BS where
  | nil
  | node (k : Nat) (s : FS) (l r : BS)
noncomputable def BS.get : BS → Nat → Option FS := @BS.rec (fun _ => Nat → Option FS) (fun _ => none) (fun k s _ _ ihl ihr f => @Bool.rec (fun _ => Option FS) (@Bool.rec (fun _ => Option FS) (ihr f) (ihl f) (Nat.blt f k)) (some s) (Nat.beq f k))
def BS.ok (P : Program) : BS → Prop
  | .nil => True
  | .node k s l r => FsOk P k s ∧ l.ok P ∧ r.ok P
theorem BS.get_ok {P : Program} : ∀ (t : BS), t.ok P → ∀ f s, t.get f = some s → FsOk P f s
  | .nil, _, f, s, h => by cases h
  | .node k x l r, ⟨h1, h2, h3⟩, f, s, h => by
    replace h : @Bool.rec (fun _ => Option FS) (@Bool.rec (fun _ => Option FS) (r.get f) (l.get f) (Nat.blt f k)) (some x) (Nat.beq f k) = some s := h
    cases hb : Nat.beq f k with
    | true =>
      rw [hb] at h
      cases h
      rw [nbeq_iff.1 hb]; exact h1
    | false =>
      rw [hb] at h
      cases hc : Nat.blt f k with
      | true => rw [hc] at h; exact BS.get_ok l h2 f s h
      | false => rw [hc] at h; exact BS.get_ok r h3 f s h
theorem bs_nil {P : Program} : BS.nil.ok P := trivial
theorem bs_node {P : Program} {k : Nat} {s : FS} {l r : BS} (h1 : FsOk P k s) (h2 : l.ok P) (h3 : r.ok P) : (BS.node k s l r).ok P := ⟨h1, h2, h3⟩
theorem k66 : FnOk Tryz.prog 66 (.ext 0) := ⟨Tryz.f66, Tryz.func66, rfl, by kernel_rfl, by kernel_rfl, Extern.AbiNoEscape.same, by kernel_rfl, rfl⟩
theorem k116 : FnOk Tryz.prog 116 (.ext 1) := ⟨Tryz.f116, Tryz.func116, rfl, by kernel_rfl, by kernel_rfl, Extern.BytealgIndexByte.indexByte, by kernel_rfl, rfl⟩

def lpT (k : Nat) : Option (List Nat × CC × CC) := match Nat.beq k 10 with
  | true => some (p10, x10, y10)
  | false => match Nat.beq k 41 with
  | true => some (p41, x41, y41)
  | false => none
theorem lp_ok (k : Nat) (ps : List Nat) (ca cb : CC) (h : lpT k = some (ps, ca, cb)) : ∃ x y, Env.codeOf k = some (ps.toArray, x, y) ∧ ca = ccX Tryz.prog 0 none x ∧ cb = ccX Tryz.prog 0 none y := by
  unfold lpT at h
  split at h
  · rename_i hk
    have hk := nbeq_iff.1 hk
    subst hk
    cases h
    exact ⟨_, _, rfl, by kernel_rfl, by kernel_rfl⟩
  · split at h
    · rename_i hk
      have hk := nbeq_iff.1 hk
      subst hk
      cases h
      exact ⟨_, _, rfl, by kernel_rfl, by kernel_rfl⟩
    · cases h
def tb : BS := (.node 78 (.shal s78) (.node 38 (.shal s38) (.node 19 (.shal s19) (.node 11 (.shal s11) (.node 7 (.shal s7) (.node 5 (.shal s5) (.node 4 (.shal s4) (.node 3 (.shal s3) .nil .nil) .nil) (.node 6 (.shal s6) .nil .nil)) (.node 9 (.shal s9) (.node 8 (.shal s8) .nil .nil) (.node 10 (.old (.code 63 c10 d10)) .nil .nil))) (.node 15 (.shal s15) (.node 13 (.shal s13) (.node 12 (.shal s12) .nil .nil) (.node 14 (.shal s14) .nil .nil)) (.node 17 (.shal s17) (.node 16 (.shal s16) .nil .nil) (.node 18 (.shal s18) .nil .nil)))) (.node 28 (.shal s28) (.node 24 (.shal s24) (.node 22 (.shal s22) (.node 21 (.shal s21) (.node 20 (.shal s20) .nil .nil) .nil) (.node 23 (.shal s23) .nil .nil)) (.node 26 (.shal s26) (.node 25 (.shal s25) .nil .nil) (.node 27 (.shal s27) .nil .nil))) (.node 34 (.shal s34) (.node 30 (.shal s30) (.node 29 (.shal s29) .nil .nil) (.node 33 (.shal s33) .nil .nil)) (.node 36 (.shal s36) (.node 35 (.shal s35) .nil .nil) (.node 37 (.shal s37) .nil .nil))))) (.node 58 (.shal s58) (.node 49 (.shal s49) (.node 45 (.shal s45) (.node 43 (.shal s43) (.node 42 (.shal s42) (.node 41 (.old (.code 23 c41 d41)) .nil .nil) .nil) (.node 44 (.shal s44) .nil .nil)) (.node 47 (.shal s47) (.node 46 (.shal s46) .nil .nil) (.node 48 (.shal s48) .nil .nil))) (.node 53 (.shal s53) (.node 51 (.shal s51) (.node 50 (.shal s50) .nil .nil) (.node 52 (.shal s52) .nil .nil)) (.node 55 (.shal s55) (.node 54 (.shal s54) .nil .nil) (.node 56 (.shal s56) .nil .nil)))) (.node 69 (.shal s69) (.node 64 (.shal s64) (.node 61 (.shal s61) (.node 60 (.shal s60) (.node 59 (.shal s59) .nil .nil) .nil) (.node 63 (.shal s63) .nil .nil)) (.node 66 (.old (.ext 0)) (.node 65 (.shal s65) .nil .nil) (.node 68 (.shal s68) .nil .nil))) (.node 74 (.shal s74) (.node 72 (.shal s72) (.node 71 (.shal s71) .nil .nil) (.node 73 (.shal s73) .nil .nil)) (.node 76 (.shal s76) (.node 75 (.shal s75) .nil .nil) (.node 77 (.shal s77) .nil .nil)))))) (.node 123 (.shal s123) (.node 100 (.shal s100) (.node 89 (.shal s89) (.node 85 (.shal s85) (.node 83 (.shal s83) (.node 81 (.shal s81) (.node 79 (.shal s79) .nil .nil) .nil) (.node 84 (.shal s84) .nil .nil)) (.node 87 (.shal s87) (.node 86 (.shal s86) .nil .nil) (.node 88 (.shal s88) .nil .nil))) (.node 95 (.shal s95) (.node 91 (.shal s91) (.node 90 (.shal s90) .nil .nil) (.node 94 (.shal s94) .nil .nil)) (.node 98 (.shal s98) (.node 97 (.shal s97) .nil .nil) (.node 99 (.shal s99) .nil .nil)))) (.node 114 (.shal s114) (.node 106 (.shal s106) (.node 104 (.shal s104) (.node 103 (.shal s103) (.node 101 (.shal s101) .nil .nil) .nil) (.node 105 (.shal s105) .nil .nil)) (.node 112 (.shal s112) (.node 109 (.shal s109) .nil .nil) (.node 113 (.shal s113) .nil .nil))) (.node 119 (.shal s119) (.node 116 (.old (.ext 1)) (.node 115 (.shal s115) .nil .nil) (.node 118 (.shal s118) .nil .nil)) (.node 121 (.shal s121) (.node 120 (.shal s120) .nil .nil) (.node 122 (.shal s122) .nil .nil))))) (.node 159 (.shal s159) (.node 140 (.shal s140) (.node 129 (.shal s129) (.node 127 (.shal s127) (.node 125 (.shal s125) (.node 124 (.shal s124) .nil .nil) .nil) (.node 128 (.shal s128) .nil .nil)) (.node 137 (.shal s137) (.node 134 (.shal s134) .nil .nil) (.node 138 (.shal s138) .nil .nil))) (.node 146 (.shal s146) (.node 142 (.shal s142) (.node 141 (.shal s141) .nil .nil) (.node 145 (.shal s145) .nil .nil)) (.node 148 (.shal s148) (.node 147 (.shal s147) .nil .nil) (.node 158 (.shal s158) .nil .nil)))) (.node 184 (.shal s184) (.node 175 (.shal s175) (.node 164 (.shal s164) (.node 163 (.shal s163) .nil .nil) (.node 169 (.shal s169) .nil .nil)) (.node 177 (.shal s177) (.node 176 (.shal s176) .nil .nil) (.node 180 (.shal s180) .nil .nil))) (.node 193 (.shal s193) (.node 189 (.shal s189) (.node 185 (.shal s185) .nil .nil) (.node 192 (.shal s192) .nil .nil)) (.node 197 (.shal s197) (.node 194 (.shal s194) .nil .nil) (.node 201 (.shal s201) .nil .nil)))))))
theorem tb_ok : tb.ok Tryz.prog := (bs_node k78 (bs_node k38 (bs_node k19 (bs_node k11 (bs_node k7 (bs_node k5 (bs_node k4 (bs_node k3 bs_nil bs_nil) bs_nil) (bs_node k6 bs_nil bs_nil)) (bs_node k9 (bs_node k8 bs_nil bs_nil) (bs_node k10 bs_nil bs_nil))) (bs_node k15 (bs_node k13 (bs_node k12 bs_nil bs_nil) (bs_node k14 bs_nil bs_nil)) (bs_node k17 (bs_node k16 bs_nil bs_nil) (bs_node k18 bs_nil bs_nil)))) (bs_node k28 (bs_node k24 (bs_node k22 (bs_node k21 (bs_node k20 bs_nil bs_nil) bs_nil) (bs_node k23 bs_nil bs_nil)) (bs_node k26 (bs_node k25 bs_nil bs_nil) (bs_node k27 bs_nil bs_nil))) (bs_node k34 (bs_node k30 (bs_node k29 bs_nil bs_nil) (bs_node k33 bs_nil bs_nil)) (bs_node k36 (bs_node k35 bs_nil bs_nil) (bs_node k37 bs_nil bs_nil))))) (bs_node k58 (bs_node k49 (bs_node k45 (bs_node k43 (bs_node k42 (bs_node k41 bs_nil bs_nil) bs_nil) (bs_node k44 bs_nil bs_nil)) (bs_node k47 (bs_node k46 bs_nil bs_nil) (bs_node k48 bs_nil bs_nil))) (bs_node k53 (bs_node k51 (bs_node k50 bs_nil bs_nil) (bs_node k52 bs_nil bs_nil)) (bs_node k55 (bs_node k54 bs_nil bs_nil) (bs_node k56 bs_nil bs_nil)))) (bs_node k69 (bs_node k64 (bs_node k61 (bs_node k60 (bs_node k59 bs_nil bs_nil) bs_nil) (bs_node k63 bs_nil bs_nil)) (bs_node k66 (bs_node k65 bs_nil bs_nil) (bs_node k68 bs_nil bs_nil))) (bs_node k74 (bs_node k72 (bs_node k71 bs_nil bs_nil) (bs_node k73 bs_nil bs_nil)) (bs_node k76 (bs_node k75 bs_nil bs_nil) (bs_node k77 bs_nil bs_nil)))))) (bs_node k123 (bs_node k100 (bs_node k89 (bs_node k85 (bs_node k83 (bs_node k81 (bs_node k79 bs_nil bs_nil) bs_nil) (bs_node k84 bs_nil bs_nil)) (bs_node k87 (bs_node k86 bs_nil bs_nil) (bs_node k88 bs_nil bs_nil))) (bs_node k95 (bs_node k91 (bs_node k90 bs_nil bs_nil) (bs_node k94 bs_nil bs_nil)) (bs_node k98 (bs_node k97 bs_nil bs_nil) (bs_node k99 bs_nil bs_nil)))) (bs_node k114 (bs_node k106 (bs_node k104 (bs_node k103 (bs_node k101 bs_nil bs_nil) bs_nil) (bs_node k105 bs_nil bs_nil)) (bs_node k112 (bs_node k109 bs_nil bs_nil) (bs_node k113 bs_nil bs_nil))) (bs_node k119 (bs_node k116 (bs_node k115 bs_nil bs_nil) (bs_node k118 bs_nil bs_nil)) (bs_node k121 (bs_node k120 bs_nil bs_nil) (bs_node k122 bs_nil bs_nil))))) (bs_node k159 (bs_node k140 (bs_node k129 (bs_node k127 (bs_node k125 (bs_node k124 bs_nil bs_nil) bs_nil) (bs_node k128 bs_nil bs_nil)) (bs_node k137 (bs_node k134 bs_nil bs_nil) (bs_node k138 bs_nil bs_nil))) (bs_node k146 (bs_node k142 (bs_node k141 bs_nil bs_nil) (bs_node k145 bs_nil bs_nil)) (bs_node k148 (bs_node k147 bs_nil bs_nil) (bs_node k158 bs_nil bs_nil)))) (bs_node k184 (bs_node k175 (bs_node k164 (bs_node k163 bs_nil bs_nil) (bs_node k169 bs_nil bs_nil)) (bs_node k177 (bs_node k176 bs_nil bs_nil) (bs_node k180 bs_nil bs_nil))) (bs_node k193 (bs_node k189 (bs_node k185 bs_nil bs_nil) (bs_node k192 bs_nil bs_nil)) (bs_node k197 (bs_node k194 bs_nil bs_nil) (bs_node k201 bs_nil bs_nil)))))))
def hp0 : HP := ⟨.nil, 0⟩
def isTrue : RB → Bool
  | some (.bool true, _) => true
  | _ => false
theorem tabS_ok : TabS Tryz.prog tb.get lpT := ⟨fun f s h => BS.get_ok tb tb_ok f s h, lp_ok⟩
end Go.Ab
end
