/- What alive answers, and the table with it. -/
import Derived.Test.YtgpopggboiphoaaGreatDoorK0
import Derived.Test.YtgpopggboiphoaaGreatDoorK1
import Derived.Test.YtgpopggboiphoaaGreatDoorK2
import Derived.Test.YtgpopggboiphoaaGreatDoorQ0
import Derived.Test.YtgpopggboiphoaaGreatDoorFun
set_option maxRecDepth 1000000
set_option linter.unusedVariables false
noncomputable section
namespace Go.Ab
open Go.Proofs

/-- The table, with the calls that are known. -/
def tab2 : Tab := ⟨fun f => match Nat.beq f 12 with
  | true => some (.spec (cutG ca0 ch0 cv0 cg0))
  | false => match Nat.beq f 14 with
    | true => some (.spec (cutG ca1 ch1 cv1 cg1))
    | false => match Nat.beq f 28 with
      | true => some (.spec (cutG ca2 ch2 cv2 cg2))
      | false => tb.get f, lpT⟩

theorem tab2_ok : TabOk Tryz.prog tab2 := by
  refine ⟨fun f fe h => ?_, lp_ok⟩
  simp only [tab2] at h
  split at h
  · rename_i hk; have hk := nbeq_iff.1 hk; subst hk; cases h; exact kc0
  · split at h
    · rename_i hk; have hk := nbeq_iff.1 hk; subst hk; cases h; exact kc1
    · split at h
      · rename_i hk; have hk := nbeq_iff.1 hk; subst hk; cases h; exact kc2
      · exact BT.get_ok tb tb_ok f fe h

theorem alive_ev : isTrue (exN tab2 100 (.g 10) [] hp0) = true := by kernel_rfl

/-- alive answers true. -/
theorem alive_spec : ∃ H', Spec Tryz.prog 10 [] [] (.bool true) H' := by
  have h := alive_ev
  unfold isTrue at h
  split at h
  · rename_i hp hr
    obtain ⟨H', _, hs⟩ := (exN_sound mixed tab2_ok 100).g _ _ _ _ _ hr [] (ofL_abs [])
    exact ⟨H', hs⟩
  · cases h
end Go.Ab
end
noncomputable section
namespace Go.Ab
open Go.Proofs

def trL (hp : HP) : List Ob := (List.range hp.n).map fun k => renO (newIx hp.n []) ((hp.get k).getD .dead)

/-- alive, whatever the heap. -/
def galive (args : List V) (hp : HP) : RB := match args with
  | [] => some (.bool true, ofL (trL hp))
  | _ => none

theorem galive_ok : FnOk Tryz.prog 10 (.spec galive) := by
  intro args hp v hp' hx H hh
  unfold galive at hx
  split at hx
  · cases hx
    refine ⟨trL hp, ofL_abs _, ?_⟩
    obtain ⟨Hl, hs⟩ := alive_spec
    have hk : KsOk 0 [] H.length := ⟨Nat.zero_le _, List.nodup_nil, by simp⟩
    have h1 := Spec.frame (H := H) (args := []) hk (by simpa [trimH, renL] using hs)
    have hle : H.length ≤ (putBack [] H Hl).length := by simp [putBack, setAll]
    have h2 := h1.trim (ks := []) ⟨hle, List.nodup_nil, by simp⟩
    have e1 : trimH H.length [] (putBack [] H Hl) = trL hp := by
      rw [trimH_range hle]
      simp only [List.append_nil, trL, hh.n]
      apply List.map_congr_left
      intro k hk
      have hlt : k < H.length := by simpa using hk
      rw [hh.get]
      simp [putBack, setAll, List.getD, List.getElem?_append_left hlt]
    rw [e1] at h2
    exact (show Spec Tryz.prog 10 [] H (.bool true) (trL hp) from h2).c
  · cases hx

def tq : BT := .node 8 (.code 12 c8 d8) (.node 5 (.code 29 c5 d5) (.node 4 (.code 89 c4 d4) (.node 3 (.code 88 c3 d3) .nil .nil) .nil) (.node 6 (.code 30 c6 d6) .nil .nil)) (.node 15 (.code 21 c15 d15) (.node 13 (.code 12 c13 d13) .nil .nil) (.node 17 (.code 57 c17 d17) (.node 16 (.code 42 c16 d16) .nil .nil) .nil))
end Go.Ab
end
