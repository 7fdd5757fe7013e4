/- The statement's body, kind by kind. -/
import Derived.Test.YtgpopggboiphoaaGreatDoorAlive
set_option maxRecDepth 1000000
set_option linter.unusedVariables false
noncomputable section
namespace Go.Ab
open Go.Proofs

def tab3 : Tab := ⟨fun f => match Nat.beq f 10 with
  | true => some (.spec galive)
  | false => match tq.get f with
    | some fe => some fe
    | none => tb.get f, lpT⟩

theorem tab3_ok : TabOk Tryz.prog tab3 := by
  refine ⟨fun f fe h => ?_, lp_ok⟩
  simp only [tab3] at h
  split at h
  · rename_i hk; have hk := nbeq_iff.1 hk; subst hk; cases h; exact galive_ok
  · split at h
    · rename_i fe' hq
      cases h
      have tq_ok : tq.ok Tryz.prog := ok_node k8 (ok_node k5 (ok_node k4 (ok_node k3 ok_nil ok_nil) ok_nil) (ok_node k6 ok_nil ok_nil)) (ok_node k15 (ok_node k13 ok_nil ok_nil) (ok_node k17 (ok_node k16 ok_nil ok_nil) ok_nil))
      exact BT.get_ok tq tq_ok f _ hq
    · exact BT.get_ok tb tb_ok f fe h

def argV (k : Int) : V := .agg [.int .u8 k, .opq, .opq, .opq, .opq, .opq, .opq, .opq, .opq, .opq, .opq]

def evB (k : Nat) : Bool := isTrue (exN tab3 100 (.g 3) [argV (.ofNat k)] hp0)

/-- From k on, so many kinds. -/
def evs (F : Nat → Bool) : Nat → Nat → Bool
  | 0, _ => true
  | m + 1, k => F k && evs F m (k + 1)

theorem evs_spec {F : Nat → Bool} : ∀ (m k : Nat), evs F m k = true → ∀ j, k ≤ j → j < k + m → F j = true
  | 0, k, _, j, h1, h2 => by omega
  | m + 1, k, h, j, h1, h2 => by
    simp only [evs, Bool.and_eq_true] at h
    rcases Nat.eq_or_lt_of_le h1 with rfl | h1
    · exact h.1
    · exact evs_spec m (k + 1) h.2 j h1 (by omega)

theorem ev0 : evs evB 32 0 = true := by kernel_rfl
theorem ev1 : evs evB 32 32 = true := by kernel_rfl
theorem ev2 : evs evB 32 64 = true := by kernel_rfl
theorem ev3 : evs evB 32 96 = true := by kernel_rfl
theorem ev4 : evs evB 32 128 = true := by kernel_rfl
theorem ev5 : evs evB 32 160 = true := by kernel_rfl
theorem ev6 : evs evB 32 192 = true := by kernel_rfl
theorem ev7 : evs evB 32 224 = true := by kernel_rfl

theorem ev_all (k : Nat) (h : k < 256) : evB k = true := by
  rcases Nat.lt_or_ge k 32 with h1 | h1
  · exact evs_spec _ _ ev0 k (by omega) (by omega)
  rcases Nat.lt_or_ge k 64 with h2 | h2
  · exact evs_spec _ _ ev1 k (by omega) (by omega)
  rcases Nat.lt_or_ge k 96 with h3 | h3
  · exact evs_spec _ _ ev2 k (by omega) (by omega)
  rcases Nat.lt_or_ge k 128 with h4 | h4
  · exact evs_spec _ _ ev3 k (by omega) (by omega)
  rcases Nat.lt_or_ge k 160 with h5 | h5
  · exact evs_spec _ _ ev4 k (by omega) (by omega)
  rcases Nat.lt_or_ge k 192 with h6 | h6
  · exact evs_spec _ _ ev5 k (by omega) (by omega)
  rcases Nat.lt_or_ge k 224 with h7 | h7
  · exact evs_spec _ _ ev6 k (by omega) (by omega)
  · exact evs_spec _ _ ev7 k (by omega) (by omega)

/-- The statement's body answers true, whatever the kind. -/
theorem nobody_spec (k : Nat) (h : k < 256) : ∃ H', Spec Tryz.prog 3 [argV (.ofNat k)] [] (.bool true) H' := by
  have h := ev_all k h
  unfold evB isTrue at h
  split at h
  · rename_i hp hr
    obtain ⟨H', _, hs⟩ := (exN_sound mixed tab3_ok 100).g _ _ _ _ _ hr [] (ofL_abs [])
    exact ⟨H', hs⟩
  · cases h
end Go.Ab
end
