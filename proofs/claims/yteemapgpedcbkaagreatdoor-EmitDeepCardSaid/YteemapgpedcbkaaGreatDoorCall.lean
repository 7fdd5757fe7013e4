/- EmitDeep: the given statement out of what its body answers. -/
import Derived.Test.YteemapgpedcbkaaGreatDoorBody
import Derived.Test.YteemapgpedcbkaaGreatDoorTie
import Derived.Test.YteemapgpedcbkaaGreatDoorCards
import Derived.ProofKit
import Derived.OpenShut
import Derived.LaidMore
import Derived.Lay
import Derived.SevenTiedAt
import Derived.Stop.Joined
import Derived.Carry
import Derived.Stop.LaidErr
set_option maxRecDepth 100000
set_option linter.unusedVariables false
noncomputable section
namespace Go.Proofs.YteemapgpedcbkaaGreatDoor
open Go Go.Ab Go.ChangeShapes Go.WideShapes Go.ChangeAt Go.RowKit

theorem own : ownKnob Tryz.prog.godebug = none := by kernel_rfl
theorem laidOut : laidOutB Tryz.prog = true := by kernel_rfl

theorem val_u8 {w : World} {r : Reach} {base : Nat} {v : Value} (h : Value.okWide Tryz.prog w r base 5 v) : ∃ k : Nat, k < 256 ∧ v = .int .u8 (.ofNat k) := by
  have h5 : Tryz.prog.underlying 5 = some (.int .u8) := by kernel_rfl
  simp only [Value.okWide, h5, Cell.okWide] at h
  unfold Cell.ok at h
  rw [h5] at h
  cases v with
  | int k n =>
    obtain ⟨rfl, h⟩ := h
    have h1 : (0 : Int) ≤ n := h.1
    have h2 : n ≤ 255 := h.2
    refine ⟨n.toNat, ?_, ?_⟩
    · omega
    · congr 1
      exact (Int.toNat_of_nonneg h1).symm
  | _ => exact absurd h (by simp)

section
variable {H : Type} {enc : TypeId × Value → H} {P : Program}
/-- What is asked at the end, where what was there is as it was. -/
theorem post_of_old {f : Func} {s : ChangeSpec} {apart fresh handsOn again : Bool} {W W' : World} {args : Array Value} {v : Value} {ds gs : List (DataW H)} {before pa pv : List MemPlace}
    (hW : DataW.Whole enc P f.params.toList s.vars apart W args.toList ds gs before)
    (hres : ∀ (b : Nat) (sp : Nat → Bool) (hd : Bool), DataW.TrodAll enc P W' b sp hd f.resultTypes.toList (v.resultList f.resultTypes.size) (s.fn H (ds ++ gs)).results [])
    (hargs : ∀ sp : Nat → Bool, (∀ p ∈ before, sp p.block = true) → DataW.TrodAll enc P W' 0 sp true f.params.toList args.toList (s.fn H (ds ++ gs)).args pa)
    (hvars : ∀ sp : Nat → Bool, (∀ p ∈ before, sp p.block = true) → DataW.TrodVars enc P W' sp s.vars (s.fn H (ds ++ gs)).vars pv)
    (hps : before = pa ++ pv) (hk : W.keptBut W' (· ∈ before)) (hfz : ∀ a : Addr, a.block < W.heap.size → W'.frozen? a = W.frozen? a)
    (hok : ∀ (j : Nat) (t : TypeId) (r : Value), f.resultTypes[j]? = some t → (v.resultList f.resultTypes.size)[j]? = some r → Value.okWide P W' .any 0 t r) :
    s.post enc P f apart fresh handsOn again W args v W' := by
  have hlt := fun p hp => hW.lt p hp
  have hold : ∀ p ∈ before, (fun b => decide (b < W.heap.size)) p.block = true := fun p hp => by simpa using hW.lt p hp
  refine ⟨ds, gs, before, [], pa, pv, hW, hres _ _ _, hargs _ hold, hvars _ hold, World.keptBut_mono (fun p hp => ⟨hp, ?_⟩) hk, fun _ => ?_⟩
  · rw [hps, List.mem_append] at hp
    exact Or.inr hp
  · obtain ⟨_, _, _, _, _, hz, hn⟩ := hW
    refine ⟨hok, _, _, ([] ++ pa) ++ pv, ⟨[] ++ pa, pv, trodAll_append (hargs _ (fun _ _ => rfl)) (hres _ _ _), hvars _ (fun _ _ => rfl), rfl, ?_, ?_⟩, ?_⟩
    · intro b off hp
      have hm : MemPlace.cell b off ∈ before := by rw [hps]; simpa using hp
      rw [hfz _ (hlt _ hm)]
      exact hz b off hm
    · intro ha
      have := hn ha
      rw [hps] at this
      simpa using this
    · intro p hp _
      rw [hps]
      simpa using hp
end

theorem star : "*" ++ "errors.errorString" = "*errors.errorString" := by decide

/-- The sentinel, as the list lays it. -/
theorem errSyntax {W : World} (h : laidMetH Tryz.prog Rows.emitDeepRow.laid W) : ∃ (a : Addr) (t : TypeId) (fz : Nat × Nat), W.heap[3]? = some (.cells #[.iface 259 (.pointer (some a))] t fz) := by
  rw [MakeChecks.laidMetH_plain _ _ _ (by kernel_rfl)] at h
  have h5 := laidMet.tail (laidMet.tail (laidMet.tail (laidMet.tail (laidMet.tail h))))
  have row259 : ∀ u, Tryz.prog.typeName? 3 u = some "*errors.errorString" → u = 259 := fun (u : TypeId) hn =>
    typeName_ptr_named (nm := "errors.errorString") (by rw [star]; kernel_rfl) (by kernel_rfl) (by decide) u (by rw [star]; exact hn)
  obtain ⟨a, s, hv, _, _, _⟩ := laid_sentinel (P := Tryz.prog) (g := 3) (ti := 59) (tp := 259) (te := 261) (ts := 9) h5 (by kernel_rfl) (by kernel_rfl) Tryz.underlying59 row259 Tryz.underlying259 Tryz.underlying261 rfl rfl Tryz.underlying9 (by kernel_rfl) (by kernel_rfl)
  have hg : Tryz.prog.globalNamed "strconv.ErrSyntax" = some 3 := by kernel_rfl
  unfold World.var? at hv
  rw [hg] at hv
  simp only [Option.bind_some] at hv
  split at hv
  · rename_i cs t fz hh
    cases hv
    exact ⟨a, t, fz, hh⟩
  · cases hv

/-- THE CALL, for every argument and every world that holds the listed variables. -/
theorem contract (H : Type) (enc : TypeId × Value → H) (W : World) (base : Nat) (args : Array Value) (ds gs : List (DataW H)) (before : List MemPlace)
    (hval : ∀ (j : Nat) t v, Tryz.f3.params[j]? = some t → args[j]? = some v → Value.okWide Tryz.prog W .any base t v)
    (hW : DataW.Whole enc Tryz.prog Tryz.f3.params.toList Rows.emitDeepSpec.vars false W args.toList ds gs before) (hL : laidMetH Tryz.prog Rows.emitDeepRow.laid W) :
    Calls Tryz.prog 3 args W fun e W' => ∃ v, e = .returned v ∧ Rows.emitDeepSpec.post enc Tryz.prog Tryz.f3 false true false false W args v W' := by
  have hW' := hW
  obtain ⟨p, q, hA0, hV, rfl, hfz, hnd⟩ := hW
  have hA : DataW.TrodAll enc Tryz.prog W 0 (fun _ => true) true Tryz.f3.params.toList args.toList ds p := hA0
  rw [Tryz.params3] at hA hval
  obtain ⟨v0, v1, v2, d0, d1, d2, p0, p1, p2, rfl, rfl, hp, h0, h1, h2⟩ := trodAll_three hA
  obtain ⟨rfl, rfl⟩ := trodVars_none hV
  have hlt : ∀ x ∈ p, x.block < W.heap.size := fun x hx => by simpa using hW'.lt x (by simpa using hx)
  obtain ⟨a, t, fz, hg⟩ := errSyntax hL
  obtain ⟨k, hk, rfl⟩ := val_u8 (hval 0 5 v0 rfl rfl)
  obtain ⟨b1, rfl⟩ := okWide_bool Tryz.underlying4 (hval 1 4 v1 rfl rfl)
  obtain ⟨b2, rfl⟩ := okWide_bool Tryz.underlying4 (hval 2 4 v2 rfl rfl)
  obtain ⟨H', hs⟩ := deep_spec b1 b2 k hk
  have hrel : Rel [] (fun b => W.heap[b]?) W [] := by
    refine ⟨rfl, fun r l o h => by simp at h, fun r r' l l' b h => by simp at h, fun r l b h => by simp at h, fun b o h => h, fun g hgt => ?_⟩
    by_cases h3 : g = 3
    · subst h3
      show Rep [] _ (.cptr [.iface 259 .junk]) _
      simp only [Rep]
      refine ⟨3, 0, _, t, fz, rfl, hg, [.iface 259 (.pointer (some a))], [], by simp, ?_⟩
      simp only [RepC]
      exact ⟨_, [], rfl, rfl, by simp only [Rep]; exact ⟨_, rfl, trivial⟩, rfl⟩
    · exact absurd (show Env.gtab g = [] by
        show gtabOf g = []
        unfold gtabOf
        split
        · exact absurd rfl h3
        · rfl) hgt
  have hargs : RepL [] (fun b => W.heap[b]?) [.int .u8 (.ofNat k), .bool b1, .bool b2] [.int .u8 (.ofNat k), .bool b1, .bool b2] := by
    simp only [RepL, Rep]
    exact ⟨_, _, rfl, rfl, _, _, rfl, rfl, _, _, rfl, rfl, rfl⟩
  refine (hs.2 [] _ W _ hrel hargs).mono ?_
  rintro e W' ⟨γ', F', u, rfl, n1, r1, v1⟩
  simp only [Rep] at v1
  subst v1
  have hno : ∀ b, ¬ Owned ([] : List Ab.Loc) b := by
    rintro b ⟨r, l, h, _⟩
    simp at h
  have hb : Below W.heap.size W W' := ⟨n1.os, n1.tape, n1.output, n1.size, fun b hb => n1.keep b hb (hno b)⟩
  simp only [List.append_nil] at hW'
  have stay : ∀ (sp : Nat → Bool), (∀ x ∈ p, sp x.block = true) → DataW.TrodAll enc Tryz.prog W' 0 sp true Tryz.f3.params.toList [.int .u8 (.ofNat k), .bool b1, .bool b2] [d0, d1, d2] p := by
    intro sp hsp
    rw [Tryz.params3, hp, List.append_assoc]
    have m0 : ∀ x ∈ p0, x ∈ p := fun x hx => by rw [hp]; simp [hx]
    have m1 : ∀ x ∈ p1, x ∈ p := fun x hx => by rw [hp]; simp [hx]
    have m2 : ∀ x ∈ p2, x ∈ p := fun x hx => by rw [hp]; simp [hx]
    exact trodAll_mk3 (WideElems.Trod_stays laidOut (by kernel_rfl) (of_decide_eq_true (by kernel_rfl)) h0 (fun x hx => hb.same (hlt x (m0 x hx))) (fun x hx => hsp x (m0 x hx)))
      (WideElems.Trod_stays laidOut (by kernel_rfl) (of_decide_eq_true (by kernel_rfl)) h1 (fun x hx => hb.same (hlt x (m1 x hx))) (fun x hx => hsp x (m1 x hx)))
      (WideElems.Trod_stays laidOut (by kernel_rfl) (of_decide_eq_true (by kernel_rfl)) h2 (fun x hx => hb.same (hlt x (m2 x hx))) (fun x hx => hsp x (m2 x hx)))
  refine ⟨_, rfl, post_of_old (pa := p) (pv := []) hW' (fun _ _ _ => trodAll_mk1 (shut_bool Tryz.underlying4 _)) stay
    (fun _ _ => rfl) (by simp) (hb.frame _) (fun a ha => hb.frozen ha) (ok_one (by kernel_rfl) rfl (okWide_bool_mk Tryz.underlying4 _))⟩
end Go.Proofs.YteemapgpedcbkaaGreatDoor
end
