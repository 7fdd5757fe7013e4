/- StoreNobody: the given statement out of what its body answers. -/
import Derived.Test.YtgpopggboiphoaaGreatDoorBody
import Derived.Test.YtgpopggboiphoaaGreatDoorTie
import Derived.Test.YtgpopggboiphoaaGreatDoorCards
import Derived.ProofKit
import Derived.OpenShut
import Derived.LaidMore
import Derived.Lay
import Derived.SevenTiedAt
import Derived.Stop.Joined
import Derived.Carry
import Derived.Stop.LaidErr
set_option maxRecDepth 100000
set_option linter.unusedVariables false
noncomputable section
namespace Go.Proofs.YtgpopggboiphoaaGreatDoor
open Go Go.Ab Go.ChangeShapes Go.WideShapes Go.ChangeAt Go.RowKit

theorem own : ownKnob Tryz.prog.godebug = none := by kernel_rfl
theorem laidOut : laidOutB Tryz.prog = true := by kernel_rfl
theorem cells29 : Tryz.prog.cellsOf 29 = 11 := by kernel_rfl
theorem ctypes29 : Tryz.prog.cellTypes Tryz.prog.depth 29 = some [5, 3, 3, 9, 9, 9, 22, 3, 3, 3, 27] := by kernel_rfl

noncomputable def okT (u : TypeId) : Bool := match Tryz.prog.underlying u with
  | some (.int _) => true
  | some .string => true
  | some (.slice _) => true
  | _ => false
theorem all29 : [5, 3, 3, 9, 9, 9, 22, 3, 3, 3, 27].all okT = true := by kernel_rfl

theorem cell_one {w : World} {r : Reach} {base : Nat} {u : TypeId} {v : Value} (hu : okT u = true) (h : Cell.okWide Tryz.prog w r base u v) : v.oneCell' = true := by
  unfold okT at hu
  unfold Cell.okWide Cell.ok at h
  split at hu
  · rename_i k hk; rw [hk] at h; cases v <;> first | rfl | exact absurd h (by simp)
  · rename_i hk; rw [hk] at h; cases v <;> first | rfl | exact absurd h (by simp)
  · rename_i e hk; rw [hk] at h; cases v <;> first | rfl | exact absurd h (by simp)
  · cases hu

theorem cell_u8 {w : World} {r : Reach} {base : Nat} {v : Value} (h : Cell.okWide Tryz.prog w r base 5 v) : ∃ k : Nat, k < 256 ∧ v = .int .u8 (.ofNat k) := by
  have h5 : Tryz.prog.underlying 5 = some (.int .u8) := by kernel_rfl
  unfold Cell.okWide Cell.ok at h
  rw [h5] at h
  cases v with
  | int k n =>
    obtain ⟨rfl, h⟩ := h
    have h1 : (0 : Int) ≤ n := h.1
    have h2 : n ≤ 255 := h.2
    refine ⟨n.toNat, ?_, ?_⟩
    · omega
    · congr 1
      exact (Int.toNat_of_nonneg h1).symm
  | _ => exact absurd h (by simp)

theorem repC_opq {γ : List Ab.Loc} {F : Frz} : ∀ (cs : List Value), (∀ c ∈ cs, c.oneCell' = true) → RepC γ F (List.replicate cs.length .opq) cs
  | [], _ => by simp [RepC]
  | c :: cs, h => by
    simp only [List.length_cons, List.replicate_succ, RepC]
    exact ⟨c, cs, rfl, h c (by simp), by simpa only [Rep] using h c (by simp), repC_opq cs fun d hd => h d (by simp [hd])⟩

theorem arg_rep {W : World} {base : Nat} {v0 : Value} (h : Value.okWide Tryz.prog W .any base 29 v0) {γ : List Ab.Loc} {F : Frz} : ∃ k : Nat, k < 256 ∧ Rep γ F (argV (.ofNat k)) v0 := by
  have hu : ∃ fs, Tryz.prog.underlying 29 = some (.struct fs) := ⟨_, rfl⟩
  obtain ⟨fs, hu⟩ := hu
  unfold Value.okWide at h
  rw [hu] at h
  obtain ⟨cs, rfl, hsz, ts, hts, _, hc⟩ := h
  rw [ctypes29] at hts
  cases hts
  rw [cells29] at hsz
  obtain ⟨l⟩ := cs
  have hl : l.length = 11 := by simpa using hsz
  have key : ∀ (i : Nat) v, l[i]? = some v → ∃ u, okT u = true ∧ (i = 0 → u = 5) ∧ Cell.okWide Tryz.prog W .any base u v := by
    intro i v hi
    obtain ⟨u, h1, h2⟩ := hc i v (by simpa using hi)
    have hlt := getElem?_lt hi
    have hm : i % 11 = i := Nat.mod_eq_of_lt (by omega)
    have h1' : [5, 3, 3, 9, 9, 9, 22, 3, 3, 3, 27][i]? = some u := by
      rw [← hm]; exact h1
    refine ⟨u, List.all_eq_true.1 all29 u (List.mem_of_getElem? h1'), fun h0 => ?_, h2⟩
    subst h0
    simpa using h1'.symm
  cases l with
  | nil => simp at hl
  | cons c0 rest =>
    have hr : rest.length = 10 := by simpa using hl
    obtain ⟨u, _, h0, h1⟩ := key 0 c0 rfl
    rw [h0 rfl] at h1
    obtain ⟨k, hk, rfl⟩ := cell_u8 h1
    refine ⟨k, hk, ?_⟩
    have ho := repC_opq (γ := γ) (F := F) rest fun c hm => by
      obtain ⟨i, hi⟩ := List.getElem?_of_mem hm
      obtain ⟨u, g1, _, g2⟩ := key (i + 1) c (by simpa using hi)
      exact cell_one g1 g2
    rw [hr] at ho
    simp only [argV, Rep]
    refine ⟨_, rfl, ?_⟩
    simp only [RepC]
    exact ⟨_, rest, rfl, rfl, by simp only [Rep], ho⟩

section
variable {H : Type} {enc : TypeId × Value → H} {P : Program}
/-- What is asked at the end, where what was there is as it was. -/
theorem post_of_old {f : Func} {s : ChangeSpec} {apart fresh handsOn again : Bool} {W W' : World} {args : Array Value} {v : Value} {ds gs : List (DataW H)} {before pa pv : List MemPlace}
    (hW : DataW.Whole enc P f.params.toList s.vars apart W args.toList ds gs before)
    (hres : ∀ (b : Nat) (sp : Nat → Bool) (hd : Bool), DataW.TrodAll enc P W' b sp hd f.resultTypes.toList (v.resultList f.resultTypes.size) (s.fn H (ds ++ gs)).results [])
    (hargs : ∀ sp : Nat → Bool, (∀ p ∈ before, sp p.block = true) → DataW.TrodAll enc P W' 0 sp true f.params.toList args.toList (s.fn H (ds ++ gs)).args pa)
    (hvars : ∀ sp : Nat → Bool, (∀ p ∈ before, sp p.block = true) → DataW.TrodVars enc P W' sp s.vars (s.fn H (ds ++ gs)).vars pv)
    (hps : before = pa ++ pv) (hk : W.keptBut W' (· ∈ before)) (hfz : ∀ a : Addr, a.block < W.heap.size → W'.frozen? a = W.frozen? a)
    (hok : ∀ (j : Nat) (t : TypeId) (r : Value), f.resultTypes[j]? = some t → (v.resultList f.resultTypes.size)[j]? = some r → Value.okWide P W' .any 0 t r) :
    s.post enc P f apart fresh handsOn again W args v W' := by
  have hlt := fun p hp => hW.lt p hp
  have hold : ∀ p ∈ before, (fun b => decide (b < W.heap.size)) p.block = true := fun p hp => by simpa using hW.lt p hp
  refine ⟨ds, gs, before, [], pa, pv, hW, hres _ _ _, hargs _ hold, hvars _ hold, World.keptBut_mono (fun p hp => ⟨hp, ?_⟩) hk, fun _ => ?_⟩
  · rw [hps, List.mem_append] at hp
    exact Or.inr hp
  · obtain ⟨_, _, _, _, _, hz, hn⟩ := hW
    refine ⟨hok, _, _, ([] ++ pa) ++ pv, ⟨[] ++ pa, pv, trodAll_append (hargs _ (fun _ _ => rfl)) (hres _ _ _), hvars _ (fun _ _ => rfl), rfl, ?_, ?_⟩, ?_⟩
    · intro b off hp
      have hm : MemPlace.cell b off ∈ before := by rw [hps]; simpa using hp
      rw [hfz _ (hlt _ hm)]
      exact hz b off hm
    · intro ha
      have := hn ha
      rw [hps] at this
      simpa using this
    · intro p hp _
      rw [hps]
      simpa using hp
end

theorem star : "*" ++ "errors.errorString" = "*errors.errorString" := by decide

/-- The sentinel, as the list lays it. -/
theorem errSyntax {W : World} (h : laidMetH Tryz.prog Rows.storeNobodyRow.laid W) : ∃ (a : Addr) (t : TypeId) (fz : Nat × Nat), W.heap[0]? = some (.cells #[.iface 471 (.pointer (some a))] t fz) := by
  rw [MakeChecks.laidMetH_plain _ _ _ (by kernel_rfl)] at h
  have h5 := laidMet.tail (laidMet.tail (laidMet.tail (laidMet.tail (laidMet.tail h))))
  have row471 : ∀ u, Tryz.prog.typeName? 3 u = some "*errors.errorString" → u = 471 := fun (u : TypeId) hn =>
    typeName_ptr_named (nm := "errors.errorString") (by rw [star]; kernel_rfl) (by kernel_rfl) (by decide) u (by rw [star]; exact hn)
  obtain ⟨a, s, hv, _, _, _⟩ := laid_sentinel (P := Tryz.prog) (g := 0) (ti := 226) (tp := 471) (te := 473) (ts := 9) h5 (by kernel_rfl) (by kernel_rfl) Tryz.underlying226 row471 Tryz.underlying471 Tryz.underlying473 rfl rfl Tryz.underlying9 (by kernel_rfl) (by kernel_rfl)
  have hg : Tryz.prog.globalNamed "strconv.ErrSyntax" = some 0 := by kernel_rfl
  unfold World.var? at hv
  rw [hg] at hv
  simp only [Option.bind_some] at hv
  split at hv
  · rename_i cs t fz hh
    cases hv
    exact ⟨a, t, fz, hh⟩
  · cases hv

/-- THE CALL, for every argument and every world that holds the listed variables. -/
theorem contract (H : Type) (enc : TypeId × Value → H) (W : World) (base : Nat) (args : Array Value) (ds gs : List (DataW H)) (before : List MemPlace)
    (hval : ∀ (j : Nat) t v, Tryz.f3.params[j]? = some t → args[j]? = some v → Value.okWide Tryz.prog W .any base t v)
    (hW : DataW.Whole enc Tryz.prog Tryz.f3.params.toList Rows.storeNobodySpec.vars false W args.toList ds gs before) (hL : laidMetH Tryz.prog Rows.storeNobodyRow.laid W) :
    Calls Tryz.prog 3 args W fun e W' => ∃ v, e = .returned v ∧ Rows.storeNobodySpec.post enc Tryz.prog Tryz.f3 false true false false W args v W' := by
  have hW' := hW
  obtain ⟨p, q, hA0, hV, rfl, hfz, hnd⟩ := hW
  have hA : DataW.TrodAll enc Tryz.prog W 0 (fun _ => true) true Tryz.f3.params.toList args.toList ds p := hA0
  rw [Tryz.params3] at hA hval
  obtain ⟨v0, d0, rfl, rfl, h0⟩ := trodAll_one hA
  obtain ⟨rfl, rfl⟩ := trodVars_none hV
  have hlt : ∀ x ∈ p, x.block < W.heap.size := fun x hx => by simpa using hW'.lt x (by simpa using hx)
  obtain ⟨a, t, fz, hg⟩ := errSyntax hL
  obtain ⟨k, hk, hrep⟩ := arg_rep (hval 0 29 v0 rfl rfl) (γ := []) (F := fun b => W.heap[b]?)
  obtain ⟨H', hs⟩ := nobody_spec k hk
  have hrel : Rel [] (fun b => W.heap[b]?) W [] := by
    refine ⟨rfl, fun r l o h => by simp at h, fun r r' l l' b h => by simp at h, fun r l b h => by simp at h, fun b o h => h, fun g hgt => ?_⟩
    match g, hgt with
    | 0, _ =>
      show Rep [] _ (.cptr [.iface 471 .junk]) _
      simp only [Rep]
      refine ⟨0, 0, _, t, fz, rfl, hg, [.iface 471 (.pointer (some a))], [], by simp, ?_⟩
      simp only [RepC]
      exact ⟨_, [], rfl, rfl, by simp only [Rep]; exact ⟨_, rfl, trivial⟩, rfl⟩
    | g + 1, hgt => exact absurd rfl hgt
  refine (hs.2 [] _ W [v0] hrel ⟨v0, [], rfl, hrep, rfl⟩).mono ?_
  rintro e W' ⟨γ', F', u, rfl, n1, r1, v1⟩
  simp only [Rep] at v1
  subst v1
  have hno : ∀ b, ¬ Owned ([] : List Ab.Loc) b := by
    rintro b ⟨r, l, h, _⟩
    simp at h
  have hb : Below W.heap.size W W' := ⟨n1.os, n1.tape, n1.output, n1.size, fun b hb => n1.keep b hb (hno b)⟩
  simp only [List.append_nil] at hW'
  refine ⟨_, rfl, post_of_old (pa := p) (pv := []) hW' (fun _ _ _ => trodAll_mk1 (shut_bool Tryz.underlying4 _)) (fun sp hsp => trodAll_mk1 (WideElems.Trod_stays laidOut (by kernel_rfl) (of_decide_eq_true (by kernel_rfl)) h0 (fun x hx => hb.same (hlt x hx)) (fun x hx => hsp x hx)))
    (fun _ _ => rfl) (by simp) (hb.frame _) (fun a ha => hb.frozen ha) (ok_one (by kernel_rfl) rfl (okWide_bool_mk Tryz.underlying4 _))⟩
end Go.Proofs.YtgpopggboiphoaaGreatDoor
end
