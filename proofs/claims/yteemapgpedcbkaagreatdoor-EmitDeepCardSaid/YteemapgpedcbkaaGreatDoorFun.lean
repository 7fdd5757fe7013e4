/- The abstract machine: functions, a frame for contracts; operations that are evaluated. -/
import Derived.Test.YteemapgpedcbkaaGreatDoorStm
set_option linter.unusedVariables false
set_option linter.unusedSectionVars false
set_option linter.unusedSimpArgs false
namespace Go.Ab
variable [Env]

/-- What is answered. -/
def resR (P : Program) (env : List V) (H : Heap) : ResultVar → R
  | .tmp t => ⟨True, env.getD t (.tup []), H⟩
  | .cell a t => match lay P t with
    | some (g, k) => loadR g k (env.getD a (.tup [])) H
    | none => R.bad

def resOk (P : Program) (env : List V) (H : Heap) : List ResultVar → Prop
  | [] => True
  | [r] => (resR P env H r).ok
  | r :: rs => (resR P env H r).ok ∧ resOk P env H rs

def tupV (vs : List V) : V := match vs with
  | [v] => v
  | vs => .tup vs

/-- What is answered, and what stays of the heap. -/
def lFin (n : Nat) (v : V) (H : Heap) (v' : V) (H' : Heap) : Prop := ∃ ks, KsOk n ks H.length ∧ ren (newIx n ks) v = v' ∧ trimH n ks H = H'

/-- What is answered, one by one. -/
def lRes (P : Program) (env : List V) (H : Heap) (K : V → Heap → Prop) : List V → List ResultVar → Prop
  | acc, [] => K (tupV acc) H
  | acc, .tmp t :: rs => lRes P env H K (acc ++ [env.getD t (.tup [])]) rs
  | acc, .cell a t :: rs => match lay P t with
    | some (g, k) => lR (loadR g k (env.getD a (.tup [])) H) fun v _ => lRes P env H K (acc ++ [v]) rs
    | none => False

/-- At a function's end. -/
def lEnd (P : Program) (rs : List ResultVar) (gs : List Gh) (K : V → Heap → Prop) : Post := fun o env H => match o with
  | .exit _ => False
  | _ => lGh env H (fun env H => lRes P env H K [] rs) gs

theorem lRes_spec {P : Program} {env : List V} {H : Heap} {K : V → Heap → Prop} : ∀ (rs : List ResultVar) (acc : List V), lRes P env H K acc rs →
    resOk P env H rs ∧ K (tupV (acc ++ rs.map fun r => (resR P env H r).v)) H
  | [], acc, h => ⟨trivial, by simpa [lRes] using h⟩
  | .tmp t :: rs, acc, h => by
    obtain ⟨h1, h2⟩ := lRes_spec rs _ h
    refine ⟨?_, by simpa [resR] using h2⟩
    cases rs with
    | nil => exact trivial
    | cons r rs => exact ⟨trivial, h1⟩
  | .cell a t :: rs, acc, h => by
    simp only [lRes] at h
    split at h
    · rename_i g k hl
      obtain ⟨h0, h⟩ := h
      obtain ⟨h1, h2⟩ := lRes_spec rs _ h
      have e : resR P env H (.cell a t) = loadR g k (env.getD a (.tup [])) H := by simp only [resR, hl]
      refine ⟨?_, by simpa [e] using h2⟩
      cases rs with
      | nil => show (resR P env H (.cell a t)).ok; rw [e]; exact h0
      | cons r rs => exact ⟨by rw [e]; exact h0, h1⟩
    · exact h.elim

section
variable {P : Program} {γ γ' : List Loc} {F F' : Frz} {w w' : World} {H H' : Heap} {env : List V} {a : Act} {lo : Nat}

def resSem (tmps : Array Value) : ResultVar → Sem Value
  | .tmp t => pure (tmps.getD t undef)
  | .cell b t => do loadVar t (← asAddr (tmps.getD b undef))

theorem results_eq (fn : Func) (tmps : Array Value) : results fn tmps = (do
    let vs ← fn.results.mapM (resSem tmps)
    pure (if h : vs.size = 1 then vs[0] else .tuple vs)) := by
  unfold results
  congr 1

theorem resR_sound (hst : St lo γ F env H a w) (r : ResultVar) (hok : (resR P env H r).ok) :
    ∃ u, (resSem a.tmps r).run P w = .ok u w ∧ Rep γ F (resR P env H r).v u := by
  cases r with
  | tmp t => exact ⟨_, by simp [resSem], hst.env.rep t⟩
  | cell b t =>
    simp only [resR] at hok ⊢
    cases hl : lay P t with
    | none => rw [hl] at hok; exact hok.elim
    | some gk =>
      obtain ⟨g, k⟩ := gk
      rw [hl] at hok
      obtain ⟨u, h1, h2, h3⟩ := load_sound hst.rel hl (hst.env.rep b) hok
      refine ⟨u, ?_, h2⟩
      have hp : ∃ ad, a.tmps.getD b undef = .pointer (some ad) := by
        have hrep := hst.env.rep b
        simp only [loadR] at hok
        split at hok
        · rename_i r off e; rw [e] at hrep; simp only [Rep] at hrep; obtain ⟨c, _, hh⟩ := hrep; exact ⟨_, hh⟩
        · rename_i cs e; rw [e] at hrep; simp only [Rep] at hrep; obtain ⟨c, off, vs, t', fz, hh, _⟩ := hrep; exact ⟨_, hh⟩
        · rename_i r L i o e; rw [e] at hrep; simp only [Rep] at hrep; obtain ⟨c, p, hh, _⟩ := hrep; exact ⟨_, hh⟩
        · exact hok.elim
      obtain ⟨ad, had⟩ := hp
      rw [had] at h1
      simpa [resSem, had, Instr.loadAt, Instr.sureAddr, asAddr] using h1

theorem resL_sound (hst : St lo γ F env H a w) : ∀ (rs : List ResultVar), resOk P env H rs →
    ∃ us, (rs.mapM (resSem a.tmps)).run P w = .ok us w ∧ RepL γ F (rs.map fun r => (resR P env H r).v) us ∧ us.length = rs.length
  | [], _ => ⟨[], by simp, by simp [RepL], rfl⟩
  | r :: rs, h => by
    have hh : (resR P env H r).ok ∧ resOk P env H rs := by
      cases rs with
      | nil => exact ⟨h, trivial⟩
      | cons r' rs => exact h
    obtain ⟨u, h1, h2⟩ := resR_sound hst r hh.1
    obtain ⟨us, h3, h4, h5⟩ := resL_sound hst rs hh.2
    refine ⟨u :: us, ?_, ?_, by simp [h5]⟩
    · simp [List.mapM_cons, h1, h3]
    · simp only [List.map_cons, RepL]
      exact ⟨u, us, rfl, h2, h4⟩

theorem results_sound (hst : St lo γ F env H a w) {fn : Func} (h : resOk P env H fn.results.toList) :
    ∃ u, (results fn a.tmps).run P w = .ok u w ∧ Rep γ F (tupV (fn.results.toList.map fun r => (resR P env H r).v)) u := by
  obtain ⟨us, h1, h2, h3⟩ := resL_sound hst fn.results.toList h
  generalize hv : (fn.results.toList.map fun r => (resR P env H r).v) = vs at h2 ⊢
  refine ⟨if h : us.toArray.size = 1 then us.toArray[0] else .tuple us.toArray, ?_, ?_⟩
  · rw [results_eq, Array.mapM_eq_mapM_toList]
    simp [h1]
  · have hlen := RepL.length h2
    cases vs with
    | nil =>
      simp only [RepL] at h2
      subst h2
      rw [dif_neg (by simp)]
      simp only [tupV, Rep]
      exact ⟨_, rfl, by simp [RepL]⟩
    | cons v vs =>
      cases vs with
      | nil =>
        simp only [RepL] at h2
        obtain ⟨u, ws, rfl, hu, rfl⟩ := h2
        simpa [tupV] using hu
      | cons v2 vs =>
        rw [dif_neg (by simp only [List.size_toArray]; rw [hlen]; simp)]
        simp only [tupV, Rep]
        exact ⟨us.toArray, rfl, by simpa using h2⟩

/-- The marks are shut when a function ends. -/
theorem shut_one (hrel : Rel γ F w H) {D : Nat} (h1 : w.heap[D]? = some (.deferred (some []))) (h2 : ¬ Owned γ D) (h3 : F D = none) :
    ∃ w', (Instr.takeDeferred D).run P w = .ok [] w' ∧ Rel γ F w' H ∧ (∀ b, b ≠ D → w'.heap[b]? = w.heap[b]?) ∧ w'.heap.size = w.heap.size ∧ w'.os = w.os ∧ w'.tape = w.tape ∧ w'.output = w.output := by
  have hlt := agetElem?_lt h1
  have hother : ∀ b, b ≠ D → (w.putObj D (.deferred none)).heap[b]? = w.heap[b]? := fun b hb => World.putObj_heap_other hb
  refine ⟨w.putObj D (.deferred none), ?_, ?_, hother, by simp [World.putObj], rfl, rfl, rfl⟩
  · exact run_takeDeferred h1
  · refine ⟨hrel.len, fun r l o hl ho => RelO.mono (Ext.refl γ) (FLe.refl F) (fun b hb => hother b ?_) (hrel.obj r l o hl ho), hrel.inj, fun r l b hl hb => ?_, fun b o hb => ?_, hrel.glb⟩
    · rintro rfl; exact h2 ⟨r, l, hl, hb⟩
    · have := hrel.own r l b hl hb
      exact ⟨this.1, by simpa [World.putObj] using this.2⟩
    · rw [hother b (by rintro rfl; rw [h3] at hb; cases hb)]; exact hrel.frz b o hb

theorem shut_all {γ0 : List Loc} {F0 : Frz} {w0 : World} {fn : Func} {tmps : Array Value} {R : Ending → World → Prop} : ∀ (Ds : List Nat) (w : World), Rel γ F w H → Nx γ0 F0 w0 γ F w → Ds.Nodup → (∀ D ∈ Ds, w0.heap.size ≤ D ∧ w.heap[D]? = some (.deferred (some [])) ∧ ¬ Owned γ D ∧ F D = none) →
    (∀ w', Rel γ F w' H → Nx γ0 F0 w0 γ F w' → ∃ u, (results fn tmps).run P w' = .ok u w' ∧ R (.returned u) w') →
    LeavesInM (fen none) 0 P fn tmps R (Ds.map fun D => { target := .collected D, args := #[] }) .returning w
  | [], w, hrel, hnx, _, _, hR => by
    obtain ⟨u, h1, h2⟩ := hR w hrel hnx
    exact ⟨u, h1, h2⟩
  | D :: Ds, w, hrel, hnx, hnd, hD, hR => by
    obtain ⟨h0, h1, h2, h3⟩ := hD D (by simp)
    obtain ⟨w', r1, r2, r3, r4, r5, r6, r7⟩ := shut_one (P := P) hrel h1 h2 h3
    obtain ⟨n1, n2⟩ := List.nodup_cons.1 hnd
    refine ⟨by simp, .inl ⟨D, w', rfl, r1, shut_all Ds w' r2 ?_ n2 (fun E hE => ?_) hR⟩⟩
    · exact ⟨hnx.ext, hnx.frz, fun b hb ho => (r3 b (by omega)).trans (hnx.keep b hb ho), hnx.old, by rw [r4]; exact hnx.size, r5.trans hnx.os, r6.trans hnx.tape, r7.trans hnx.output, hnx.fz⟩
    · obtain ⟨e0, e1, e2, e3⟩ := hD E (by simp [hE])
      exact ⟨e0, (r3 E (by rintro rfl; exact n1 hE)).trans e1, e2, e3⟩

/-- A function's body gives its contract. -/
theorem aspec_of_wp {f : FuncId} {fn : Func} {c : Code} {args : List V} {v' : V} (hf : P.funcs[f]? = some fn) (hb : fn.body = some c)
    (h : ∀ (γ : List Loc) (F : Frz) (w : World) (a : Act), St w.heap.size γ F (args ++ List.replicate (fn.ntmps - args.length) (.tup [])) H a w → a.defers = [] →
      c.wpIn (fen none) 0 P (fun e a' w' => (e = .normal ∨ e = .ret) ∧ ∃ γ' F' γ2 H2, Nx γ F w γ' F' w' ∧ Marks w.heap.size γ' F' w' a'.defers ∧ Rel γ' F' w' H2 ∧
        (∀ w'', Rel γ' F' w'' H2 → Nx γ F w γ' F' w'' → ∃ u, (results fn a'.tmps).run P w'' = .ok u w'' ∧ Nx γ F w γ2 F' w'' ∧ Rel γ2 F' w'' H' ∧ Rep γ2 F' v' u)) a w) : ASpec P f args H v' H' := by
  intro γ F w vs hrel hargs
  refine calls_fen (ro := none) (n := 0).1 (callsIn_of_wp_marks hf hb trivial ?_)
  have hlen := RepL.length hargs
  have hst : St w.heap.size γ F (args ++ List.replicate (fn.ntmps - args.length) (.tup [])) H { tmps := vs.toArray ++ Array.replicate (fn.ntmps - vs.toArray.size) undef, defers := [] } w := by
    refine ⟨hrel, ⟨by simp [hlen], fun t => ?_, hrel.glb⟩, Marks.nil _ _ _ _⟩
    have hr : RepL γ F (args ++ List.replicate (fn.ntmps - args.length) (.tup [])) (vs ++ List.replicate (fn.ntmps - vs.length) undef) := by
      refine RepL.append hargs ?_
      rw [← hlen]
      generalize fn.ntmps - vs.length = n
      induction n with
      | zero => simp [RepL]
      | succ n ih => simp only [List.replicate_succ, RepL]; exact ⟨_, _, rfl, rep_undef, ih⟩
    have key : ∀ (xs : List V) (us : List Value), RepL γ F xs us → ∀ t, Rep γ F (xs.getD t (.tup [])) (us.getD t undef) := by
      intro xs
      induction xs with
      | nil => intro us h t; simp only [RepL] at h; subst h; simp only [List.getD_nil]; exact rep_undef
      | cons x xs ih =>
        intro us h t
        simp only [RepL] at h
        obtain ⟨u, ws, rfl, h1, h2⟩ := h
        cases t with
        | zero => simpa using h1
        | succ t => simpa using ih ws h2 t
    have := key _ _ hr t
    have e : (vs.toArray ++ Array.replicate (fn.ntmps - vs.toArray.size) undef).getD t undef = (vs ++ List.replicate (fn.ntmps - vs.length) undef).getD t undef := by
      rw [Array.getD_eq_getD_getElem?, List.getD]
      congr 1
      rw [← Array.getElem?_toList]
      simp
    rw [e]; exact this
  refine wpIn_mono (h γ F w _ hst rfl) ?_
  rintro e a' w' ⟨he, γ', F', γ2, H2, k2, k3, k4, k5⟩
  have done : LeavesInM (fen none) 0 P fn a'.tmps (fun e w' => ∃ γ' F' u, e = .returned u ∧ Nx γ F w γ' F' w' ∧ Rel γ' F' w' H' ∧ Rep γ' F' v' u) a'.defers .returning w' := by
    obtain ⟨Ds, d1, d2, d3⟩ := k3
    rw [d1]
    refine shut_all Ds w' k4 k2 d2 d3 fun w'' r1 r2 => ?_
    obtain ⟨u, hu, n2, rr, rv⟩ := k5 w'' r1 r2
    exact ⟨u, hu, γ2, F', u, rfl, n2, rr, rv⟩
  rcases he with rfl | rfl
  · exact done
  · exact done

/-- A function's body gives its contract. -/
theorem spec_of_awp {A : Ann} {D : DrawRule} (hm : P.follows .mixedOrders = true) (hD : DrawOK P D) {f : FuncId} {fn : Func} {c : Code} {args : List V} {v' : V} (gs : List Gh) (hf : P.funcs[f]? = some fn) (hb : fn.body = some c)
    (hname : (fn.name == "runtime.NumGoroutine") = false)
    (h : awp P A D c (args ++ List.replicate (fn.ntmps - args.length) (.tup [])) H (lEnd P fn.results.toList gs fun v1 H1 => lFin H.length v1 H1 v' H')) : Spec P f args H v' H' := by
  refine ⟨by simp [hasBody, hf, hb, hname], aspec_of_wp hf hb fun γ F w a hst _ => ?_⟩
  refine wpIn_mono (awp_sound hm hD c _ H _ h γ F a w hst) ?_
  rintro e a' w' ⟨o, env', H1, γ1, F1, rfl, k1, k2, k3, k4⟩
  have done : lEnd P fn.results.toList gs (fun v1 H1 => lFin H.length v1 H1 v' H') .normal env' H1 → ∃ γ' F' γ2 H2, Nx γ F w γ' F' w' ∧ Marks w.heap.size γ' F' w' a'.defers ∧ Rel γ' F' w' H2 ∧
        (∀ w'', Rel γ' F' w'' H2 → Nx γ F w γ' F' w'' → ∃ u, (results fn a'.tmps).run P w'' = .ok u w'' ∧ Nx γ F w γ2 F' w'' ∧ Rel γ2 F' w'' H' ∧ Rep γ2 F' v' u) := by
    intro hk
    obtain ⟨env2, H2, γ2, F2, hres, n2, s2⟩ := lGh_sound gs hk k3
    obtain ⟨hok, ks, hks, rfl, rfl⟩ := lRes_spec _ _ hres
    have hkg : KsOk H.length ks γ2.length := by rw [s2.rel.len]; exact hks
    refine ⟨γ2, F2, trimG H.length ks γ2, H2, k2.trans n2, s2.defers, s2.rel, fun w'' r1 r2 => ?_⟩
    obtain ⟨u, hu, hr⟩ := results_sound (lo := 0) (a := { a' with defers := [] }) ⟨r1, s2.env, Marks.nil _ _ _ _⟩ hok
    simp only [List.nil_append] at *
    exact ⟨u, hu, r2.trim hkg (by rw [hst.rel.len]; exact Nat.le_refl _), r1.trim hks, Rep.trim hkg hr⟩
  cases o with
  | normal => exact ⟨.inl rfl, done k1⟩
  | ret => exact ⟨.inr rfl, done k1⟩
  | exit id => exact k1.elim
end
end Go.Ab
namespace Go.Ab
variable [Env]

/-- Objects are laid back. -/
def setAll {α : Type} : List Nat → List α → List α → List α
  | r :: rs, o :: os, H => setAll rs os (H.set r o)
  | _, _, H => H

/-- The numbers of a part's objects, in the whole. -/
def outIx (rs : List Nat) (n i : Nat) : Option Nat := if i < rs.length then rs[i]? else some (n + (i - rs.length))

/-- A heap of which a part has gone on. -/
def putBack (rs : List Nat) (H Hl : Heap) : Heap := setAll rs (Hl.map (renO (outIx rs H.length))) H ++ (Hl.map (renO (outIx rs H.length))).drop rs.length

section
variable {α : Type}

theorem setAll_len : ∀ (rs : List Nat) (os H : List α), (setAll rs os H).length = H.length
  | [], os, H => by simp [setAll]
  | r :: rs, [], H => by simp [setAll]
  | r :: rs, o :: os, H => by rw [setAll, setAll_len rs os]; simp

theorem setAll_ne {r : Nat} : ∀ (rs : List Nat) (os H : List α), r ∉ rs → (setAll rs os H)[r]? = H[r]?
  | [], os, H, h => by simp [setAll]
  | q :: rs, [], H, h => by simp [setAll]
  | q :: rs, o :: os, H, h => by
    simp only [List.mem_cons, not_or] at h
    rw [setAll, setAll_ne rs os _ h.2, List.getElem?_set_ne (fun e => h.1 e.symm)]

theorem setAll_at {r : Nat} {o : α} : ∀ (rs : List Nat) (os H : List α) (i : Nat), rs.Nodup → rs[i]? = some r → os[i]? = some o → r < H.length → (setAll rs os H)[r]? = some o
  | [], os, H, i, _, h, _, _ => by simp at h
  | q :: rs, [], H, i, _, _, h, _ => by simp at h
  | q :: rs, x :: os, H, 0, hnd, h1, h2, hlt => by
    simp at h1 h2
    subst h1; subst h2
    rw [setAll, setAll_ne rs os _ (List.nodup_cons.1 hnd).1, List.getElem?_set_self hlt]
  | q :: rs, x :: os, H, i + 1, hnd, h1, h2, hlt => by
    simp at h1 h2
    rw [setAll]
    exact setAll_at rs os _ i (List.nodup_cons.1 hnd).2 h1 h2 (by simpa using hlt)
end

section
variable {P : Program} {H Hl : Heap}

theorem mem_idx {rs : List Nat} {r : Nat} (h : r ∈ rs) : ∃ i : Nat, rs[i]? = some r := List.getElem?_of_mem h

theorem Spec.frame {f : FuncId} {args : List V} {v : V} {rs : List Nat} (hk : KsOk 0 rs H.length) (h : Spec P f (renL (newIx 0 rs) args) (trimH 0 rs H) v Hl) :
    Spec P f args H (ren (outIx rs H.length) v) (putBack rs H Hl) := by
  refine ⟨h.1, ?_⟩
  intro γ F w vs hrel hargs
  have hkg : KsOk 0 rs γ.length := by rw [hrel.len]; exact hk
  have hargs' : RepL (trimG 0 rs γ) F (renL (newIx 0 rs) args) vs := RepL.ren (fun r i l => trimG_at hkg r i l) args hargs
  refine (h.2 (trimG 0 rs γ) F w vs (hrel.trim hk) hargs').mono ?_
  rintro e w' ⟨δ, F', u, rfl, hn, hr, hv⟩
  -- the part's places
  have hg0 : (trimG 0 rs γ).length = rs.length := by simp [trimG]
  have hgi : ∀ (i r : Nat), rs[i]? = some r → (trimG 0 rs γ)[i]? = γ[r]? := by
    intro i r hi
    have hlt := (hkg.2.2 r (List.mem_of_getElem? hi)).2
    simp only [trimG, List.take_zero, List.nil_append, List.getElem?_map, hi, Option.map_some]
    simp [List.getD, hlt]
  have hdl : rs.length ≤ δ.length := by rw [← hg0]; exact hn.ext.le
  have hHl : Hl.length = δ.length := hr.len.symm
  have hoi : ∀ b, Owned (trimG 0 rs γ) b → ∃ (r : Nat) (l : Loc), r ∈ rs ∧ γ[r]? = some l ∧ l.block = some b := by
    rintro b ⟨i, l, hl, hb⟩
    have hi : i < rs.length := by rw [← hg0]; exact getElem?_lt hl
    have hri : rs[i]? = some rs[i] := by simp [hi]
    rw [hgi i _ hri] at hl
    exact ⟨_, l, List.mem_of_getElem? hri, hl, hb⟩
  have hog : ∀ b, Owned (trimG 0 rs γ) b → Owned γ b := fun b hb => by
    obtain ⟨r, l, _, h1, h2⟩ := hoi b hb
    exact ⟨r, l, h1, h2⟩
  let γ' := setAll rs δ γ ++ δ.drop rs.length
  have hlen' : (setAll rs δ γ).length = γ.length := setAll_len _ _ _
  -- what stands at a place of the whole
  have src : ∀ (r : Nat) l, γ'[r]? = some l → (r ∉ rs ∧ r < γ.length ∧ γ[r]? = some l) ∨ ∃ i : Nat, δ[i]? = some l ∧ outIx rs γ.length i = some r := by
    intro r l hl
    rcases Nat.lt_or_ge r γ.length with hlt | hge
    · have e : γ'[r]? = (setAll rs δ γ)[r]? := List.getElem?_append_left (by omega)
      rw [e] at hl
      by_cases hm : r ∈ rs
      · obtain ⟨i, hi⟩ := mem_idx hm
        have hil := getElem?_lt hi
        have hdi : δ[i]? = some δ[i] := by simp [show i < δ.length by omega]
        rw [setAll_at rs δ γ i hk.2.1 hi hdi hlt] at hl
        cases hl
        exact .inr ⟨i, hdi, by unfold outIx; rw [if_pos hil]; exact hi⟩
      · rw [setAll_ne rs δ γ hm] at hl
        exact .inl ⟨hm, hlt, hl⟩
    · have e : γ'[r]? = (δ.drop rs.length)[r - γ.length]? := by
        show (setAll rs δ γ ++ δ.drop rs.length)[r]? = _
        rw [List.getElem?_append_right (by omega), hlen']
      rw [e, List.getElem?_drop] at hl
      refine .inr ⟨rs.length + (r - γ.length), hl, ?_⟩
      unfold outIx
      rw [if_neg (by omega)]
      congr 1; omega
  have hf : ∀ (i j : Nat) l, outIx rs γ.length i = some j → δ[i]? = some l → γ'[j]? = some l := by
    intro i j l hj hl
    unfold outIx at hj
    split at hj
    · have hlt : j < γ.length := (hkg.2.2 j (List.mem_of_getElem? hj)).2
      have e : γ'[j]? = (setAll rs δ γ)[j]? := List.getElem?_append_left (by omega)
      rw [e]
      exact setAll_at rs δ γ i hk.2.1 hj hl hlt
    · cases hj
      have e : γ'[γ.length + (i - rs.length)]? = (δ.drop rs.length)[i - rs.length]? := by
        show (setAll rs δ γ ++ δ.drop rs.length)[_]? = _
        rw [List.getElem?_append_right (by omega), hlen', Nat.add_sub_cancel_left]
      rw [e, List.getElem?_drop, show rs.length + (i - rs.length) = i by omega]
      exact hl
  have hout : ∀ (i i' j : Nat), outIx rs γ.length i = some j → outIx rs γ.length i' = some j → i = i' := by
    intro i i' j h1 h2
    unfold outIx at h1 h2
    split at h1 <;> split at h2
    · rename_i a b
      have := (List.getElem_inj (h₀ := a) (h₁ := b) hk.2.1).1 (by
        rw [List.getElem?_eq_getElem a] at h1; rw [List.getElem?_eq_getElem b] at h2
        exact (Option.some.inj h1).trans (Option.some.inj h2).symm)
      exact this
    · have := (hkg.2.2 j (List.mem_of_getElem? h1)).2; cases h2; omega
    · have := (hkg.2.2 j (List.mem_of_getElem? h2)).2; cases h1; omega
    · cases h1; injection h2 with h2; omega
  have hext : Ext γ γ' := ⟨fun r l hl => by
    have hlt := getElem?_lt hl
    by_cases hm : r ∈ rs
    · obtain ⟨i, hi⟩ := mem_idx hm
      obtain ⟨l', h1, h2⟩ := hn.ext.all i l (by rw [hgi i r hi]; exact hl)
      exact ⟨l', hf i r l' (by unfold outIx; rw [if_pos (getElem?_lt hi)]; exact hi) h1, h2⟩
    · refine ⟨l, ?_, LocLe.refl l⟩
      have e : γ'[r]? = (setAll rs δ γ)[r]? := List.getElem?_append_left (by omega)
      rw [e, setAll_ne rs δ γ hm]; exact hl⟩
  -- what lies outside the part
  have hfar : ∀ (r : Nat) l b, r ∉ rs → γ[r]? = some l → l.block = some b → ¬ Owned (trimG 0 rs γ) b := by
    intro r l b hm hl hb ho
    obtain ⟨q, l', h1, h2, h3⟩ := hoi b ho
    have := hrel.inj r q l l' b hl h2 hb h3
    subst this
    exact hm h1
  have hN : H.length = γ.length := hrel.len.symm
  have hrel' : Rel γ' F' w' (putBack rs H Hl) := by
    refine ⟨?_, ?_, ?_, ?_, hr.frz, hr.glb⟩
    · simp only [putBack, List.length_append, setAll_len, List.length_drop, List.length_map]
      show (setAll rs δ γ ++ δ.drop rs.length).length = _
      simp only [List.length_append, hlen', List.length_drop]
      omega
    · intro r l o hl ho
      unfold putBack at ho
      rw [hN] at ho
      rcases src r l hl with ⟨hm, hlt, hl'⟩ | ⟨i, hi, hj⟩
      · rw [List.getElem?_append_left (by rw [setAll_len]; omega), setAll_ne _ _ _ hm] at ho
        refine RelO.mono hext hn.frz (fun b hb => ?_) (hrel.obj r l o hl' ho)
        exact hn.keep b (hrel.own r l b hl' hb).2 (hfar r l b hm hl' hb)
      · have hoo : ∃ x, Hl[i]? = some x ∧ o = renO (outIx rs γ.length) x := by
          have hil : i < Hl.length := by rw [hHl]; exact getElem?_lt hi
          have hx : Hl[i]? = some Hl[i] := by simp [hil]
          refine ⟨_, hx, ?_⟩
          unfold outIx at hj
          split at hj
          · rename_i hir
            have hlt : r < H.length := (hk.2.2 r (List.mem_of_getElem? hj)).2
            rw [List.getElem?_append_left (by rw [setAll_len]; exact hlt), setAll_at rs _ H i hk.2.1 hj (by rw [List.getElem?_map, hx]; rfl) hlt] at ho
            exact (Option.some.inj ho).symm
          · cases hj
            rw [List.getElem?_append_right (by rw [setAll_len]; omega), setAll_len, hN, Nat.add_sub_cancel_left, List.getElem?_drop, show rs.length + (i - rs.length) = i by omega, List.getElem?_map, hx] at ho
            exact (Option.some.inj ho).symm
        obtain ⟨x, hx, rfl⟩ := hoo
        exact RelO.ren hf (hr.obj i l x hi hx)
    · intro r r' l l' b hl hl' hb hb'
      rcases src r l hl with ⟨hm, hlt, h1⟩ | ⟨i, hi, hj⟩ <;> rcases src r' l' hl' with ⟨hm', hlt', h1'⟩ | ⟨i', hi', hj'⟩
      · exact hrel.inj r r' l l' b h1 h1' hb hb'
      · exact (hfar r l b hm h1 hb (hn.old b ⟨i', l', hi', hb'⟩ (hrel.own r l b h1 hb).2)).elim
      · exact (hfar r' l' b hm' h1' hb' (hn.old b ⟨i, l, hi, hb⟩ (hrel.own r' l' b h1' hb').2)).elim
      · have := hr.inj i i' l l' b hi hi' hb hb'
        subst this
        rw [hj] at hj'; cases hj'; rfl
    · intro r l b hl hb
      rcases src r l hl with ⟨hm, hlt, h1⟩ | ⟨i, hi, hj⟩
      · have := hrel.own r l b h1 hb
        exact ⟨by rw [hn.fz b this.2 (hfar r l b hm h1 hb)]; exact this.1, Nat.lt_of_lt_of_le this.2 hn.size⟩
      · exact hr.own i l b hi hb
  refine ⟨γ', F', u, rfl, ⟨hext, hn.frz, fun b hb ho => hn.keep b hb fun hh => ho (hog b hh), ?_, hn.size, hn.os, hn.tape, hn.output, fun b hb ho => hn.fz b hb fun hh => ho (hog b hh)⟩, hrel', ?_⟩
  · rintro b ⟨r, l, hl, hb⟩ hlt
    rcases src r l hl with ⟨hm, _, h1⟩ | ⟨i, hi, hj⟩
    · exact ⟨r, l, h1, hb⟩
    · exact hog b (hn.old b ⟨i, l, hi, hb⟩ hlt)
  · rw [hN]
    exact Rep.ren hf v hv
end
end Go.Ab
namespace Go.Ab
variable [Env]

def allocR (t : TypeId) (g : Bool) (k : Nat) (z : V) (H : Heap) : R := ⟨okVal g k z, .ptr H.length 0, H ++ [.cells t (valCells g z)]⟩
def mapR (H : Heap) : R := ⟨True, .mp H.length, H ++ [.mp []]⟩
def fnR (f : FuncId) (a c : List V) (H : Heap) : R := ⟨True, .fn f a c, H⟩
def ifaceR (t : TypeId) (x : V) (H : Heap) : R := ⟨true = true, .iface t x, H⟩

def buildQ (place : List (Option (Nat × Bool × Nat))) (z : V) (parts : List (Nat × V)) (H : Heap) : R :=
  match z with
  | .agg cells => match buildGo (fun i => place.getD i none) cells parts with
    | some (c, out) => ⟨c, .agg out, H⟩
    | none => R.bad
  | _ => R.bad

/-- q: 1 a pointer, 2 an interface, 3 a bool, 4 a function, 5 a map. -/
def eqQ (q : Nat) (ds : Option (List TypeDesc)) (c : Bool) (x y : V) (H : Heap) : R :=
  match x, y with
  | .bool a, .bool b => ⟨(q == 3) = true, .bool (a == b), H⟩
  | .agg xs, .agg ys => match ds with
    | some ds => ⟨okCells ds xs ys = true, .bool (eqCells xs ys), H⟩
    | none => R.bad
  | .nilptr, .nilptr => ⟨(q == 1) = true, .bool true, H⟩
  | .nilptr, .ptr _ _ => ⟨(q == 1) = true, .bool false, H⟩
  | .ptr _ _, .nilptr => ⟨(q == 1) = true, .bool false, H⟩
  | .niliface, .niliface => ⟨(q == 2) = true ∧ c = true, .bool true, H⟩
  | .niliface, .iface _ _ => ⟨(q == 2) = true, .bool false, H⟩
  | .iface _ _, .niliface => ⟨(q == 2) = true, .bool false, H⟩
  | .nilfn, .nilfn => ⟨(q == 4) = true, .bool true, H⟩
  | .nilfn, .fn _ _ _ => ⟨(q == 4) = true, .bool false, H⟩
  | .fn _ _ _, .nilfn => ⟨(q == 4) = true, .bool false, H⟩
  | .nilmap, .nilmap => ⟨(q == 5) = true, .bool true, H⟩
  | .nilmap, .mp _ => ⟨(q == 5) = true, .bool false, H⟩
  | .mp _, .nilmap => ⟨(q == 5) = true, .bool false, H⟩
  | _, _ => R.bad

def binQ (q : Nat) (ds : Option (List TypeDesc)) (op : BinOp) (c : Bool) (x y : V) (H : Heap) : R :=
  match op, x, y with
  | .shl, .int k a, .int _ b => ⟨0 ≤ b, .int k (k.wrap (a * 2 ^ (min b.toNat k.bits))), H⟩
  | .shr, .int k a, .int _ b => ⟨0 ≤ b, .int k (a.fdiv (2 ^ (min b.toNat k.bits))), H⟩
  | op, .int k a, .int k' b => if k = k' then intBin op k a b H else R.bad
  | op, .str a, .str b => strBin op a b H
  | .eql, x, y => eqQ q ds c x y H
  | .neq, x, y => notR (eqQ q ds c x y H)
  | _, _, _ => R.bad

def cvtI (k : IntKind) (x : V) (H : Heap) : R := match x with
  | .int _ n => ⟨True, .int k (k.wrap n), H⟩
  | _ => R.bad
def cvtS (x : V) (H : Heap) : R := match x with
  | .str l => ⟨True, .str l, H⟩
  | _ => R.bad
def cvtB (u : Bool) (e : TypeId) (x : V) (H : Heap) : R := match x with
  | .str l => ⟨u = true ∧ l.length < 2 ^ 46, .arr H.length l.length 0 l.length, H ++ [.arr e 1 (l.map byteV)]⟩
  | _ => R.bad
def cvtT (u : Bool) (x : V) (H : Heap) : R := match elemsR x H with
  | some (c, k, xs) => ⟨u = true ∧ c ∧ (k = 1 ∨ xs = []) ∧ xs.all okByte = true, .str (xs.map byteOfV), H⟩
  | none => R.bad

section
variable {P : Program} {H H' : Heap}

theorem spec_of_shallow {A : Ann} {M : List (Nat × List Nat)} (hm : P.follows .mixedOrders = true) {f : FuncId} {fn : Func} {args : List V} {v' : V} (gs : List Gh) (hf : P.funcs[f]? = some fn)
    (hb : fn.body.isSome = true) (hname : (fn.name == "runtime.NumGoroutine") = false)
    (h : awp P A (drawRule P M) (fn.body.getD .skip) (args ++ List.replicate (fn.ntmps - args.length) (.tup [])) H (lEnd P fn.results.toList gs fun v1 H1 => lFin H.length v1 H1 v' H')) : Spec P f args H v' H' := by
  cases hc : fn.body with
  | none => rw [hc] at hb; cases hb
  | some c =>
    rw [hc] at h
    exact spec_of_awp hm (draw_ok hm M) gs hf hc hname h
end
end Go.Ab
namespace Go.Ab
variable [Env]
section
variable {P : Program} {H : Heap} {K : V → Heap → Prop} {KL : List V → Heap → Prop}

@[simp] theorem lR_mk (c : Prop) (v : V) : lR ⟨c, v, H⟩ K = (c ∧ K v H) := rfl
@[simp] theorem lSame_mk (c : Prop) (v u : V) : lSame ⟨c, v, H⟩ u = (c ∧ v = u) := rfl
@[simp] theorem lIf_bool (b : Bool) (A B : Prop) : lIf (.bool b) A B = (if b = true then A else B) := by cases b <;> simp [lIf]
@[simp] theorem lGuard_bool (want b : Bool) (M : (List V → Heap → Prop) → Prop) (skip : List V) (next : List V → Heap → Prop) : lGuard want (.bool b) M skip next H = (if b = want then M next else next skip H) := by
  cases b <;> cases want <;> simp [lGuard]
@[simp] theorem lGuard_tup (want : Bool) (M : (List V → Heap → Prop) → Prop) (skip : List V) (next : List V → Heap → Prop) : lGuard want (.tup []) M skip next H = next skip H := rfl
@[simp] theorem lPass_bool (want b : Bool) (A B : Prop) : lPass want (.bool b) A B = (if b = want then A else B) := by cases b <;> cases want <;> simp [lPass]
@[simp] theorem lPass_tup (want : Bool) (A B : Prop) : lPass want (.tup []) A B = B := rfl
theorem lJoin_eq (M : (List V → Heap → Prop) → Prop) (N : List V → Heap → Prop) : lJoin M N = M N := rfl

@[simp] theorem allocR_eq (t : TypeId) (g : Bool) (k : Nat) (z : V) : allocR t g k z H = ⟨okVal g k z, .ptr H.length 0, H ++ [.cells t (valCells g z)]⟩ := rfl
@[simp] theorem fnR_eq (f : FuncId) (a c : List V) : fnR f a c H = ⟨True, .fn f a c, H⟩ := rfl
@[simp] theorem mapR_eq : mapR H = ⟨True, .mp H.length, H ++ [.mp []]⟩ := rfl
@[simp] theorem ifaceR_eq (t : TypeId) (x : V) : ifaceR t x H = ⟨true = true, .iface t x, H⟩ := rfl
@[simp] theorem okVal_agg (k : Nat) (cs : List V) : okVal true k (.agg cs) = (cs.length = k) := rfl
@[simp] theorem okVal_false (k : Nat) (v : V) : okVal false k v = (v.isCell = true) := rfl
@[simp] theorem valCells_false (v : V) : valCells false v = [v] := rfl
@[simp] theorem valCells_agg (cs : List V) : valCells true (.agg cs) = cs := rfl
attribute [simp] V.isCell
@[simp] theorem cellsOf_agg (cs : List V) : cellsOf (.agg cs) = cs := rfl

@[simp] theorem fieldAddrR_ptr (off r o : Nat) : fieldAddrR off (.ptr r o) H = ⟨True, .ptr r (o + off), H⟩ := rfl
@[simp] theorem fieldAddrR_cptr (off : Nat) (cs : List V) : fieldAddrR off (.cptr cs) H = ⟨True, .cptr (cs.drop off), H⟩ := rfl
@[simp] theorem fieldAddrR_eptr (off r L i o : Nat) : fieldAddrR off (.eptr r L i o) H = ⟨True, .eptr r L i (o + off), H⟩ := rfl
@[simp] theorem nilCheckR_ptr (r o : Nat) : nilCheckR (.ptr r o) H = ⟨True, .ptr r o, H⟩ := rfl
@[simp] theorem nilCheckR_cptr (cs : List V) : nilCheckR (.cptr cs) H = ⟨True, .cptr cs, H⟩ := rfl
@[simp] theorem nilCheckR_fn (f : FuncId) (a c : List V) : nilCheckR (.fn f a c) H = ⟨True, .fn f a c, H⟩ := rfl
@[simp] theorem fromCells_true (k : Nat) (cs : List V) (c : Prop) : fromCells true k cs c H = ⟨c ∧ k ≤ cs.length, .agg (cs.take k), H⟩ := rfl
@[simp] theorem fromCells_false (k : Nat) (cs : List V) (c : Prop) : fromCells false k cs c H = ⟨c ∧ 0 < cs.length, cs.headD .junk, H⟩ := rfl
@[simp] theorem loadR_cptr (g : Bool) (k : Nat) (cs : List V) : loadR g k (.cptr cs) H = fromCells g k cs True H := rfl
theorem loadR_ptr {g : Bool} {k r off : Nat} {t : TypeId} {cs : List V} (h : H[r]? = some (.cells t cs)) : loadR g k (.ptr r off) H = fromCells g k (cs.drop off) True H := by simp only [loadR, h]
theorem storeR_ptr {g : Bool} {k r off : Nat} {t : TypeId} {cs : List V} {v : V} (h : H[r]? = some (.cells t cs)) : storeR g k (.ptr r off) v H = ⟨okVal g k v ∧ off + (valCells g v).length ≤ cs.length, .tup [], H.set r (.cells t (splice cs off (valCells g v)))⟩ := by simp only [storeR, h]
@[simp] theorem fieldR_agg (g : Bool) (k off : Nat) (cs : List V) : fieldR g k off (.agg cs) H = fromCells g k (cs.drop off) True H := rfl

@[simp] theorem indexAddrR_sl (k k' : Nat) (xs : List V) (q : IntKind) (n : Int) : indexAddrR k (.sl k' xs) (.int q n) H = ⟨k' = k ∧ 0 ≤ n ∧ n < xs.length, .cptr (cellsOf (xs.getD n.toNat .junk)), H⟩ := rfl
@[simp] theorem indexR_str (l : List UInt8) (q : IntKind) (n : Int) : indexR (.str l) (.int q n) H = ⟨0 ≤ n ∧ n < l.length, .int .u8 (l.getD n.toNat 0).toNat, H⟩ := rfl
@[simp] theorem lenR_str (l : List UInt8) : lenR 0 (.str l) H = ⟨0 = 0, .int .i64 l.length, H⟩ := rfl
@[simp] theorem lenR_nilsl : lenR 1 .nilsl H = ⟨1 = 1, .int .i64 0, H⟩ := rfl
@[simp] theorem lenR_sl (k : Nat) (xs : List V) : lenR 1 (.sl k xs) H = ⟨1 = 1, .int .i64 xs.length, H⟩ := rfl
@[simp] theorem lenR_arr (r L off n : Nat) : lenR 1 (.arr r L off n) H = ⟨1 = 1, .int .i64 n, H⟩ := rfl
@[simp] theorem extractR_tup (vs : List V) (i : Nat) : extractR (.tup vs) i H = (match vs[i]? with | some v => ⟨True, v, H⟩ | none => R.bad) := rfl
@[simp] theorem pickR_bool (t : Bool) (a b : V) : pickR (.bool t) a b H = ⟨True, if t = true then a else b, H⟩ := by cases t <;> rfl
@[simp] theorem unR_not (b : Bool) : unR .not (.bool b) H = ⟨True, .bool (!b), H⟩ := rfl
@[simp] theorem unR_neg (k : IntKind) (n : Int) : unR .neg (.int k n) H = ⟨True, .int k (k.wrap (0 - n)), H⟩ := rfl
@[simp] theorem cvtI_int (k q : IntKind) (n : Int) : cvtI k (.int q n) H = ⟨True, .int k (k.wrap n), H⟩ := rfl
@[simp] theorem cvtS_str (l : List UInt8) : cvtS (.str l) H = ⟨True, .str l, H⟩ := rfl

section
variable (q : Nat) (ds : Option (List TypeDesc)) (c : Bool) (k : IntKind) (a b : Int) (s t : List UInt8)
@[simp] theorem binQ_int_add : binQ q ds .add c (.int k a) (.int k b) H = ⟨True, .int k (k.wrap (a + b)), H⟩ := by simp [binQ, intBin]
@[simp] theorem binQ_int_sub : binQ q ds .sub c (.int k a) (.int k b) H = ⟨True, .int k (k.wrap (a - b)), H⟩ := by simp [binQ, intBin]
@[simp] theorem binQ_int_mul : binQ q ds .mul c (.int k a) (.int k b) H = ⟨True, .int k (k.wrap (a * b)), H⟩ := by simp [binQ, intBin]
@[simp] theorem binQ_int_quo : binQ q ds .quo c (.int k a) (.int k b) H = ⟨b ≠ 0, .int k (k.wrap (a.tdiv b)), H⟩ := by simp [binQ, intBin]
@[simp] theorem binQ_int_rem : binQ q ds .rem c (.int k a) (.int k b) H = ⟨b ≠ 0, .int k (a.tmod b), H⟩ := by simp [binQ, intBin]
@[simp] theorem binQ_int_eql : binQ q ds .eql c (.int k a) (.int k b) H = ⟨True, .bool (a == b), H⟩ := by simp [binQ, intBin]
@[simp] theorem binQ_int_neq : binQ q ds .neq c (.int k a) (.int k b) H = ⟨True, .bool (a != b), H⟩ := by simp [binQ, intBin]
@[simp] theorem binQ_int_lss : binQ q ds .lss c (.int k a) (.int k b) H = ⟨True, .bool (decide (a < b)), H⟩ := by simp [binQ, intBin]
@[simp] theorem binQ_int_leq : binQ q ds .leq c (.int k a) (.int k b) H = ⟨True, .bool (decide (a ≤ b)), H⟩ := by simp [binQ, intBin]
@[simp] theorem binQ_int_gtr : binQ q ds .gtr c (.int k a) (.int k b) H = ⟨True, .bool (decide (a > b)), H⟩ := by simp [binQ, intBin]
@[simp] theorem binQ_int_geq : binQ q ds .geq c (.int k a) (.int k b) H = ⟨True, .bool (decide (a ≥ b)), H⟩ := by simp [binQ, intBin]
@[simp] theorem binQ_int_and : binQ q ds .and c (.int k a) (.int k b) H = ⟨True, .int k (bitsOf .and k a b), H⟩ := by simp [binQ, intBin]
@[simp] theorem binQ_int_or : binQ q ds .or c (.int k a) (.int k b) H = ⟨True, .int k (bitsOf .or k a b), H⟩ := by simp [binQ, intBin]
@[simp] theorem binQ_int_xor : binQ q ds .xor c (.int k a) (.int k b) H = ⟨True, .int k (bitsOf .xor k a b), H⟩ := by simp [binQ, intBin]
@[simp] theorem binQ_int_shl (k2 : IntKind) : binQ q ds .shl c (.int k a) (.int k2 b) H = ⟨0 ≤ b, .int k (k.wrap (a * 2 ^ (min b.toNat k.bits))), H⟩ := by simp [binQ]
@[simp] theorem binQ_int_shr (k2 : IntKind) : binQ q ds .shr c (.int k a) (.int k2 b) H = ⟨0 ≤ b, .int k (a.fdiv (2 ^ (min b.toNat k.bits))), H⟩ := by simp [binQ]
@[simp] theorem binQ_str_add : binQ q ds .add c (.str s) (.str t) H = ⟨s.length + t.length < 2 ^ 62, .str (s ++ t), H⟩ := by simp [binQ, strBin]
@[simp] theorem binQ_str_eql : binQ q ds .eql c (.str s) (.str t) H = ⟨True, .bool (s == t), H⟩ := by simp [binQ, strBin]
@[simp] theorem binQ_str_neq : binQ q ds .neq c (.str s) (.str t) H = ⟨True, .bool (!(s == t)), H⟩ := by simp [binQ, strBin]
@[simp] theorem binQ_str_lss : binQ q ds .lss c (.str s) (.str t) H = ⟨True, .bool (Op.bytesLess s t), H⟩ := by simp [binQ, strBin]
@[simp] theorem binQ_bool_eql (x y : Bool) : binQ q ds .eql c (.bool x) (.bool y) H = ⟨(q == 3) = true, .bool (x == y), H⟩ := by simp [binQ, eqQ]
@[simp] theorem binQ_bool_neq (x y : Bool) : binQ q ds .neq c (.bool x) (.bool y) H = ⟨(q == 3) = true, .bool (!(x == y)), H⟩ := by simp [binQ, eqQ, notR]
@[simp] theorem binQ_agg_eql (l : List TypeDesc) (xs ys : List V) : binQ q (some l) .eql c (.agg xs) (.agg ys) H = ⟨okCells l xs ys = true, .bool (eqCells xs ys), H⟩ := by simp [binQ, eqQ]
@[simp] theorem binQ_agg_neq (l : List TypeDesc) (xs ys : List V) : binQ q (some l) .neq c (.agg xs) (.agg ys) H = ⟨okCells l xs ys = true, .bool (!(eqCells xs ys)), H⟩ := by simp [binQ, eqQ, notR]
end

theorem lFin_nil {n : Nat} {v v' : V} {H' : Heap} (h : n ≤ H.length) (h1 : ren (newIx n []) v = v') (h2 : trimH n [] H = H') : lFin n v H v' H' := ⟨[], ⟨h, by simp, by simp⟩, h1, h2⟩

/-- A contract of a function that looks at no object. -/
theorem lFin_pure {v v' : V} (h1 : ren (newIx 0 []) v = v') : lFin 0 v H v' [] := lFin_nil (by simp) h1 (by simp [trimH])

theorem wrap_i64 {n : Int} (h1 : -2 ^ 63 ≤ n) (h2 : n < 2 ^ 63) : IntKind.i64.wrap n = n := by
  simp only [IntKind.wrap]
  first
    | (simp [IntKind.bits, IntKind.signed]; omega)
    | (unfold Int.bmod; simp; omega)
end
end Go.Ab
namespace Go.Ab

/-- A heap's objects by their numbers. -/
inductive HT where
  | nil
  | node (v : Option Ob) (l r : HT)
  deriving Inhabited

def HT.get : HT → Nat → Option Ob
  | .nil, _ => none
  | .node v l r, i => match Nat.beq i 0 with
    | true => v
    | false => match Nat.beq (i % 2) 1 with
      | true => l.get (i / 2)
      | false => r.get (i / 2 - 1)

def HT.leaf (f : Nat) (i : Nat) (o : Ob) : HT := match f with
  | 0 => .nil
  | f + 1 => match Nat.beq i 0 with
    | true => .node (some o) .nil .nil
    | false => match Nat.beq (i % 2) 1 with
      | true => .node none (HT.leaf f (i / 2) o) .nil
      | false => .node none .nil (HT.leaf f (i / 2 - 1) o)

def HT.set : HT → Nat → Ob → HT
  | .nil, i, o => HT.leaf (i + 1) i o
  | .node v l r, i, o => match Nat.beq i 0 with
    | true => .node (some o) l r
    | false => match Nat.beq (i % 2) 1 with
      | true => .node v (l.set (i / 2) o) r
      | false => .node v l (r.set (i / 2 - 1) o)

structure HP where
  t : HT
  n : Nat
  deriving Inhabited

def HP.get (h : HP) (r : Nat) : Option Ob := h.t.get r
def HP.set (h : HP) (r : Nat) (o : Ob) : HP := ⟨h.t.set r o, h.n⟩
def HP.push (h : HP) (o : Ob) : HP := ⟨h.t.set h.n o, h.n + 1⟩

abbrev RB := Option (V × HP)

def okValB (g : Bool) (k : Nat) (v : V) : Bool := match g with
  | true => match v with | .agg cs => Nat.beq cs.length k | _ => false
  | false => v.isCell

def when (c : Bool) (v : V) (H : HP) : RB := match c with
  | true => some (v, H)
  | false => none

def fromCellsB (g : Bool) (k : Nat) (cs : List V) (c : Bool) (H : HP) : RB := match g with
  | true => when (c && Nat.ble k cs.length) (.agg (cs.take k)) H
  | false => when (c && Nat.blt 0 cs.length) (cs.headD .junk) H

def loadB (g : Bool) (k : Nat) (p : V) (H : HP) : RB :=
  match p with
  | .ptr r off => match H.get r with
    | some (.cells _ cs) => fromCellsB g k (cs.drop off) true H
    | _ => none
  | .cptr cs => fromCellsB g k cs true H
  | .eptr r L i o => match H.get r with
    | some (.arr _ _ xs) => fromCellsB g k ((cellsOf (xs.getD i .junk)).drop o) (Nat.beq xs.length L && Nat.blt i L) H
    | _ => none
  | _ => none

def okPartB (g : Bool) (k : Nat) (x : V) (o : Nat) : Bool := match x with
  | .agg cs => Nat.ble (o + (match g with | true => k | false => 1)) cs.length
  | _ => !g && Nat.beq o 0

def storeB (g : Bool) (k : Nat) (p v : V) (H : HP) : RB :=
  match p with
  | .ptr r off => match H.get r with
    | some (.cells t cs) => when (okValB g k v && Nat.ble (off + (valCells g v).length) cs.length) (.tup []) (H.set r (.cells t (splice cs off (valCells g v))))
    | _ => none
  | .eptr r L i o => match H.get r with
    | some (.arr t kk xs) => when (okValB g k v && Nat.beq xs.length L && Nat.blt i L && okPartB g k (xs.getD i .junk) o) (.tup []) (H.set r (.arr t kk (xs.set i (setPart (xs.getD i .junk) o (valCells g v)))))
    | _ => none
  | _ => none

def fieldAddrB (off : Nat) (p : V) (H : HP) : RB :=
  match p with
  | .ptr r o => some (.ptr r (o + off), H)
  | .cptr cs => some (.cptr (cs.drop off), H)
  | .eptr r L i o => some (.eptr r L i (o + off), H)
  | _ => none

def nilCheckB (p : V) (H : HP) : RB :=
  match p with
  | .ptr r o => some (.ptr r o, H)
  | .cptr cs => some (.cptr cs, H)
  | .eptr r L i o => some (.eptr r L i o, H)
  | .fn f a c => some (.fn f a c, H)
  | _ => none

def fieldB (g : Bool) (k off : Nat) (x : V) (H : HP) : RB :=
  match x with
  | .agg cs => fromCellsB g k (cs.drop off) true H
  | _ => none

def ltI (a b : Int) : Bool := match a with
  | .ofNat n => match b with | .ofNat m => Nat.blt n m | .negSucc _ => false
  | .negSucc n => match b with | .ofNat _ => true | .negSucc m => Nat.blt m n
def leI (a b : Int) : Bool := match a with
  | .ofNat n => match b with | .ofNat m => Nat.ble n m | .negSucc _ => false
  | .negSucc n => match b with | .ofNat _ => true | .negSucc m => Nat.ble m n

def indexAddrB (k : Nat) (x i : V) (H : HP) : RB :=
  match x, i with
  | .sl k' xs, .int _ n => when (Nat.beq k' k && leI 0 n && ltI n xs.length) (.cptr (cellsOf (xs.getD n.toNat .junk))) H
  | .arr r L off m, .int _ n => match H.get r with
    | some (.arr _ k' xs) => when (Nat.beq k' k && Nat.beq xs.length L && Nat.ble (off + m) L && leI 0 n && ltI n m) (.eptr r L (off + n.toNat) 0) H
    | _ => none
  | _, _ => none

def indexB (x i : V) (H : HP) : RB :=
  match x, i with
  | .str l, .int _ n => when (leI 0 n && ltI n l.length) (.int .u8 (l.getD n.toNat 0).toNat) H
  | _, _ => none

def sliceStrB (x : V) (lo hi mx : Option V) (H : HP) : RB :=
  match x, mx with
  | .str l, none => match loOf lo, hiOf hi l.length with
    | some a, some b => when (leI 0 a && leI a b && leI b l.length) (.str ((l.take b.toNat).drop a.toNat)) H
    | _, _ => none
  | _, _ => none

def sliceSlB (k : Nat) (x : V) (lo hi mx : Option V) (H : HP) : RB :=
  match mx with
  | none =>
    match x with
    | .sl k' xs => match loOf lo, hiOf hi xs.length with
      | some a, some b => when (Nat.beq k' k && leI 0 a && leI a b && leI b xs.length) (.sl k' ((xs.take b.toNat).drop a.toNat)) H
      | _, _ => none
    | .nilsl => match loOf lo, hiOf hi 0 with
      | some a, some b => when (leI 0 a && leI a b && leI b 0) .nilsl H
      | _, _ => none
    | .zsl => match loOf lo, hiOf hi 0 with
      | some a, some b => when (leI 0 a && leI a b && leI b 0) .nilsl H
      | _, _ => none
    | .arr r L off n => match H.get r with
      | some (.arr _ k' xs) => match loOf lo, hiOf hi n with
        | some a, some b => when (Nat.beq k' k && Nat.beq xs.length L && Nat.ble (off + n) L && leI 0 a && leI a b && leI b n) (.arr r L (off + a.toNat) (b - a).toNat) H
        | _, _ => none
      | _ => none
    | _ => none
  | some (.int _ m) =>
    match x, loOf lo, hiOf hi 0 with
    | .sl _ xs, some a, some b => when (m == 0 && a == 0 && b == 0 && hi.isSome) .nilsl H
    | .nilsl, some a, some b => when (m == 0 && a == 0 && b == 0 && hi.isSome) .nilsl H
    | .zsl, some a, some b => when (m == 0 && a == 0 && b == 0 && hi.isSome) .nilsl H
    | .arr r L off n, some a, some b => when (m == 0 && a == 0 && b == 0 && hi.isSome) .nilsl H
    | _, _, _ => none
  | _ => none

def intBinB (op : BinOp) (k : IntKind) (a b : Int) (H : HP) : RB :=
  match op with
  | .add => some (.int k (k.wrap (a + b)), H)
  | .sub => some (.int k (k.wrap (a - b)), H)
  | .mul => some (.int k (k.wrap (a * b)), H)
  | .quo => when (!(b == 0)) (.int k (k.wrap (a.tdiv b))) H
  | .rem => when (!(b == 0)) (.int k (a.tmod b)) H
  | .and => some (.int k (bitsOf .and k a b), H)
  | .or => some (.int k (bitsOf .or k a b), H)
  | .xor => some (.int k (bitsOf .xor k a b), H)
  | .andNot => some (.int k (bitsOf .andNot k a b), H)
  | .eql => some (.bool (a == b), H)
  | .neq => some (.bool (a != b), H)
  | .lss => some (.bool (ltI a b), H)
  | .leq => some (.bool (leI a b), H)
  | .gtr => some (.bool (ltI b a), H)
  | .geq => some (.bool (leI b a), H)
  | _ => none

def strBinB (op : BinOp) (a b : List UInt8) (H : HP) : RB :=
  match op with
  | .add => when (Nat.blt (a.length + b.length) (2 ^ 62)) (.str (a ++ b)) H
  | .eql => some (.bool (a == b), H)
  | .neq => some (.bool (!(a == b)), H)
  | .lss => some (.bool (Op.bytesLess a b), H)
  | .leq => some (.bool (Op.bytesLess a b || a == b), H)
  | .gtr => some (.bool (!(Op.bytesLess a b || a == b)), H)
  | .geq => some (.bool (!Op.bytesLess a b), H)
  | _ => none

/-- Are two values one? q: the type (1 a pointer, 2 an interface, 3 a bool, 4 a function, 5 a map); ds: a struct's kinds; c: an operand is a constant. -/
def eqB (q : Nat) (ds : Option (List TypeDesc)) (c : Bool) (x y : V) (H : HP) : RB :=
  match x, y with
  | .bool a, .bool b => when (Nat.beq q 3) (.bool (a == b)) H
  | .agg xs, .agg ys => match ds with
    | some ds => when (okCells ds xs ys) (.bool (eqCells xs ys)) H
    | none => none
  | .nilptr, .nilptr => when (Nat.beq q 1) (.bool true) H
  | .nilptr, .ptr _ _ => when (Nat.beq q 1) (.bool false) H
  | .ptr _ _, .nilptr => when (Nat.beq q 1) (.bool false) H
  | .niliface, .niliface => when (Nat.beq q 2 && c) (.bool true) H
  | .niliface, .iface _ _ => when (Nat.beq q 2) (.bool false) H
  | .iface _ _, .niliface => when (Nat.beq q 2) (.bool false) H
  | .nilfn, .nilfn => when (Nat.beq q 4) (.bool true) H
  | .nilfn, .fn _ _ _ => when (Nat.beq q 4) (.bool false) H
  | .fn _ _ _, .nilfn => when (Nat.beq q 4) (.bool false) H
  | .nilmap, .nilmap => when (Nat.beq q 5) (.bool true) H
  | .nilmap, .mp _ => when (Nat.beq q 5) (.bool false) H
  | .mp _, .nilmap => when (Nat.beq q 5) (.bool false) H
  | _, _ => none

def notB (r : RB) : RB := match r with
  | some (.bool b, H) => some (.bool (!b), H)
  | _ => none

def binB (q : Nat) (ds : Option (List TypeDesc)) (op : BinOp) (c : Bool) (x y : V) (H : HP) : RB :=
  match op, x, y with
  | .shl, .int k a, .int _ b => when (leI 0 b) (.int k (k.wrap (a * 2 ^ (min b.toNat k.bits)))) H
  | .shr, .int k a, .int _ b => when (leI 0 b) (.int k (a.fdiv (2 ^ (min b.toNat k.bits)))) H
  | op, .int k a, .int k' b => if k = k' then intBinB op k a b H else none
  | op, .str a, .str b => strBinB op a b H
  | .eql, x, y => eqB q ds c x y H
  | .neq, x, y => notB (eqB q ds c x y H)
  | _, _, _ => none

def unB (op : UnOp) (x : V) (H : HP) : RB :=
  match op, x with
  | .neg, .int k n => some (.int k (k.wrap (0 - n)), H)
  | .xor, .int k n => some (.int k (bitsOf .xor k (if k.signed then -1 else k.max) n), H)
  | .not, .bool b => some (.bool (!b), H)
  | _, _ => none

def pickB (c a b : V) (H : HP) : RB :=
  match c with
  | .bool true => some (a, H)
  | .bool false => some (b, H)
  | _ => none

def elemsB (x : V) (H : HP) : Option (Bool × Nat × List V) :=
  match x with
  | .nilsl => some (true, 0, [])
  | .zsl => some (true, 0, [])
  | .sl k xs => some (true, k, xs)
  | .str l => some (true, 1, l.map byteV)
  | .arr r L off n => match H.get r with
    | some (.arr _ k xs) => some (Nat.beq xs.length L && Nat.ble (off + n) L, k, (xs.drop off).take n)
    | _ => none
  | _ => none

def isNil : List V → Bool
  | [] => true
  | _ => false

def cvtBB (u : Bool) (e : TypeId) (x : V) (H : HP) : RB := match x with
  | .str l => when (u && Nat.blt l.length (2 ^ 46)) (.arr H.n l.length 0 l.length) (H.push (.arr e 1 (l.map byteV)))
  | _ => none
def isStr : V → Bool
  | .str _ => true
  | _ => false
def cvtTB (u : Bool) (x : V) (H : HP) : RB := match elemsB x H with
  | some (c, k, xs) => when (u && c && (Nat.beq k 1 || isNil xs) && xs.all okByte && !isStr x) (.str (xs.map byteOfV)) H
  | none => none

def fitsB (n bytes : Nat) : Bool := Nat.ble ((2 * n + 1000) * bytes) (2 ^ 48) && Nat.blt n (2 ^ 62)

def appendB (e : TypeId) (g : Bool) (k bytes : Nat) (z s x : V) (H : HP) : RB :=
  match elemsB x H with
  | some (c, k', ys) =>
    match s with
    | .nilsl => when (c && (Nat.beq k' k || isNil ys) && okValB g k z && Nat.blt 0 k && fitsB ys.length bytes) (.arr H.n ys.length 0 ys.length) (H.push (.arr e k ys))
    | .zsl => when (c && (Nat.beq k' k || isNil ys) && okValB g k z && Nat.blt 0 k && fitsB ys.length bytes) (.arr H.n ys.length 0 ys.length) (H.push (.arr e k ys))
    | .arr r L off n => match H.get r with
      | some (.arr t kk xs) => when (c && (Nat.beq k' k || isNil ys) && okValB g k z && Nat.blt 0 k && Nat.beq t e && Nat.beq kk k && Nat.beq xs.length L && Nat.beq (off + n) L && Nat.beq off 0 && fitsB (L + ys.length) bytes)
          (.arr r (L + ys.length) off (n + ys.length)) (H.set r (.arr t kk (xs ++ ys)))
      | _ => none
    | _ => none
  | none => none

def lenB (d : Nat) (x : V) (H : HP) : RB :=
  match x with
  | .str l => when (Nat.beq d 0) (.int .i64 l.length) H
  | .nilsl => when (Nat.beq d 1) (.int .i64 0) H
  | .zsl => when (Nat.beq d 1) (.int .i64 0) H
  | .sl _ xs => when (Nat.beq d 1) (.int .i64 xs.length) H
  | .arr r L off n => when (Nat.beq d 1) (.int .i64 n) H
  | .nilmap => when (Nat.beq d 2) (.int .i64 0) H
  | .mp r => match H.get r with
    | some (.mp es) => when (Nat.beq d 2) (.int .i64 es.length) H
    | _ => none
  | _ => none

def minB (mx : Bool) (x y : V) (H : HP) : RB :=
  match x, y with
  | .int k a, .int _ b => some (.int k (match mx with | true => (match ltI a b with | true => b | false => a) | false => (match ltI b a with | true => b | false => a)), H)
  | _, _ => none

def makeSliceB (e : TypeId) (g : Bool) (k bytes : Nat) (z l c : V) (H : HP) : RB :=
  match l, c with
  | .int _ n, .int _ m => when (leI 0 n && leI n m && leI (m * bytes) (2 ^ 47) && ltI m (2 ^ 62) && okValB g k z && Nat.blt 0 k) (.arr H.n n.toNat 0 n.toNat) (H.push (.arr e k (List.replicate n.toNat z)))
  | _, _ => none

def lookupB (d : List TypeDesc × Bool) (z m k : V) (ok : Bool) (H : HP) : RB :=
  match m with
  | .nilmap => when (okKey d k) (match ok with | true => .tup [z, .bool false] | false => z) H
  | .mp r => match H.get r with
    | some (.mp es) => when (okKey d k && es.all (fun e => okKey d e.1)) (match ok with
        | true => .tup [(findKey k es).getD z, .bool (findKey k es).isSome]
        | false => (findKey k es).getD z) H
    | _ => none
  | _ => none

def mapUpdateB (d : List TypeDesc × Bool) (m k x : V) (H : HP) : RB :=
  match m with
  | .mp r => match H.get r with
    | some (.mp es) => when (okKey d k && es.all (fun e => okKey d e.1)) (.tup []) (H.set r (.mp (putKey k x es)))
    | _ => none
  | _ => none

def extractB (t : V) (i : Nat) (H : HP) : RB :=
  match t with
  | .tup vs => match vs[i]? with
    | some v => some (v, H)
    | none => none
  | _ => none

def buildGoB (place : Nat → Option (Nat × Bool × Nat)) : List V → List (Nat × V) → Option (List V)
  | cells, [] => some cells
  | cells, (i, v) :: rest => match place i with
    | some (off, g, k) => match okValB g k v && Nat.ble (off + k) cells.length with
      | true => buildGoB place (splice cells off (valCells g v)) rest
      | false => none
    | none => none

def buildB (place : Nat → Option (Nat × Bool × Nat)) (z : V) (parts : List (Nat × V)) (H : HP) : RB :=
  match z with
  | .agg cells => match buildGoB place cells parts with
    | some out => some (.agg out, H)
    | none => none
  | _ => none

def okElemsB (g : Bool) (k : Nat) : List V → Bool
  | [] => true
  | v :: vs => okValB g k v && okElemsB g k vs

def buildSliceB (g : Bool) (k len : Nat) (parts : List (Nat × V)) (H : HP) : RB :=
  match partsInOrder 0 parts with
  | some [] => match len with
    | 0 => some (.nilsl, H)
    | _ => none
  | some vs => when (Nat.beq vs.length len && okElemsB g k vs && Nat.blt 0 k && Nat.ble (len * k) (2 ^ 24)) (.sl k vs) H
  | none => none

def allocB (t : TypeId) (g : Bool) (k : Nat) (z : V) (H : HP) : RB := when (okValB g k z) (.ptr H.n 0) (H.push (.cells t (valCells g z)))

end Go.Ab
namespace Go.Ab

/-- Temporaries by their numbers. -/
inductive ET where
  | nil
  | node (v : V) (l r : ET)
  deriving Inhabited

def ET.get : ET → Nat → V
  | .nil, _ => .tup []
  | .node v l r, i => match Nat.beq i 0 with
    | true => v
    | false => match Nat.beq (i % 2) 1 with
      | true => l.get (i / 2)
      | false => r.get (i / 2 - 1)

def ET.set : ET → Nat → V → ET
  | .nil, _, _ => .nil
  | .node v l r, i, o => match Nat.beq i 0 with
    | true => .node o l r
    | false => match Nat.beq (i % 2) 1 with
      | true => .node v (l.set (i / 2) o) r
      | false => .node v l (r.set (i / 2 - 1) o)

/-- Room for so many temporaries. -/
def ET.mk : Nat → Nat → ET
  | 0, _ => .nil
  | f + 1, n => match Nat.beq n 0 with
    | true => .nil
    | false => .node (.tup []) (ET.mk f (n / 2)) (ET.mk f ((n - 1) / 2))

/-- An operand. -/
inductive X where
  | t (n : Nat)
  | c (v : V)
  deriving Inhabited

def X.ev (e : ET) : X → V
  | .t n => e.get n
  | .c v => v

abbrev Exec := ET → HP → RB

def plc (l : List (Option (Nat × Bool × Nat))) (i : Nat) : Option (Nat × Bool × Nat) := (l[i]?).join
def evp (e : ET) (ps : List (Nat × X)) : List (Nat × V) := ps.map fun p => (p.1, p.2.ev e)
def evo (e : ET) (x : Option X) : Option V := match x with | some x => some (x.ev e) | none => none

def oMv (x : X) : Exec := fun e H => some (x.ev e, H)
def oPk (c a b : X) : Exec := fun e H => pickB (c.ev e) (a.ev e) (b.ev e) H
def oAl (t : TypeId) (g : Bool) (k : Nat) (z : V) : Exec := fun e H => allocB t g k z H
def oBx (t : TypeId) (g : Bool) (k : Nat) (x : X) : Exec := fun e H => allocB t g k (x.ev e) H
def oBd (l : List (Option (Nat × Bool × Nat))) (z : V) (ps : List (Nat × X)) : Exec := fun e H => buildB (plc l) z (evp e ps) H
def buildOwnB (t : TypeId) (g : Bool) (k n : Nat) (parts : List (Nat × V)) (H : HP) : RB := match partsInOrder 0 parts with
  | some vs => when (Nat.beq vs.length n && okElemsB g k vs && Nat.blt 0 k && Nat.ble (n * k) 16777216) (.arr H.n n 0 n) (H.push (.arr t k vs))
  | none => none
def oBs (t : TypeId) (g : Bool) (k n : Nat) (ps : List (Nat × X)) : Exec := fun e H => buildOwnB t g k n (evp e ps) H
def oLd (g : Bool) (k : Nat) (a : X) : Exec := fun e H => loadB g k (a.ev e) H
def oSt (g : Bool) (k : Nat) (a x : X) : Exec := fun e H => storeB g k (a.ev e) (x.ev e) H
def oNc (x : X) : Exec := fun e H => nilCheckB (x.ev e) H
def oBn (q : Nat) (ds : Option (List TypeDesc)) (op : BinOp) (c : Bool) (x y : X) : Exec := fun e H => binB q ds op c (x.ev e) (y.ev e) H
def oUn (op : UnOp) (x : X) : Exec := fun e H => unB op (x.ev e) H
def oCvI (k : IntKind) (x : X) : Exec := fun e H => match x.ev e with | .int _ n => some (.int k (k.wrap n), H) | _ => none
def oCvS (x : X) : Exec := fun e H => match x.ev e with | .str l => some (.str l, H) | _ => none
def oCvB (u : Bool) (t : TypeId) (x : X) : Exec := fun e H => cvtBB u t (x.ev e) H
def oCvT (u : Bool) (x : X) : Exec := fun e H => cvtTB u (x.ev e) H
def oIf (t : TypeId) (x : X) : Exec := fun e H => some (.iface t (x.ev e), H)
def oFn (f : FuncId) (a c : List X) : Exec := fun e H => some (.fn f (a.map (X.ev e)) (c.map (X.ev e)), H)
def oMm : Exec := fun _ H => some (.mp H.n, H.push (.mp []))
def oMs (t : TypeId) (g : Bool) (k b : Nat) (z : V) (l c : X) : Exec := fun e H => makeSliceB t g k b z (l.ev e) (c.ev e) H
def oSs (x : X) (lo hi mx : Option X) : Exec := fun e H => sliceStrB (x.ev e) (evo e lo) (evo e hi) (evo e mx) H
def oSl (k : Nat) (x : X) (lo hi mx : Option X) : Exec := fun e H => sliceSlB k (x.ev e) (evo e lo) (evo e hi) (evo e mx) H
def oFa (off : Nat) (x : X) : Exec := fun e H => fieldAddrB off (x.ev e) H
def oFd (g : Bool) (k off : Nat) (x : X) : Exec := fun e H => fieldB g k off (x.ev e) H
def oIa (k : Nat) (x i : X) : Exec := fun e H => indexAddrB k (x.ev e) (i.ev e) H
def indexArrB (n k : Nat) (x i : V) (H : HP) : RB := match x with
  | .ptr r o => match i with
    | .int _ j => when (leI 0 j && ltI j n) (.ptr r (o + j.toNat * k)) H
    | _ => none
  | _ => none
def oIaA (n k : Nat) (x i : X) : Exec := fun e H => indexArrB n k (x.ev e) (i.ev e) H
def oIx (x i : X) : Exec := fun e H => indexB (x.ev e) (i.ev e) H
def oLk (d : List TypeDesc × Bool) (z : V) (m k : X) (ok : Bool) : Exec := fun e H => lookupB d z (m.ev e) (k.ev e) ok H
def oMu (d : List TypeDesc × Bool) (m k x : X) : Exec := fun e H => mapUpdateB d (m.ev e) (k.ev e) (x.ev e) H
def oEx (t : X) (i : Nat) : Exec := fun e H => extractB (t.ev e) i H
def oLen (d : Nat) (x : X) : Exec := fun e H => lenB d (x.ev e) H
def oAp (t : TypeId) (g : Bool) (k b : Nat) (z : V) (s x : X) : Exec := fun e H => appendB t g k b z (s.ev e) (x.ev e) H
def oMin (mx : Bool) (x y : X) : Exec := fun e H => minB mx (x.ev e) (y.ev e) H
def oNo : Exec := fun _ _ => none

def putE (e : ET) (d : Option Nat) (v : V) : ET := match d with
  | some d => e.set d v
  | none => e

def initE : Nat → List V → ET → ET
  | _, [], e => e
  | i, v :: vs, e => initE (i + 1) vs (e.set i v)

end Go.Ab
namespace Go.Ab
variable [Env]

@[simp] theorem nbeq_iff {a b : Nat} : Nat.beq a b = true ↔ a = b := ⟨Nat.eq_of_beq_eq_true, fun h => by subst h; exact Nat.beq_refl a⟩
@[simp] theorem nble_iff {a b : Nat} : Nat.ble a b = true ↔ a ≤ b := ⟨Nat.le_of_ble_eq_true, Nat.ble_eq_true_of_le⟩
@[simp] theorem nblt_iff {a b : Nat} : Nat.blt a b = true ↔ a < b := nble_iff
theorem nbeq_false {a b : Nat} : Nat.beq a b = false ↔ a ≠ b := by
  rw [← Bool.not_eq_true, nbeq_iff]

theorem HT.get_leaf : ∀ (f i q : Nat) (o : Ob), i < f → (HT.leaf f i o).get q = if q = i then some o else none
  | 0, i, q, o, h => by omega
  | f + 1, i, q, o, h => by
    unfold HT.leaf
    split
    · rename_i hi
      have hi := nbeq_iff.1 hi
      subst hi
      unfold HT.get
      split
      · rename_i hq; have hq := nbeq_iff.1 hq; simp [hq]
      · rename_i hq
        have hq := nbeq_false.1 hq
        simp only [hq, if_false]
        split <;> simp [HT.get]
    · rename_i hi
      have hi := nbeq_false.1 hi
      split
      · rename_i hm
        have hm := nbeq_iff.1 hm
        have ih := fun q => HT.get_leaf f (i / 2) q o (by omega)
        unfold HT.get
        split
        · rename_i hq; have hq := nbeq_iff.1 hq; subst hq; rw [if_neg (by omega)]
        · rename_i hq
          have hq := nbeq_false.1 hq
          split
          · rename_i hqm
            have hqm := nbeq_iff.1 hqm
            rw [ih]
            by_cases e : q = i
            · subst e; simp
            · rw [if_neg (by omega), if_neg e]
          · rename_i hqm
            have hqm := nbeq_false.1 hqm
            rw [if_neg (by rintro rfl; exact hqm hm)]; simp [HT.get]
      · rename_i hm
        have hm := nbeq_false.1 hm
        have ih := fun q => HT.get_leaf f (i / 2 - 1) q o (by omega)
        unfold HT.get
        split
        · rename_i hq; have hq := nbeq_iff.1 hq; subst hq; rw [if_neg (by omega)]
        · rename_i hq
          have hq := nbeq_false.1 hq
          split
          · rename_i hqm
            have hqm := nbeq_iff.1 hqm
            rw [if_neg (by rintro rfl; exact hm hqm)]; simp [HT.get]
          · rename_i hqm
            have hqm := nbeq_false.1 hqm
            rw [ih]
            by_cases e : q = i
            · subst e; simp
            · rw [if_neg (by omega), if_neg e]

theorem HT.get_set : ∀ (t : HT) (i q : Nat) (o : Ob), (t.set i o).get q = if q = i then some o else t.get q
  | .nil, i, q, o => by
    unfold HT.set
    rw [HT.get_leaf (i + 1) i q o (by omega)]
    simp [HT.get]
  | .node v l r, i, q, o => by
    unfold HT.set
    split
    · rename_i hi
      have hi := nbeq_iff.1 hi
      subst hi
      unfold HT.get
      split
      · rename_i hq; have hq := nbeq_iff.1 hq; simp [hq]
      · rename_i hq; have hq := nbeq_false.1 hq; simp [hq]
    · rename_i hi
      have hi := nbeq_false.1 hi
      split
      · rename_i hm
        have hm := nbeq_iff.1 hm
        unfold HT.get
        split
        · rename_i hq; have hq := nbeq_iff.1 hq; subst hq; rw [if_neg (by omega)]
        · rename_i hq
          have hq := nbeq_false.1 hq
          split
          · rename_i hqm
            have hqm := nbeq_iff.1 hqm
            rw [HT.get_set l]
            by_cases e : q = i
            · subst e; simp
            · rw [if_neg (by omega), if_neg e]
          · rename_i hqm
            have hqm := nbeq_false.1 hqm
            rw [if_neg (by rintro rfl; exact hqm hm)]
      · rename_i hm
        have hm := nbeq_false.1 hm
        unfold HT.get
        split
        · rename_i hq; have hq := nbeq_iff.1 hq; subst hq; rw [if_neg (by omega)]
        · rename_i hq
          have hq := nbeq_false.1 hq
          split
          · rename_i hqm
            have hqm := nbeq_iff.1 hqm
            rw [if_neg (by rintro rfl; exact hm hqm)]
          · rename_i hqm
            have hqm := nbeq_false.1 hqm
            rw [HT.get_set r]
            by_cases e : q = i
            · subst e; simp
            · rw [if_neg (by omega), if_neg e]

/-- A tree holds a heap. -/
structure HAbs (hp : HP) (H : Heap) : Prop where
  n : hp.n = H.length
  get : ∀ r, hp.get r = H[r]?

theorem HAbs.set {hp : HP} {H : Heap} (h : HAbs hp H) {r : Nat} {o x : Ob} (hr : H[r]? = some x) : HAbs (hp.set r o) (H.set r o) := by
  have hlt := getElem?_lt hr
  refine ⟨by simp [HP.set, h.n], fun q => ?_⟩
  show (hp.t.set r o).get q = _
  rw [HT.get_set, List.getElem?_set]
  by_cases e : q = r
  · subst e; simp [hlt]
  · rw [if_neg e, if_neg (fun h => e h.symm)]; exact h.get q

theorem HAbs.push {hp : HP} {H : Heap} (h : HAbs hp H) (o : Ob) : HAbs (hp.push o) (H ++ [o]) := by
  refine ⟨by simp [HP.push, h.n], fun q => ?_⟩
  show (hp.t.set hp.n o).get q = _
  rw [HT.get_set, h.n]
  rcases Nat.lt_trichotomy q H.length with e | e | e
  · rw [if_neg (by omega), List.getElem?_append_left e]; exact h.get q
  · subst e; simp
  · rw [if_neg (by omega), List.getElem?_eq_none (by simp; omega)]
    have := h.get q
    rw [List.getElem?_eq_none (by omega)] at this
    exact this

def ET.has : ET → Nat → Bool
  | .nil, _ => false
  | .node _ l r, i => match Nat.beq i 0 with
    | true => true
    | false => match Nat.beq (i % 2) 1 with
      | true => l.has (i / 2)
      | false => r.has (i / 2 - 1)

theorem ET.get_set : ∀ (t : ET) (i q : Nat) (o : V), (t.set i o).get q = if q = i ∧ t.has i = true then o else t.get q
  | .nil, i, q, o => by simp [ET.set, ET.has, ET.get]
  | .node v l r, i, q, o => by
    unfold ET.set ET.has
    split
    · rename_i hi
      have hi := nbeq_iff.1 hi
      subst hi
      unfold ET.get
      split
      · rename_i hq; have hq := nbeq_iff.1 hq; simp [hq]
      · rename_i hq; have hq := nbeq_false.1 hq; simp [hq]
    · rename_i hi
      have hi := nbeq_false.1 hi
      split
      · rename_i hm
        have hm := nbeq_iff.1 hm
        unfold ET.get
        split
        · rename_i hq; have hq := nbeq_iff.1 hq; subst hq; rw [if_neg (by omega)]
        · rename_i hq
          have hq := nbeq_false.1 hq
          split
          · rename_i hqm
            have hqm := nbeq_iff.1 hqm
            rw [ET.get_set l]
            by_cases e : q = i
            · subst e; simp [*]
            · rw [if_neg (by omega), if_neg (fun h => e h.1)]
          · rename_i hqm
            have hqm := nbeq_false.1 hqm
            rw [if_neg (by rintro ⟨rfl, _⟩; exact hqm hm)]
      · rename_i hm
        have hm := nbeq_false.1 hm
        unfold ET.get
        split
        · rename_i hq; have hq := nbeq_iff.1 hq; subst hq; rw [if_neg (by omega)]
        · rename_i hq
          have hq := nbeq_false.1 hq
          split
          · rename_i hqm
            have hqm := nbeq_iff.1 hqm
            rw [if_neg (by rintro ⟨rfl, _⟩; exact hm hqm)]
          · rename_i hqm
            have hqm := nbeq_false.1 hqm
            rw [ET.get_set r]
            by_cases e : q = i
            · subst e; simp [*]
            · rw [if_neg (by omega), if_neg (fun h => e h.1)]

theorem ET.has_set : ∀ (t : ET) (i q : Nat) (o : V), (t.set i o).has q = t.has q
  | .nil, i, q, o => by simp [ET.set, ET.has]
  | .node v l r, i, q, o => by
    unfold ET.set
    split
    · simp [ET.has]
    · split
      · simp [ET.has, ET.has_set l]
      · simp [ET.has, ET.has_set r]

theorem ET.has_mk : ∀ (f n q : Nat), n ≤ f → ((ET.mk f n).has q = true ↔ q < n)
  | 0, n, q, h => by simp [ET.mk, ET.has]; omega
  | f + 1, n, q, h => by
    unfold ET.mk
    split
    · rename_i hn; have hn := nbeq_iff.1 hn; simp [ET.has, hn]
    · rename_i hn
      have hn := nbeq_false.1 hn
      unfold ET.has
      split
      · rename_i hq; have hq := nbeq_iff.1 hq; simp; omega
      · rename_i hq
        have hq := nbeq_false.1 hq
        split
        · rename_i hm
          have hm := nbeq_iff.1 hm
          rw [ET.has_mk f (n / 2) _ (by omega)]; omega
        · rename_i hm
          have hm := nbeq_false.1 hm
          rw [ET.has_mk f ((n - 1) / 2) _ (by omega)]; omega

theorem ET.get_mk : ∀ (f n q : Nat), (ET.mk f n).get q = .tup []
  | 0, n, q => by simp [ET.mk, ET.get]
  | f + 1, n, q => by
    unfold ET.mk
    split
    · simp [ET.get]
    · unfold ET.get
      split
      · rfl
      · split
        · exact ET.get_mk f _ _
        · exact ET.get_mk f _ _

/-- A tree holds an environment. -/
structure EAbs (e : ET) (env : List V) : Prop where
  get : ∀ t, e.get t = env.getD t (.tup [])
  has : ∀ t, e.has t = true ↔ t < env.length

theorem EAbs.set {e : ET} {env : List V} (h : EAbs e env) (d : Nat) (v : V) : EAbs (e.set d v) (env.set d v) := by
  refine ⟨fun t => ?_, fun t => by rw [ET.has_set]; simpa using h.has t⟩
  rw [ET.get_set, getD_set]
  by_cases c : t = d
  · subst c
    by_cases hl : t < env.length
    · rw [if_pos ⟨rfl, (h.has t).2 hl⟩, if_pos ⟨rfl, hl⟩]
    · rw [if_neg (fun hh => hl ((h.has t).1 hh.2)), if_neg (fun hh => hl hh.2)]; exact h.get t
  · rw [if_neg (fun hh => c hh.1), if_neg (fun hh => c hh.1.symm)]; exact h.get t

theorem EAbs.put {e : ET} {env : List V} (h : EAbs e env) (d : Option Nat) (v : V) : EAbs (putE e d v) (putD env d v) := by
  cases d with
  | none => exact h
  | some d => exact h.set d v

theorem EAbs.fresh (n : Nat) : EAbs (ET.mk n n) (List.replicate n (.tup [])) := by
  refine ⟨fun t => ?_, fun t => by rw [ET.has_mk n n t (Nat.le_refl _)]; simp⟩
  rw [ET.get_mk]
  simp only [List.getD, List.getElem?_replicate]
  split <;> simp

theorem EAbs.init : ∀ (args : List V) (i : Nat) {e : ET} {env : List V}, EAbs e env → i + args.length ≤ env.length → EAbs (initE i args e) (env.take i ++ args ++ env.drop (i + args.length))
  | [], i, e, env, h, _ => by simpa [initE] using h
  | v :: vs, i, e, env, h, hl => by
    simp only [List.length_cons] at hl
    have := EAbs.init vs (i + 1) (h.set i v) (by simp; omega)
    unfold initE
    have e1 : (env.set i v).take (i + 1) ++ vs ++ (env.set i v).drop (i + 1 + vs.length) = env.take i ++ (v :: vs) ++ env.drop (i + (v :: vs).length) := by
      apply List.ext_getElem?
      intro q
      simp only [List.length_cons]
      have hlen : ((env.set i v).take (i + 1)).length = i + 1 := by simp; omega
      have hlen2 : (env.take i).length = i := by simp; omega
      rcases Nat.lt_trichotomy q i with c | c | c
      · rw [List.append_assoc, List.getElem?_append_left (by omega), List.append_assoc, List.getElem?_append_left (by omega), List.getElem?_take_of_lt (by omega), List.getElem?_take_of_lt c, List.getElem?_set_ne (by omega)]
      · subst c
        rw [List.append_assoc, List.getElem?_append_left (by omega), List.append_assoc, List.getElem?_append_right (by omega), List.getElem?_take_of_lt (by omega), hlen2, List.getElem?_set_self (by omega)]
        simp
      · have e2 : q - i = (q - (i + 1)) + 1 := by omega
        rw [List.append_assoc, List.getElem?_append_right (l₁ := (env.set i v).take (i + 1)) (by rw [hlen]; omega), hlen, List.append_assoc, List.getElem?_append_right (l₁ := env.take i) (by rw [hlen2]; omega), hlen2, e2, List.cons_append, List.getElem?_cons_succ]
        rcases Nat.lt_or_ge (q - (i + 1)) vs.length with d | d
        · rw [List.getElem?_append_left d, List.getElem?_append_left d]
        · rw [List.getElem?_append_right d, List.getElem?_append_right d, List.getElem?_drop, List.getElem?_drop, List.getElem?_set_ne (by omega)]
          congr 1; omega
    rw [← e1]; exact this

/-- What an evaluated operation says of its relational twin. -/
def RBok (rb : RB) (r : R) : Prop := ∀ v hp, rb = some (v, hp) → r.ok ∧ r.v = v ∧ HAbs hp r.H

theorem rb_when {c : Bool} {v : V} {hp : HP} {r : R} (h : c = true → r.ok ∧ r.v = v ∧ HAbs hp r.H) : RBok (when c v hp) r := by
  intro v' hp' e
  cases c
  · cases e
  · cases e; exact h rfl
theorem rb_some {v : V} {hp : HP} {r : R} (h : r.ok ∧ r.v = v ∧ HAbs hp r.H) : RBok (some (v, hp)) r := by
  intro v' hp' e; cases e; exact h
theorem rb_none {r : R} : RBok none r := by intro v hp e; cases e

@[simp] theorem leI_iff {a b : Int} : leI a b = true ↔ a ≤ b := by
  unfold leI
  cases a <;> cases b <;> simp <;> omega
@[simp] theorem ltI_iff {a b : Int} : ltI a b = true ↔ a < b := by
  unfold ltI
  cases a <;> cases b <;> simp <;> omega
@[simp] theorem okValB_iff {g : Bool} {k : Nat} {v : V} : okValB g k v = true ↔ okVal g k v := by
  unfold okValB okVal
  cases g
  · simp
  · cases v <;> simp
@[simp] theorem okPartB_iff {g : Bool} {k : Nat} {v : V} {o : Nat} : okPartB g k v o = true ↔ okPart g k v o := by
  unfold okPartB okPart
  cases v <;> cases g <;> simp

variable {H : Heap} {hp : HP}

theorem fromCells_rb (h : HAbs hp H) {g : Bool} {k : Nat} {cs : List V} {c : Bool} {p : Prop} (hc : c = true → p) : RBok (fromCellsB g k cs c hp) (fromCells g k cs p H) := by
  unfold fromCellsB fromCells
  cases g
  · exact rb_when fun e => by simp at e; exact ⟨⟨hc e.1, e.2⟩, rfl, h⟩
  · exact rb_when fun e => by simp at e; exact ⟨⟨hc e.1, e.2⟩, rfl, h⟩

theorem load_rb (h : HAbs hp H) (g : Bool) (k : Nat) (p : V) : RBok (loadB g k p hp) (loadR g k p H) := by
  unfold loadB loadR
  split <;> simp only [] <;> try exact rb_none
  · rw [h.get]
    split <;> try exact rb_none
    rename_i ho
    simp only [ho]
    exact fromCells_rb h fun _ => trivial
  · exact fromCells_rb h fun _ => trivial
  · rw [h.get]
    split <;> try exact rb_none
    rename_i ho
    simp only [ho]
    exact fromCells_rb h fun e => by simp at e; exact e

theorem store_rb (h : HAbs hp H) (g : Bool) (k : Nat) (p v : V) : RBok (storeB g k p v hp) (storeR g k p v H) := by
  unfold storeB storeR
  split <;> simp only [] <;> try exact rb_none
  · rw [h.get]
    split <;> try exact rb_none
    rename_i ho
    simp only [ho]
    exact rb_when fun e => by simp at e; exact ⟨e, rfl, h.set ho⟩
  · rw [h.get]
    split <;> try exact rb_none
    rename_i ho
    simp only [ho]
    exact rb_when fun e => by simp at e; exact ⟨⟨e.1.1.1, e.1.1.2, e.1.2, e.2⟩, rfl, h.set ho⟩

theorem fieldAddr_rb (h : HAbs hp H) (off : Nat) (p : V) : RBok (fieldAddrB off p hp) (fieldAddrR off p H) := by
  unfold fieldAddrB fieldAddrR
  split <;> first | exact rb_some ⟨trivial, rfl, h⟩ | exact rb_none

theorem nilCheck_rb (h : HAbs hp H) (p : V) : RBok (nilCheckB p hp) (nilCheckR p H) := by
  unfold nilCheckB nilCheckR
  split <;> first | exact rb_some ⟨trivial, rfl, h⟩ | exact rb_none

theorem field_rb (h : HAbs hp H) (g : Bool) (k off : Nat) (x : V) : RBok (fieldB g k off x hp) (fieldR g k off x H) := by
  unfold fieldB fieldR
  split <;> try exact rb_none
  exact fromCells_rb h fun _ => trivial

theorem indexAddr_rb (h : HAbs hp H) (k : Nat) (x i : V) : RBok (indexAddrB k x i hp) (indexAddrR k x i H) := by
  unfold indexAddrB indexAddrR
  split <;> simp only [] <;> try exact rb_none
  · exact rb_when fun e => by simp at e; exact ⟨⟨e.1.1, e.1.2, e.2⟩, rfl, h⟩
  · rw [h.get]
    split <;> try exact rb_none
    rename_i ho
    simp only [ho]
    exact rb_when fun e => by simp at e; exact ⟨⟨e.1.1.1.1, e.1.1.1.2, e.1.1.2, e.1.2, e.2⟩, rfl, h⟩

theorem index_rb (h : HAbs hp H) (x i : V) : RBok (indexB x i hp) (indexR x i H) := by
  unfold indexB indexR
  split <;> try exact rb_none
  exact rb_when fun e => by simp at e; exact ⟨e, rfl, h⟩

theorem sliceStr_rb (h : HAbs hp H) (x : V) (lo hi mx : Option V) : RBok (sliceStrB x lo hi mx hp) (sliceStrR x lo hi mx H) := by
  unfold sliceStrB sliceStrR
  split <;> try exact rb_none
  simp only []
  split <;> try exact rb_none
  rename_i h1 h2
  simp only [h1, h2]
  exact rb_when fun e => by simp at e; exact ⟨⟨e.1.1, e.1.2, e.2⟩, rfl, h⟩

theorem sliceSl_rb (h : HAbs hp H) (k : Nat) (x : V) (lo hi mx : Option V) : RBok (sliceSlB k x lo hi mx hp) (sliceSlR k x lo hi mx H) := by
  unfold sliceSlB sliceSlR
  split
  · split <;> simp only [] <;> try exact rb_none
    · split <;> try exact rb_none
      rename_i h1 h2
      simp only [h1, h2]
      exact rb_when fun e => by simp at e; exact ⟨⟨e.1.1.1, e.1.1.2, e.1.2, e.2⟩, rfl, h⟩
    · split <;> try exact rb_none
      rename_i h1 h2
      simp only [h1, h2]
      exact rb_when fun e => by simp at e; exact ⟨⟨e.1.1, e.1.2, e.2⟩, rfl, h⟩
    · split <;> try exact rb_none
      rename_i h1 h2
      simp only [h1, h2]
      exact rb_when fun e => by simp at e; exact ⟨⟨e.1.1, e.1.2, e.2⟩, rfl, h⟩
    · rw [h.get]
      split <;> try exact rb_none
      rename_i ho
      simp only [ho]
      split <;> try exact rb_none
      rename_i h1 h2
      simp only [h1, h2]
      exact rb_when fun e => by simp at e; exact ⟨⟨e.1.1.1.1.1, e.1.1.1.1.2, e.1.1.1.2, e.1.1.2, e.1.2, e.2⟩, rfl, h⟩
  · split <;> try exact rb_none
    all_goals rename_i h1 h2
    all_goals simp only [h1, h2]
    all_goals exact rb_when fun e => by simp at e; exact ⟨⟨e.1.1.1, e.1.1.2, e.1.2, e.2⟩, rfl, h⟩
  · exact rb_none

theorem intBin_rb (h : HAbs hp H) (op : BinOp) (k : IntKind) (a b : Int) : RBok (intBinB op k a b hp) (intBin op k a b H) := by
  unfold intBinB intBin
  cases op <;> simp only [] <;> first
    | exact rb_some ⟨trivial, rfl, h⟩
    | exact rb_none
    | exact rb_when fun e => by simp at e; exact ⟨e, rfl, h⟩
    | (refine rb_some ⟨trivial, ?_, h⟩
       show V.bool _ = V.bool _
       congr 1
       rw [Bool.eq_iff_iff]
       simp)

theorem strBin_rb (h : HAbs hp H) (op : BinOp) (a b : List UInt8) : RBok (strBinB op a b hp) (strBin op a b H) := by
  unfold strBinB strBin
  cases op <;> simp only [] <;> first
    | exact rb_some ⟨trivial, rfl, h⟩
    | exact rb_none
    | exact rb_when fun e => by rw [nblt_iff] at e; exact ⟨e, rfl, h⟩

def qOf (P : Program) (t : TypeId) : Nat := match P.underlying t with
  | some (.pointer _) => 1
  | some (.interface _) => 2
  | some .bool => 3
  | some (.func ..) => 4
  | some (.map ..) => 5
  | _ => 0

theorem qOf_spec (P : Program) (t : TypeId) : (qOf P t = 1 ↔ isPtr P t = true) ∧ (qOf P t = 2 ↔ isFace P t = true) ∧ (qOf P t = 3 ↔ isBoolT P t = true) ∧ (qOf P t = 4 ↔ isFuncT P t = true) ∧ (qOf P t = 5 ↔ isMapT P t = true) := by
  unfold qOf isPtr isFace isBoolT isFuncT isMapT
  cases P.underlying t with
  | none => simp
  | some d => cases d <;> simp

theorem eq_rb (h : HAbs hp H) (P : Program) (t : TypeId) (c : Bool) (x y : V) : RBok (eqB (qOf P t) (eqKinds P t) c x y hp) (eqR P t c x y H) := by
  obtain ⟨q1, q2, q3, q4, q5⟩ := qOf_spec P t
  unfold eqB
  split <;> simp only [eqR]
  case h_2 =>
    split
    · rename_i ds hd
      rw [hd]
      exact rb_when fun e => ⟨e, rfl, h⟩
    · exact rb_none
  all_goals first
    | exact rb_none
    | exact rb_when fun e => by
        simp only [nbeq_iff, Bool.and_eq_true] at e
        first
          | exact ⟨q1.1 e, rfl, h⟩ | exact ⟨q2.1 e, rfl, h⟩ | exact ⟨q3.1 e, rfl, h⟩ | exact ⟨q4.1 e, rfl, h⟩ | exact ⟨q5.1 e, rfl, h⟩
          | exact ⟨⟨q2.1 e.1, e.2⟩, rfl, h⟩

theorem not_rb {rb : RB} {r : R} (h : RBok rb r) : RBok (notB rb) (notR r) := by
  intro v hp' e
  unfold notB at e
  split at e
  · rename_i b H'
    cases e
    obtain ⟨h1, h2, h3⟩ := h _ _ rfl
    unfold notR
    rw [h2]
    exact ⟨h1, rfl, h3⟩
  · cases e

theorem bin_rb (h : HAbs hp H) (P : Program) (op : BinOp) (t : TypeId) (c : Bool) (x y : V) : RBok (binB (qOf P t) (eqKinds P t) op c x y hp) (binR P op t c x y H) := by
  cases x
  case int k a =>
    cases y
    case int k' b =>
      by_cases e : k = k'
      · subst e
        cases op <;> simp only [binB, binR, if_true] <;> first | exact intBin_rb h _ k a b | exact rb_when fun e => ⟨leI_iff.1 e, rfl, h⟩
      · cases op <;> simp only [binB, binR, e, if_false] <;> first | exact rb_none | exact rb_when fun e => ⟨leI_iff.1 e, rfl, h⟩
    all_goals (cases op <;> simp only [binB, binR, eqB, eqR, notB, notR, R.bad] <;> exact rb_none)
  case str a =>
    cases y
    case str b => cases op <;> simp only [binB, binR] <;> exact strBin_rb h _ a b
    all_goals (cases op <;> simp only [binB, binR, eqB, eqR, notB, notR, R.bad] <;> exact rb_none)
  all_goals (cases op <;> simp only [binB, binR] <;> first | exact eq_rb h P t c _ _ | exact not_rb (eq_rb h P t c _ _) | exact rb_none)

theorem un_rb (h : HAbs hp H) (op : UnOp) (x : V) : RBok (unB op x hp) (unR op x H) := by
  unfold unB unR
  split <;> first | exact rb_some ⟨trivial, rfl, h⟩ | exact rb_none

theorem pick_rb (h : HAbs hp H) (c a b : V) : RBok (pickB c a b hp) (pickR c a b H) := by
  unfold pickB pickR
  split <;> first | exact rb_some ⟨trivial, rfl, h⟩ | exact rb_none

theorem elems_rb (h : HAbs hp H) {x : V} {c : Bool} {k : Nat} {ys : List V} (he : elemsB x hp = some (c, k, ys)) : ∃ p, elemsR x H = some (p, k, ys) ∧ (c = true → p) := by
  unfold elemsB at he
  unfold elemsR
  split at he <;> simp only [] <;> try (cases he; exact ⟨_, rfl, fun _ => trivial⟩)
  · rw [h.get] at he
    split at he
    · rename_i ho
      rw [ho]
      cases he
      exact ⟨_, rfl, fun e => by simp at e; exact e⟩
    · cases he
  · cases he

theorem isNil_iff {l : List V} : isNil l = true ↔ l = [] := by cases l <;> simp [isNil]

theorem fitsB_iff {n b : Nat} : fitsB n b = true ↔ fits n b := by
  unfold fitsB fits
  rw [Bool.and_eq_true, nble_iff, nblt_iff]

theorem append_rb (h : HAbs hp H) (e : TypeId) (g : Bool) (k b : Nat) (z s x : V) : RBok (appendB e g k b z s x hp) (appendR e g k b z s x H) := by
  unfold appendB
  split
  · rename_i c k' ys he
    obtain ⟨p, he', hc⟩ := elems_rb h he
    unfold appendR
    rw [he']
    simp only []
    split <;> try exact rb_none
    · refine rb_when fun e => ?_
      simp only [Bool.and_eq_true, Bool.or_eq_true, nbeq_iff, isNil_iff, okValB_iff, nblt_iff, fitsB_iff] at e
      exact ⟨⟨hc e.1.1.1.1, e.1.1.1.2, e.1.1.2, e.1.2, e.2⟩, by rw [h.n], h.push _⟩
    · refine rb_when fun e => ?_
      simp only [Bool.and_eq_true, Bool.or_eq_true, nbeq_iff, isNil_iff, okValB_iff, nblt_iff, fitsB_iff] at e
      exact ⟨⟨hc e.1.1.1.1, e.1.1.1.2, e.1.1.2, e.1.2, e.2⟩, by rw [h.n], h.push _⟩
    · rw [h.get]
      split <;> try exact rb_none
      rename_i ho
      simp only [ho]
      refine rb_when fun e => ?_
      simp only [Bool.and_eq_true, Bool.or_eq_true, nbeq_iff, isNil_iff, okValB_iff, nblt_iff, fitsB_iff] at e
      obtain ⟨⟨⟨⟨⟨⟨⟨⟨⟨e1, e2⟩, e3⟩, e4⟩, e5⟩, e6⟩, e7⟩, e8⟩, e9⟩, e10⟩ := e
      exact ⟨⟨hc e1, e2, e3, e4, e5, e6, e7, e8, e9, e10⟩, rfl, h.set ho⟩
  · exact rb_none

theorem len_rb (h : HAbs hp H) (d : Nat) (x : V) : RBok (lenB d x hp) (lenR d x H) := by
  unfold lenB lenR
  split <;> simp only [] <;> try exact rb_none
  all_goals first
    | exact rb_when fun e => ⟨nbeq_iff.1 e, rfl, h⟩
    | (rw [h.get]
       split <;> try exact rb_none
       rename_i ho
       simp only [ho]
       exact rb_when fun e => ⟨nbeq_iff.1 e, rfl, h⟩)

theorem min_rb (h : HAbs hp H) (mx : Bool) (x y : V) : RBok (minB mx x y hp) (minR mx x y H) := by
  unfold minB minR
  split <;> try exact rb_none
  rename_i k a k' b
  refine rb_some ⟨trivial, ?_, h⟩
  show V.int _ _ = V.int _ _
  congr 1
  cases mx
  · simp only [Bool.false_eq_true, if_false]
    cases e : ltI b a
    · rw [if_neg (fun hh => by rw [ltI_iff.2 hh] at e; cases e)]
    · rw [if_pos (ltI_iff.1 e)]
  · simp only [if_true]
    cases e : ltI a b
    · rw [if_neg (fun hh => by rw [ltI_iff.2 (show a < b from hh)] at e; cases e)]
    · rw [if_pos (show b > a from ltI_iff.1 e)]

theorem makeSlice_rb (h : HAbs hp H) (t : TypeId) (g : Bool) (k b : Nat) (z l c : V) : RBok (makeSliceB t g k b z l c hp) (makeSliceR t g k b z l c H) := by
  unfold makeSliceB makeSliceR
  split <;> try exact rb_none
  refine rb_when fun e => ?_
  simp only [Bool.and_eq_true, leI_iff, ltI_iff, okValB_iff, nblt_iff] at e
  obtain ⟨⟨⟨⟨⟨e1, e2⟩, e3⟩, e4⟩, e5⟩, e6⟩ := e
  exact ⟨⟨e1, e2, e3, e4, e5, e6⟩, by rw [h.n], h.push _⟩

theorem lookup_rb (h : HAbs hp H) (d : List TypeDesc × Bool) (z m k : V) (ok : Bool) : RBok (lookupB d z m k ok hp) (lookupR d z m k ok H) := by
  unfold lookupB lookupR
  split <;> simp only [] <;> try exact rb_none
  · exact rb_when fun e => ⟨e, rfl, h⟩
  · rw [h.get]
    split <;> try exact rb_none
    rename_i ho
    simp only [ho]
    exact rb_when fun e => by rw [Bool.and_eq_true] at e; exact ⟨e, rfl, h⟩

theorem mapUpdate_rb (h : HAbs hp H) (d : List TypeDesc × Bool) (m k x : V) : RBok (mapUpdateB d m k x hp) (mapUpdateR d m k x H) := by
  unfold mapUpdateB mapUpdateR
  split <;> simp only [] <;> try exact rb_none
  rw [h.get]
  split <;> try exact rb_none
  rename_i ho
  simp only [ho]
  exact rb_when fun e => by rw [Bool.and_eq_true] at e; exact ⟨e, rfl, h.set ho⟩

theorem extract_rb (h : HAbs hp H) (t : V) (i : Nat) : RBok (extractB t i hp) (extractR t i H) := by
  unfold extractB extractR
  split <;> try exact rb_none
  simp only []
  split <;> try exact rb_none
  rename_i ho
  simp only [ho]
  exact rb_some ⟨trivial, rfl, h⟩

theorem buildGo_rb (place : Nat → Option (Nat × Bool × Nat)) : ∀ (parts : List (Nat × V)) (cells out : List V), buildGoB place cells parts = some out → ∃ c, buildGo place cells parts = some (c, out) ∧ c
  | [], cells, out, h => by cases h; exact ⟨True, rfl, trivial⟩
  | (i, v) :: rest, cells, out, h => by
    unfold buildGoB at h
    unfold buildGo
    split at h
    · rename_i off g k hp
      rw [hp]
      split at h
      · rename_i e
        rw [Bool.and_eq_true, okValB_iff, nble_iff] at e
        obtain ⟨c, h1, h2⟩ := buildGo_rb place rest _ out h
        simp only [h1]
        exact ⟨_, rfl, e.1, e.2, h2⟩
      · cases h
    · cases h

theorem build_rb (h : HAbs hp H) (P : Program) (t : TypeId) {place : Nat → Option (Nat × Bool × Nat)} (hpl : ∀ i, place i = placeOf P t i) (z : V) (parts : List (Nat × V)) : RBok (buildB place z parts hp) (buildR P t z parts H) := by
  have : place = placeOf P t := funext hpl
  subst this
  unfold buildB buildR
  split <;> try exact rb_none
  simp only []
  split
  · rename_i out ho
    obtain ⟨c, h1, h2⟩ := buildGo_rb _ _ _ _ ho
    simp only [h1]
    exact rb_some ⟨h2, rfl, h⟩
  · exact rb_none

theorem okElemsB_iff {g : Bool} {k : Nat} : ∀ {l : List V}, okElemsB g k l = true ↔ okElems g k l
  | [] => by simp [okElemsB, okElems]
  | [v] => by simp [okElemsB, okElems]
  | v :: w :: l => by
    have := okElemsB_iff (g := g) (k := k) (l := w :: l)
    simp only [okElemsB, okElems, Bool.and_eq_true, okValB_iff] at this ⊢
    rw [this]

theorem buildSlice_rb (h : HAbs hp H) (g : Bool) (k n : Nat) (parts : List (Nat × V)) : RBok (buildSliceB g k n parts hp) (buildSliceR g k n parts H) := by
  unfold buildSliceB buildSliceR
  split <;> try exact rb_none
  · rename_i hvs
    simp only [hvs]
    split <;> first | exact rb_some ⟨trivial, rfl, h⟩ | exact rb_none
  · rename_i vs hne hvs
    refine rb_when fun e => ?_
    simp only [Bool.and_eq_true, nbeq_iff, okElemsB_iff, nblt_iff, nble_iff] at e
    obtain ⟨⟨⟨e1, e2⟩, e3⟩, e4⟩ := e
    simp only [hvs]
    rw [if_pos e1]
    exact ⟨⟨e2, e3, e4⟩, rfl, h⟩

theorem alloc_rb (h : HAbs hp H) (t : TypeId) (g : Bool) (k : Nat) (z : V) : RBok (allocB t g k z hp) ⟨okVal g k z, .ptr H.length 0, H ++ [.cells t (valCells g z)]⟩ := by
  unfold allocB
  exact rb_when fun e => ⟨okValB_iff.1 e, by rw [h.n], h.push _⟩

theorem cvtB_rb (h : HAbs hp H) (u : Bool) (t : TypeId) (l : List UInt8) : RBok (cvtBB u t (.str l) hp) ⟨u = true ∧ l.length < 2 ^ 46, .arr H.length l.length 0 l.length, H ++ [.arr t 1 (l.map byteV)]⟩ := by
  unfold cvtBB
  exact rb_when fun e => by rw [Bool.and_eq_true, nblt_iff] at e; exact ⟨e, by rw [h.n], h.push _⟩

theorem cvtT_rb (h : HAbs hp H) (u : Bool) (x : V) (r : R) (hr : (∀ l, x ≠ .str l) → r = match elemsR x H with
      | some (c, k, xs) => ⟨u = true ∧ c ∧ (k = 1 ∨ xs = []) ∧ xs.all okByte = true, .str (xs.map byteOfV), H⟩
      | none => R.bad) : RBok (cvtTB u x hp) r := by
  unfold cvtTB
  split <;> try exact rb_none
  rename_i c k xs he
  obtain ⟨p, he', hc⟩ := elems_rb h he
  refine rb_when fun e => ?_
  simp only [Bool.and_eq_true, Bool.or_eq_true, nbeq_iff, isNil_iff, Bool.not_eq_true'] at e
  rw [hr (by rintro l rfl; simp [isStr] at e), he']
  exact ⟨⟨e.1.1.1.1, hc e.1.1.1.2, e.1.1.2, e.1.2⟩, rfl, h⟩

end Go.Ab
namespace Go.Ab
variable [Env]

def xOf : Operand → X
  | .tmp t => .t t
  | .const v => .c (ofConst v)
  | .global g => .c (match Env.gtab g with | [] => .junk | c :: cs => .cptr (c :: cs))
  | .func f => .c (.fn f [] [])

def xsOf (ps : Array (Nat × Operand)) : List (Nat × X) := ps.toList.map fun p => (p.1, xOf p.2)

def placesOf (P : Program) (t : TypeId) (n : Nat) : List (Option (Nat × Bool × Nat)) := (List.range n).map (placeOf P t)

def oBz (g : Bool) (k n : Nat) (ps : List (Nat × X)) : Exec := fun e H => buildSliceB g k n (evp e ps) H

/-- What an operation is, as a function (but for calls of functions). -/
def compB (P : Program) : Op → Exec
  | .move x | .assign x => oMv (xOf x)
  | .pick c a b => oPk (xOf c) (xOf a) (xOf b)
  | .alloc t => match zeroOf P t, lay P t with
    | some z, some (g, k) => oAl t g k z
    | _, _ => oNo
  | .box t x => match lay P t with
    | some (g, k) => oBx t g k (xOf x)
    | none => oNo
  | .build t ps => match zeroOf P t, placesOk P t, P.underlying t with
    | some z, true, some (.struct fs) => oBd (placesOf P t fs.size) z (xsOf ps)
    | _, _, _ => oNo
  | .buildSlice t n ps => match elemOfSlice P t with
    | some e => match lay P e, zeroOf P e with
      | some (g, k), some _ => oBz g k n (xsOf ps)
      | _, _ => oNo
    | none => oNo
  | .load t a => match lay P t with
    | some (g, k) => oLd g k (xOf a)
    | none => oNo
  | .store t a x => match lay P t with
    | some (g, k) => oSt g k (xOf a) (xOf x)
    | none => oNo
  | .nilCheck x => oNc (xOf x)
  | .binOp op t x y _ => oBn (qOf P t) (eqKinds P t) op (isConstOp x || isConstOp y) (xOf x) (xOf y)
  | .unOp op _ x => oUn op (xOf x)
  | .convert src dst x => match P.underlying src, P.underlying dst with
    | some _, some (.int k) => oCvI k (xOf x)
    | some .string, some .string => oCvS (xOf x)
    | some .string, some (.slice e) => oCvB (isU8 P e) e (xOf x)
    | some (.slice e), some .string => oCvT (isU8 P e) (xOf x)
    | _, _ => oNo
  | .makeInterface t x => match isFace P t, (P.underlying t).isSome with
    | false, true => oIf t (xOf x)
    | _, _ => oNo
  | .makeFunc (.func f) a c => oFn f (a.toList.map xOf) (c.toList.map xOf)
  | .makeMap _ none => oMm
  | .makeSlice t l c => match elemOfSlice P t with
    | some e => match lay P e, P.info? e, zeroOf P e with
      | some (g, k), some i, some z => oMs e g k i.bytes z (xOf l) (xOf c)
      | _, _, _ => oNo
    | none => oNo
  | .slice t x lo hi mx => match P.underlying t with
    | some .string => oSs (xOf x) (lo.map xOf) (hi.map xOf) (mx.map xOf)
    | some (.slice e) => match lay P e with
      | some (_, k) => oSl k (xOf x) (lo.map xOf) (hi.map xOf) (mx.map xOf)
      | none => oNo
    | _ => oNo
  | .fieldAddr s x f => match fieldOf P s f with
    | some fl => match lay P fl.type with
      | some (_, 0) => oNo
      | some _ => oFa fl.offset (xOf x)
      | none => oNo
    | none => oNo
  | .field s x f => match fieldOf P s f with
    | some fl => match lay P fl.type with
      | some (g, k) => oFd g k fl.offset (xOf x)
      | none => oNo
    | none => oNo
  | .indexAddr t x i => match elemOfSlice P t with
    | some e => match lay P e with
      | some (_, k) => oIa k (xOf x) (xOf i)
      | none => oNo
    | none => oNo
  | .index t x i => match P.underlying t with
    | some .string => oIx (xOf x) (xOf i)
    | _ => oNo
  | .lookup t m k ok => match mapOf P t with
    | some (kt, e) => match keyKinds P kt, zeroOf P e with
      | some d, some z => oLk d z (xOf m) (xOf k) ok
      | _, _ => oNo
    | none => oNo
  | .mapUpdate t m k x => match mapOf P t with
    | some (kt, _) => match keyKinds P kt with
      | some d => oMu d (xOf m) (xOf k) (xOf x)
      | none => oNo
    | none => oNo
  | .extract t i => oEx (xOf t) i
  | .call c => match c.callee, c.args.toList, c.argTypes.toList with
    | .builtin .len, [x], [t] => oLen (lenKind (P.underlying t)) (xOf x)
    | .builtin .append, [s, x], [t, u] => match elemOfSlice P t with
      | some e => match lay P e, P.info? e, zeroOf P e, P.underlying u with
        | some (g, k), some i, some z, some (.slice _) => oAp e g k i.bytes z (xOf s) (xOf x)
        | some (g, k), some i, some z, some .string => oAp e g k i.bytes z (xOf s) (xOf x)
        | _, _, _, _ => oNo
      | none => oNo
    | .builtin .min, [x, y], _ => oMin false (xOf x) (xOf y)
    | .builtin .max, [x, y], _ => oMin true (xOf x) (xOf y)
    | _, _, _ => oNo
  | _ => oNo

section
variable {P : Program} {γ γ' : List Loc} {F F' : Frz} {w w' : World} {H H' : Heap} {env : List V} {e : ET} {hp hp' : HP} {v : V} {a : Act}

theorem xOf_ev (he : EAbs e env) (x : Operand) : (xOf x).ev e = aeval env x := by
  cases x with
  | tmp t => exact he.get t
  | const v => rfl
  | global g => rfl
  | func f => rfl

theorem evo_map (he : EAbs e env) (x : Option Operand) : evo e (x.map xOf) = x.map (aeval env) := by
  cases x with
  | none => rfl
  | some x => simp [evo, xOf_ev he]

theorem evp_map (he : EAbs e env) (ps : Array (Nat × Operand)) : evp e (xsOf ps) = ps.toList.map fun (i, x) => (i, aeval env x) := by
  simp [evp, xsOf, xOf_ev he]

theorem map_ev (he : EAbs e env) (l : List Operand) : (l.map xOf).map (X.ev e) = l.map (aeval env) := by
  simp [xOf_ev he]

theorem plc_places (t : TypeId) {fs : Array Field} (hu : P.underlying t = some (.struct fs)) (i : Nat) : plc (placesOf P t fs.size) i = placeOf P t i := by
  unfold plc placesOf
  by_cases h : i < fs.size
  · simp [h]
  · have : placeOf P t i = none := by
      unfold placeOf fieldOf
      rw [hu]
      simp [Array.getElem?_eq_none (Nat.le_of_not_lt h)]
    simp [h, this]

/-- A function does what is said. -/
def Good (e : ET) (hp : HP) (f : Exec) (r : R) : Prop := RBok (f e hp) r

/-- The base operations are what 'ares' says. -/
theorem compB_ok (he : EAbs e env) (hh : HAbs hp H) (op : Op) : Good e hp (compB P op) (ares P (aeval env) H op) := by
  have no : ∀ r : R, Good e hp oNo r := fun r => rb_none
  have go : ∀ (f : Exec) (r : R), RBok (f e hp) r → Good e hp f r := fun _ _ h => h
  cases op <;> simp only [compB] <;> try exact no _
  case move x => exact go _ _ (by simp only [ares]; exact rb_some ⟨trivial, (xOf_ev he x).symm, hh⟩)
  case assign x => exact go _ _ (by simp only [ares]; exact rb_some ⟨trivial, (xOf_ev he x).symm, hh⟩)
  case pick c x y => exact go _ _ (by simp only [ares, oPk, xOf_ev he]; exact pick_rb hh _ _ _)
  case alloc t =>
    split
    · rename_i z g k h1 h2
      exact go _ _ (by simp only [ares, h1, h2]; exact alloc_rb hh _ _ _ _)
    · exact no _
  case box t x =>
    split
    · rename_i g k h1
      exact go _ _ (by simp only [ares, h1, oBx, xOf_ev he]; exact alloc_rb hh _ _ _ _)
    · exact no _
  case build t ps =>
    split
    · rename_i z fs hz hp' hu
      exact go _ _ (by simp only [ares, hz, hp', oBd, evp_map he]; exact build_rb hh P t (fun i => plc_places t hu i) _ _)
    · exact no _
  case buildSlice t n ps =>
    split
    · rename_i el he'
      split
      · rename_i g k z hl hz
        exact go _ _ (by simp only [ares, he', hl, hz, oBz, evp_map he]; exact buildSlice_rb hh _ _ _ _)
      · exact no _
    · exact no _
  case load t x =>
    split
    · rename_i g k h1
      exact go _ _ (by simp only [ares, h1, oLd, xOf_ev he]; exact load_rb hh _ _ _)
    · exact no _
  case store t x y =>
    split
    · rename_i g k h1
      exact go _ _ (by simp only [ares, h1, oSt, xOf_ev he]; exact store_rb hh _ _ _ _)
    · exact no _
  case nilCheck x => exact go _ _ (by simp only [ares, oNc, xOf_ev he]; exact nilCheck_rb hh _)
  case binOp op t x y z => exact go _ _ (by simp only [ares, oBn, xOf_ev he]; exact bin_rb hh P op t _ _ _)
  case unOp op t x => exact go _ _ (by simp only [ares, oUn, xOf_ev he]; exact un_rb hh _ _)
  case convert s d x =>
    split
    · rename_i q k h1 h2
      refine go _ _ ?_
      simp only [ares, oCvI, xOf_ev he]
      split
      · rename_i q2 n hx
        simp only [convR, h1, h2, hx]
        exact rb_some ⟨trivial, rfl, hh⟩
      · exact rb_none
    · rename_i h1 h2
      refine go _ _ ?_
      simp only [ares, oCvS, xOf_ev he]
      split
      · rename_i l hx
        simp only [convR, h1, h2, hx]
        exact rb_some ⟨trivial, rfl, hh⟩
      · exact rb_none
    · rename_i t h1 h2
      refine go _ _ ?_
      simp only [ares, oCvB, xOf_ev he]
      cases hx : aeval env x <;> simp only [cvtBB] <;> try exact rb_none
      simp only [convR, h1, h2]
      exact cvtB_rb hh _ _ _
    · rename_i t h1 h2
      refine go _ _ ?_
      simp only [ares, oCvT, xOf_ev he]
      refine cvtT_rb hh _ _ _ fun hne => ?_
      unfold convR
      simp only [h1, h2]
      cases hx : aeval env x <;> first | rfl | exact absurd hx (hne _)
    · exact no _
  case makeInterface t x =>
    split
    · rename_i h1 h2
      refine go _ _ ?_
      simp only [ares, h1, Bool.false_eq_true, if_false, oIf, xOf_ev he]
      exact rb_some ⟨h2, rfl, hh⟩
    · exact no _
  case makeFunc f x y =>
    cases f <;> simp only [compB] <;> try exact no _
    refine go _ _ ?_
    simp only [ares, oFn, map_ev he]
    exact rb_some ⟨trivial, rfl, hh⟩
  case makeMap t r =>
    cases r <;> simp only [compB] <;> try exact no _
    refine go _ _ ?_
    simp only [ares, oMm]
    exact rb_some ⟨trivial, by rw [hh.n], hh.push _⟩
  case makeSlice t l c =>
    split
    · rename_i el h0
      split
      · rename_i g k i z h1 h2 h3
        exact go _ _ (by simp only [ares, h0, h1, h2, h3, oMs, xOf_ev he]; exact makeSlice_rb hh _ _ _ _ _ _ _)
      · exact no _
    · exact no _
  case slice t x lo hi mx =>
    split
    · rename_i h0
      exact go _ _ (by simp only [ares, h0, oSs, xOf_ev he, evo_map he]; exact sliceStr_rb hh _ _ _ _)
    · rename_i el h0
      split
      · rename_i g k h1
        exact go _ _ (by simp only [ares, h0, h1, oSl, xOf_ev he, evo_map he]; exact sliceSl_rb hh _ _ _ _ _)
      · exact no _
    · exact no _
  case fieldAddr s x f =>
    split
    · rename_i fl h0
      split
      · exact no _
      · rename_i q hne h1
        refine go _ _ ?_
        obtain ⟨g, k⟩ := q
        cases k with
        | zero => exact (hne g rfl).elim
        | succ k => simp only [ares, h0, h1, oFa, xOf_ev he]; exact fieldAddr_rb hh _ _
      · exact no _
    · exact no _
  case field s x f =>
    split
    · rename_i fl h0
      split
      · rename_i g k h1
        exact go _ _ (by simp only [ares, h0, h1, oFd, xOf_ev he]; exact field_rb hh _ _ _ _)
      · exact no _
    · exact no _
  case indexAddr t x i =>
    split
    · rename_i el h0
      split
      · rename_i g k h1
        exact go _ _ (by simp only [ares, h0, h1, oIa, xOf_ev he]; exact indexAddr_rb hh _ _ _)
      · exact no _
    · exact no _
  case index t x i =>
    split
    · rename_i h0
      exact go _ _ (by simp only [ares, h0, oIx, xOf_ev he]; exact index_rb hh _ _)
    · exact no _
  case lookup t m k ok =>
    split
    · rename_i kt el h0
      split
      · rename_i d z h1 h2
        exact go _ _ (by simp only [ares, h0, h1, h2, oLk, xOf_ev he]; exact lookup_rb hh _ _ _ _ _)
      · exact no _
    · exact no _
  case mapUpdate t m k x =>
    split
    · rename_i kt el h0
      split
      · rename_i d h1
        exact go _ _ (by simp only [ares, h0, h1, oMu, xOf_ev he]; exact mapUpdate_rb hh _ _ _ _)
      · exact no _
    · exact no _
  case extract t i => exact go _ _ (by simp only [ares, oEx, xOf_ev he]; exact extract_rb hh _ _)
  case call c =>
    split
    · rename_i x t h1 h2 h3
      refine go _ _ ?_
      simp only [ares, h1, h2, h3, List.map, builtinR, oLen, xOf_ev he]
      exact len_rb hh _ _
    · rename_i s x t u h1 h2 h3
      split
      · rename_i el h4
        split
        · rename_i g k i z q h5 h6 h7 h8
          refine go _ _ ?_
          simp only [ares, h1, h2, h3, List.map, builtinR, h4, h5, h6, h7, h8, oAp, xOf_ev he]
          exact append_rb hh _ _ _ _ _ _ _
        · rename_i g k i z h5 h6 h7 h8
          refine go _ _ ?_
          simp only [ares, h1, h2, h3, List.map, builtinR, h4, h5, h6, h7, h8, oAp, xOf_ev he]
          exact append_rb hh _ _ _ _ _ _ _
        · exact no _
      · exact no _
    · rename_i x y h1 h2
      refine go _ _ ?_
      simp only [ares, h1, h2, List.map, builtinR, oMin, xOf_ev he]
      exact min_rb hh _ _ _
    · rename_i x y h1 h2
      refine go _ _ ?_
      simp only [ares, h1, h2, List.map, builtinR, oMin, xOf_ev he]
      exact min_rb hh _ _ _
    · exact no _
end
end Go.Ab
namespace Go.Ab
variable [Env]

/-- An operation is carried out, and what a tree holds goes on. -/
def OutB (P : Program) (γ : List Loc) (F : Frz) (w : World) (s : Sem _root_.Go.Next) (v : V) (hp : HP) : Prop := ∃ H', HAbs hp H' ∧ Out P γ F w s v H'

section
variable {P : Program} {γ γ' : List Loc} {F F' : Frz} {w w' : World} {H H' : Heap} {hp hp' : HP} {v : V}

theorem when_some {c : Bool} {x v : V} {hq hp' : HP} (h : when c x hq = some (v, hp')) : c = true ∧ x = v ∧ hq = hp' := by
  cases c
  · cases h
  · cases h; exact ⟨rfl, rfl, rfl⟩

def arrOf (P : Program) (t : TypeId) : Option (Nat × TypeId) := match P.underlying t with
  | some (.array n e) => some (n, e)
  | _ => none
theorem arrOf_spec {t e : TypeId} {n : Nat} (h : arrOf P t = some (n, e)) : P.underlying t = some (.array n e) := by
  unfold arrOf at h
  split at h
  · rename_i a b hu; cases h; exact hu
  · cases h

/-- The address of an array's element. -/
theorem indexArr_out (h : Rel γ F w H) (hh : HAbs hp H) {t e : TypeId} {n : Nat} (hu : P.underlying t = some (.array n e)) {g : Bool} {k : Nat} (hl : lay P e = some (g, k)) {x i : V} {xv iv : Value} (hx : Rep γ F x xv) (hi : Rep γ F i iv)
    (hb : indexArrB n k x i hp = some (v, hp')) : OutB P γ F w (do pure (.value (← Instr.indexAt t xv iv))) v hp' := by
  unfold indexArrB at hb
  split at hb
  · rename_i r o
    split at hb
    · rename_i q j
      obtain ⟨hc, rfl, rfl⟩ := when_some hb
      simp only [Bool.and_eq_true, leI_iff, ltI_iff] at hc
      simp only [Rep] at hx hi
      obtain ⟨b, h1, rfl⟩ := hx
      subst hi
      refine ⟨H, hh, Out.value h (u := .pointer (some ⟨b, o + j.toNat * k, none⟩)) ?_ (by simp only [Rep]; exact ⟨b, h1, rfl⟩)⟩
      simp [Instr.indexAt, asIntOf, run_underlying hu, Instr.sureAddr, hc.1, hc.2, run_sizeOf' hl, add_none]
    · cases hb
  · cases hb

def eqRes (op : BinOp) (b : Bool) (H : HP) : RB := match op with
  | .eql => some (.bool b, H)
  | .neq => some (.bool (!b), H)
  | _ => none

/-- Pointers to one variable are compared. -/
def eqPtrB (op : BinOp) (x y : V) (H : HP) : RB := match x, y with
  | .ptr r o, .ptr r' o' => match Nat.beq r r' with
    | true => eqRes op (Nat.beq o o') H
    | false => none
  | _, _ => none

theorem eq_out (h : Rel γ F w H) (hh : HAbs hp H) {op : BinOp} {t : TypeId} {xo yo : Operand} {xv yv : Value} {b : Bool} (he : (Op.equal t xv yv).run P w = .ok b w) (hg : ∀ op, (eqGuard op t xo yo xv yv).run P w = .ok () w)
    (hk : (∀ k n, xv ≠ .int k n) ∧ (∀ s, xv ≠ .string s) ∧ (∀ k n, xv ≠ .float k n) ∧ (∀ k n m, xv ≠ .complex k n m)) (ho : eqRes op b hp = some (v, hp')) :
    OutB P γ F w (do pure (.value (← (do eqGuard op t xo yo xv yv; binOp op t xv yv : Sem Value)))) v hp' := by
  obtain ⟨k1, k2, k3, k4⟩ := hk
  cases op <;> simp only [eqRes, Option.some.injEq, Prod.mk.injEq, reduceCtorEq] at ho <;> obtain ⟨rfl, rfl⟩ := ho
  · refine ⟨H, hh, Out.value h (u := .bool b) ?_ (by simp [Rep])⟩
    rw [Sem.run_bind, hg]
    have : binOp .eql t xv yv = (do pure (.bool (← Op.equal t xv yv))) := by
      cases xv <;> first | rfl | exact absurd rfl (k1 _ _) | exact absurd rfl (k2 _) | exact absurd rfl (k3 _ _) | exact absurd rfl (k4 _ _ _)
    simp [this, he]
  · refine ⟨H, hh, Out.value h (u := .bool (!b)) ?_ (by simp [Rep])⟩
    rw [Sem.run_bind, hg]
    have : binOp .neq t xv yv = (do pure (.bool (!(← Op.equal t xv yv)))) := by
      cases xv <;> first | rfl | exact absurd rfl (k1 _ _) | exact absurd rfl (k2 _) | exact absurd rfl (k3 _ _) | exact absurd rfl (k4 _ _ _)
    simp [this, he]

theorem eqPtr_out (h : Rel γ F w H) (hh : HAbs hp H) {op : BinOp} {t e : TypeId} (hu : P.underlying t = some (.pointer e)) {g : Bool} {k : Nat} (hl : lay P e = some (g, k + 1)) {xo yo : Operand} {x y : V} {xv yv : Value} (hx : Rep γ F x xv) (hy : Rep γ F y yv)
    (hb : eqPtrB op x y hp = some (v, hp')) : OutB P γ F w (do pure (.value (← (do eqGuard op t xo yo xv yv; binOp op t xv yv : Sem Value)))) v hp' := by
  unfold eqPtrB at hb
  split at hb
  · rename_i r o r' o'
    split at hb
    · rename_i er
      have er := nbeq_iff.1 er
      subst er
      simp only [Rep] at hx hy
      obtain ⟨b, h1, rfl⟩ := hx
      obtain ⟨b', h2, rfl⟩ := hy
      rw [h1] at h2
      cases h2
      have he : (Op.equal t (.pointer (some ⟨b, o, none⟩)) (.pointer (some ⟨b, o', none⟩))).run P w = .ok (Nat.beq o o') w := by
        refine run_equal_of fun d => ?_
        have hsz := run_sizeOf' (P := P) hl w
        simp only [Op.equalIn, Sem.run_bind, run_underlying hu, Result.andThen_ok, hsz]
        simp only [ne_eq, Nat.add_one_ne_zero, not_false_eq_true, if_true]
        simp only [sameAddr, beq_self_eq_true, if_true]
        simp
        rw [Bool.eq_iff_iff]; simp
      exact eq_out h hh he (fun op => eqGuard_one (by simp) (by simp)) (by simp) hb
    · cases hb
  · cases hb

/-- A slice is compared with nil. -/
def eqSlB (op : BinOp) (x y : V) (H : HP) : RB :=
  match (match x, y with
    | .zsl, .zsl => some true
    | .arr r L off n, .zsl => match H.get r with
      | some (.arr _ _ xs) => match Nat.beq xs.length L && Nat.ble (off + n) L && Nat.blt 0 n with
        | true => some false
        | false => none
      | _ => none
    | .sl _ (_ :: _), .zsl => some false
    | _, _ => none : Option Bool) with
  | some b => eqRes op b H
  | none => none

theorem eqSl_out (h : Rel γ F w H) (hh : HAbs hp H) {op : BinOp} {t e : TypeId} (hu : P.underlying t = some (.slice e)) {xo yo : Operand} {x y : V} {xv yv : Value} (hx : Rep γ F x xv) (hy : Rep γ F y yv)
    (hb : eqSlB op x y hp = some (v, hp')) : OutB P γ F w (do pure (.value (← (do eqGuard op t xo yo xv yv; binOp op t xv yv : Sem Value)))) v hp' := by
  have key : ∀ (b : Bool), eqRes op b hp = some (v, hp') → (Op.equal t xv yv).run P w = .ok b w → (∃ a n c, xv = .slice a n c) → OutB P γ F w (do pure (.value (← (do eqGuard op t xo yo xv yv; binOp op t xv yv : Sem Value)))) v hp' := by
    rintro b hb he ⟨a, n, c, rfl⟩
    exact eq_out h hh he (fun op => eqGuard_one (by simp) (by simp)) (by simp) hb
  unfold eqSlB at hb
  split at hb
  · rename_i b hm
    split at hm
    · cases hm
      simp only [Rep] at hx hy
      subst hx hy
      exact key _ hb (run_equal_of fun d => by simp [Op.equalIn, run_underlying hu]) ⟨_, _, _, rfl⟩
    · rename_i r L off n
      rw [hh.get] at hm
      split at hm
      · rename_i t' k' xs ho
        split at hm
        · rename_i hc
          simp only [Bool.and_eq_true, nbeq_iff, nble_iff, nblt_iff] at hc
          obtain ⟨⟨c1, c2⟩, c3⟩ := hc
          cases hm
          simp only [Rep] at hx hy
          subst hy
          obtain ⟨a, c, rfl, l, h1, h2, h3, h4⟩ := hx
          have hr := h.obj r _ _ h1 ho
          cases l <;> simp only [RelO] at hr
          case nilarr => obtain ⟨_, rfl, _⟩ := h4 rfl; omega
          case arr b cap L' kk =>
            obtain ⟨rfl, rfl, hcap, vs, fz, q4, q5, q6, q7⟩ := hr
            obtain ⟨p1, p2, p3⟩ := h3 b cap k' (by rw [c1])
            have ha : a = some ⟨b, off * k', none⟩ := by
              rcases p3 with p3 | p3
              · omega
              · exact p3
            subst ha
            exact key _ hb (run_equal_of fun d => by simp [Op.equalIn, run_underlying hu]) ⟨_, _, _, rfl⟩
        · cases hm
      · cases hm
    · rename_i k' y0 ys
      cases hm
      simp only [Rep] at hx hy
      subst hy
      obtain ⟨a, cap, rfl, _, h3⟩ := hx
      rcases h3 with h3 | ⟨b', off, vs, t', fz, rfl, _, _⟩
      · cases h3
      · exact key _ hb (run_equal_of fun d => by simp [Op.equalIn, run_underlying hu]) ⟨_, _, _, rfl⟩
    · cases hm
  · cases hb

/-- Two interface values that hold numbers. -/
def eqFaB (ks : List (TypeId × IntKind)) (op : BinOp) (x y : V) (H : HP) : RB := match x, y with
  | .iface t a, .iface u b => match a, b with
    | .int k m, .int k' n => match Nat.beq t u, ks.lookup t with
      | true, some q => match decide (q = k ∧ q = k') with
        | true => eqRes op (m == n) H
        | false => none
      | _, _ => none
    | _, _ => none
  | _, _ => none

/-- Types whose values are numbers. -/
def intTypes (P : Program) : List (TypeId × IntKind) := (List.range P.types.size).filterMap fun t => match P.underlying t, P.info? t with
  | some (.int k), some i => if i.comparable then some (t, k) else none
  | _, _ => none

theorem intTypes_spec {t : TypeId} {k : IntKind} (h : (intTypes P).lookup t = some k) : P.underlying t = some (.int k) ∧ ∃ i, P.info? t = some i ∧ i.comparable = true := by
  have h1 : (t, k) ∈ intTypes P := by
    generalize intTypes P = l at h
    induction l with
    | nil => simp at h
    | cons q l ih =>
      obtain ⟨x, y⟩ := q
      rw [List.lookup_cons] at h
      cases he : t == x with
      | true => rw [he] at h; simp only [Option.some.injEq] at h; rw [eq_of_beq he, h]; simp
      | false => rw [he] at h; exact List.mem_cons_of_mem _ (ih h)
  unfold intTypes at h1
  obtain ⟨t', _, h2⟩ := List.mem_filterMap.1 h1
  split at h2
  · rename_i k' i hu hi
    split at h2
    · rename_i hc
      cases h2
      exact ⟨hu, i, hi, hc⟩
    · cases h2
  · cases h2

theorem eqFa_out (h : Rel γ F w H) (hh : HAbs hp H) {op : BinOp} {t : TypeId} (hu : isFace P t = true) {xo yo : Operand} {x y : V} {xv yv : Value} (hx : Rep γ F x xv) (hy : Rep γ F y yv)
    (hb : eqFaB (intTypes P) op x y hp = some (v, hp')) : OutB P γ F w (do pure (.value (← (do eqGuard op t xo yo xv yv; binOp op t xv yv : Sem Value)))) v hp' := by
  obtain ⟨ms, hu⟩ := isFace_spec hu
  unfold eqFaB at hb
  split at hb
  · rename_i t1 a t2 b
    split at hb
    · rename_i k m k' n
      split at hb
      · rename_i q he hq
        have he := nbeq_iff.1 he
        subst he
        obtain ⟨q1, i, q2, q3⟩ := intTypes_spec hq
        split at hb
        · rename_i hd
          obtain ⟨rfl, rfl⟩ := of_decide_eq_true hd
          simp only [Rep] at hx hy
          obtain ⟨u1, rfl, rfl⟩ := hx
          obtain ⟨u2, rfl, rfl⟩ := hy
          have he : (Op.equal t (.iface t1 (.int q m)) (.iface t1 (.int q n))).run P w = .ok (m == n) w := by
            have key : ∀ d, (Op.equalIn (d + 2) t (.iface t1 (.int q m)) (.iface t1 (.int q n))).run P w = .ok (m == n) w := fun d => by
              simp [Op.equalIn, run_underlying hu, run_underlying q1, typeInfo, q2, q3]
            exact key 9998
          exact eq_out h hh he (fun op => eqGuard_one (by simp) (by simp)) (by simp) hb
        · cases hb
      · cases hb
    · cases hb
  · cases hb

/-- A slice that is made of its elements, and may be written. -/
theorem buildOwn_out (h : Rel γ F w H) (hh : HAbs hp H) {t e : TypeId} (ht : P.underlying t = some (.slice e)) {g : Bool} {k : Nat} (hl : lay P e = some (g, k)) {z : V} (hz : zeroOf P e = some z) {len : Nat} {parts : List (Nat × V)} {pv : Array (Nat × Value)} (hpl : parts.length = pv.size)
    (hr : ∀ (j : Nat) i x, parts[j]? = some (i, x) → ∃ v, pv[j]? = some (i, v) ∧ Rep γ F x v)
    (hb : buildOwnB e g k len parts hp = some (v, hp')) :
    OutB P γ F w (do pure (.value (← Instr.buildSlice t len pv))) v hp' := by
  obtain ⟨zv, hz1, hz2⟩ := zeroOf_spec hz
  unfold buildOwnB at hb
  split at hb
  · rename_i vs hp0
    obtain ⟨hc, rfl, rfl⟩ := when_some hb
    simp only [Bool.and_eq_true, nbeq_iff, okElemsB_iff, nblt_iff, nble_iff] at hc
    obtain ⟨⟨⟨hxl, ho⟩, hk0⟩, hsmall⟩ := hc
    have hps := partsInOrder_spec 0 parts vs hp0
    have hlen : parts.length = vs.length := by rw [hps]; simp
    refine ⟨H ++ [.arr e k vs], hh.push _, ?_⟩
    rw [hh.n]
    cases vs with
    | nil =>
      have hpv : pv = #[] := by
        have : pv.size = 0 := by rw [← hpl, hlen]; rfl
        simpa using this
      subst hpv
      have hl0 : len = 0 := by rw [← hxl]; rfl
      subst hl0
      obtain ⟨r1, r2, r3⟩ := new_arr (e := e) (k := k) (xs := []) (vs := #[]) (cap := 0) (fz := (0, 0)) h (by simp [RepEs]) (by simp) (by simp) (fun i _ => by simp) (w' := w.alloc (.cells #[] e)) rfl rfl rfl rfl
      refine ⟨.slice (some ⟨w.heap.size, 0, none⟩) 0 0, _, _, _, .inl ?_, r2, r1, r3⟩
      simp [Instr.buildSlice, run_underlying ht, run_sizeOf' hl, Instr.fill, newRow, Array.range_zero']
    | cons x xs =>
      have hne : ¬ (len * k = 0) := by
        have : 0 < len := by rw [← hxl]; simp
        have := Nat.mul_pos this hk0
        omega
      obtain ⟨r, ws, r1, r2, r3, r4⟩ := fill_seq (γ := γ) (F := F) (g := g) (k := k) (x :: xs) pv.toList 0 ((Array.range (len * k)).map (zv.cells[· % zv.cells.size]!)) (hlen.symm.trans (hpl.trans Array.length_toList.symm)) (fun j y hy => by
        obtain ⟨v, h1, h2⟩ := hr j j y (by rw [hps, List.getElem?_map, List.getElem?_zipIdx, hy]; simp)
        exact ⟨v, by simpa using h1, h2⟩) ho (fun hg => by subst hg; exact lay_one hl) (by simp [← hxl])
      simp only [Nat.zero_mul, List.take_zero, List.nil_append] at r2
      have hrs : r.size = len * k := by
        have := congrArg List.length r2
        rw [r4] at this
        simpa [hxl] using this
      obtain ⟨q1, q2, q3⟩ := new_arr (e := e) (k := k) (xs := x :: xs) (vs := r) (cap := len) (fz := (0, 0)) h (by rw [r2]; exact r3) hrs (by rw [hxl]; exact Nat.le_refl _) (fun i _ => by simp) (w' := w.alloc (.cells r e)) rfl rfl rfl rfl
      rw [hxl] at q1 q2 q3
      refine ⟨.slice (some ⟨w.heap.size, 0, none⟩) len len, _, _, _, .inl ?_, q2, q1, q3⟩
      have hsm : ¬ (16777216 < len * k) := by omega
      simp [Instr.buildSlice, run_underlying ht, run_sizeOf' hl, hz1, newRow, hne, hsm]
      simp [r1]
  · cases hb
end
end Go.Ab
namespace Go.Ab
variable [Env]
section
variable {P : Program} {γ γ' : List Loc} {F F' : Frz} {w w' : World} {H H' : Heap} {hp hp' : HP} {v : V}

/-- Some elements of an owned array are written. -/
theorem arr_write (h : Rel γ F w H) {r : Nat} {t : TypeId} {kk : Nat} {xs : List V} (ho : H[r]? = some (.arr t kk xs)) {b cap L : Nat} (g1 : γ[r]? = some (.arr b cap L kk)) {ys : List V} {ws : List Value} (hy : RepEs γ F kk ys ws) (hwl : ws.length = ys.length * kk) (hone : ∀ v ∈ ws, v.oneCell' = true)
    {i : Nat} (hi : i + ys.length ≤ xs.length) :
    ∃ w', (storeCells ⟨b, i * kk, none⟩ ws).run P w = .ok () w' ∧ Nx γ F w γ F w' ∧ Rel γ F w' (H.set r (.arr t kk (xs.take i ++ ys ++ xs.drop (i + ys.length)))) := by
  have hr := h.obj r _ _ g1 ho
  simp only [RelO] at hr
  obtain ⟨_, rfl, hcap, vs, fz, q4, q5, q6, q7⟩ := hr
  have hmul : i * kk + ys.length * kk ≤ xs.length * kk := by rw [← Nat.add_mul]; exact Nat.mul_le_mul_right _ hi
  have hcm : xs.length * kk ≤ cap * kk := Nat.mul_le_mul_right _ hcap
  obtain ⟨w', vs', r1, r2, r3, r4⟩ := run_storeCells (P := P) (i * kk) ws 0 w vs q4 (by rw [q5, hwl]; omega) q7 hone
  have hsz : vs'.size = vs.size := by
    have := congrArg List.length r4
    simp at this; omega
  have hown := h.own r _ b g1 rfl
  have hnew : RepEs γ F kk (xs.take i ++ ys ++ xs.drop (i + ys.length)) vs'.toList := by
    have h1 : RepEs γ F kk (xs.take i) (vs.toList.take (i * kk)) := RepEs.more (RepEs.take i q6) fun j hj => by
      have : j < i * kk := Nat.lt_of_lt_of_le hj (Nat.mul_le_mul_right _ (by simp; omega))
      rw [List.getElem?_take_of_lt this]
    have h1l : (vs.toList.take (i * kk)).length = (xs.take i).length * kk := by
      have : (xs.take i).length = i := by simp; omega
      rw [this, List.length_take, Nat.min_eq_left (by rw [Array.length_toList, q5]; omega)]
    have h2 := RepEs.append h1 h1l hy
    have h3 := RepEs.drop (i + ys.length) q6
    have h4 := RepEs.append h2 (by simp only [List.length_append, Nat.add_mul, h1l, hwl]) h3
    rw [r4]
    have e : vs.toList.drop (i * kk + 0 + ws.length) = vs.toList.drop ((i + ys.length) * kk) := by rw [hwl, Nat.add_mul]; simp
    rw [e]
    simpa using h4
  have hlen : (xs.take i ++ ys ++ xs.drop (i + ys.length)).length = xs.length := by simp; omega
  have hset : γ.set r (.arr b cap xs.length kk) = γ := set_getElem?_of g1
  have hblk : ∀ c, (Loc.arr b cap xs.length kk).block = some c → ((Loc.arr b cap xs.length kk).block = some c ∨ w.heap.size ≤ c) ∧ c < w'.heap.size := fun c hc => ⟨.inl hc, by cases hc; rw [r2.size]; exact hown.2⟩
  have n1 := Nx.upd h (l' := .arr b cap xs.length kk) g1 (LocLe.refl _) (by rw [r2.size]; exact Nat.le_refl _) r2.keep hblk r2.os r2.tape r2.output
  have n2 := Rel.upd h (l' := .arr b cap xs.length kk) (o' := .arr t kk (xs.take i ++ ys ++ xs.drop (i + ys.length))) g1 (LocLe.refl _) (by rw [r2.size]; exact Nat.le_refl _) r2.keep hblk (by
    rw [hset]
    exact ⟨rfl, hlen.symm, hcap, vs', fz, r3, by rw [hsz]; exact q5, hnew, by rw [hsz]; exact q7⟩)
  rw [hset] at n1 n2
  exact ⟨w', by simpa using r1, n1, n2⟩

/-- An owned array that is looked at: where it lies. -/
theorem arr_at (h : Rel γ F w H) {r L off n : Nat} {xv : Value} (hx : Rep γ F (.arr r L off n) xv) {t : TypeId} {k : Nat} {xs : List V} (ho : H[r]? = some (.arr t k xs)) (hL : xs.length = L) (hn : off + n ≤ L) :
    ∃ a c, xv = .slice a n c ∧ ((n = 0 ∧ γ[r]? = some .nilarr ∧ off = 0 ∧ xs = []) ∨ ∃ b cap, γ[r]? = some (.arr b cap L k) ∧ L ≤ cap ∧ c = cap - off ∧ (off = cap ∨ a = some ⟨b, off * k, none⟩)) := by
  simp only [Rep] at hx
  obtain ⟨a, c, rfl, l, h1, h2, h3, h4⟩ := hx
  have hr := h.obj r _ _ h1 ho
  refine ⟨a, c, rfl, ?_⟩
  cases l <;> simp only [RelO] at hr
  case nilarr =>
    obtain ⟨e1, e2, e3⟩ := h4 rfl
    exact .inl ⟨e2, h1, e1, hr⟩
  case arr b cap L' kk =>
    obtain ⟨rfl, rfl, hcap, vs, fz, q4, q5, q6, q7⟩ := hr
    obtain ⟨p1, p2, p3⟩ := h3 b cap k (by rw [hL])
    exact .inr ⟨b, cap, by rw [h1, hL], by omega, p2, p3⟩

def copyB (k : Nat) (d s : V) (H : HP) : RB :=
  match elemsB s H with
  | some (c, k', ys) => match d with
    | .arr r L off n => match H.get r with
      | some (.arr t kk xs) => when (c && (Nat.beq k' k || isNil ys) && Nat.blt 0 k && Nat.beq kk k && Nat.beq xs.length L && Nat.ble (off + n) L && Nat.ble ys.length n)
          (.int .i64 ys.length) (H.set r (.arr t kk (xs.take off ++ ys ++ xs.drop (off + ys.length))))
      | _ => none
    | _ => none
  | none => none

theorem copy_out (h : Rel γ F w H) (hh : HAbs hp H) {t e : TypeId} (ht : P.underlying t = some (.slice e)) {g : Bool} {k : Nat} (hl : lay P e = some (g, k)) {d s : V} {dv sv : Value} (hd : Rep γ F d dv) (hs : Rep γ F s sv) {u ty : TypeId}
    (hb : copyB k d s hp = some (v, hp')) : OutB P γ F w (do pure (.value (← Builtin.copy_ #[t, u] ty #[dv, sv]))) v hp' := by
  unfold copyB at hb
  split at hb
  · rename_i c k' ys he
    obtain ⟨p, he', hc'⟩ := elems_rb hh he
    split at hb
    · rename_i r L off n
      rw [hh.get] at hb
      split at hb
      · rename_i t' kk xs ho
        obtain ⟨hc, rfl, rfl⟩ := when_some hb
        simp only [Bool.and_eq_true, Bool.or_eq_true, nbeq_iff, isNil_iff, nblt_iff, nble_iff] at hc
        obtain ⟨⟨⟨⟨⟨⟨c1, c2⟩, c3⟩, rfl⟩, rfl⟩, c6⟩, c7⟩ := hc
        obtain ⟨e1, news, e2, e3, e4, e5⟩ := elems_sound (P := P) h hs he' (hc' c1) c2 c3
        have e2' := e2 w rfl
        obtain ⟨a, cc, rfl, hcase⟩ := arr_at h hd ho rfl c6
        have hmin : Nat.min ys.length n = ys.length := Nat.min_eq_left c7
        have run : ∀ w', (match a with | some a => storeCells a news.toList | none => pure () : Sem Unit).run P w = .ok () w' → (Builtin.copy_ #[t, u] ty #[.slice a n cc, sv]).run P w = .ok (goInt ys.length) w' := by
          intro w' hw
          cases a with
          | none =>
            simp only [Sem.run_pure, Result.ok.injEq, true_and] at hw
            subst hw
            simp [Builtin.copy_, run_underlying ht, e1, hmin, run_sizeOf' hl, e2']
          | some a =>
            simp only at hw
            simp [Builtin.copy_, run_underlying ht, e1, hmin, run_sizeOf' hl, e2', hw]
        refine ⟨_, hh.set ho, ?_⟩
        by_cases hy : ys = []
        · subst hy
          have hn0 : news = #[] := by simpa using e4
          have hself : H.set r (.arr t' kk (xs.take off ++ [] ++ xs.drop (off + ([] : List V).length))) = H := by
            have : xs.take off ++ [] ++ xs.drop (off + ([] : List V).length) = xs := by simp
            rw [this]; exact set_getElem?_of ho
          rw [hself]
          refine Out.value h (u := goInt 0) (run w ?_) (by simp [Rep, goInt])
          subst hn0
          cases a <;> simp [storeCells]
        · have hpos : 0 < ys.length := by cases ys <;> simp at hy ⊢
          rcases hcase with ⟨rfl, _⟩ | ⟨b, cap, g1, g2, g3, g4⟩
          · omega
          · have ha : a = some ⟨b, off * kk, none⟩ := by
              rcases g4 with g4 | g4
              · omega
              · exact g4
            subst ha
            obtain ⟨w', r1, r2, r3⟩ := arr_write (P := P) h ho g1 e3 (by simpa using e4) e5 (i := off) (by omega)
            exact ⟨goInt ys.length, w', γ, F, .inl (run_val (run w' r1)), r2, r3, by simp [Rep, goInt]⟩
      · cases hb
    · cases hb
  · cases hb

def clearB (k : Nat) (z x : V) (g : Bool) (H : HP) : RB :=
  match x with
  | .zsl => some (.tup [], H)
  | .nilsl => some (.tup [], H)
  | .arr r L off n => match n with
    | 0 => some (.tup [], H)
    | n => match H.get r with
      | some (.arr t kk xs) => when (okValB g k z && Nat.blt 0 k && Nat.beq kk k && Nat.beq xs.length L && Nat.ble (off + n) L)
          (.tup []) (H.set r (.arr t kk (xs.take off ++ List.replicate n z ++ xs.drop (off + n))))
      | _ => none
  | _ => none

theorem clear_out (h : Rel γ F w H) (hh : HAbs hp H) {t e : TypeId} (ht : P.underlying t = some (.slice e)) {g : Bool} {k : Nat} (hl : lay P e = some (g, k)) {z : V} (hz : zeroOf P e = some z) {x : V} {xv : Value} (hx : Rep γ F x xv) {ty : TypeId}
    (hb : clearB k z x g hp = some (v, hp')) : OutB P γ F w (do pure (.value (← Builtin.clear_ #[t] ty #[xv]))) v hp' := by
  have nothing : ∀ {v}, (∃ a c, xv = .slice a 0 c) → v = .tup [] → OutB P γ F w (do pure (.value (← Builtin.clear_ #[t] ty #[xv]))) v hp := by
    rintro v ⟨a, c, rfl⟩ rfl
    refine ⟨H, hh, Out.value h (u := .tuple #[]) ?_ (by simp only [Rep]; exact ⟨_, rfl, by simp [RepL]⟩)⟩
    cases a <;> simp [Builtin.clear_, run_underlying ht]
  unfold clearB at hb
  split at hb
  · cases hb; simp only [Rep] at hx; exact nothing ⟨_, _, hx⟩ rfl
  · cases hb; simp only [Rep] at hx; obtain ⟨a, rfl⟩ := hx; exact nothing ⟨_, _, rfl⟩ rfl
  · rename_i r L off n0
    split at hb
    · cases hb; simp only [Rep] at hx; obtain ⟨a, c, rfl, _⟩ := hx; exact nothing ⟨_, _, rfl⟩ rfl
    · rename_i n hne
      rw [hh.get] at hb
      split at hb
      · rename_i t' kk xs ho
        obtain ⟨hc, rfl, rfl⟩ := when_some hb
        simp only [Bool.and_eq_true, nbeq_iff, nblt_iff, nble_iff, okValB_iff] at hc
        obtain ⟨⟨⟨⟨c1, c2⟩, rfl⟩, rfl⟩, c5⟩ := hc
        obtain ⟨a, cc, rfl, hcase⟩ := arr_at h hx ho rfl c5
        rcases hcase with ⟨rfl, _⟩ | ⟨b, cap, g1, g2, g3, g4⟩
        · exact (hne rfl).elim
        · have hn : 0 < n0 := Nat.pos_of_ne_zero hne
          have ha : a = some ⟨b, off * kk, none⟩ := by
            rcases g4 with g4 | g4
            · omega
            · exact g4
          subst ha
          obtain ⟨zv, hz1, hz2⟩ := zeroOf_spec hz
          have hg : g = false → kk = 1 := fun hg => by subst hg; exact lay_one hl
          have hes := made_es (γ := γ) (F := F) (hz2 γ F) c1 hg c2 (n := n0) (cap := n0) (Nat.le_refl _)
          have hcs : (madeCells zv.cells (n0 * kk)).size = n0 * kk := size_madeCells _ _
          have hzc : Builtin.zeroCells zv.cells n0 = madeCells zv.cells (n0 * kk) := by
            have := size_zero (hz2 γ F) c1 hg
            unfold Builtin.zeroCells madeCells
            rw [this]
          obtain ⟨w', r1, r2, r3⟩ := arr_write (P := P) h ho g1 hes (by simpa using hcs) (fun y hy => by
            obtain ⟨j, hj⟩ := List.getElem?_of_mem hy
            have hj2 := getElem?_lt hj
            exact RepEs.one hes j (by simp only [List.length_replicate]; simpa [hcs] using hj2) y hj) (i := off) (by simpa using c5)
          simp only [List.length_replicate] at r3
          refine ⟨_, hh.set ho, .tuple #[], w', γ, F, .inl (run_val ?_), r2, r3, by simp only [Rep]; exact ⟨_, rfl, by simp [RepL]⟩⟩
          have hnz : n0 ≠ 0 := hne
          simp [Builtin.clear_, run_underlying ht, hz1, hzc]
          rw [r1]; rfl
      · cases hb
  · cases hb

/-- A key is taken away. -/
def delKey : V → List (V × V) → List (V × V)
  | _, [] => []
  | k, (q, x) :: es => if keyEq k q then es else (q, x) :: delKey k es

def deleteB (d : List TypeDesc × Bool) (m k : V) (H : HP) : RB :=
  match m with
  | .mp r => match H.get r with
    | some (.mp es) => when (okKey d k && es.all (fun e => okKey d e.1)) (.tup []) (H.set r (.mp (delKey k es)))
    | _ => none
  | _ => none

theorem RepM.del {k : V} : ∀ {es : List (V × V)} {ms : List MapEntry}, RepM γ F es ms → (keyAt k es = none ∧ delKey k es = es) ∨ (∃ j, keyAt k es = some j ∧ j < ms.length ∧ RepM γ F (delKey k es) (ms.eraseIdx j))
  | [], ms, h => .inl ⟨rfl, rfl⟩
  | (q, x) :: es, ms, h => by
    obtain ⟨e, rest, rfl, h1, h2, h3⟩ := h
    unfold keyAt delKey
    split
    · exact .inr ⟨0, rfl, by simp, h3⟩
    · rcases RepM.del (k := k) h3 with ⟨g1, g2⟩ | ⟨j, g1, g2, g3⟩
      · exact .inl ⟨by rw [g1]; rfl, by rw [g2]⟩
      · exact .inr ⟨j + 1, by rw [g1]; rfl, by simpa using g2, e, _, rfl, h1, h2, g3⟩

theorem borns_erase {ms : List MapEntry} {clock : Nat} (h : Borns ms clock) (j : Nat) : Borns (ms.eraseIdx j) clock :=
  ⟨fun e he => h.1 e (List.mem_of_mem_eraseIdx he), h.2.sublist (List.eraseIdx_sublist _ _)⟩

theorem delete_out (h : Rel γ F w H) (hh : HAbs hp H) {t kt e : TypeId} (ht : mapOf P t = some (kt, e)) {d : List TypeDesc × Bool} (hd : keyKinds P kt = some d) {m k : V} {mv kv : Value} (hm : Rep γ F m mv) (hk : Rep γ F k kv) {u ty : TypeId}
    (hb : deleteB d m k hp = some (v, hp')) : OutB P γ F w (do pure (.value (← Builtin.delete_ #[t, u] ty #[mv, kv]))) v hp' := by
  have hu := mapOf_spec ht
  unfold deleteB at hb
  split at hb
  · rename_i r
    rw [hh.get] at hb
    split at hb
    · rename_i es ho
      obtain ⟨hc, rfl, rfl⟩ := when_some hb
      simp only [Bool.and_eq_true] at hc
      obtain ⟨o1, o2⟩ := hc
      simp only [Rep] at hm
      obtain ⟨b, h1, rfl⟩ := hm
      have hr := h.obj r _ _ h1 ho
      simp only [RelO] at hr
      obtain ⟨ms, clock, h2, h3, h4⟩ := hr
      have ho2 : ∀ e ∈ es, okKey d e.1 = true := by simpa using o2
      have hch := run_checkKey (P := P) (w := w) hd hk o1 ms.isEmpty 9998
      have hf := run_findKey (P := P) (w := w) hd hk o1 h3 ho2
      have hg : (getObj b).run P w = .ok (.map ms clock) w := by simp [getObj, Sem.run, h2]
      have hown := h.own r _ b h1 rfl
      have hset : γ.set r (.mp b) = γ := set_getElem?_of h1
      refine ⟨_, hh.set ho, ?_⟩
      have fin : ∀ (ms' : Array MapEntry), RepM γ F (delKey k es) ms'.toList → Borns ms'.toList clock → (Builtin.delete_ #[t, u] ty #[.map (some b), kv]).run P w = .ok (.tuple #[]) { w with heap := w.heap.setIfInBounds b (.map ms' clock) } →
          Out P γ F w (do pure (.value (← Builtin.delete_ #[t, u] ty #[.map (some b), kv]))) (.tup []) (H.set r (.mp (delKey k es))) := by
        intro ms' q1 q2 q3
        have hsz : ({ w with heap := w.heap.setIfInBounds b (.map ms' clock) } : World).heap.size = w.heap.size := by simp
        have hsame : ∀ c, c < w.heap.size → (Loc.mp b).block ≠ some c → ({ w with heap := w.heap.setIfInBounds b (.map ms' clock) } : World).heap[c]? = w.heap[c]? := by
          intro c _ hcb
          have : b ≠ c := fun e => hcb (by rw [e]; rfl)
          simp [Array.getElem?_setIfInBounds, this]
        have hblk : ∀ c, (Loc.mp b).block = some c → ((Loc.mp b).block = some c ∨ w.heap.size ≤ c) ∧ c < ({ w with heap := w.heap.setIfInBounds b (.map ms' clock) } : World).heap.size := fun c hcb => ⟨.inl hcb, by cases hcb; rw [hsz]; exact hown.2⟩
        have r1 := Nx.upd h h1 (l' := .mp b) (LocLe.refl _) (by rw [hsz]; exact Nat.le_refl _) hsame hblk rfl rfl rfl
        have r2 := Rel.upd h h1 (l' := .mp b) (o' := .mp (delKey k es)) (LocLe.refl _) (by rw [hsz]; exact Nat.le_refl _) hsame hblk (by
          rw [hset]
          exact ⟨ms', clock, by simp [Array.getElem?_setIfInBounds, hown.2], q1, q2⟩)
        rw [hset] at r1 r2
        exact ⟨.tuple #[], _, _, _, .inl (run_val q3), r1, r2, by simp only [Rep]; exact ⟨_, rfl, by simp [RepL]⟩⟩
      have hsetrun : ∀ o : Obj, (setObj b o).run P w = .ok () { w with heap := w.heap.setIfInBounds b o } := fun o => by
        simp [setObj, Sem.run, h2]
      rcases RepM.del (k := k) h3 with ⟨g1, g2⟩ | ⟨j, g1, g2, g3⟩
      · refine fin ms (by rw [g2]; exact h3) h4 ?_
        rw [g1] at hf
        simp only [Option.bind_none] at hf
        simp [Builtin.delete_, run_underlying hu, hg, hch, hf, hsetrun]
      · have he : (ms.eraseIdxIfInBounds j).toList = ms.toList.eraseIdx j := by
          have hj : j < ms.size := by simpa using g2
          simp [Array.eraseIdxIfInBounds, hj]
        refine fin (ms.eraseIdxIfInBounds j) (by rw [he]; exact g3) (by rw [he]; exact borns_erase h4 j) ?_
        rw [g1] at hf
        have hj : ms.toList[j]? = some ms.toList[j] := by simp [g2]
        simp only [Option.bind_some, hj, Option.map_some] at hf
        simp [Builtin.delete_, run_underlying hu, hg, hch, hf, hsetrun]
    · cases hb
  · cases hb
end
end Go.Ab
