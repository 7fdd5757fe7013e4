/- (disk.names).used, of one file. -/
import Derived.Test.YtgpopggboiphoaaGreatDoorTab
import Derived.Test.YtgpopggboiphoaaGreatDoorEvl
set_option maxRecDepth 100000
set_option linter.unusedVariables false
set_option linter.unusedSimpArgs false
noncomputable section
namespace Go.Ab
open Go.Proofs

section
variable {P : Program} {w : World} {m : Nat} {e : MapEntry} {clock r : Nat}

theorem run_range_map {t kt et : TypeId} (ht : P.underlying t = some (.map kt et)) {es : Array MapEntry} (hm : w.heap[m]? = some (.map es clock)) :
    (Instr.range t (.map (some m))).run P w = .ok (.pointer (some ⟨w.heap.size, 0, none⟩)) (w.alloc (.mapIter (some m) clock #[] clock)) := by
  have hg : (getObj m).run P w = .ok (.map es clock) w := by simp [getObj, Sem.run, hm]
  simp only [Instr.range, Sem.run_bind, run_underlying ht, Result.andThen_ok, hg, Sem.run_pure, run_newObj_alloc]

theorem run_next_first (ht : w.heap[r]? = some (.mapIter (some m) clock #[] clock)) (hm : w.heap[m]? = some (.map #[e] clock)) (hb : e.born < clock) (t : TypeId) :
    (Instr.next (.pointer (some ⟨r, 0, none⟩)) false t).run P w = .ok (.tuple #[.bool true, e.key, e.val]) (w.putObj r (.mapIter (some m) clock #[e.born] clock)) := by
  have hg : (getObj m).run P w = .ok (.map #[e] clock) w := by simp [getObj, Sem.run, hm]
  have hr : (getObj r).run P w = .ok (.mapIter (some m) clock #[] clock) w := by simp [getObj, Sem.run, ht]
  have hs : (setObj r (.mapIter (some m) clock #[e.born] clock)).run P w = .ok () (w.putObj r (.mapIter (some m) clock #[e.born] clock)) := by
    simp [setObj, Sem.run, ht, World.putObj]
  simp [Instr.next, Sem.run_bind, hr, hg, hb, Question.forced, hs, show ¬ clock ≤ e.born by omega]

theorem run_entry_one (ht : w.heap[r]? = some (.mapIter (some m) clock #[e.born] clock)) (hm : w.heap[m]? = some (.map #[e] clock)) :
    (Instr.entry (.pointer (some ⟨r, 0, none⟩))).run P w = .ok (.tuple #[e.key, e.val]) w := by
  have hg : (getObj m).run P w = .ok (.map #[e] clock) w := by simp [getObj, Sem.run, hm]
  have hr : (getObj r).run P w = .ok (.mapIter (some m) clock #[e.born] clock) w := by simp [getObj, Sem.run, ht]
  simp [Instr.entry, Sem.run_bind, hr, hg]

theorem run_next_over (ht : w.heap[r]? = some (.mapIter (some m) clock #[e.born] clock)) (hm : w.heap[m]? = some (.map #[e] clock)) (hb : e.born < clock) (t : TypeId) :
    (Instr.next (.pointer (some ⟨r, 0, none⟩)) false t).run P w = .ok (.tuple #[.bool false]) w := by
  have hg : (getObj m).run P w = .ok (.map #[e] clock) w := by simp [getObj, Sem.run, hm]
  have hr : (getObj r).run P w = .ok (.mapIter (some m) clock #[e.born] clock) w := by simp [getObj, Sem.run, ht]
  simp [Instr.next, Sem.run_bind, hr, hg, hb, Question.forced, show ¬ clock ≤ e.born by omega]

/-- An operation that gives a value. -/
theorem op_val {ops : Array Oper} {Q : Exit → Act → World → Prop} {i : Nat} {o : Oper} {rest : List Nat} {a : Act} {w' : World} {v : Value} (hi : ops[i]? = some o) (hg : o.guard = none) (hnd : ∀ c, o.op ≠ .defer c) (hr : (execOp a.eval o).run P w = .ok (.value v) w')
    (h : wpOpsIn (fen none) 0 P ops Q rest (a.put o.dst v) w') : wpOpsIn (fen none) 0 P ops Q (i :: rest) a w := by
  refine wpOps_do hi (by simp [Region.wanted, hg]) ?_
  unfold Oper.wpIn
  refine ⟨fun f _ => trivial, ?_⟩
  rw [Oper.semAt_eq _ _ _ hnd, hr]
  exact h

/-- A block that nobody owns is written. -/
theorem Rel.putUn {γ : List Loc} {F : Frz} {H : Heap} (h : Rel γ F w H) {r : Nat} (hno : ¬ Owned γ r) (hF : F r = none) (o : Obj) : Rel γ F (w.putObj r o) H := by
  have hother : ∀ b, b ≠ r → (w.putObj r o).heap[b]? = w.heap[b]? := fun b hb => World.putObj_heap_other hb
  refine ⟨h.len, fun q l x hl hx => RelO.mono (Ext.refl γ) (FLe.refl F) (fun b hb => hother b ?_) (h.obj q l x hl hx), h.inj, fun q l b hl hb => ?_, fun b x hb => ?_, h.glb⟩
  · rintro rfl; exact hno ⟨q, l, hl, hb⟩
  · have := h.own q l b hl hb
    exact ⟨this.1, by simpa using this.2⟩
  · rw [hother b (by rintro rfl; rw [hF] at hb; cases hb)]; exact h.frz b x hb
end

theorem ev_same {a : Act} {d : Nat} {v : Value} (h : d < a.tmps.size) : (a.put (some d) v).eval (.tmp d) = v := by
  show (a.tmps.setIfInBounds d v).getD d undef = v
  rw [agetD_set, if_pos ⟨rfl, h⟩]
theorem ev_ne {a : Act} {d t : Nat} {v : Value} (h : d ≠ t) : (a.put (some d) v).eval (.tmp t) = a.eval (.tmp t) := by
  show (a.tmps.setIfInBounds d v).getD t undef = _
  rw [agetD_set, if_neg (fun hh => h hh.1)]
  rfl
theorem ev_const {a : Act} {v : Value} : a.eval (.const v) = v := rfl
theorem putOb_get {w : World} {r : Nat} {o : Obj} (h : r < w.heap.size) : (w.putObj r o).heap[r]? = some o := World.putObj_heap_same h

theorem und153 : Tryz.prog.underlying 153 = some (.map 9 203) := by kernel_rfl
theorem lay74 : lay Tryz.prog 74 = some (false, 1) := by kernel_rfl
theorem lk74 : lenKind (Tryz.prog.underlying 74) = 1 := by kernel_rfl
theorem fld208 : ∃ f, fieldOf Tryz.prog 208 0 = some f ∧ f.offset = 0 ∧ lay Tryz.prog f.type = some (false, 0 + 1) := ⟨_, rfl, by kernel_rfl, by kernel_rfl⟩

theorem k153s : FnOk Tryz.prog 153 (.spec usedB) := by
  intro args hp v hp' hx H hh
  unfold usedB at hx
  split at hx
  · rename_i r
    rw [hh.get] at hx
    split at hx
    · rename_i k0 p0 ho
      split at hx
      · rename_i z1 q z2 hnc hfa
        split at hx
        · rename_i x z3 hld
          split at hx
          · rename_i n z4 hln
            simp only [Option.some.injEq, Prod.mk.injEq] at hx
            obtain ⟨rfl, rfl⟩ := hx
            refine ⟨H, hh, .inl ⟨by kernel_rfl, ?_⟩⟩
            refine aspec_of_wp Tryz.func153 rfl fun γ F w a hst hde => ?_
            have hsz : a.tmps.size = 20 := by
              rw [← hst.env.len]
              rfl
            have hr0 := hst.env.rep 0
            change Rep γ F (.mp r) (a.eval (.tmp 0)) at hr0
            simp only [Rep] at hr0
            obtain ⟨m, h1, h0⟩ := hr0
            have hro := hst.rel.obj r _ _ h1 ho
            simp only [RelO] at hro
            obtain ⟨ms, clock, hm, hms, hb⟩ := hro
            obtain ⟨e, rest, hms2, hek, hev, hre⟩ := hms
            simp only [RepM] at hre
            subst hre
            obtain rfl : ms = #[e] := by
              apply Array.ext'
              simpa using hms2
            have hborn : e.born < clock := hb.1 e (by simp)
            -- the worlds
            let r1 := w.heap.size
            let W1 := w.alloc (.mapIter (some m) clock #[] clock)
            let W2 := W1.putObj r1 (.mapIter (some m) clock #[e.born] clock)
            have hsz1 : W1.heap.size = w.heap.size + 1 := World.size_alloc ..
            have hmlt := agetElem?_lt hm
            have hm1 : W1.heap[m]? = some (.map #[e] clock) := by
              show (w.heap.push _)[m]? = _
              rw [Array.getElem?_push, if_neg (by omega)]; exact hm
            have hi1 : W1.heap[r1]? = some (.mapIter (some m) clock #[] clock) := World.alloc_heap_new w _
            have hi2 : W2.heap[r1]? = some (.mapIter (some m) clock #[e.born] clock) := putOb_get (by rw [hsz1]; exact Nat.lt_succ_self _)
            have hm2 : W2.heap[m]? = some (.map #[e] clock) := (World.putObj_heap_other (by omega)).trans hm1
            obtain ⟨ra, na⟩ := Rel.alloc hst.rel (.mapIter (some m) clock #[] clock)
            have hno : ¬ Owned γ r1 := by
              rintro ⟨q', l, hl, hb'⟩
              have := (hst.rel.own q' l _ hl hb').2
              exact Nat.lt_irrefl _ this
            have hF : F r1 = none := by
              cases hq : F r1 with
              | none => rfl
              | some o =>
                have := agetElem?_lt (hst.rel.frz _ _ hq)
                exact absurd this (Nat.lt_irrefl _)
            have rel2 : Rel γ F W2 H := Rel.putUn ra hno hF _
            have nx2 : Nx γ F w γ F W2 := ⟨Ext.refl γ, FLe.refl F, fun b hb' ho' => by
                have : b ≠ r1 := fun h => by rw [h] at hb'; exact Nat.lt_irrefl _ hb'
                rw [show W2.heap[b]? = W1.heap[b]? from World.putObj_heap_other this]
                exact na.keep b hb' ho', fun _ h _ => h, by rw [show W2.heap.size = W1.heap.size from World.putObj_size]; omega, rfl, rfl, rfl, fun _ _ _ => rfl⟩
            -- what is read
            obtain ⟨fd, hf1, hf2, hf3⟩ := fld208
            obtain ⟨c1, c2, c3⟩ := nilCheck_rb hh p0 _ _ hnc
            obtain ⟨d1, d2, d3⟩ := fieldAddr_rb hh 0 p0 _ _ hfa
            rw [← hf2] at d1 d2
            obtain ⟨fu, fr, frep, _⟩ := fieldAddr_sound (P := Tryz.prog) rel2 hf1 hf3 hev d1
            rw [d2] at frep
            obtain ⟨l1, l2, l3⟩ := load_rb hh false 1 q _ _ hld
            obtain ⟨lu, lr, lrep, _⟩ := load_sound (P := Tryz.prog) rel2 lay74 frep l1
            rw [l2] at lrep
            obtain ⟨n1, n2, n3⟩ := len_rb hh 1 x _ _ hln
            rw [← lk74] at n1 n2
            obtain ⟨nu, nr, nrep, _⟩ := len_sound (P := Tryz.prog) (ty := 3) rel2 lrep n1
            rw [n2] at nrep
            simp only [Rep] at nrep
            subst nrep
            -- the walk
            refine wpIn_seq (wpIn_region ?_)
            refine op_val (rest := []) rfl rfl (by simp) (v := .int .i64 0) (w' := w) (by simp [execOp, ev_const]) ?_
            change (Code.seq _ _).wpIn (fen none) 0 _ _ _ _
            refine wpIn_seq (wpIn_region ?_)
            refine op_val (rest := []) rfl rfl (by simp) (v := .int .i64 0) (w' := w) (by simp [execOp, ev_const]) ?_
            change (Code.seq _ _).wpIn (fen none) 0 _ _ _ _
            refine wpIn_seq (wpIn_seq (wpIn_region ?_))
            refine op_val (rest := [1]) rfl rfl (by simp) (v := .map (some m)) (w' := w) (by simp [execOp, ev_ne, h0]) ?_
            refine op_val (rest := []) rfl rfl (by simp) (v := .pointer (some ⟨r1, 0, none⟩)) (w' := W1) (by
              have := run_range_map (P := Tryz.prog) und153 hm
              simp [execOp, ev_same, put_size, hsz, this, W1, r1]) ?_
            change (Code.block 0 _).wpIn (fen none) 0 _ _ _ _
            refine wpIn_block (wpIn_loop_rounds 2 ?_)
            rw [roundsIn_succ]
            refine wpIn_seq (wpIn_region ?_)
            refine op_val (rest := [1]) rfl rfl (by simp) (v := .tuple #[.bool true, e.key, e.val]) (w' := W2) (by
              have := run_next_first (P := Tryz.prog) hi1 hm1 hborn 0
              simp [execOp, ev_same, put_size, hsz, this, W2]) ?_
            refine op_val (rest := []) rfl rfl (by simp) (v := .bool true) (w' := W2) (by simp [execOp, ev_same, put_size, hsz, Instr.extract]) ?_
            change (Code.seq _ _).wpIn (fen none) 0 _ _ _ _
            refine wpIn_seq (wpIn_cond_true (by simp [ev_same, put_size, hsz]) (wpIn_skip ?_))
            change (Code.block 1 _).wpIn (fen none) 0 _ _ _ _
            refine wpIn_block (wpIn_seq (wpIn_region ?_))
            refine op_val (rest := [1, 2]) rfl rfl (by simp) (v := .tuple #[e.key, e.val]) (w' := W2) (by
              have := run_entry_one (P := Tryz.prog) hi2 hm2
              simp [execOp, ev_same, ev_ne, put_size, hsz, this]) ?_
            refine op_val (rest := [2]) rfl rfl (by simp) (v := e.val) (w' := W2) (by simp [execOp, ev_same, put_size, hsz, Instr.extract]) ?_
            refine op_val (rest := []) rfl rfl (by simp) (v := e.val) (w' := W2) (by simp [execOp, ev_same, put_size, hsz]) ?_
            change (Code.region _ _ _).wpIn (fen none) 0 _ _ _ _
            refine wpIn_region ?_
            refine op_val (rest := [1, 2, 3, 4, 5, 6, 7]) rfl rfl (by simp) (v := .int .i64 0) (w' := W2) (by simp [execOp, ev_same, ev_ne, put_size, hsz]) ?_
            refine op_val (rest := [2, 3, 4, 5, 6, 7]) rfl rfl (by simp) (v := e.val) (w' := W2) (by simp [execOp, ev_same, ev_ne, put_size, hsz]) ?_
            refine op_val (rest := [3, 4, 5, 6, 7]) rfl rfl (by simp) (v := e.val) (w' := W2) (nilCheck_sound (P := Tryz.prog) rel2 hev c1 (x := .tmp 13) (by simp [ev_same, put_size, hsz]) rfl).1 ?_
            refine op_val (rest := [4, 5, 6, 7]) rfl rfl (by simp) (v := fu) (w' := W2) (by simp [execOp, ev_same, put_size, hsz, fr]) ?_
            refine op_val (rest := [5, 6, 7]) rfl rfl (by simp) (v := lu) (w' := W2) (by simp [execOp, ev_same, put_size, hsz, lr]) ?_
            refine op_val (rest := [6, 7]) rfl rfl (by simp) (v := .int .i64 n) (w' := W2) (by
              simp only [execOp, Sem.run_bind, resolve, Sem.run_pure, Result.andThen_ok, invoke]
              simp [ev_same, put_size, hsz, builtin, nr]) ?_
            refine op_val (rest := [7]) rfl rfl (by simp) (v := .int .i64 (IntKind.i64.wrap (0 + n))) (w' := W2) (by
              simp [execOp, ev_same, ev_ne, put_size, hsz, eqGuard, binOp, Op.intArith]) ?_
            refine op_val (rest := []) rfl rfl (by simp) (v := .int .i64 (IntKind.i64.wrap (0 + n))) (w' := W2) (by simp [execOp, ev_same, put_size, hsz]) ?_
            change Code.roundsIn (fen none) 0 _ _ _ 1 _ _
            rw [roundsIn_succ]
            refine wpIn_seq (wpIn_region ?_)
            refine op_val (rest := [1]) rfl rfl (by simp) (v := .tuple #[.bool false]) (w' := W2) (by
              have := run_next_over (P := Tryz.prog) hi2 hm2 hborn 0
              simp [execOp, ev_same, ev_ne, put_size, hsz, this]) ?_
            refine op_val (rest := []) rfl rfl (by simp) (v := .bool false) (w' := W2) (by simp [execOp, ev_same, put_size, hsz, Instr.extract]) ?_
            change (Code.seq _ _).wpIn (fen none) 0 _ _ _ _
            refine wpIn_seq (wpIn_cond_false (by simp [ev_same, put_size, hsz]) (wpIn_exit ?_))
            change (Code.seq _ _).wpIn (fen none) 0 _ _ _ _
            refine wpIn_seq (wpIn_region ?_)
            refine op_val (rest := [1]) rfl rfl (by simp) (v := .int .i64 (IntKind.i64.wrap (0 + n))) (w' := W2) (by simp [execOp, ev_same, ev_ne, put_size, hsz]) ?_
            refine op_val (rest := []) rfl rfl (by simp) (v := .int .i64 (IntKind.i64.wrap (0 + n))) (w' := W2) (by simp [execOp, ev_same, put_size, hsz]) ?_
            change Code.ret.wpIn (fen none) 0 _ _ _ _
            refine wpIn_ret ⟨.inr rfl, γ, F, γ, H, nx2, ?_, rel2, fun w'' q1 q2 => ⟨.int .i64 (IntKind.i64.wrap (0 + n)), ?_, q2, q1, by simp only [Rep]⟩⟩
            · simp only [put_defers]
              rw [hde]
              exact Marks.nil _ _ _ _
            · rw [results_eq]
              have e2 : ∀ (b : Act) (d : Option Tmp), d = some 2 → b.tmps.size = 20 → resSem (b.put d (.int .i64 (IntKind.i64.wrap (0 + n)))).tmps (.tmp 2) = pure (.int .i64 (IntKind.i64.wrap (0 + n))) := by
                rintro b d rfl hb2
                have := ev_same (a := b) (d := 2) (v := .int .i64 (IntKind.i64.wrap (0 + n))) (by omega)
                simp only [resSem]
                congr 1
              have e4 : Tryz.f153.results = #[.tmp 2] := rfl
              rw [e4, Array.mapM_eq_mapM_toList]
              simp only [List.mapM_cons, List.mapM_nil]
              rw [e2 _ _ (by rfl) (by simp only [put_size]; exact hsz)]
              simp
          · cases hx
        · cases hx
      · cases hx
    · cases hx
  · cases hx
end Go.Ab
end
