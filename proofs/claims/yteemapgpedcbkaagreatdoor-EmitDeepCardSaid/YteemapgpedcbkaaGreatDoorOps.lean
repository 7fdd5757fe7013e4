/- The abstract machine: every operation that it knows answers as the program's model does. -/
import Derived.Test.YteemapgpedcbkaaGreatDoorMach
import Derived.Laws.MakeOwn
import Derived.Laws.Append
import Derived.Laws.AppendOwn
import Derived.Laws.IdiomStrings
import Derived.Laws.BytesString
set_option linter.unusedVariables false
set_option linter.unusedSectionVars false
set_option linter.unusedSimpArgs false
namespace Go.Ab
variable [Env]
section
variable {P : Program} {γ : List Loc} {F : Frz} {w : World} {H : Heap}

theorem bin_sound {op : BinOp} {t : TypeId} {xo yo : Operand} {x y : V} {xv yv : Value} (hx : Rep γ F x xv) (hy : Rep γ F y yv) (hok : (binR P op t (isConstOp xo || isConstOp yo) x y H).ok) :
    ∃ u, (do eqGuard op t xo yo xv yv; binOp op t xv yv : Sem Value).run P w = .ok u w ∧ Rep γ F (binR P op t (isConstOp xo || isConstOp yo) x y H).v u ∧ (binR P op t (isConstOp xo || isConstOp yo) x y H).H = H := by
  have hint : ∀ k k' a b, x = .int k a → y = .int k' b → op ≠ .shl → op ≠ .shr → ∃ u, (do eqGuard op t xo yo xv yv; binOp op t xv yv : Sem Value).run P w = .ok u w ∧ Rep γ F (binR P op t (isConstOp xo || isConstOp yo) x y H).v u ∧ (binR P op t (isConstOp xo || isConstOp yo) x y H).H = H := by
    rintro k k' a b rfl rfl hop1 hop2
    simp only [Rep] at hx hy
    subst hx hy
    have hr : binR P op t (isConstOp xo || isConstOp yo) (.int k a) (.int k' b) H = if k = k' then intBin op k a b H else R.bad := by
      cases op <;> first | rfl | exact absurd rfl hop1 | exact absurd rfl hop2
    rw [hr] at hok ⊢
    by_cases e : k = k'
    · subst e
      rw [if_pos rfl] at hok ⊢
      obtain ⟨u, h1, h2, h3⟩ := intBin_sound (P := P) (γ := γ) (F := F) (w := w) (t := t) hok
      exact ⟨u, by rw [Sem.run_bind, eqGuard_one (by simp) (by simp)]; exact h1, h2, h3⟩
    · rw [if_neg e] at hok; exact hok.elim
  have hstr : ∀ a b, x = .str a → y = .str b → ∃ u, (do eqGuard op t xo yo xv yv; binOp op t xv yv : Sem Value).run P w = .ok u w ∧ Rep γ F (binR P op t (isConstOp xo || isConstOp yo) x y H).v u ∧ (binR P op t (isConstOp xo || isConstOp yo) x y H).H = H := by
    rintro a b rfl rfl
    simp only [Rep] at hx hy
    subst hx hy
    have hr : binR P op t (isConstOp xo || isConstOp yo) (.str a) (.str b) H = strBin op a b H := by
      cases op <;> rfl
    rw [hr] at hok ⊢
    obtain ⟨u, h1, h2, h3⟩ := strBin_sound (P := P) (γ := γ) (F := F) (w := w) (t := t) hok
    exact ⟨u, by rw [Sem.run_bind, eqGuard_one (by simp) (by simp)]; exact h1, h2, h3⟩
  have heq : (∀ k a, x ≠ .int k a) → (∀ a, x ≠ .str a) → ∃ u, (do eqGuard op t xo yo xv yv; binOp op t xv yv : Sem Value).run P w = .ok u w ∧ Rep γ F (binR P op t (isConstOp xo || isConstOp yo) x y H).v u ∧ (binR P op t (isConstOp xo || isConstOp yo) x y H).H = H := by
    intro hni hns
    have hr : binR P op t (isConstOp xo || isConstOp yo) x y H = match op with
        | .eql => eqR P t (isConstOp xo || isConstOp yo) x y H
        | .neq => notR (eqR P t (isConstOp xo || isConstOp yo) x y H)
        | _ => R.bad := by
      cases op <;> cases x <;> first | rfl | exact absurd rfl (hni _ _) | exact absurd rfl (hns _)
    rw [hr] at hok ⊢
    cases op <;> simp only [R.bad] at hok ⊢ <;> try exact hok.elim
    · obtain ⟨r, h1, h2, h3, h4, h5, h6, h7, h8⟩ := eqR_sound (P := P) (w := w) hx hy hok
      refine ⟨.bool r, ?_, by rw [h1]; simp [Rep], h2⟩
      rw [Sem.run_bind, h4]
      have : binOp .eql t xv yv = (do pure (.bool (← Op.equal t xv yv))) := by
        cases xv <;> first | rfl | exact absurd rfl (h5 _ _) | exact absurd rfl (h6 _) | exact absurd rfl (h7 _ _) | exact absurd rfl (h8 _ _ _)
      simp [this, h3]
    · have hok' : (eqR P t (isConstOp xo || isConstOp yo) x y H).ok := by
        unfold notR at hok; split at hok
        · exact hok
        · exact hok.elim
      obtain ⟨r, h1, h2, h3, h4, h5, h6, h7, h8⟩ := eqR_sound (P := P) (w := w) hx hy hok'
      refine ⟨.bool (!r), ?_, by simp [notR, h1, Rep], by simp [notR, h1, h2]⟩
      rw [Sem.run_bind, h4]
      have : binOp .neq t xv yv = (do pure (.bool (!(← Op.equal t xv yv)))) := by
        cases xv <;> first | rfl | exact absurd rfl (h5 _ _) | exact absurd rfl (h6 _) | exact absurd rfl (h7 _ _) | exact absurd rfl (h8 _ _ _)
      simp [this, h3]
  cases x
  case int k a =>
    cases y
    case int k' b =>
      by_cases e1 : op = .shl
      · subst e1
        simp only [binR] at hok ⊢
        simp only [Rep] at hx hy ⊢
        subst hx hy
        exact ⟨_, by simp [eqGuard, binOp, Op.shift, show ¬ b < 0 by omega], rfl, trivial⟩
      · by_cases e2 : op = .shr
        · subst e2
          simp only [binR] at hok ⊢
          simp only [Rep] at hx hy ⊢
          subst hx hy
          exact ⟨_, by simp [eqGuard, binOp, Op.shift, show ¬ b < 0 by omega], rfl, trivial⟩
        · exact hint k k' a b rfl rfl e1 e2
    all_goals (cases op <;> simp [binR, eqR, R.bad, notR] at hok)
  case str a =>
    cases y
    case str b => exact hstr a b rfl rfl
    all_goals (cases op <;> simp [binR, eqR, R.bad, notR] at hok)
  all_goals exact heq (by simp) (by simp)

theorem un_sound {op : UnOp} {x : V} {xv : Value} (hx : Rep γ F x xv) (hok : (unR op x H).ok) :
    ∃ u, (Op.unary op xv).run P w = .ok u w ∧ Rep γ F (unR op x H).v u ∧ (unR op x H).H = H := by
  cases op <;> cases x <;> simp only [unR, R.bad, Rep] at hok hx ⊢ <;>
    first
      | exact hok.elim
      | (subst hx
         refine ⟨_, ?_, rfl, trivial⟩
         first
           | (simp [Op.unary]; done)
           | (simp [Op.unary, Op.intArith]; done)
           | (simp [Op.unary, Op.intBits, bitsOf]; done))

theorem pick_sound {c a b : V} {cv av bv : Value} (hc : Rep γ F c cv) (ha : Rep γ F a av) (hb : Rep γ F b bv) (hok : (pickR c a b H).ok) :
    ∃ u, (do pure (.value (if ← asBool cv then av else bv)) : Sem Next).run P w = .ok (.value u) w ∧ Rep γ F (pickR c a b H).v u ∧ (pickR c a b H).H = H := by
  cases c <;> simp only [pickR, R.bad, Rep] at hok hc ⊢
  case bool t =>
    subst hc
    cases t
    · exact ⟨bv, by simp [asBool], by simpa using hb, trivial⟩
    · exact ⟨av, by simp [asBool], by simpa using ha, trivial⟩

theorem extract_sound {t : V} {tv : Value} {i : Nat} (ht : Rep γ F t tv) (hok : (extractR t i H).ok) :
    ∃ u, (Instr.extract tv i).run P w = .ok u w ∧ Rep γ F (extractR t i H).v u ∧ (extractR t i H).H = H := by
  cases t <;> simp only [extractR, R.bad, Rep] at hok ht ⊢
  case tup vs =>
    obtain ⟨us, rfl, h⟩ := ht
    cases hv : vs[i]? with
    | none => rw [hv] at hok; exact hok.elim
    | some v =>
      obtain ⟨u, h1, h2⟩ := RepL.get i h hv
      have h1' : us[i]? = some u := by simpa using h1
      exact ⟨u, by simp [Instr.extract, h1'], h2, rfl⟩

theorem min_sound {mx : Bool} {x y : V} {xv yv : Value} {ats : Array TypeId} {ty : TypeId} (hx : Rep γ F x xv) (hy : Rep γ F y yv) (hok : (minR mx x y H).ok) :
    ∃ u, ((if mx then Builtin.max_ ats ty #[xv, yv] else Builtin.min_ ats ty #[xv, yv])).run P w = .ok u w ∧ Rep γ F (minR mx x y H).v u ∧ (minR mx x y H).H = H := by
  cases x <;> cases y <;> simp only [minR, R.bad, Rep] at hok hx hy ⊢
  case int.int k a k' b =>
    subst hx hy
    cases mx
    · exact ⟨_, by simp [Builtin.min_, Builtin.min2], rfl, trivial⟩
    · exact ⟨_, by simp [Builtin.max_, Builtin.max2], rfl, trivial⟩

/-- The length of a slice is known. -/
theorem len_sound (h : Rel γ F w H) {t ty : TypeId} {x : V} {xv : Value} (hx : Rep γ F x xv) (hok : (lenR (lenKind (P.underlying t)) x H).ok) :
    ∃ u, (Builtin.len_ #[t] ty #[xv]).run P w = .ok u w ∧ Rep γ F (lenR (lenKind (P.underlying t)) x H).v u ∧ (lenR (lenKind (P.underlying t)) x H).H = H := by
  have hk0 : lenKind (P.underlying t) = 0 → P.underlying t = some .string := by
    cases hu : P.underlying t with
    | none => simp [lenKind]
    | some d => cases d <;> simp [lenKind]
  have hk1 : lenKind (P.underlying t) = 1 → ∃ e, P.underlying t = some (.slice e) := by
    cases hu : P.underlying t with
    | none => simp [lenKind]
    | some d => cases d <;> simp [lenKind]
  have hk2 : lenKind (P.underlying t) = 2 → ∃ a b, P.underlying t = some (.map a b) := by
    cases hu : P.underlying t with
    | none => simp [lenKind]
    | some d => cases d <;> simp [lenKind]
  cases x <;> simp only [lenR, R.bad, Rep] at hok hx ⊢
  case str l =>
    subst hx
    refine ⟨.int .i64 l.length, ?_, rfl, trivial⟩
    have e : (⟨l.toArray⟩ : ByteArray).size = l.length := by show l.toArray.size = l.length; simp
    simp [Builtin.len_, run_underlying (hk0 hok), goInt, e]
  case nilsl =>
    obtain ⟨a, rfl⟩ := hx
    obtain ⟨e, hu⟩ := hk1 hok
    exact ⟨_, by simp [Builtin.len_, run_underlying hu, goInt], rfl, trivial⟩
  case zsl =>
    obtain ⟨a, rfl⟩ : ∃ a, _ = Value.slice a 0 0 := ⟨none, hx⟩
    obtain ⟨e, hu⟩ := hk1 hok
    exact ⟨_, by simp [Builtin.len_, run_underlying hu, goInt], rfl, trivial⟩
  case sl k xs =>
    obtain ⟨a, cap, rfl, _⟩ := hx
    obtain ⟨e, hu⟩ := hk1 hok
    exact ⟨_, by simp [Builtin.len_, run_underlying hu, goInt], rfl, trivial⟩
  case arr r L off n =>
    obtain ⟨a, c, rfl, _⟩ := hx
    obtain ⟨e, hu⟩ := hk1 hok
    exact ⟨.int .i64 n, by simp [Builtin.len_, run_underlying hu, goInt], rfl, trivial⟩
  case nilmap =>
    subst hx
    obtain ⟨a, b, hu⟩ := hk2 hok
    exact ⟨_, by simp [Builtin.len_, run_underlying hu, goInt], rfl, trivial⟩
  case mp r =>
    cases ho : H[r]? with
    | none => rw [ho] at hok; exact hok.elim
    | some o =>
      rw [ho] at hok
      cases o <;> simp only [R.bad] at hok ⊢
      case mp es =>
        obtain ⟨b, h1, rfl⟩ := hx
        obtain ⟨q, q', hu⟩ := hk2 hok
        have := h.obj r _ _ h1 ho
        simp only [RelO] at this
        obtain ⟨ms, clock, h2, h3, h4⟩ := this
        have hl : ∀ (l : List (V × V)) (es : List MapEntry), RepM γ F l es → es.length = l.length := by
          intro l
          induction l with
          | nil => intro es h; simp only [RepM] at h; simp [h]
          | cons a l ih =>
            intro es h
            obtain ⟨k, v⟩ := a
            obtain ⟨e, rest, rfl, _, _, h'⟩ := h
            simp [ih rest h']
        have hlen := hl _ _ h3
        refine ⟨.int .i64 es.length, ?_, by simp [Rep], trivial⟩
        have hg : (getObj b).run P w = .ok (.map ms clock) w := by simp [getObj, Sem.run, h2]
        have : ms.size = es.length := by simpa using hlen
        simp [Builtin.len_, run_underlying hu, hg, goInt, this]
end
end Go.Ab
namespace Go.Ab
variable [Env]
section
variable {P : Program} {γ : List Loc} {F : Frz} {w : World} {H : Heap}

theorem ofCell_rep (v : Value) : Rep γ F (ofCell v) v := by
  unfold ofCell
  split <;> simp only [Rep]
  · exact ⟨_, rfl⟩
  · exact ⟨_, _, rfl, by simp [RepL], by simp [RepL]⟩

theorem ofConst_rep (v : Value) : Rep γ F (ofConst v) v := by
  unfold ofConst
  split
  · rename_i cs
    split
    · rename_i hall
      simp only [Rep]
      refine ⟨cs, rfl, ?_⟩
      have : ∀ l : List Value, l.all (·.oneCell') = true → RepC γ F (l.map ofCell) l := by
        intro l
        induction l with
        | nil => intro _; simp [RepC]
        | cons v l ih =>
          intro hl
          simp only [List.all_cons, Bool.and_eq_true] at hl
          simp only [List.map_cons, RepC]
          exact ⟨v, l, rfl, hl.1, ofCell_rep v, ih hl.2⟩
      exact this _ hall
    · simp only [Rep]
  · simp only [Rep]; exact ⟨_, rfl, rfl⟩
  · exact ofCell_rep v

theorem zeroOf_spec {t : TypeId} {z : V} (h : zeroOf P t = some z) : ∃ zv, (∀ w, (zeroValue t).run P w = .ok zv w) ∧ ∀ γ F, Rep γ F z zv := by
  unfold zeroOf at h
  cases hi : P.info? t with
  | none => rw [hi] at h; simp at h
  | some i =>
    rw [hi] at h
    simp only [Option.bind_some, Option.map_eq_some_iff] at h
    obtain ⟨zv, hz, rfl⟩ := h
    exact ⟨zv, fun w => by simp [zeroValue, typeInfo, hi, hz], fun γ F => ofConst_rep zv⟩

/-- A block more. -/
theorem push_size (w : World) (o : Obj) : w.heap.size ≤ (w.alloc o).heap.size := by simp
theorem push_same (w : World) (o : Obj) : ∀ b, b < w.heap.size → (w.alloc o).heap[b]? = w.heap[b]? := fun b hb => by
  show (w.heap.push o)[b]? = _
  rw [Array.getElem?_push, if_neg (by omega)]
theorem push_new (w : World) (o : Obj) : (w.alloc o).heap[w.heap.size]? = some o := by
  show (w.heap.push o)[w.heap.size]? = _
  simp

theorem new_cells (h : Rel γ F w H) {cs : List V} {vs : Array Value} {t : TypeId} (hc : RepC γ F cs vs.toList) :
    Rel (γ ++ [.cells w.heap.size]) F (w.alloc (.cells vs t)) (H ++ [.cells t cs]) ∧ Nx γ F w (γ ++ [.cells w.heap.size]) F (w.alloc (.cells vs t)) ∧
      Rep (γ ++ [.cells w.heap.size]) F (.ptr H.length 0) (.pointer (some ⟨w.heap.size, 0, none⟩)) := by
  have hb : ∀ b, (Loc.cells w.heap.size).block = some b → w.heap.size ≤ b ∧ b < (w.alloc (.cells vs t)).heap.size := fun b e => by cases e; simp
  refine ⟨Rel.push h (push_size _ _) (push_same _ _) hb ?_, Nx.push h (push_size _ _) (push_same _ _) hb rfl rfl rfl, ?_⟩
  · exact ⟨vs, (0, 0), push_new _ _, RepC.mono (Ext.append γ _) (FLe.refl F) _ _ hc, rfl⟩
  · simp only [Rep]; exact ⟨_, by rw [← h.len]; simp, rfl⟩

theorem alloc_sound (h : Rel γ F w H) {t : TypeId} {z : V} {g : Bool} {k : Nat} (hz : zeroOf P t = some z) (ht : lay P t = some (g, k)) (hok : okVal g k z) :
    Out P γ F w (do pure (.value (← Instr.alloc t true (.tuple #[])))) (.ptr H.length 0) (H ++ [.cells t (valCells g z)]) := by
  obtain ⟨zv, h1, h2⟩ := zeroOf_spec hz
  obtain ⟨g1, g2, g3, g4⟩ := Rep.valCells (h2 γ F) hok
  obtain ⟨r1, r2, r3⟩ := new_cells h (t := t) (vs := zv.cells) g1
  exact ⟨_, _, _, _, .inl (by simp [Instr.alloc, h1, newVar, newRow]), r2, r1, r3⟩

theorem box_sound (h : Rel γ F w H) {t : TypeId} {x : V} {xv : Value} {g : Bool} {k : Nat} (hx : Rep γ F x xv) (ht : lay P t = some (g, k)) (hok : okVal g k x) :
    Out P γ F w (do pure (.value (← Instr.box t xv))) (.ptr H.length 0) (H ++ [.cells t (valCells g x)]) := by
  obtain ⟨g1, g2, g3, g4⟩ := Rep.valCells hx hok
  obtain ⟨r1, r2, r3⟩ := new_cells h (t := t) (vs := xv.cells) g1
  exact ⟨_, _, _, _, .inl (by simp [Instr.box, newVar, newRow]), r2, r1, r3⟩

theorem makeMap_sound (h : Rel γ F w H) {t : TypeId} :
    Out P γ F w (do pure (.value (← Instr.makeMap t none))) (.mp H.length) (H ++ [.mp []]) := by
  have hb : ∀ b, (Loc.mp w.heap.size).block = some b → w.heap.size ≤ b ∧ b < (w.alloc (.map #[] 0)).heap.size := fun b e => by cases e; simp
  refine ⟨.map (some w.heap.size), w.alloc (.map #[] 0), γ ++ [.mp w.heap.size], F, .inl (by simp [Instr.makeMap]), Nx.push h (push_size _ _) (push_same _ _) hb rfl rfl rfl, Rel.push h (push_size _ _) (push_same _ _) hb ?_, ?_⟩
  · exact ⟨#[], 0, push_new _ _, rfl, by simp [Borns]⟩
  · simp only [Rep]; exact ⟨_, by rw [← h.len]; simp, rfl⟩

/-- An array more, that is owned. -/
theorem new_arr (h : Rel γ F w H) {e : TypeId} {k : Nat} {xs : List V} {vs : Array Value} {cap : Nat} {fz : Nat × Nat} (hx : RepEs γ F k xs vs.toList) (hs : vs.size = cap * k) (hL : xs.length ≤ cap) (hf : Clear fz vs.size) {w' : World}
    (hw : w'.heap = w.heap.push (.cells vs e fz)) (h1 : w'.os = w.os) (h2 : w'.tape = w.tape) (h3 : w'.output = w.output) :
    Rel (γ ++ [.arr w.heap.size cap xs.length k]) F w' (H ++ [.arr e k xs]) ∧ Nx γ F w (γ ++ [.arr w.heap.size cap xs.length k]) F w' ∧
      Rep (γ ++ [.arr w.heap.size cap xs.length k]) F (.arr H.length xs.length 0 xs.length) (.slice (some ⟨w.heap.size, 0, none⟩) xs.length cap) := by
  have hsz : w'.heap.size = w.heap.size + 1 := by rw [hw]; simp
  have hsame : ∀ b, b < w.heap.size → w'.heap[b]? = w.heap[b]? := fun b hb => by rw [hw, Array.getElem?_push, if_neg (by omega)]
  have hnew : w'.heap[w.heap.size]? = some (.cells vs e fz) := by rw [hw]; simp
  have hb : ∀ b, (Loc.arr w.heap.size cap xs.length k).block = some b → w.heap.size ≤ b ∧ b < w'.heap.size := fun b e => by cases e; omega
  refine ⟨Rel.push h (by omega) hsame hb ?_, Nx.push h (by omega) hsame hb h1 h2 h3, ?_⟩
  · exact ⟨rfl, rfl, hL, vs, fz, hnew, hs, RepEs.mono (Ext.append γ _) (FLe.refl F) _ _ _ hx, hf⟩
  · simp only [Rep]
    refine ⟨_, _, rfl, Loc.arr w.heap.size cap xs.length k, by rw [← h.len]; simp, by simp [Loc.len], fun b c q e => ?_, by simp⟩
    cases e
    exact ⟨by omega, by omega, .inr (by simp)⟩

/-- A frozen block more. -/
theorem new_frozen (h : Rel γ F w H) (o : Obj) :
    ∃ F', FLe F F' ∧ F' w.heap.size = some o ∧ Rel γ F' (w.alloc o) H ∧ Nx γ F w γ F' (w.alloc o) := by
  have hF : FLe F (fun c => if c = w.heap.size then some o else F c) := fun c x hx => by
    by_cases e : c = w.heap.size
    · subst e; have := h.lt_size hx; omega
    · simp [e, hx]
  refine ⟨_, hF, by simp, Rel.grow h hF (push_size _ _) (push_same _ _) ?_, Nx.grow h hF (push_size _ _) (push_same _ _) (fun b hb => by simp [Nat.ne_of_lt hb]) rfl rfl rfl⟩
  intro b x hx
  by_cases e : b = w.heap.size
  · subst e; simp at hx; subst hx; exact .inr ⟨Nat.le_refl _, push_new _ _⟩
  · simp [e] at hx; exact .inl hx

end
end Go.Ab
namespace Go.Ab
variable [Env]
section
variable {P : Program} {γ : List Loc} {F : Frz} {w : World} {H : Heap}

theorem growBy_le (m : Nat) : ∀ (r c : Nat), c ≤ m + (m + 768) / 4 → Builtin.growBy m r c ≤ m + (m + 768) / 4
  | 0, c, h => by simpa [Builtin.growBy] using h
  | r + 1, c, h => by
    rw [Builtin.growBy]
    split
    · exact h
    · exact growBy_le m r _ (by omega)

theorem nextslicecap_le {need cap : Nat} (h : cap < need) : Builtin.nextslicecap need cap ≤ 2 * need + 1000 := by
  unfold Builtin.nextslicecap
  split
  · omega
  · split
    · omega
    · have := growBy_le need 4 cap (by omega)
      omega

theorem lay_info {t : TypeId} {g : Bool} {k : Nat} (h : lay P t = some (g, k)) {i : TypeInfo} (hi : P.info? t = some i) : i.size = k := by
  unfold lay at h
  rw [hi] at h
  split at h <;> simp_all <;> omega

theorem zeroOf_info {t : TypeId} {z : V} (h : zeroOf P t = some z) {i : TypeInfo} (hi : P.info? t = some i) : ∃ zv, i.zero = some zv ∧ z = ofConst zv := by
  unfold zeroOf at h
  rw [hi] at h
  simp only [Option.bind_some, Option.map_eq_some_iff] at h
  obtain ⟨zv, hz, rfl⟩ := h
  exact ⟨zv, hz, rfl⟩

/-- Append, in its parts. -/
theorem run_append' {t u e : TypeId} {i : TypeInfo} {zv : Value} (ht : P.underlying t = some (.slice e)) (hu : (∃ q, P.underlying u = some (.slice q)) ∨ P.underlying u = some .string) (hi : P.info? e = some i) (hz : i.zero = some zv)
    {base : Option Addr} {sLen sCap n : Nat} {x : Value} {ty : TypeId} (hn : Builtin.lenOf x = pure n) {olds news : Array Value}
    (hnews : ∀ w' : World, w'.heap = w.heap → (Builtin.firstCells i.size n x).run P w' = .ok news w')
    (holds : sCap < sLen + n → ∀ w' : World, w'.heap = w.heap → (Builtin.firstCells i.size sLen (.slice base sLen sCap)).run P w' = .ok olds w') (hf : fits (sLen + n) i.bytes) :
    (Builtin.append_ #[t, u] ty #[.slice base sLen sCap, x]).run P w =
      if sLen + n ≤ sCap then ((match base with | some a => storeCells (a.add (sLen * i.size)) news.toList | none => pure ()).run P w).andThen fun _ w' => .ok (.slice base (sLen + n) sCap) w'
      else .ok (.slice (some ⟨w.heap.size, 0, none⟩) (sLen + n) (grownCap w (sLen + n) sCap e)) (w.drew.alloc (.cells (olds ++ news ++ Builtin.zeroCells zv.cells (grownCap w (sLen + n) sCap e - (sLen + n))) e)) := by
  have hzeros : (do pure ((← underlying u) matches .int _) : Sem Bool).run P w = .ok false w := by
    rcases hu with ⟨q, hu⟩ | hu <;> simp [run_underlying hu]
  have hund : ∃ d, P.underlying u = some d ∧ (∀ k, d ≠ .int k) := by
    rcases hu with ⟨q, hu⟩ | hu
    · exact ⟨_, hu, by simp⟩
    · exact ⟨_, hu, by simp⟩
  obtain ⟨d, hd, hdi⟩ := hund
  have hm : (match d with | .int _ => true | _ => false) = false := by cases d <;> first | rfl | exact absurd rfl (hdi _)
  by_cases hle : sLen + n ≤ sCap
  · rw [if_pos hle]
    have h1 := hnews w rfl
    cases base with
    | none => simp [Builtin.append_, run_underlying ht, run_underlying hd, sizeOf, typeInfo, hi, hn, hle, h1, hm]
    | some a =>
      simp [Builtin.append_, run_underlying ht, run_underlying hd, sizeOf, typeInfo, hi, hn, hle, h1, hm]
  · rw [if_neg hle]
    have h63 : ¬ (9223372036854775807 < ((sLen : Int) + (n : Int))) := by have := hf.2; omega
    have h48 : ¬ (281474976710656 < Builtin.nextslicecap (sLen + n) sCap * i.bytes) := by
      have h1 := nextslicecap_le (need := sLen + n) (cap := sCap) (by omega)
      have h2 := Nat.mul_le_mul_right i.bytes h1
      have h3 := hf.1
      omega
    have h1 := hnews w.drew rfl
    have h2 := holds (by omega) w.drew rfl
    simp [Builtin.append_, run_underlying ht, run_underlying hd, sizeOf, typeInfo, zeroValue, hi, hz, hn, hle, h63, h48, Question.forced, h1, h2, newRow, grownCap, hm]

theorem heap_cells_of {w w' : World} (h : w'.heap = w.heap) {b : Nat} {o : Option Obj} (hb : w.heap[b]? = o) : w'.heap[b]? = o := by rw [h]; exact hb

theorem RepEs.one {k : Nat} : ∀ {xs : List V} {vs : List Value}, RepEs γ F k xs vs → ∀ i, i < xs.length * k → ∀ v, vs[i]? = some v → v.oneCell' = true
  | [], vs, h, i, hi, v, hv => by simp at hi
  | x :: xs, vs, h, i, hi, v, hv => by
    obtain ⟨c, rest, rfl, h2, h3, h4, h5⟩ := RepEs_cons.1 h
    by_cases hc : i < k
    · rw [List.getElem?_append_left (by omega)] at hv
      exact RepC.one h3 v (List.mem_of_getElem? hv)
    · rw [List.getElem?_append_right (by omega)] at hv
      exact RepEs.one h4 _ (by simp only [List.length_cons, Nat.add_mul] at hi; omega) v hv

/-- The elements that are appended. -/
theorem elems_sound (h : Rel γ F w H) {x : V} {xv : Value} (hx : Rep γ F x xv) {c : Prop} {k' k : Nat} {ys : List V} (he : elemsR x H = some (c, k', ys)) (hc : c) (hk : k' = k ∨ ys = []) (hk0 : 0 < k) :
    Builtin.lenOf xv = pure ys.length ∧ ∃ news : Array Value, (∀ w' : World, w'.heap = w.heap → (Builtin.firstCells k ys.length xv).run P w' = .ok news w') ∧ RepEs γ F k ys news.toList ∧ news.size = ys.length * k ∧ (∀ v ∈ news.toList, v.oneCell' = true) := by
  have empty : ys = [] → ∀ (a : Option Addr) (n c : Nat), ∃ news : Array Value, (∀ w' : World, w'.heap = w.heap → (Builtin.firstCells k ys.length (.slice a n c)).run P w' = .ok news w') ∧ RepEs γ F k ys news.toList ∧ news.size = ys.length * k ∧ (∀ v ∈ news.toList, v.oneCell' = true) := by
    rintro rfl a n c
    refine ⟨#[], fun w' _ => ?_, by simp [RepEs], by simp, by simp⟩
    cases a <;> simp [Builtin.firstCells, loadCells, loadCellsFrom]
  have block : ∀ (b off n c : Nat) (vs : Array Value) (t : TypeId) (fz : Nat × Nat), w.heap[b]? = some (.cells vs t fz) → RepEs γ F k ys (vs.toList.drop off) →
      ∃ news : Array Value, (∀ w' : World, w'.heap = w.heap → (Builtin.firstCells k ys.length (.slice (some ⟨b, off, none⟩) n c)).run P w' = .ok news w') ∧ RepEs γ F k ys news.toList ∧ news.size = ys.length * k ∧ (∀ v ∈ news.toList, v.oneCell' = true) := by
    intro b off n c vs t fz hb hes
    by_cases hy : ys = []
    · exact empty hy _ _ _
    have hl := hes.length
    have hpos : 0 < ys.length * k := Nat.mul_pos (by cases ys <;> simp at hy ⊢) hk0
    simp at hl
    refine ⟨vs.extract off (off + ys.length * k), fun w' hw => ?_, ?_, by simp; omega, ?_⟩
    · have := run_loadCells (P := P) (heap_cells_of hw hb) (o := off) (n := ys.length * k) (by omega)
      simpa [Builtin.firstCells] using this
    · refine RepEs.more hes fun i hi => ?_
      rw [Array.toList_extract, List.extract_eq_take_drop, List.getElem?_take_of_lt (by omega)]
    · intro v hv
      rw [Array.toList_extract, List.extract_eq_take_drop] at hv
      obtain ⟨i, hi⟩ := List.getElem?_of_mem hv
      have hi2 := getElem?_lt hi
      simp at hi2
      rw [List.getElem?_take_of_lt (by omega)] at hi
      exact RepEs.one hes i (by omega) v hi
  cases x <;> simp only [elemsR] at he <;> try cases he
  case nilsl =>
    simp only [Rep] at hx
    obtain ⟨a, rfl⟩ := hx
    exact ⟨rfl, empty rfl _ _ _⟩
  case zsl =>
    simp only [Rep] at hx
    obtain ⟨a, rfl⟩ : ∃ a, _ = Value.slice a 0 0 := ⟨none, hx⟩
    exact ⟨rfl, empty rfl _ _ _⟩
  case sl =>
    simp only [Rep] at hx
    obtain ⟨a, cap, rfl, h1, h2⟩ := hx
    refine ⟨rfl, ?_⟩
    rcases h2 with rfl | ⟨b, off, vs, t, fz, rfl, h3, h4⟩
    · exact empty rfl _ _ _
    · rcases hk with rfl | hk
      · exact block b off _ _ vs t fz (h.frz _ _ h3) h4
      · exact empty hk _ _ _
  case str l =>
    simp only [Rep] at hx
    subst hx
    have e : (⟨l.toArray⟩ : ByteArray).size = l.length := by show l.toArray.size = l.length; simp
    refine ⟨by simp [Builtin.lenOf, e], (l.map fun b => Value.int .u8 b.toNat).toArray, fun w' hw => ?_, ?_, by rcases hk with rfl | hk <;> simp_all, by simp [Value.oneCell']⟩
    · have : (⟨l.toArray⟩ : ByteArray).extract 0 l.length = ⟨l.toArray⟩ := by rw [bytes_extract]; simp
      simp [Builtin.firstCells, this]
    · rcases hk with rfl | hk
      · simpa using RepEs.bytes (γ := γ) (F := F) l
      · rw [hk]; simp [RepEs]
  case arr r L off n =>
    cases ho : H[r]? with
    | none => rw [ho] at he; cases he
    | some o =>
      rw [ho] at he
      cases o <;> simp at he
      case arr t kk xs =>
        obtain ⟨hcc, rfl, rfl⟩ := he
        obtain ⟨hL, hn⟩ := hcc.2 hc
        subst hL
        simp only [Rep] at hx
        obtain ⟨a, c, rfl, l, h1, h2, h3, h4⟩ := hx
        have hlen : ((xs.drop off).take n).length = n := by simp; omega
        refine ⟨by rw [hlen]; rfl, ?_⟩
        have hr := h.obj r _ _ h1 ho
        cases l <;> simp only [RelO] at hr
        case nilarr =>
          subst hr
          exact empty (by simp) _ _ _
        case arr b cap L' k2 =>
          obtain ⟨rfl, rfl, hcap, vs, fz, g4, g5, g6, g7⟩ := hr
          obtain ⟨q1, q2, q3⟩ := h3 b cap kk rfl
          rcases hk with rfl | hk
          · rcases q3 with q3 | rfl
            · exact empty (by rw [List.take_eq_nil_iff]; right; rw [List.drop_eq_nil_iff]; omega) _ _ _
            · exact block b (off * kk) _ _ vs t fz g4 (RepEs.take _ (RepEs.drop _ g6))
          · exact empty hk _ _ _

theorem grownCap_ge (w : World) (need old : Nat) (e : TypeId) : need ≤ grownCap w need old e := by
  show need ≤ need + _
  omega

theorem size_zero {z : V} {zv : Value} {g : Bool} {k : Nat} (hz : Rep γ F z zv) (hok : okVal g k z) (hk : g = false → k = 1) : zv.cells.size = k := by
  obtain ⟨g1, g2, g3, g4⟩ := Rep.valCells hz hok
  cases hg : g with
  | false => rw [g3 hg, hk hg]
  | true => exact g2 hg

/-- The cells of an array that grew. -/
theorem grown_cells {k : Nat} {xs ys : List V} {olds news : Array Value} (hx : RepEs γ F k xs olds.toList) (hxs : olds.size = xs.length * k) (hy : RepEs γ F k ys news.toList) (hys : news.size = ys.length * k)
    {z : Array Value} (hz : z.size = k) {cap : Nat} (hcap : xs.length + ys.length ≤ cap) :
    RepEs γ F k (xs ++ ys) (olds ++ news ++ Builtin.zeroCells z (cap - (xs.length + ys.length))).toList ∧ (olds ++ news ++ Builtin.zeroCells z (cap - (xs.length + ys.length))).size = cap * k := by
  refine ⟨?_, ?_⟩
  · have h1 := RepEs.append hx (by simpa using hxs) hy
    refine RepEs.more h1 fun i hi => ?_
    have hlen : i < (olds.toList ++ news.toList).length := by
      simp only [List.length_append, Nat.add_mul] at hi
      simp only [List.length_append, Array.length_toList, hxs, hys]; exact hi
    simp only [Array.toList_append]
    rw [List.getElem?_append_left (l₁ := olds.toList ++ news.toList) hlen]
  · simp only [Array.size_append, size_zeroCells, hz, hxs, hys, Nat.sub_mul, Nat.add_mul]
    have := Nat.mul_le_mul_right k hcap
    rw [Nat.add_mul] at this
    omega

theorem grow_upd (h : Rel γ F w H) {r : Nat} {l : Loc} (hr : γ[r]? = some l) {e : TypeId} {k : Nat} {xs : List V} {vs : Array Value} {cap : Nat} (hle : LocLe l (.arr w.heap.size cap xs.length k))
    (hx : RepEs γ F k xs vs.toList) (hs : vs.size = cap * k) (hL : xs.length ≤ cap) {w' : World} (hw : w'.heap = w.heap.push (.cells vs e (0, 0))) (h1 : w'.os = w.os) (h2 : w'.tape = w.tape) (h3 : w'.output = w.output) :
    Rel (γ.set r (.arr w.heap.size cap xs.length k)) F w' (H.set r (.arr e k xs)) ∧ Nx γ F w (γ.set r (.arr w.heap.size cap xs.length k)) F w' ∧
      Rep (γ.set r (.arr w.heap.size cap xs.length k)) F (.arr r xs.length 0 xs.length) (.slice (some ⟨w.heap.size, 0, none⟩) xs.length cap) := by
  have hsz : w'.heap.size = w.heap.size + 1 := by rw [hw]; simp
  have hsame : ∀ b, b < w.heap.size → l.block ≠ some b → w'.heap[b]? = w.heap[b]? := fun b hb _ => by rw [hw, Array.getElem?_push, if_neg (by omega)]
  have hnew : w'.heap[w.heap.size]? = some (.cells vs e (0, 0)) := by rw [hw]; simp
  have hb : ∀ b, (Loc.arr w.heap.size cap xs.length k).block = some b → (l.block = some b ∨ w.heap.size ≤ b) ∧ b < w'.heap.size := fun b e => by cases e; exact ⟨.inr (Nat.le_refl _), by omega⟩
  refine ⟨Rel.upd h hr hle (by omega) hsame hb ?_, Nx.upd h hr hle (by omega) hsame hb h1 h2 h3, ?_⟩
  · exact ⟨rfl, rfl, hL, vs, (0, 0), hnew, hs, RepEs.mono (Ext.set hr hle) (FLe.refl F) _ _ _ hx, fun i _ => by simp⟩
  · simp only [Rep]
    refine ⟨_, _, rfl, Loc.arr w.heap.size cap xs.length k, by simp [getElem?_lt hr], by simp [Loc.len], fun b c q e => ?_, by simp⟩
    cases e
    exact ⟨by omega, by omega, .inr (by simp)⟩

theorem append_sound (h : Rel γ F w H) {t u e : TypeId} {ty : TypeId} (ht : P.underlying t = some (.slice e)) (hu : (∃ q, P.underlying u = some (.slice q)) ∨ P.underlying u = some .string)
    {g : Bool} {k : Nat} (hl : lay P e = some (g, k)) {i : TypeInfo} (hi : P.info? e = some i) {z : V} (hz : zeroOf P e = some z) {s x : V} {sv xv : Value} (hs : Rep γ F s sv) (hx : Rep γ F x xv)
    (hok : (appendR e g k i.bytes z s x H).ok) : Out P γ F w (do pure (.value (← Builtin.append_ #[t, u] ty #[sv, xv]))) (appendR e g k i.bytes z s x H).v (appendR e g k i.bytes z s x H).H := by
  obtain ⟨zv, hz1, hz2⟩ := zeroOf_info hz hi
  have hik := lay_info hl hi
  have hzr : Rep γ F z zv := by rw [hz2]; exact ofConst_rep zv
  unfold appendR at hok ⊢
  cases he : elemsR x H with
  | none => rw [he] at hok; exact hok.elim
  | some q =>
    obtain ⟨c, k', ys⟩ := q
    rw [he] at hok
    simp only at hok ⊢
    -- a slice without an array
    have hnil : ∀ (a : Option Addr), sv = .slice a 0 0 → okVal g k z → 0 < k → c → (k' = k ∨ ys = []) → fits ys.length i.bytes →
        (ys = [] ∧ (Builtin.append_ #[t, u] ty #[sv, xv]).run P w = .ok (.slice a 0 0) w) ∨
        (ys ≠ [] ∧ ∃ vs : Array Value, ∃ cap, RepEs γ F k ys vs.toList ∧ vs.size = cap * k ∧ ys.length ≤ cap ∧ (Builtin.append_ #[t, u] ty #[sv, xv]).run P w = .ok (.slice (some ⟨w.heap.size, 0, none⟩) ys.length cap) (w.drew.alloc (.cells vs e))) := by
      rintro a rfl hov hk0 hc hk hf
      obtain ⟨e1, news, e2, e3, e4, e5⟩ := elems_sound (P := P) h hx he hc hk hk0
      have hsize := size_zero hzr hov (fun hg => by subst hg; exact lay_one hl)
      have hrun := run_append' (P := P) (w := w) (base := a) (sLen := 0) (sCap := 0) (olds := #[]) (ty := ty) ht hu hi hz1 e1 (news := news) (by rw [hik]; exact e2) (fun _ w' _ => by cases a <;> simp [Builtin.firstCells, loadCells, loadCellsFrom]) (by simpa using hf)
      by_cases hy : ys = []
      · refine .inl ⟨hy, ?_⟩
        subst hy
        have : news = #[] := by simpa using e4
        subst this
        rw [hrun]
        cases a <;> simp [storeCells]
      · have hg := grown_cells (γ := γ) (F := F) (k := k) (xs := []) (olds := #[]) (by simp [RepEs]) (by simp) e3 e4 hsize (cap := grownCap w ys.length 0 e) (by simpa using grownCap_ge w ys.length 0 e)
        simp only [List.nil_append, List.length_nil, Nat.zero_add] at hg
        have hne : ¬ (0 + ys.length ≤ 0) := by cases ys <;> simp at hy ⊢
        rw [if_neg hne] at hrun
        simp only [Nat.zero_add] at hrun
        exact .inr ⟨hy, _, _, hg.1, hg.2, grownCap_ge w ys.length 0 e, hrun⟩
    cases s <;> simp only [R.bad] at hok ⊢ <;> try exact hok.elim
    case nilsl =>
      simp only [Rep] at hs
      obtain ⟨a, rfl⟩ := hs
      obtain ⟨hc, hk, hov, hk0, hf⟩ := hok
      rcases hnil a rfl hov hk0 hc hk hf with ⟨rfl, hrun⟩ | ⟨hy, vs, cap, g1, g2, g3, hrun⟩
      · refine ⟨.slice a 0 0, w, γ ++ [.nilarr], F, .inl (run_val hrun), Nx.push h (Nat.le_refl _) (fun _ _ => rfl) (fun b e => by cases e) rfl rfl rfl, Rel.push h (Nat.le_refl _) (fun _ _ => rfl) (fun b e => by cases e) (by show ([] : List V) = []; rfl), ?_⟩
        simp only [Rep]
        exact ⟨a, 0, rfl, .nilarr, by rw [← h.len]; simp, by simp [Loc.len], by simp, by simp⟩
      · obtain ⟨r1, r2, r3⟩ := new_arr (e := e) h g1 g2 g3 (fz := (0, 0)) (fun i _ => by simp) (w' := w.drew.alloc (.cells vs e)) rfl rfl rfl rfl
        exact ⟨_, _, _, _, .inl (run_val hrun), r2, r1, r3⟩
    case zsl =>
      simp only [Rep] at hs
      obtain ⟨a, rfl⟩ : ∃ a, _ = Value.slice a 0 0 := ⟨none, hs⟩
      obtain ⟨hc, hk, hov, hk0, hf⟩ := hok
      rcases hnil a rfl hov hk0 hc hk hf with ⟨rfl, hrun⟩ | ⟨hy, vs, cap, g1, g2, g3, hrun⟩
      · refine ⟨.slice a 0 0, w, γ ++ [.nilarr], F, .inl (run_val hrun), Nx.push h (Nat.le_refl _) (fun _ _ => rfl) (fun b e => by cases e) rfl rfl rfl, Rel.push h (Nat.le_refl _) (fun _ _ => rfl) (fun b e => by cases e) (by show ([] : List V) = []; rfl), ?_⟩
        simp only [Rep]
        exact ⟨a, 0, rfl, .nilarr, by rw [← h.len]; simp, by simp [Loc.len], by simp, by simp⟩
      · obtain ⟨r1, r2, r3⟩ := new_arr (e := e) h g1 g2 g3 (fz := (0, 0)) (fun i _ => by simp) (w' := w.drew.alloc (.cells vs e)) rfl rfl rfl rfl
        exact ⟨_, _, _, _, .inl (run_val hrun), r2, r1, r3⟩
    case arr r L off n =>
      cases ho : H[r]? with
      | none => rw [ho] at hok; exact hok.elim
      | some ob =>
        rw [ho] at hok
        cases ob <;> simp only [R.bad] at hok ⊢ <;> try exact hok.elim
        case arr t' kk xs =>
          obtain ⟨hc, hk, hov, hk0, rfl, rfl, rfl, hoff, rfl, hf⟩ := hok
          obtain rfl : n = xs.length := by omega
          simp only [Rep] at hs
          obtain ⟨a, cp, rfl, l, g1, g2, g3, g4⟩ := hs
          have hr := h.obj r _ _ g1 ho
          have hsize := size_zero hzr hov (fun hg => by subst hg; exact lay_one hl)
          cases l <;> simp only [RelO] at hr
          case nilarr =>
            subst hr
            obtain ⟨_, _, rfl⟩ := g4 rfl
            simp only [List.length_nil, Nat.zero_add, List.nil_append] at *
            rcases hnil a rfl hov hk0 hc hk hf with ⟨rfl, hrun⟩ | ⟨hy, vs, cap, q1, q2, q3, hrun⟩
            · refine ⟨.slice a 0 0, w, γ, F, .inl (run_val hrun), Nx.refl γ F w, ?_, ?_⟩
              · rw [set_getElem?_of ho]; exact h
              · simp only [Rep]
                exact ⟨a, 0, rfl, .nilarr, g1, by simp [Loc.len], by simp, by simp⟩
            · have hpos : 0 < ys.length := by cases ys <;> simp at hy ⊢
              obtain ⟨r1, r2, r3⟩ := grow_upd (e := t') h g1 (.inr (.inr ⟨_, _, _, _, rfl, hpos⟩)) q1 q2 q3 (w' := w.drew.alloc (.cells vs t')) rfl rfl rfl rfl
              exact ⟨_, _, _, _, .inl (run_val hrun), r2, r1, r3⟩
          case arr b cap L' k2 =>
            obtain ⟨rfl, rfl, hcap, vs, fz, q4, q5, q6, q7⟩ := hr
            obtain ⟨p1, p2, p3⟩ := g3 b cap kk rfl
            simp only [Nat.sub_zero] at p2
            subst p2
            obtain ⟨e1, news, e2, e3, e4, e5⟩ := elems_sound (P := P) h hx he hc hk hk0
            have holds : cp < xs.length + ys.length → ∀ w' : World, w'.heap = w.heap → (Builtin.firstCells i.size xs.length (.slice a xs.length cp)).run P w' = .ok (vs.extract 0 (xs.length * kk)) w' := by
              intro _ w' hw
              have hlx := q6.length
              simp at hlx
              rcases p3 with p3 | rfl
              · have : xs.length = 0 := by omega
                rw [this]
                cases a <;> simp [Builtin.firstCells, loadCells, loadCellsFrom]
              · rw [hik]
                have := run_loadCells (P := P) (heap_cells_of hw q4) (o := 0) (n := xs.length * kk) (by omega)
                simpa [Builtin.firstCells] using this
            have hrun := run_append' (P := P) (w := w) (base := a) (sLen := xs.length) (sCap := cp) (ty := ty) ht hu hi hz1 e1 (news := news) (by rw [hik]; exact e2) holds hf
            have holdsEs : RepEs γ F kk xs (vs.extract 0 (xs.length * kk)).toList ∧ (vs.extract 0 (xs.length * kk)).size = xs.length * kk := by
              have hlx := q6.length
              simp at hlx
              refine ⟨RepEs.more q6 fun j hj => ?_, by simp; omega⟩
              rw [Array.toList_extract, List.extract_eq_take_drop, List.getElem?_take_of_lt (by omega)]; simp
            by_cases hle : xs.length + ys.length ≤ cp
            · rw [if_pos hle] at hrun
              have hset : ∀ l' : Loc, LocLe (.arr b cp xs.length kk) l' → l' = .arr b cp (xs.length + ys.length) kk → True := fun _ _ _ => trivial
              have hstore : ∃ w' vs', (match a with | some a => storeCells (a.add (xs.length * i.size)) news.toList | none => pure () : Sem Unit).run P w = .ok () w' ∧ But b w w' ∧ w'.heap[b]? = some (.cells vs' t' fz) ∧ vs'.size = vs.size ∧ RepEs γ F kk (xs ++ ys) vs'.toList := by
                rcases p3 with p3 | rfl
                · have hx0 : xs = [] := by cases xs <;> simp at hcap ⊢; omega
                  have hy0 : ys = [] := by cases ys <;> simp at hle ⊢; omega
                  subst hx0 hy0
                  have : news = #[] := by simpa using e4
                  subst this
                  exact ⟨w, vs, by cases a <;> simp [storeCells], But.refl b w, q4, rfl, by simp [RepEs]⟩
                · have hin : xs.length * kk + news.size ≤ vs.size := by rw [e4, q5, ← Nat.add_mul]; exact Nat.mul_le_mul_right _ hle
                  obtain ⟨w', vs', r1, r2, r3, r4⟩ := run_storeCells (P := P) (xs.length * kk) news.toList 0 w vs q4 (by simpa using hin) q7 e5
                  have hsz : vs'.size = vs.size := by
                    have := congrArg List.length r4
                    simp at this; omega
                  refine ⟨w', vs', by rw [hik]; simpa [add_none] using r1, r2, r3, hsz, ?_⟩
                  have hh := RepEs.append holdsEs.1 (by simpa using holdsEs.2) e3
                  refine RepEs.more hh fun j hj => ?_
                  rw [r4]
                  simp only [Nat.add_zero, Array.toList_extract, List.extract_eq_take_drop, List.drop_zero, Nat.sub_zero]
                  rw [List.getElem?_append_left (l₁ := List.take (xs.length * kk) vs.toList ++ news.toList)]
                  simp only [List.length_append, List.length_take, Array.length_toList, Nat.add_mul] at hj ⊢
                  have : xs.length * kk ≤ vs.size := by omega
                  omega
              obtain ⟨w', vs', r1, r2, r3, r4, r5⟩ := hstore
              rw [r1] at hrun
              have hown := h.own r _ b g1 rfl
              have hle' : LocLe (.arr b cp xs.length kk) (.arr b cp (xs ++ ys).length kk) := by
                simp only [LocLe, List.length_append]
                rcases Nat.eq_zero_or_pos ys.length with h0 | h0
                · left; simp [h0]
                · right; right; exact ⟨_, _, _, _, rfl, by omega⟩
              have hblk : ∀ c, (Loc.arr b cp (xs ++ ys).length kk).block = some c → ((Loc.arr b cp xs.length kk).block = some c ∨ w.heap.size ≤ c) ∧ c < w'.heap.size := fun c hc => ⟨.inl hc, by cases hc; rw [r2.size]; exact hown.2⟩
              refine ⟨.slice a (xs.length + ys.length) cp, w', γ.set r (.arr b cp (xs ++ ys).length kk), F, .inl (run_val (by simpa using hrun)), Nx.upd h g1 hle' (by rw [r2.size]; exact Nat.le_refl _) r2.keep hblk r2.os r2.tape r2.output, Rel.upd h g1 hle' (by rw [r2.size]; exact Nat.le_refl _) r2.keep hblk ?_, ?_⟩
              · exact ⟨rfl, rfl, by simpa using hle, vs', fz, r3, by rw [r4]; exact q5, RepEs.mono (Ext.set g1 hle') (FLe.refl F) _ _ _ r5, by rw [r4]; exact q7⟩
              · simp only [Rep]
                refine ⟨a, cp, rfl, .arr b cp (xs ++ ys).length kk, by simp [getElem?_lt g1], by simp [Loc.len], fun b' c' k' e => ?_, by simp⟩
                simp only [Loc.arr.injEq] at e
                obtain ⟨rfl, rfl, _, rfl⟩ := e
                exact ⟨by omega, by omega, p3⟩
            · rw [if_neg hle] at hrun
              have hg := grown_cells holdsEs.1 holdsEs.2 e3 e4 hsize (cap := grownCap w (xs.length + ys.length) cp t') (grownCap_ge w _ _ _)
              have hpos : 0 < ys.length := by omega
              obtain ⟨r1, r2, r3⟩ := grow_upd (e := t') (xs := xs ++ ys) h g1 (.inr (.inr ⟨_, _, _, _, rfl, by simp; omega⟩)) hg.1 hg.2 (by simpa using grownCap_ge w (xs.length + ys.length) cp t') (w' := w.drew.alloc (.cells (vs.extract 0 (xs.length * kk) ++ news ++ Builtin.zeroCells zv.cells (grownCap w (xs.length + ys.length) cp t' - (xs.length + ys.length))) t')) rfl rfl rfl rfl
              refine ⟨_, _, _, _, .inl (run_val hrun), r2, r1, ?_⟩
              simpa using r3
end
end Go.Ab
namespace Go.Ab
variable [Env]
section
variable {P : Program} {γ : List Loc} {F : Frz} {w : World} {H : Heap}

theorem mapOf_spec {t k e : TypeId} (h : mapOf P t = some (k, e)) : P.underlying t = some (.map k e) := by
  unfold mapOf at h; split at h
  · rename_i a b hu; simp at h; obtain ⟨rfl, rfl⟩ := h; exact hu
  · cases h

/-- Two keys of a map's kind. -/
theorem key_equal {kt : TypeId} {d : List TypeDesc × Bool} (hd : keyKinds P kt = some d) {x y : V} {xv yv : Value} (hx : Rep γ F x xv) (hy : Rep γ F y yv) (ox : okKey d x = true) (oy : okKey d y = true) :
    (Op.equal kt xv yv).run P w = .ok (keyEq x y) w := by
  unfold keyKinds at hd
  have one : ∀ q : TypeDesc, P.underlying kt = some q → ((∃ k, q = .int k) ∨ q = .string ∨ q = .bool) → d = ([q], false) → (Op.equal kt xv yv).run P w = .ok (keyEq x y) w := by
    rintro q hu hq rfl
    have h3 : okCell q x y = true ∧ keyEq x y = eqCell x y := by
      rcases hq with ⟨kk, rfl⟩ | rfl | rfl
      all_goals
        cases x <;> simp [okKey, okCells, okCell] at ox
        cases y <;> simp [okKey, okCells, okCell] at oy
        simp [okCell, keyEq]
        try exact ⟨ox, oy⟩
    rw [h3.2]
    exact run_equal_of fun n => okCell_spec hu hx hy h3.1
  split at hd
  · rename_i k hu; cases hd; exact one _ hu (.inl ⟨_, rfl⟩) rfl
  · rename_i hu; cases hd; exact one _ hu (.inr (.inl rfl)) rfl
  · rename_i hu; cases hd; exact one _ hu (.inr (.inr rfl)) rfl
  · rename_i fs hu
    cases hk : eqKinds P kt with
    | none => rw [hk] at hd; cases hd
    | some ds =>
      rw [hk] at hd
      simp at hd; subst hd
      cases x <;> simp [okKey] at ox
      cases y <;> simp [okKey] at oy
      rename_i xs ys
      simp only [Rep] at hx hy
      obtain ⟨xs', rfl, g1⟩ := hx
      obtain ⟨ys', rfl, g2⟩ := hy
      have h3 : ∀ (ds : List TypeDesc) (xs ys : List V), okCells ds xs xs = true → okCells ds ys ys = true → okCells ds xs ys = true := by
        intro ds
        induction ds with
        | nil => intro xs ys h1 h2; cases xs <;> cases ys <;> simp_all [okCells]
        | cons d ds ih =>
          intro xs ys h1 h2
          cases xs <;> cases ys <;> simp_all [okCells]
          rename_i x _ y _
          have a1 := h1.1
          have a2 := h2.1
          clear h1 h2 ih
          cases d <;> simp [okCell] at a1 <;> cases x <;> simp [okCell] at a1 <;> cases y <;> simp [okCell] at a2 ⊢
          exact ⟨a1, a2⟩
      exact eqAgg_sound hk g1 g2 (h3 _ _ _ ox oy)
  · cases hd

/-- The place of a key among entries. -/
def keyAt : V → List (V × V) → Option Nat
  | _, [] => none
  | k, (q, _) :: es => if keyEq k q then some 0 else (keyAt k es).map (· + 1)

theorem findAsking_spec {kt : TypeId} {d : List TypeDesc × Bool} (hd : keyKinds P kt = some d) {k : V} {kv : Value} (hk : Rep γ F k kv) (ok : okKey d k = true) :
    ∀ (es : List (V × V)) (ms : List MapEntry) (i : Nat), RepM γ F es ms → (∀ e ∈ es, okKey d e.1 = true) →
      (Instr.findAsking kt kv ms i).run P w = .ok ((keyAt k es).bind fun j => (ms[j]?).map fun e => (i + j, e.val)) w
  | [], ms, i, h, _ => by simp only [RepM] at h; subst h; simp [Instr.findAsking, keyAt]
  | (q, x) :: es, ms, i, h, ho => by
    obtain ⟨e, rest, rfl, h1, h2, h3⟩ := h
    have heq := key_equal (P := P) (w := w) hd hk h1 ok (ho (q, x) (by simp))
    have ih := findAsking_spec hd hk ok es rest (i + 1) h3 fun e he => ho e (by simp [he])
    simp only [Instr.findAsking, Sem.run_bind, heq, Result.andThen_ok, keyAt]
    cases keyEq k q
    · simp only [Bool.false_eq_true, if_false, ih]
      congr 1
      cases keyAt k es <;> simp
      rename_i j
      cases rest[j]? <;> simp; omega
    · simp

theorem findNow_spec {kt : TypeId} {d : List TypeDesc × Bool} {q : TypeDesc} (hu : P.underlying kt = some q) (hd : d = ([q], false)) (hq : (∃ k, q = .int k) ∨ q = .string ∨ q = .bool) {k : V} {kv : Value} (hk : Rep γ F k kv) (ok : okKey d k = true) :
    ∀ (es : List (V × V)) (ms : List MapEntry) (i : Nat), RepM γ F es ms → (∀ e ∈ es, okKey d e.1 = true) →
      Instr.findNow q kv ms i = some ((keyAt k es).bind fun j => (ms[j]?).map fun e => (i + j, e.val))
  | [], ms, i, h, _ => by simp only [RepM] at h; subst h; simp [Instr.findNow, keyAt]
  | (p, x) :: es, ms, i, h, ho => by
    obtain ⟨e, rest, rfl, h1, h2, h3⟩ := h
    have op := ho _ (by simp : (p, x) ∈ (p, x) :: es)
    have ih := findNow_spec hu hd hq hk ok es rest (i + 1) h3 fun e he => ho e (by simp [he])
    have hs : Instr.sameNow q kv e.key = some (keyEq k p) := by
      subst hd
      rcases hq with ⟨kk, rfl⟩ | rfl | rfl
      all_goals
        cases k <;> simp [okKey, okCells, okCell] at ok
        cases p <;> simp [okKey, okCells, okCell] at op
        simp only [Rep] at hk h1
        rw [hk, h1]
        first
          | (subst ok op; simp [Instr.sameNow, keyEq, eqCell]; done)
          | (simp [Instr.sameNow, keyEq, eqCell, bytes_inj]; done)
    simp only [Instr.findNow, hs, keyAt]
    cases keyEq k p
    · simp only [ih]
      congr 1
      cases keyAt k es <;> simp
      rename_i j
      cases rest[j]? <;> simp; omega
    · simp

theorem run_findKey {kt : TypeId} {d : List TypeDesc × Bool} (hd : keyKinds P kt = some d) {k : V} {kv : Value} (hk : Rep γ F k kv) (ok : okKey d k = true) {es : List (V × V)} {ms : List MapEntry} (hm : RepM γ F es ms) (ho : ∀ e ∈ es, okKey d e.1 = true) :
    (Instr.findKey kt kv ms).run P w = .ok ((keyAt k es).bind fun j => (ms[j]?).map fun e => (j, e.val)) w := by
  have hd' := hd
  unfold keyKinds at hd
  have one : ∀ q : TypeDesc, P.underlying kt = some q → ((∃ k, q = .int k) ∨ q = .string ∨ q = .bool) → d = ([q], false) → (Instr.findKey kt kv ms).run P w = .ok ((keyAt k es).bind fun j => (ms[j]?).map fun e => (j, e.val)) w := by
    intro q hu hq he
    have := findNow_spec (P := P) hu he hq hk ok es ms 0 hm ho
    simp only [Instr.findKey, Sem.run_bind, run_underlying hu, Result.andThen_ok, this]
    simp
  split at hd
  · rename_i k hu; cases hd; exact one _ hu (.inl ⟨_, rfl⟩) rfl
  · rename_i hu; cases hd; exact one _ hu (.inr (.inl rfl)) rfl
  · rename_i hu; cases hd; exact one _ hu (.inr (.inr rfl)) rfl
  · rename_i fs hu
    have h1 := findAsking_spec (P := P) (w := w) hd' hk ok es ms 0 hm ho
    simp only [Nat.zero_add] at h1
    have hn : ∀ i, Instr.findNow (.struct fs) kv ms i = none ∨ (ms = [] ∧ Instr.findNow (.struct fs) kv ms i = some none) := by
      intro i
      cases ms with
      | nil => exact .inr ⟨rfl, rfl⟩
      | cons e ms => left; cases kv <;> cases e <;> rename_i key _ _ <;> cases key <;> rfl
    simp only [Instr.findKey, Sem.run_bind, run_underlying hu, Result.andThen_ok]
    rcases hn 0 with hn | ⟨rfl, hn⟩
    · rw [hn]; exact h1
    · rw [hn]
      cases es with
      | nil => simp [keyAt]
      | cons e es => obtain ⟨_, _⟩ := e; simp [RepM] at hm
  · cases hd

theorem run_checkKey {kt : TypeId} {d : List TypeDesc × Bool} (hd : keyKinds P kt = some d) {k : V} {kv : Value} (hk : Rep γ F k kv) (ok : okKey d k = true) (em : Bool) (n : Nat) :
    (Instr.checkKey em (n + 2) kt kv).run P w = .ok () w := by
  unfold keyKinds at hd
  have plain : ∀ (t : TypeId) (q : TypeDesc) (v : Value) (m : Nat), P.underlying t = some q → ((∃ k, q = .int k) ∨ q = .string ∨ q = .bool) → (Instr.checkKey em (m + 1) t v).run P w = .ok () w := by
    intro t q v m hu hq
    simp only [Instr.checkKey, Sem.run_bind, run_underlying hu, Result.andThen_ok]
    rcases hq with ⟨kk, rfl⟩ | rfl | rfl <;> simp
  split at hd
  · rename_i k hu; exact plain _ _ _ _ hu (.inl ⟨_, rfl⟩)
  · rename_i hu; exact plain _ _ _ _ hu (.inr (.inl rfl))
  · rename_i hu; exact plain _ _ _ _ hu (.inr (.inr rfl))
  · rename_i fs hu
    cases hk' : eqKinds P kt with
    | none => rw [hk'] at hd; cases hd
    | some ds =>
      rw [hk'] at hd
      simp at hd; subst hd
      cases k <;> simp [okKey] at ok
      rename_i xs
      simp only [Rep] at hk
      obtain ⟨xs', rfl, g1⟩ := hk
      obtain ⟨_, _, _, hpf⟩ := eqKinds_spec hk'
      have hfs : P.fieldsOf kt = fs := by unfold Program.fieldsOf; rw [hu]
      rw [hfs] at hpf
      generalize hm : n + 1 = m
      rw [show n + 2 = m + 1 by omega]
      simp only [Instr.checkKey, Sem.run_bind, run_underlying hu, Result.andThen_ok]
      rw [← Array.forIn_toList]
      subst hm
      have key : ∀ (l : List Field) (i : Nat) (ds : List TypeDesc) (xs : List V), plainFields P i l = some ds → RepC γ F xs (xs'.toList.drop i) → okCells ds xs xs = true →
          (forIn (m := Sem) l PUnit.unit fun f r => if f.name ≠ "_" then (do let x ← part f.type xs' f.offset; Instr.checkKey em (n + 1) f.type x; pure (ForInStep.yield PUnit.unit)) else pure (ForInStep.yield PUnit.unit)).run P w = .ok PUnit.unit w := by
        intro l
        induction l with
        | nil => intro i ds xs _ _ _; simp
        | cons f l ih =>
          intro i ds xs h hx ho
          simp only [plainFields] at h
          split at h
          · cases h
          rename_i hno
          simp only [Bool.or_eq_true, beq_iff_eq, bne_iff_ne, not_or, ne_eq, Decidable.not_not] at hno
          have go : ∀ q : TypeDesc, P.underlying f.type = some q → ((∃ k, q = .int k) ∨ q = .string ∨ q = .bool) → (plainFields P (i + 1) l).map (q :: ·) = some ds →
              (forIn (m := Sem) (f :: l) PUnit.unit fun f r => if f.name ≠ "_" then (do let x ← part f.type xs' f.offset; Instr.checkKey em (n + 1) f.type x; pure (ForInStep.yield PUnit.unit)) else pure (ForInStep.yield PUnit.unit)).run P w = .ok PUnit.unit w := by
            intro q hq hqq hm
            cases hp : plainFields P (i + 1) l with
            | none => rw [hp] at hm; cases hm
            | some ds' =>
              rw [hp] at hm
              simp at hm; subst hm
              cases xs with
              | nil => simp [okCells] at ho
              | cons x xs =>
                simp only [okCells, Bool.and_eq_true] at ho
                obtain ⟨xu, e1, r1, c1⟩ := RepC.head' hx
                have hagg : (isAgg f.type).run P w = .ok false w := by
                  simp only [isAgg, Sem.run_bind, run_underlying hq, Result.andThen_ok]
                  rcases hqq with ⟨kk, rfl⟩ | rfl | rfl <;> rfl
                have hpart : (part f.type xs' f.offset).run P w = .ok xu w := by simp [part, hagg, hno.2, e1]
                have := ih (i + 1) ds' xs hp c1 ho.2
                simp only [List.forIn_cons, ne_eq, hno.1, not_false_eq_true, if_true, Sem.run_bind, hpart, Result.andThen_ok, plain _ _ _ _ hq hqq, Sem.run_pure]
                exact this
          split at h
          · rename_i k hu; exact go _ hu (.inl ⟨_, rfl⟩) h
          · rename_i hu; exact go _ hu (.inr (.inl rfl)) h
          · rename_i hu; exact go _ hu (.inr (.inr rfl)) h
          · cases h
      have := key fs.toList 0 ds xs hpf (by simpa using g1) ok
      simp at this
      simp
      rw [this]
      rfl
  · cases hd

theorem keyAt_spec {k : V} : ∀ {es : List (V × V)} {ms : List MapEntry}, RepM γ F es ms →
    (keyAt k es = none ∧ findKey k es = none) ∨ ∃ j x e, keyAt k es = some j ∧ findKey k es = some x ∧ ms[j]? = some e ∧ Rep γ F x e.val
  | [], ms, h => .inl ⟨rfl, rfl⟩
  | (q, x) :: es, ms, h => by
    obtain ⟨e, rest, rfl, h1, h2, h3⟩ := h
    simp only [keyAt, findKey]
    cases keyEq k q
    · rcases keyAt_spec (k := k) h3 with ⟨g1, g2⟩ | ⟨j, y, e', g1, g2, g3, g4⟩
      · left; simp [g1, g2]
      · right; exact ⟨j + 1, y, e', by simp [g1], by simp [g2], by simpa using g3, g4⟩
    · right; exact ⟨0, x, e, rfl, rfl, rfl, h2⟩

theorem lookVal_rep {ok : Bool} {x : V} {b : Bool} {v : Value} (hv : Rep γ F x v) : Rep γ F (match ok with | true => .tup [x, .bool b] | false => x) (if ok then Value.tuple #[v, .bool b] else v) := by
  cases ok
  · exact hv
  · simp only [Rep]
    exact ⟨_, rfl, by simp [RepL, Rep, hv]⟩

theorem lookup_sound (h : Rel γ F w H) {t kt e : TypeId} (ht : mapOf P t = some (kt, e)) {d : List TypeDesc × Bool} (hd : keyKinds P kt = some d) {z : V} (hz : zeroOf P e = some z) {m k : V} {mv kv : Value} {ok : Bool} (hm : Rep γ F m mv) (hk : Rep γ F k kv)
    (hok : (lookupR d z m k ok H).ok) : ∃ u, (Instr.lookup t mv kv ok).run P w = .ok u w ∧ Rep γ F (lookupR d z m k ok H).v u ∧ (lookupR d z m k ok H).H = H := by
  have hu := mapOf_spec ht
  obtain ⟨zv, hz1, hz2⟩ := zeroOf_spec hz
  cases m <;> simp only [lookupR, R.bad] at hok ⊢
  case nilmap =>
    simp only [Rep] at hm; subst hm
    refine ⟨_, ?_, lookVal_rep (hz2 γ F), trivial⟩
    have hc := run_checkKey (P := P) (w := w) hd hk hok true 9998
    have hf := run_findKey (P := P) (w := w) (γ := γ) (F := F) hd hk hok (es := []) (ms := []) (by simp [RepM]) (by simp)
    simp only [keyAt, Option.bind_none] at hf
    simp only [Instr.lookup, Sem.run_bind, run_underlying hu, Result.andThen_ok, Sem.run_pure, Array.isEmpty_empty, hc, hf, hz1]
  case mp r =>
    cases ho : H[r]? with
    | none => rw [ho] at hok; exact hok.elim
    | some o =>
      rw [ho] at hok
      cases o <;> simp only [R.bad] at hok ⊢
      case mp es =>
        obtain ⟨o1, o2⟩ := hok
        simp only [Rep] at hm
        obtain ⟨b, h1, rfl⟩ := hm
        have hr := h.obj r _ _ h1 ho
        simp only [RelO] at hr
        obtain ⟨ms, clock, h2, h3, h4⟩ := hr
        have ho2 : ∀ e ∈ es, okKey d e.1 = true := by simpa using o2
        have hc := run_checkKey (P := P) (w := w) hd hk o1 ms.isEmpty 9998
        have hf := run_findKey (P := P) (w := w) hd hk o1 h3 ho2
        have hg : (getObj b).run P w = .ok (.map ms clock) w := by simp [getObj, Sem.run, h2]
        rcases keyAt_spec (k := k) h3 with ⟨g1, g2⟩ | ⟨j, y, e', g1, g2, g3, g4⟩
        · rw [g2]
          refine ⟨_, ?_, lookVal_rep (x := z) (b := false) (hz2 γ F), trivial⟩
          rw [g1] at hf
          simp only [Option.bind_none] at hf
          simp only [Instr.lookup, Sem.run_bind, run_underlying hu, Result.andThen_ok, Sem.run_pure, hg, hc, hf, hz1]
        · rw [g2]
          refine ⟨_, ?_, lookVal_rep (x := y) (b := true) g4, trivial⟩
          rw [g1] at hf
          simp only [Option.bind_some, g3, Option.map_some] at hf
          simp only [Instr.lookup, Sem.run_bind, run_underlying hu, Result.andThen_ok, Sem.run_pure, hg, hc, hf]

theorem sameBits_cells : ∀ (n : Nat) {ds : List TypeDesc} {xs ys : List V} {xv yv : List Value}, RepC γ F xs xv → RepC γ F ys yv → okCells ds xs ys = true → eqCells xs ys = true →
    xv.length = yv.length ∧ ((xv.zip yv).all fun (x, y) => Instr.sameBits n x y) = true
  | n, [], [], [], xv, yv, hx, hy, _, _ => by
    simp only [RepC] at hx hy; subst hx hy; simp
  | n, d :: ds, x :: xs, y :: ys, xv, yv, hx, hy, ho, he => by
    simp only [RepC] at hx hy
    obtain ⟨u, us, rfl, _, h1, h2⟩ := hx
    obtain ⟨v, vs, rfl, _, h3, h4⟩ := hy
    simp only [okCells, eqCells, Bool.and_eq_true] at ho he
    have ih := sameBits_cells n h2 h4 ho.2 he.2
    refine ⟨by simp [ih.1], ?_⟩
    simp only [List.zip_cons_cons, List.all_cons, Bool.and_eq_true]
    refine ⟨?_, ih.2⟩
    have a1 := ho.1
    have a2 := he.1
    clear ho he ih
    cases d <;> (try (simp [okCell] at a1; done)) <;> cases x <;> (try (simp [okCell] at a1; done)) <;> cases y <;> (try (simp [okCell] at a1; done)) <;> simp only [Rep] at h1 h3 <;> subst h1 h3 <;> simp only [eqCell, beq_iff_eq] at a2 <;> subst a2
    all_goals (try simp only [okCell, Bool.and_eq_true, beq_iff_eq] at a1)
    all_goals (try obtain ⟨rfl, rfl⟩ := a1)
    all_goals (cases n <;> simp [Instr.sameBits])
    all_goals (rw [bytes_inj]; simp)
  | n, [], x :: xs, ys, _, _, _, _, ho, _ => by simp [okCells] at ho
  | n, [], [], y :: ys, _, _, _, _, ho, _ => by simp [okCells] at ho
  | n, d :: ds, [], ys, _, _, _, _, ho, _ => by simp [okCells] at ho
  | n, d :: ds, x :: xs, [], _, _, _, _, ho, _ => by simp [okCells] at ho

theorem eqCell_symm : ∀ (x y : V), eqCell x y = eqCell y x := by
  intro x y
  cases x <;> cases y <;> simp [eqCell, Bool.beq_comm]
theorem eqCells_symm : ∀ (xs ys : List V), eqCells xs ys = eqCells ys xs
  | [], [] => rfl
  | [], _ :: _ => rfl
  | _ :: _, [] => rfl
  | x :: xs, y :: ys => by simp only [eqCells]; rw [eqCell_symm, eqCells_symm xs ys]


theorem okCell_isCell {d : TypeDesc} {x : V} (h : okCell d x x = true) : x.isCell = true := by
  cases x <;> first | rfl | (cases d <;> simp [okCell] at h)

theorem sameBits_key {d : List TypeDesc × Bool} {x y : V} {xv yv : Value} (hx : Rep γ F x xv) (hy : Rep γ F y yv) (ox : okKey d x = true) (oy : okKey d y = true) (he : keyEq x y = true) (n : Nat) :
    Instr.sameBits (n + 1) yv xv = true := by
  obtain ⟨ds, b⟩ := d
  cases b
  · have one : ∀ z : V, okKey (ds, false) z = true → okCells ds [z] [z] = true ∧ (∀ cs, z ≠ .agg cs) := by
      intro z hz
      cases z <;> simp [okKey] at hz ⊢ <;> exact hz
    obtain ⟨x1, x2⟩ := one x ox
    obtain ⟨y1, y2⟩ := one y oy
    cases ds with
    | nil => simp [okCells] at x1
    | cons d ds =>
      cases ds with
      | cons d' ds => simp [okCells] at x1
      | nil =>
        simp only [okCells, Bool.and_true] at x1 y1
        have hxy : okCell d y x = true := by
          clear he ox oy
          cases d <;> (try (simp [okCell] at x1; done)) <;> cases x <;> (try (simp [okCell] at x1; done)) <;> cases y <;> (try (simp [okCell] at y1; done))
          · rfl
          · simp only [okCell, Bool.and_eq_true, beq_iff_eq] at x1 y1 ⊢; exact ⟨y1.1, x1.1⟩
          · rfl
        have heq : eqCell y x = true := by
          rw [eqCell_symm]
          cases x <;> first | exact absurd rfl (x2 _) | (cases y <;> first | exact absurd rfl (y2 _) | exact he)
        have := (sameBits_cells (n + 1) (RepC.single (Rep.cell hy (okCell_isCell y1)) hy) (RepC.single (Rep.cell hx (okCell_isCell x1)) hx) (ds := [d]) (by simp [okCells, hxy]) (by simp [eqCells, heq])).2
        simpa using this
  · cases x <;> simp [okKey] at ox
    cases y <;> simp [okKey] at oy
    rename_i xs ys
    simp only [Rep] at hx hy
    obtain ⟨xs', rfl, g1⟩ := hx
    obtain ⟨ys', rfl, g2⟩ := hy
    have h3 : ∀ (ds : List TypeDesc) (xs ys : List V), okCells ds xs xs = true → okCells ds ys ys = true → okCells ds ys xs = true := by
      intro ds
      induction ds with
      | nil => intro xs ys h1 h2; cases xs <;> cases ys <;> simp_all [okCells]
      | cons d ds ih =>
        intro xs ys h1 h2
        cases xs <;> cases ys <;> simp_all [okCells]
        rename_i x _ y _
        have a1 := h1.1
        have a2 := h2.1
        clear h1 h2 ih
        cases d <;> simp [okCell] at a1 <;> cases x <;> simp [okCell] at a1 <;> cases y <;> simp [okCell] at a2 ⊢
        exact ⟨a2, a1⟩
    simp only [keyEq] at he
    obtain ⟨q1, q2⟩ := sameBits_cells n g2 g1 (h3 _ _ _ ox oy) (by rw [eqCells_symm]; exact he)
    have : ys'.size = xs'.size := by simpa using q1
    simp only [Instr.sameBits, Bool.and_eq_true, beq_iff_eq]
    exact ⟨this, q2⟩

/-- What a store into a map leaves of its entries. -/
theorem RepM.put {k x : V} {kv xv : Value} (hk : Rep γ F k kv) (hx : Rep γ F x xv) {born : Nat} : ∀ {es : List (V × V)} {ms : List MapEntry}, RepM γ F es ms →
    (keyAt k es = none ∧ RepM γ F (putKey k x es) (ms ++ [⟨kv, xv, born⟩])) ∨
    ∃ j e, keyAt k es = some j ∧ ms[j]? = some e ∧ (∃ q y, (q, y) ∈ es ∧ keyEq k q = true ∧ Rep γ F q e.key) ∧ RepM γ F (putKey k x es) (ms.modify j fun e => { e with key := kv, val := xv })
  | [], ms, h => by
    simp only [RepM] at h; subst h
    exact .inl ⟨rfl, _, [], rfl, hk, hx, rfl⟩
  | (q, y) :: es, ms, h => by
    obtain ⟨e, rest, rfl, h1, h2, h3⟩ := h
    simp only [keyAt, putKey]
    cases hq : keyEq k q
    · rcases RepM.put hk hx h3 with ⟨g1, g2⟩ | ⟨j, e', g1, g2, ⟨q', y', g3, g4, g5⟩, g6⟩
      · exact .inl ⟨by simp [g1], e, _, rfl, h1, h2, g2⟩
      · exact .inr ⟨j + 1, e', by simp [g1], by simpa using g2, ⟨q', y', by simp [g3], g4, g5⟩, e, _, rfl, h1, h2, g6⟩
    · exact .inr ⟨0, e, rfl, rfl, ⟨q, y, by simp, hq, h1⟩, _, rest, rfl, hk, hx, h3⟩

theorem borns_modify {ms : List MapEntry} {clock : Nat} (h : Borns ms clock) (j : Nat) (f : MapEntry → MapEntry) (hf : ∀ e, (f e).born = e.born) : Borns (ms.modify j f) clock := by
  have hm : (ms.modify j f).map (·.born) = ms.map (·.born) := by
    apply List.ext_getElem?
    intro i
    simp only [List.getElem?_map, List.getElem?_modify]
    split
    · cases ms[i]? <;> simp [hf]
    · simp
  refine ⟨fun e he => ?_, ?_⟩
  · have : e.born ∈ (ms.modify j f).map (·.born) := List.mem_map_of_mem he
    rw [hm] at this
    obtain ⟨e', h1, h2⟩ := List.mem_map.1 this
    rw [← h2]; exact h.1 e' h1
  · have : (ms.map (·.born)).Pairwise (· ≠ ·) := List.pairwise_map.2 h.2
    rw [← hm] at this
    exact List.pairwise_map.1 this

theorem borns_push {ms : List MapEntry} {clock : Nat} (h : Borns ms clock) (k x : Value) : Borns (ms ++ [⟨k, x, clock⟩]) (clock + 1) := by
  refine ⟨fun e he => ?_, ?_⟩
  · rcases List.mem_append.1 he with he | he
    · have := h.1 e he; omega
    · simp at he; subst he; simp
  · refine List.pairwise_append.2 ⟨h.2, by simp, fun a ha b hb => ?_⟩
    simp at hb; subst hb
    have := h.1 a ha
    simp; omega

theorem mapUpdate_sound (h : Rel γ F w H) {t kt e : TypeId} (ht : mapOf P t = some (kt, e)) {d : List TypeDesc × Bool} (hd : keyKinds P kt = some d) {m k x : V} {mv kv xv : Value} (hm : Rep γ F m mv) (hk : Rep γ F k kv) (hx : Rep γ F x xv)
    (hok : (mapUpdateR d m k x H).ok) : ∃ w', (Instr.mapUpdate t mv kv xv).run P w = .ok () w' ∧ Nx γ F w γ F w' ∧ Rel γ F w' (mapUpdateR d m k x H).H := by
  have hu := mapOf_spec ht
  cases m <;> simp only [mapUpdateR, R.bad] at hok ⊢
  case mp r =>
    cases ho : H[r]? with
    | none => rw [ho] at hok; exact hok.elim
    | some o =>
      rw [ho] at hok
      cases o <;> simp only [R.bad] at hok ⊢
      case mp es =>
        obtain ⟨o1, o2⟩ := hok
        simp only [Rep] at hm
        obtain ⟨b, h1, rfl⟩ := hm
        have hr := h.obj r _ _ h1 ho
        simp only [RelO] at hr
        obtain ⟨ms, clock, h2, h3, h4⟩ := hr
        have ho2 : ∀ e ∈ es, okKey d e.1 = true := by simpa using o2
        have hc := run_checkKey (P := P) (w := w) hd hk o1 false 9998
        have hf := run_findKey (P := P) (w := w) hd hk o1 h3 ho2
        have hg : (getObj b).run P w = .ok (.map ms clock) w := by simp [getObj, Sem.run, h2]
        have hown := h.own r _ b h1 rfl
        have hset : γ.set r (.mp b) = γ := set_getElem?_of h1
        have fin : ∀ (ms' : Array MapEntry) (clock' : Nat), RepM γ F (putKey k x es) ms'.toList → Borns ms'.toList clock' → (Instr.mapUpdate t (.map (some b)) kv xv).run P w = .ok () { w with heap := w.heap.setIfInBounds b (.map ms' clock') } →
            ∃ w', (Instr.mapUpdate t (.map (some b)) kv xv).run P w = .ok () w' ∧ Nx γ F w γ F w' ∧ Rel γ F w' (H.set r (.mp (putKey k x es))) := by
          intro ms' clock' q1 q2 q3
          have hsz : ({ w with heap := w.heap.setIfInBounds b (.map ms' clock') } : World).heap.size = w.heap.size := by simp
          have hsame : ∀ c, c < w.heap.size → (Loc.mp b).block ≠ some c → ({ w with heap := w.heap.setIfInBounds b (.map ms' clock') } : World).heap[c]? = w.heap[c]? := by
            intro c _ hcb
            have : b ≠ c := fun e => hcb (by rw [e]; rfl)
            simp [Array.getElem?_setIfInBounds, this]
          have hblk : ∀ c, (Loc.mp b).block = some c → ((Loc.mp b).block = some c ∨ w.heap.size ≤ c) ∧ c < ({ w with heap := w.heap.setIfInBounds b (.map ms' clock') } : World).heap.size := fun c hcb => ⟨.inl hcb, by cases hcb; rw [hsz]; exact hown.2⟩
          have r1 := Nx.upd h h1 (l' := .mp b) (LocLe.refl _) (by rw [hsz]; exact Nat.le_refl _) hsame hblk rfl rfl rfl
          have r2 := Rel.upd h h1 (l' := .mp b) (o' := .mp (putKey k x es)) (LocLe.refl _) (by rw [hsz]; exact Nat.le_refl _) hsame hblk (by
            rw [hset]
            exact ⟨ms', clock', by simp [Array.getElem?_setIfInBounds, hown.2], q1, q2⟩)
          rw [hset] at r1 r2
          exact ⟨_, q3, r1, r2⟩
        have hsetrun : ∀ o : Obj, (∀ c t f, o ≠ .cells c t f) → (setObj b o).run P w = .ok () { w with heap := w.heap.setIfInBounds b o } := fun o _ => by
          simp [setObj, Sem.run, h2]
        rcases RepM.put hk hx (born := clock) h3 with ⟨g1, g2⟩ | ⟨j, e', g1, g2, ⟨q', y', g3, g4, g5⟩, g6⟩
        · refine fin (ms.push ⟨kv, xv, clock⟩) (clock + 1) (by simpa using g2) (by simpa using borns_push h4 kv xv) ?_
          rw [g1] at hf
          simp only [Option.bind_none] at hf
          simp only [Instr.mapUpdate, Sem.run_bind, run_underlying hu, Result.andThen_ok, hg, hc, hf]
          exact hsetrun _ (by simp)
        · refine fin (ms.modify j fun e => { e with key := kv, val := xv }) clock (by simpa using g6) (by simpa using borns_modify h4 j (fun e => { e with key := kv, val := xv }) (fun _ => rfl)) ?_
          have g2' : ms[j]? = some e' := by simpa using g2
          have hsb := sameBits_key hk g5 o1 (ho2 _ g3) g4 9999
          have hkeep : (Instr.keyThatStays (((ms[j]?).map (·.key)).getD kv) kv).run P w = .ok kv w := by
            simp [Instr.keyThatStays, g2', hsb]
          rw [g1] at hf
          simp only [Option.bind_some, g2, Option.map_some] at hf
          simp only [Instr.mapUpdate, Sem.run_bind, run_underlying hu, Result.andThen_ok, hg, hc, hf, hkeep]
          exact hsetrun _ (by simp)
end
end Go.Ab
namespace Go.Ab
variable [Env]
section
variable {P : Program} {γ : List Loc} {F : Frz} {w : World} {H : Heap}

theorem foldl_cells : ∀ (cs : List Value) (off j : Nat) (acc : Array Value), off + j + cs.length ≤ acc.size →
    ((cs.zipIdx j).foldl (fun a (c, j) => a.setIfInBounds (off + j) c) acc).toList = acc.toList.take (off + j) ++ cs ++ acc.toList.drop (off + j + cs.length)
  | [], off, j, acc, h => by simp
  | c :: cs, off, j, acc, h => by
    simp only [List.length_cons] at h
    rw [List.zipIdx_cons, List.foldl_cons, foldl_cells cs off (j + 1) _ (by simp; omega)]
    simp only [Array.toList_setIfInBounds, List.length_cons]
    have hlt : off + j < acc.toList.length := by simp; omega
    rw [show off + (j + 1) = off + j + 1 by omega, List.take_succ_eq_append_getElem (by simpa using hlt), List.take_set_of_le (by omega), List.drop_set_of_lt (by omega)]
    simp
    congr 1; omega

theorem zipIdx_cells (v : Array Value) (off : Nat) (acc : Array Value) (h : off + v.size ≤ acc.size) :
    (v.zipIdx.foldl (fun cs (c, j) => cs.setIfInBounds (off + j) c) acc).toList = acc.toList.take off ++ v.toList ++ acc.toList.drop (off + v.size) := by
  have := foldl_cells v.toList off 0 acc (by simpa using h)
  rw [← Array.foldl_toList, Array.toList_zipIdx]
  simpa using this

/-- The parts of a struct, filled in. -/
theorem fill_sound {place : Nat → Option (Nat × Nat)} {placeV : Nat → Option (Nat × Bool × Nat)} (hp : ∀ i off g k, placeV i = some (off, g, k) → place i = some (off, k) ∧ (g = false → k = 1)) :
    ∀ (parts : List (Nat × V)) (pv : List (Nat × Value)) (cells : List V) (cv : Array Value), parts.length = pv.length →
      (∀ (j : Nat) i x, parts[j]? = some (i, x) → ∃ v, pv[j]? = some (i, v) ∧ Rep γ F x v) → RepC γ F cells cv.toList → ∀ {c : Prop} {out : List V}, buildGo placeV cells parts = some (c, out) → c →
      ∃ r, Instr.fill place cv pv = some r ∧ RepC γ F out r.toList
  | [], [], cells, cv, _, _, hc, c, out, hb, h => by
    simp [buildGo] at hb
    obtain ⟨_, rfl⟩ := hb
    exact ⟨cv, rfl, hc⟩
  | (i, x) :: parts, [], cells, cv, hl, _, _, c, out, _, _ => by simp at hl
  | [], _ :: _, cells, cv, hl, _, _, c, out, _, _ => by simp at hl
  | (i, x) :: parts, (i', v) :: pv, cells, cv, hl, hr, hc, c, out, hb, h => by
    obtain ⟨v', e1, hv⟩ := hr 0 i x (by simp)
    simp at e1
    obtain ⟨rfl, rfl⟩ := e1
    simp only [buildGo] at hb
    cases hpl : placeV i' with
    | none => rw [hpl] at hb; simp at hb
    | some q =>
      obtain ⟨off, g, k⟩ := q
      rw [hpl] at hb
      simp only at hb
      cases hgo : buildGo placeV (splice cells off (valCells g x)) parts with
      | none => rw [hgo] at hb; simp at hb
      | some q =>
        obtain ⟨c', out'⟩ := q
        rw [hgo] at hb
        simp at hb
        obtain ⟨hb1, rfl⟩ := hb
        obtain ⟨h1, h2, h3⟩ := hb1.2 h
        obtain ⟨p1, p2⟩ := hp _ _ _ _ hpl
        obtain ⟨g1, g2, g3, g4⟩ := Rep.valCells hv h1
        have hk : v.cells.size = k := by
          cases g
          · rw [g3 rfl, p2 rfl]
          · exact g2 rfl
        have hlen := hc.length
        simp at hlen
        have hz := zipIdx_cells v.cells off cv (by omega)
        have hcs : RepC γ F (splice cells off (valCells g x)) (v.cells.zipIdx.foldl (fun cs (c, j) => cs.setIfInBounds (off + j) c) cv).toList := by
          rw [hz, ← g4]
          exact RepC.splice hc g1
        obtain ⟨r, r1, r2⟩ := fill_sound hp parts pv _ _ (by simpa using hl) (fun j i x hj => by simpa using hr (j + 1) i x (by simpa using hj)) hcs hgo h3
        refine ⟨r, ?_, r2⟩
        simp only [Instr.fill, p1]
        rw [if_neg (by simp; omega)]
        exact r1

theorem mapM_places : ∀ (l : List Field), (∀ f ∈ l, (P.info? f.type).isSome = true) →
    (l.mapM (m := Sem) fun f => do pure (f.offset, ← sizeOf f.type)).run P w = .ok (l.map fun f => (f.offset, ((P.info? f.type).map (·.size)).getD 0)) w
  | [], _ => by simp
  | f :: l, h => by
    have h1 := h f (by simp)
    cases hi : P.info? f.type with
    | none => rw [hi] at h1; simp at h1
    | some i =>
      have ih := mapM_places l fun f hf => h f (by simp [hf])
      have hs : (sizeOf f.type).run P w = .ok i.size w := by simp [sizeOf, typeInfo, hi]
      simp only [List.mapM_cons, Sem.run_bind, hs, Result.andThen_ok, Sem.run_pure, ih, List.map_cons, hi, Option.map_some, Option.getD_some]

theorem build_sound (h : Rel γ F w H) {t : TypeId} {z : V} (hz : zeroOf P t = some z) (hpl : placesOk P t = true) {parts : List (Nat × V)} {pv : Array (Nat × Value)} (hl : parts.length = pv.size)
    (hr : ∀ (j : Nat) i x, parts[j]? = some (i, x) → ∃ v, pv[j]? = some (i, v) ∧ Rep γ F x v) (hok : (buildR P t z parts H).ok) :
    ∃ u, (Instr.build t pv).run P w = .ok u w ∧ Rep γ F (buildR P t z parts H).v u ∧ (buildR P t z parts H).H = H := by
  obtain ⟨zv, hz1, hz2⟩ := zeroOf_spec hz
  cases z <;> simp only [buildR, R.bad] at hok ⊢
  case agg cells =>
    cases hb : buildGo (placeOf P t) cells parts with
    | none => rw [hb] at hok; exact hok.elim
    | some q =>
      obtain ⟨c, out⟩ := q
      rw [hb] at hok
      simp only at hok ⊢
      have hzr := hz2 γ F
      simp only [Rep] at hzr
      obtain ⟨cs, rfl, hcs⟩ := hzr
      unfold placesOk at hpl
      cases hu : P.underlying t with
      | none => rw [hu] at hpl; simp at hpl
      | some d =>
        rw [hu] at hpl
        cases d <;> simp at hpl
        rename_i fs
        have hm := mapM_places (P := P) (w := w) fs.toList (fun f hf => by
          obtain ⟨i, hi, rfl⟩ := Array.mem_iff_getElem.1 (Array.mem_toList_iff.1 hf)
          exact hpl i hi)
        have hm' : (fs.mapM (m := Sem) fun f => do pure (f.offset, ← sizeOf f.type)).run P w = .ok (fs.map fun f => (f.offset, ((P.info? f.type).map (·.size)).getD 0)) w := by
          rw [← Array.toArray_toList (xs := fs)]
          simp only [List.mapM_toArray, List.map_toArray]
          simp only [map_eq_pure_bind, Sem.run_bind]
          rw [show (fs.toList.mapM (m := Sem) fun f => do let __do_lift ← sizeOf f.type; pure (f.offset, __do_lift)).run P w = _ from hm]
          simp
        obtain ⟨r, r1, r2⟩ := fill_sound (γ := γ) (F := F) (place := fun i => (fs.map fun f => (f.offset, ((P.info? f.type).map (·.size)).getD 0))[i]?) (placeV := placeOf P t) (by
          intro i off g k hq
          unfold placeOf fieldOf at hq
          rw [hu] at hq
          simp only at hq
          cases hf : fs[i]? with
          | none => rw [hf] at hq; simp at hq
          | some f =>
            rw [hf] at hq
            simp only [Option.map_eq_some_iff] at hq
            obtain ⟨⟨g', k'⟩, hl', e⟩ := hq
            simp at e
            obtain ⟨rfl, rfl, rfl⟩ := e
            refine ⟨?_, fun hg => by subst hg; exact lay_one hl'⟩
            simp only [Array.getElem?_map, hf, Option.map_some]
            cases hi : P.info? f.type with
            | none => unfold lay at hl'; rw [hi] at hl'; split at hl' <;> simp_all
            | some ii => simp [lay_info hl' hi]) parts pv.toList cells cs (by simpa using hl) (by intro j i x hj; simpa using hr j i x hj) hcs hb hok
        refine ⟨.agg r, ?_, by simp only [Rep]; exact ⟨r, rfl, r2⟩, trivial⟩
        simp only [Instr.build, Sem.run_bind, hz1, run_underlying hu, Result.andThen_ok, Value.cells, hm', r1, Sem.run_pure]

theorem partsInOrder_spec : ∀ (i : Nat) (parts : List (Nat × V)) (vs : List V), partsInOrder i parts = some vs → parts = (vs.zipIdx i).map fun (v, j) => (j, v)
  | i, [], vs, h => by simp [partsInOrder] at h; subst h; rfl
  | i, (j, v) :: rest, vs, h => by
    simp only [partsInOrder] at h
    split at h
    · rename_i e; subst e
      simp only [Option.map_eq_some_iff] at h
      obtain ⟨l, h1, rfl⟩ := h
      have := partsInOrder_spec _ _ _ h1
      simp [List.zipIdx_cons, this]
    · cases h

theorem fill_seq {g : Bool} {k : Nat} : ∀ (xs : List V) (pv : List (Nat × Value)) (i : Nat) (acc : Array Value), xs.length = pv.length →
    (∀ (j : Nat) x, xs[j]? = some x → ∃ v, pv[j]? = some (i + j, v) ∧ Rep γ F x v) → okElems g k xs → (g = false → k = 1) → acc.size = (i + xs.length) * k →
    ∃ r ws, Instr.fill (fun i => some (i * k, k)) acc pv = some r ∧ r.toList = acc.toList.take (i * k) ++ ws ∧ RepEs γ F k xs ws ∧ ws.length = xs.length * k
  | [], [], i, acc, _, _, _, _, hs => ⟨acc, [], rfl, by simp at hs; rw [List.take_of_length_le (by simp; omega)]; simp, by simp [RepEs], by simp⟩
  | x :: xs, [], i, acc, hl, _, _, _, _ => by simp at hl
  | [], _ :: _, i, acc, hl, _, _, _, _ => by simp at hl
  | x :: xs, (j, v) :: pv, i, acc, hl, hr, ho, hg, hs => by
    obtain ⟨v', e1, hv⟩ := hr 0 x (by simp)
    simp at e1
    obtain ⟨rfl, rfl⟩ := e1
    have ho1 : okVal g k x ∧ okElems g k xs := by cases xs <;> simp_all [okElems]
    obtain ⟨g1, g2, g3, g4⟩ := Rep.valCells hv ho1.1
    have hk : v.cells.size = k := by
      cases hgg : g
      · rw [g3 hgg, hg hgg]
      · exact g2 hgg
    simp only [List.length_cons] at hs
    have hbound : j * k + k ≤ acc.size := by
      rw [hs]
      have := Nat.mul_le_mul_right k (show j + 1 ≤ j + (xs.length + 1) by omega)
      rw [Nat.add_mul, Nat.one_mul] at this; exact this
    have hz := zipIdx_cells v.cells (j * k) acc (by omega)
    have hsz : (v.cells.zipIdx.foldl (fun cs (c, q) => cs.setIfInBounds (j * k + q) c) acc).size = acc.size := by
      have := congrArg List.length hz
      rw [Array.length_toList] at this
      rw [this]
      simp only [List.length_append, List.length_take, List.length_drop, Array.length_toList]
      omega
    obtain ⟨r, ws, r1, r2, r3, r4⟩ := fill_seq xs pv (j + 1) _ (by simpa using hl) (fun q y hq => by
      obtain ⟨u, h1, h2⟩ := hr (q + 1) y (by simpa using hq)
      exact ⟨u, by simpa [Nat.add_assoc, Nat.add_comm 1 q] using h1, h2⟩) ho1.2 hg (by rw [hsz, hs]; congr 1; omega)
    refine ⟨r, v.cells.toList ++ ws, ?_, ?_, ?_, ?_⟩
    · simp only [Instr.fill]
      rw [if_neg (by simp; omega)]
      exact r1
    · rw [r2, hz, Nat.add_mul, Nat.one_mul, ← List.append_assoc]
      congr 1
      rw [List.take_append_of_le_length (by simp; omega), List.take_of_length_le (by simp; omega)]
    · refine RepEs_cons.2 ⟨v.cells.toList, ws, rfl, by simpa using hk, ?_, r3, ?_⟩
      · cases hgg : g
        · subst hgg
          simp only [okVal] at ho1
          have : cellsOf x = [x] := by cases x <;> simp_all [V.isCell, cellsOf]
          rw [this]; simpa [Ab.valCells] using g1
        · subst hgg; simpa [Ab.valCells] using g1
      · cases hgg : g
        · exact .inr (hg hgg)
        · subst hgg
          left
          cases x <;> simp [okVal] at ho1
          exact ⟨_, rfl⟩
    · simp [hk, r4, Nat.add_mul]; omega

theorem buildSlice_sound (h : Rel γ F w H) {t e : TypeId} (ht : P.underlying t = some (.slice e)) {g : Bool} {k : Nat} (hl : lay P e = some (g, k)) {z : V} (hz : zeroOf P e = some z) {len : Nat} {parts : List (Nat × V)} {pv : Array (Nat × Value)} (hpl : parts.length = pv.size)
    (hr : ∀ (j : Nat) i x, parts[j]? = some (i, x) → ∃ v, pv[j]? = some (i, v) ∧ Rep γ F x v) (hok : (buildSliceR g k len parts H).ok) :
    Out P γ F w (do pure (.value (← Instr.buildSlice t len pv))) (buildSliceR g k len parts H).v (buildSliceR g k len parts H).H := by
  obtain ⟨zv, hz1, hz2⟩ := zeroOf_spec hz
  unfold buildSliceR at hok ⊢
  cases hp : partsInOrder 0 parts with
  | none => rw [hp] at hok; exact hok.elim
  | some vs =>
    rw [hp] at hok
    have hps := partsInOrder_spec 0 parts vs hp
    have hlen : parts.length = vs.length := by rw [hps]; simp
    cases vs with
    | nil =>
      simp only at hok ⊢
      cases len with
      | succ n => exact hok.elim
      | zero =>
        have hpv : pv = #[] := by
          have : pv.size = 0 := by rw [← hpl, hlen]; rfl
          simpa using this
        subst hpv
        obtain ⟨F', f1, f2, f3, f4⟩ := new_frozen h (.cells #[] e)
        refine ⟨.slice (some ⟨w.heap.size, 0, none⟩) 0 0, w.alloc (.cells #[] e), γ, F', .inl ?_, f4, f3, by simp only [Rep]; exact ⟨_, rfl⟩⟩
        simp [Instr.buildSlice, run_underlying ht, run_sizeOf' hl, Instr.fill, newRow, Array.range_zero']
    | cons x xs =>
      simp only at hok ⊢
      split at hok
      · rename_i hxl
        rw [if_pos hxl]
        obtain ⟨ho, hk0, hsmall⟩ := hok
        simp only
        have hne : ¬ (len * k = 0) := by
          have : 0 < len := by rw [← hxl]; simp
          have := Nat.mul_pos this hk0
          omega
        obtain ⟨r, ws, r1, r2, r3, r4⟩ := fill_seq (γ := γ) (F := F) (g := g) (k := k) (x :: xs) pv.toList 0 ((Array.range (len * k)).map (zv.cells[· % zv.cells.size]!)) (hlen.symm.trans (hpl.trans Array.length_toList.symm)) (fun j y hy => by
          obtain ⟨v, h1, h2⟩ := hr j j y (by rw [hps, List.getElem?_map, List.getElem?_zipIdx, hy]; simp)
          exact ⟨v, by simpa using h1, h2⟩) ho (fun hg => by subst hg; exact lay_one hl) (by simp [← hxl])
        simp only [Nat.zero_mul, List.take_zero, List.nil_append] at r2
        obtain ⟨F', f1, f2, f3, f4⟩ := new_frozen h (.cells r e)
        refine ⟨.slice (some ⟨w.heap.size, 0, none⟩) len len, w.alloc (.cells r e), γ, F', .inl ?_, f4, f3, ?_⟩
        · have hsm : ¬ (16777216 < len * k) := by omega
          simp [Instr.buildSlice, run_underlying ht, run_sizeOf' hl, hz1, newRow, hne, hsm]
          simp [r1]
        · simp only [Rep]
          refine ⟨_, len, by rw [hxl], by omega, .inr ⟨w.heap.size, 0, r, e, (0, 0), rfl, f2, ?_⟩⟩
          rw [List.drop_zero, r2]
          exact RepEs.mono (Ext.refl γ) f1 _ _ _ r3
      · exact hok.elim


theorem isU8_spec {e : TypeId} (h : isU8 P e = true) : P.underlying e = some (.int .u8) := by
  unfold isU8 at h; split at h
  · rename_i hu; exact hu
  · cases h

theorem okByte_rep {x : V} {v : Value} (h : Rep γ F x v) (ho : okByte x = true) : v = .int .u8 ((byteOfV x).toNat : Int) := by
  cases x <;> simp [okByte] at ho
  rename_i k n
  cases k <;> simp [okByte] at ho
  simp only [Rep] at h
  subst h
  simp only [byteOfV]
  have : ((UInt8.ofNat n.toNat).toNat : Int) = n := by
    rw [UInt8.toNat_ofNat']
    omega
  rw [this]

theorem bytes_cells : ∀ {xs : List V} {vs : List Value}, RepEs γ F 1 xs vs → xs.all okByte = true → vs.take xs.length = (xs.map byteOfV).map fun b => Value.int .u8 b.toNat
  | [], vs, h, _ => by simp
  | x :: xs, vs, h, ho => by
    obtain ⟨c, rest, rfl, h2, h3, h4, h5⟩ := RepEs_cons.1 h
    simp only [List.all_cons, Bool.and_eq_true] at ho
    have hc : cellsOf x = [x] := by cases x <;> simp_all [okByte, cellsOf]
    rw [hc] at h3
    simp only [RepC] at h3
    obtain ⟨v, ws, rfl, _, h6, rfl⟩ := h3
    have := bytes_cells h4 ho.2
    simp [this, okByte_rep h6 ho.1]

theorem bytesToString_at {b off len cap : Nat} {vs : Array Value} {t : TypeId} {fz : Nat × Nat} (hb : w.heap[b]? = some (.cells vs t fz)) {l : List UInt8} (hl : (vs.toList.drop off).take l.length = l.map fun b => Value.int .u8 b.toNat) (hlen : len = l.length) (hin : off + len ≤ vs.size) :
    (Conv.bytesToString (.slice (some ⟨b, off, none⟩) len cap)).run P w = .ok (.string ⟨l.toArray⟩) w := by
  subst hlen
  have h0 : (loadCells ⟨b, off, none⟩ l.length).run P w = .ok ((l.map fun c => (c.toNat : Int)).map (Value.int .u8)).toArray w := by
    rw [run_loadCells hb hin]
    congr 1
    apply Array.ext'
    rw [Array.toList_extract, List.extract_eq_take_drop, show off + l.length - off = l.length by omega, hl]
    simp
  rw [run_bytesToString w _ _ cap _ h0, foldl_push_byteCells]
  congr 2
  show (⟨#[] ++ l.toArray⟩ : ByteArray) = _
  simp

/-- Bytes as a text. -/
theorem bytesToString_sound (h : Rel γ F w H) {x : V} {xv : Value} (hx : Rep γ F x xv) {c : Prop} {k : Nat} {xs : List V} (he : elemsR x H = some (c, k, xs)) (hns : ∀ l, x ≠ .str l) (hc : c) (hk : k = 1 ∨ xs = []) (ho : xs.all okByte = true) :
    (Conv.bytesToString xv).run P w = .ok (.string ⟨(xs.map byteOfV).toArray⟩) w := by
  have empty : ∀ (a : Option Addr) (cap : Nat), (Conv.bytesToString (.slice a 0 cap)).run P w = .ok (.string ⟨#[]⟩) w := by
    intro a cap
    cases a with
    | none => rfl
    | some a =>
      have h0 : (loadCells a 0).run P w = .ok (([] : List Int).map (Value.int .u8)).toArray w := by simp [loadCells, loadCellsFrom]
      rw [run_bytesToString w a 0 cap [] h0]; rfl
  have block : ∀ (b off cap : Nat) (vs : Array Value) (t : TypeId) (fz : Nat × Nat), w.heap[b]? = some (.cells vs t fz) → RepEs γ F k xs (vs.toList.drop off) → (Conv.bytesToString (.slice (some ⟨b, off, none⟩) xs.length cap)).run P w = .ok (.string ⟨(xs.map byteOfV).toArray⟩) w := by
    intro b off cap vs t fz hb hes
    rcases hk with rfl | rfl
    · by_cases hx0 : xs = []
      · subst hx0; exact empty _ _
      · have hl := hes.length
        have : 0 < xs.length := by cases xs <;> simp at hx0 ⊢
        simp at hl
        exact bytesToString_at hb (by simpa using bytes_cells hes ho) (by simp) (by omega)
    · exact empty _ _
  cases x <;> simp only [elemsR] at he <;> try cases he
  case nilsl =>
    simp only [Rep] at hx
    obtain ⟨a, rfl⟩ := hx
    exact empty _ _
  case zsl =>
    simp only [Rep] at hx
    obtain ⟨a, rfl⟩ : ∃ a, _ = Value.slice a 0 0 := ⟨none, hx⟩
    exact empty _ _
  case sl =>
    simp only [Rep] at hx
    obtain ⟨a, cap, rfl, h1, h2⟩ := hx
    rcases h2 with rfl | ⟨b, off, vs, t, fz, rfl, h3, h4⟩
    · exact empty _ _
    · exact block b off _ vs t fz (h.frz _ _ h3) h4
  case str l => exact absurd rfl (hns l)
  case arr r L off n =>
    cases hoo : H[r]? with
    | none => rw [hoo] at he; cases he
    | some o =>
      rw [hoo] at he
      cases o <;> simp at he
      case arr t kk ys =>
        obtain ⟨hcc, rfl, rfl⟩ := he
        obtain ⟨hL, hn⟩ := hcc.2 hc
        subst hL
        simp only [Rep] at hx
        obtain ⟨a, c, rfl, l, h1, h2, h3, h4⟩ := hx
        have hlen : ((ys.drop off).take n).length = n := by simp; omega
        have hr := h.obj r _ _ h1 hoo
        cases l <;> simp only [RelO] at hr
        case nilarr =>
          subst hr
          have : n = 0 := by simp at hn; omega
          subst this
          simpa using empty a c
        case arr b cap L' k2 =>
          obtain ⟨rfl, rfl, hcap, vs, fz, g4, g5, g6, g7⟩ := hr
          obtain ⟨q1, q2, q3⟩ := h3 b cap kk rfl
          rcases q3 with q3 | rfl
          · have : n = 0 := by omega
            subst this
            simpa using empty a c
          · have := block b (off * kk) c vs t fz g4 (RepEs.take n (RepEs.drop off g6))
            rwa [hlen] at this

theorem conv_sound (h : Rel γ F w H) {src dst : TypeId} {x : V} {xv : Value} (hx : Rep γ F x xv) (hok : (convR P src dst x H).ok) :
    Out P γ F w (do pure (.value (← convert src dst xv))) (convR P src dst x H).v (convR P src dst x H).H := by
  unfold convR at hok ⊢
  split at hok
  · -- an int
    rename_i d k q n hs hd
    simp only [Rep] at hx; subst hx
    refine Out.value h (u := .int k (k.wrap n)) ?_ (by simp [Rep])
    simp [convert, run_underlying hs, run_underlying hd, Conv.intToInt]
  · -- a text
    rename_i d l hs hd
    simp only [Rep] at hx; subst hx
    refine Out.value h (u := .string ⟨l.toArray⟩) ?_ (by simp [Rep])
    simp [convert, run_underlying hs, run_underlying hd]
  · -- bytes of a text
    rename_i e l hs' hd
    obtain ⟨h8, hlen⟩ := hok
    simp only [Rep] at hx; subst hx
    have hu := isU8_spec h8
    have hsz : (⟨l.toArray⟩ : ByteArray).size = l.length := by show l.toArray.size = _; simp
    have hrun := run_bytes_of_string w src dst e ⟨l.toArray⟩ hs' hd hu
    rw [hsz] at hrun
    have hge := grownCap_ge w l.length 0 e
    have hrow : (bytesRow ⟨l.toArray⟩ (grownCap w l.length 0 e)).toList = (l.map fun b => Value.int .u8 b.toNat) ++ List.replicate (grownCap w l.length 0 e - l.length) (.int .u8 0) := by
      simp [bytesRow, hsz]
    have hrs : (bytesRow ⟨l.toArray⟩ (grownCap w l.length 0 e)).size = grownCap w l.length 0 e := by
      have := congrArg List.length hrow
      simp at this; omega
    have hes : RepEs γ F 1 (l.map byteV) (bytesRow ⟨l.toArray⟩ (grownCap w l.length 0 e)).toList := by
      rw [hrow]
      exact RepEs.more (RepEs.bytes l) fun i hi => by
        simp at hi
        rw [List.getElem?_append_left (by simpa using hi)]
    obtain ⟨r1, r2, r3⟩ := new_arr (e := e) (k := 1) h hes (cap := grownCap w l.length 0 e) (by rw [hrs]; omega) (by simpa using hge) (fz := ((bytesRow ⟨l.toArray⟩ (grownCap w l.length 0 e)).size, (bytesRow ⟨l.toArray⟩ (grownCap w l.length 0 e)).size + 1)) (fun i hi => by simp; omega)
      (w' := w.drew.alloc (.cells (bytesRow ⟨l.toArray⟩ (grownCap w l.length 0 e)) e ((bytesRow ⟨l.toArray⟩ (grownCap w l.length 0 e)).size, (bytesRow ⟨l.toArray⟩ (grownCap w l.length 0 e)).size + 1))) rfl rfl rfl rfl
    simp only [List.length_map] at r1 r2 r3
    exact ⟨_, _, _, _, .inl (run_val hrun), r2, r1, r3⟩
  · -- the text of bytes
    rename_i x _ _ _ e hs hd hne2
    cases he : elemsR x H with
    | none => rw [he] at hok; exact hok.elim
    | some q =>
      obtain ⟨c, k, xs⟩ := q
      rw [he] at hok
      simp only at hok ⊢
      obtain ⟨h8, hc, hk, ho⟩ := hok
      have hu := isU8_spec h8
      have hns : ∀ l, x ≠ .str l := fun l hl => hne2 l hl
      have hb := bytesToString_sound (P := P) h hx he hns hc hk ho
      refine Out.value h (u := .string ⟨(xs.map byteOfV).toArray⟩) ?_ (by simp [Rep])
      have hsl : ∃ a n c, xv = .slice a n c := by
        cases x <;> simp only [elemsR] at he <;> try cases he
        case str l => exact absurd rfl (hns l)
        case nilsl => simp only [Rep] at hx; obtain ⟨a, rfl⟩ := hx; exact ⟨_, _, _, rfl⟩
        case zsl => simp only [Rep] at hx; subst hx; exact ⟨_, _, _, rfl⟩
        case sl => simp only [Rep] at hx; obtain ⟨a, c, rfl, _⟩ := hx; exact ⟨_, _, _, rfl⟩
        case arr => simp only [Rep] at hx; obtain ⟨a, c, rfl, _⟩ := hx; exact ⟨_, _, _, rfl⟩
      obtain ⟨a, n, cc, rfl⟩ := hsl
      simp only [convert, Sem.run_bind, run_underlying hs, run_underlying hd, Result.andThen_ok, run_underlying hu]
      exact hb
  · exact hok.elim
end
end Go.Ab
namespace Go.Ab
variable [Env]
section
variable {P : Program} {γ : List Loc} {F : Frz} {w : World} {H : Heap}

theorem replicate_cells (z : List Value) : ∀ (n : Nat), (List.replicate n z).flatten.length = n * z.length
  | 0 => by simp
  | n + 1 => by rw [List.replicate_succ, List.flatten_cons, List.length_append, replicate_cells z n, Nat.add_mul]; omega

theorem flatten_get (z : List Value) (hz : 0 < z.length) : ∀ (n i : Nat), i < n * z.length → (List.replicate n z).flatten[i]? = z[i % z.length]?
  | 0, i, h => by simp at h
  | n + 1, i, h => by
    rw [List.replicate_succ, List.flatten_cons]
    by_cases hi : i < z.length
    · rw [List.getElem?_append_left hi, Nat.mod_eq_of_lt hi]
    · rw [List.getElem?_append_right (by omega), flatten_get z hz n _ (by rw [Nat.add_mul] at h; omega)]
      congr 1
      rw [← Nat.mod_eq_sub_mod (by omega)]

theorem made_es {z : V} {zv : Value} {g : Bool} {k : Nat} (hz : Rep γ F z zv) (hok : okVal g k z) (hg : g = false → k = 1) (hk0 : 0 < k) {n cap : Nat} (hn : n ≤ cap) :
    RepEs γ F k (List.replicate n z) (madeCells zv.cells (cap * k)).toList := by
  obtain ⟨g1, g2, g3, g4⟩ := Rep.valCells hz hok
  have hk : zv.cells.size = k := size_zero hz hok hg
  have hcz : valCells g z = cellsOf z ∧ ((∃ cs, z = .agg cs) ∨ k = 1) := by
    cases hgg : g
    · subst hgg
      simp only [okVal] at hok
      exact ⟨by cases z <;> simp_all [V.isCell, cellsOf, valCells], .inr (hg rfl)⟩
    · subst hgg
      cases z <;> simp [okVal] at hok
      exact ⟨rfl, .inl ⟨_, rfl⟩⟩
  have h1 := RepEs.replicate (γ := γ) (F := F) (k := k) (x := z) (c := zv.cells.toList) (by simpa using hk) (by rw [← hcz.1]; exact g1) hcz.2 n
  refine RepEs.more h1 fun i hi => ?_
  simp only [List.length_replicate] at hi
  have hck : n * k ≤ cap * k := Nat.mul_le_mul_right k hn
  rw [flatten_get _ (by simp; omega) n i (by simpa [hk] using hi)]
  simp only [Array.length_toList, Array.getElem?_toList, madeCells, Array.getElem?_map, Array.getElem?_range, hk]
  rw [if_pos (by omega)]
  have : i % k < zv.cells.size := by rw [hk]; exact Nat.mod_lt _ hk0
  simp [Array.getElem?_eq_getElem this, getElem!_pos zv.cells (i % k) this]

theorem makeSlice_sound (h : Rel γ F w H) {t e : TypeId} (ht : P.underlying t = some (.slice e)) {g : Bool} {k : Nat} (hl : lay P e = some (g, k)) {i : TypeInfo} (hi : P.info? e = some i) {z : V} (hz : zeroOf P e = some z) {l c : V} {lv cv : Value} (hlr : Rep γ F l lv) (hcr : Rep γ F c cv)
    (hok : (makeSliceR e g k i.bytes z l c H).ok) : Out P γ F w (do pure (.value (← Instr.makeSlice t lv cv))) (makeSliceR e g k i.bytes z l c H).v (makeSliceR e g k i.bytes z l c H).H := by
  obtain ⟨zv, hz1, hz2⟩ := zeroOf_info hz hi
  have hik := lay_info hl hi
  have hzr : Rep γ F z zv := by rw [hz2]; exact ofConst_rep zv
  cases l <;> cases c <;> simp only [makeSliceR, R.bad] at hok ⊢ <;> try exact hok.elim
  rename_i kl n kc m
  obtain ⟨h0, h1, h2, h3, h4, h5⟩ := hok
  simp only [Rep] at hlr hcr
  subst hlr hcr
  have hrun := run_make (P := P) w t e i zv ht hi hz1 kl kc n m h0 h1 (by have : (i.bytes : Int) * m = m * i.bytes := Int.mul_comm _ _; omega) (by omega)
  have hg : g = false → k = 1 := fun hg => by subst hg; exact lay_one hl
  rw [hik] at hrun
  have hes := made_es (γ := γ) (F := F) hzr h4 hg h5 (show n.toNat ≤ m.toNat by omega)
  obtain ⟨r1, r2, r3⟩ := new_arr (e := e) h hes (cap := m.toNat) (by rw [size_madeCells]) (by simp; omega) (fz := (0, 0)) (fun i _ => by simp) (w' := w.alloc (.cells (madeCells zv.cells (m.toNat * k)) e)) rfl rfl rfl rfl
  simp only [List.length_replicate] at r1 r2 r3
  exact ⟨_, _, _, _, .inl (run_val hrun), r2, r1, r3⟩

theorem RepL.ofOperands {ρ : Operand → V} {ρ' : Operand → Value} (h : ∀ x, Rep γ F (ρ x) (ρ' x)) (l : List Operand) : RepL γ F (l.map ρ) (l.map ρ') := RepL.map fun a _ => h a

theorem builtin_sound (h : Rel γ F w H) {b : Builtin} {ats : Array TypeId} {ty : TypeId} {consts : Array Bool} {args : List V} {av : Array Value} (ha : RepL γ F args av.toList) (hok : (builtinR P b args ats.toList H).ok) :
    Out P γ F w (builtin b ats ty consts av) (builtinR P b args ats.toList H).v (builtinR P b args ats.toList H).H := by
  have same : ∀ {s : Sem Value} {r : R}, (∃ u, s.run P w = .ok u w ∧ Rep γ F r.v u ∧ r.H = H) → Out P γ F w (do pure (.value (← s))) r.v r.H := by
    rintro s r ⟨u, h1, h2, h3⟩
    rw [h3]
    exact Out.value h h1 h2
  have one : ∀ {x : V}, RepL γ F [x] av.toList → ∃ u, av = #[u] ∧ Rep γ F x u := by
    intro x hx
    simp only [RepL] at hx
    obtain ⟨v, ws, h1, h2, rfl⟩ := hx
    exact ⟨v, by rw [← Array.toArray_toList (xs := av), h1], h2⟩
  have two : ∀ {x y : V}, RepL γ F [x, y] av.toList → ∃ u v, av = #[u, v] ∧ Rep γ F x u ∧ Rep γ F y v := by
    intro x y hx
    simp only [RepL] at hx
    obtain ⟨v, ws, h1, h2, v', ws', h3, h4, rfl⟩ := hx
    exact ⟨v, v', by rw [← Array.toArray_toList (xs := av), h1, h3], h2, h4⟩
  unfold builtinR at hok ⊢
  generalize hats : ats.toList = al at hok ⊢
  split at hok
  · rename_i x t
    obtain ⟨u, rfl, h1⟩ := one ha
    have e : ats = #[t] := by rw [← Array.toArray_toList (xs := ats), hats]
    subst e
    exact same (len_sound h h1 hok)
  · rename_i s x t u
    obtain ⟨sv, xv, rfl, h1, h2⟩ := two ha
    have e : ats = #[t, u] := by rw [← Array.toArray_toList (xs := ats), hats]
    subst e
    split at hok
    · rename_i e he
      split at hok
      · rename_i g k i z q hl hi hz hu
        exact append_sound h (elemOfSlice_spec he) (.inl ⟨_, hu⟩) hl hi hz h1 h2 hok
      · rename_i g k i z hl hi hz hu
        exact append_sound h (elemOfSlice_spec he) (.inr hu) hl hi hz h1 h2 hok
      · exact hok.elim
    · exact hok.elim
  · obtain ⟨sv, xv, rfl, h1, h2⟩ := two ha
    exact same (s := Builtin.min_ ats ty #[sv, xv]) (min_sound (mx := false) (ats := ats) (ty := ty) h1 h2 hok)
  · obtain ⟨sv, xv, rfl, h1, h2⟩ := two ha
    exact same (s := Builtin.max_ ats ty #[sv, xv]) (min_sound (mx := true) (ats := ats) (ty := ty) h1 h2 hok)
  · exact hok.elim

set_option maxHeartbeats 2000000 in
/-- Every operation but calls. -/
theorem ares_sound (h : Rel γ F w H) {ρ : Operand → V} {ρ' : Operand → Value} (hρ : ∀ x, Rep γ F (ρ x) (ρ' x)) {o : Oper} (hok : (ares P ρ H o.op).ok) :
    Out P γ F w (execOp ρ' o) (ares P ρ H o.op).v (ares P ρ H o.op).H := by
  have opt : ∀ (q : Option Operand), (∀ v, q.map ρ = some v → ∃ u, q.map ρ' = some u ∧ Rep γ F v u) ∧ (q.map ρ = none → q.map ρ' = none) := by
    intro q
    cases q with
    | none => simp
    | some x => exact ⟨fun v hv => by simp at hv; subst hv; exact ⟨_, rfl, hρ x⟩, by simp⟩
  obtain ⟨dst, op, ty, pos, after, guard⟩ := o
  simp only at hok ⊢
  have same : ∀ {s : Sem Value} {r : R}, (∃ u, s.run P w = .ok u w ∧ Rep γ F r.v u ∧ r.H = H) → Out P γ F w (do pure (.value (← s))) r.v r.H := by
    rintro s r ⟨u, h1, h2, h3⟩
    rw [h3]
    exact Out.value h h1 h2
  cases op <;> simp only [ares, R.bad] at hok ⊢ <;> try exact hok.elim
  case move x => exact Out.same h (by simp [execOp]) (hρ x)
  case assign x => exact Out.same h (by simp [execOp]) (hρ x)
  case pick c a b =>
    obtain ⟨u, h1, h2, h3⟩ := pick_sound (P := P) (w := w) (hρ c) (hρ a) (hρ b) hok
    rw [h3]
    exact Out.same h h1 h2
  case alloc t =>
    split at hok
    · rename_i z g k hz hl
      try simp only [hz, hl]
      exact alloc_sound h hz hl hok
    · exact hok.elim
  case box t x =>
    split at hok
    · rename_i g k hl
      try simp only [hl]
      exact box_sound h (hρ x) hl hok
    · exact hok.elim
  case build t parts =>
    split at hok
    · rename_i z hz hp
      refine same (s := Instr.build t (parts.map fun (i, x) => (i, ρ' x))) (build_sound h hz hp (by simp) ?_ hok)
      intro j i x hj
      simp only [List.getElem?_map, Array.getElem?_toList, Option.map_eq_some_iff] at hj
      obtain ⟨⟨i', y⟩, h1, h2⟩ := hj
      simp at h2
      obtain ⟨rfl, rfl⟩ := h2
      exact ⟨ρ' y, by simp [h1], hρ y⟩
    · exact hok.elim
  case buildSlice t len parts =>
    split at hok
    · rename_i e he
      split at hok
      · rename_i g k z hl hz
        try simp only [he, hl, hz]
        have hpl : (List.map (fun x : Nat × Operand => (x.fst, ρ x.snd)) parts.toList).length = (parts.map fun (x : Nat × Operand) => (x.1, ρ' x.2)).size := by simp
        have hr : ∀ (j : Nat) i x, (List.map (fun x : Nat × Operand => (x.fst, ρ x.snd)) parts.toList)[j]? = some (i, x) → ∃ v, (parts.map fun (x : Nat × Operand) => (x.1, ρ' x.2))[j]? = some (i, v) ∧ Rep γ F x v := by
          intro j i x hj
          simp only [List.getElem?_map, Array.getElem?_toList, Option.map_eq_some_iff] at hj
          obtain ⟨⟨i', y⟩, h1, h2⟩ := hj
          simp at h2
          obtain ⟨rfl, rfl⟩ := h2
          exact ⟨ρ' y, by simp [h1], hρ y⟩
        have := buildSlice_sound h (elemOfSlice_spec he) hl hz (len := len) hpl hr hok
        exact this
      · exact hok.elim
    · exact hok.elim
  case load t a =>
    split at hok
    · rename_i g k hl
      try simp only [hl]
      exact same (load_sound h hl (hρ a) hok)
    · exact hok.elim
  case store t a x =>
    split at hok
    · rename_i g k hl
      try simp only [hl]
      obtain ⟨w', h1, h2, h3⟩ := store_sound h hl (hρ a) (hρ x) hok
      refine ⟨undef, w', γ, F, .inr ⟨by simp [execOp, h1], rfl⟩, h2, h3, ?_⟩
      have : (storeR g k (ρ a) (ρ x) H).v = .tup [] := by
        unfold storeR at hok ⊢
        split
        · split
          · rfl
          · rename_i hp _ ; rename_i q1 q2 q3; simp_all [R.bad]
        · split
          · rfl
          · simp_all [R.bad]
        · simp_all [R.bad]
      rw [this]
      simp only [Rep]
      exact ⟨#[], rfl, by simp [RepL]⟩
    · exact hok.elim
  case nilCheck x =>
    obtain ⟨h1, h2, h3⟩ := nilCheck_sound (P := P) h (hρ x) hok (ρ' := ρ') (x := x) rfl (o := ⟨dst, .nilCheck x, ty, pos, after, guard⟩) rfl
    rw [h3]
    exact Out.same h h1 h2
  case binOp op t x y yt =>
    exact same (bin_sound (P := P) (hρ x) (hρ y) hok)
  case unOp op t x => exact same (un_sound (hρ x) hok)
  case convert src dst x => exact conv_sound h (hρ x) hok
  case makeInterface t x =>
    split at hok
    · exact hok.elim
    · rename_i hf
      rw [if_neg hf]
      cases hu : P.underlying t with
      | none => rw [hu] at hok; simp at hok
      | some d =>
        refine Out.value h (u := .iface t (ρ' x)) ?_ (by simp only [Rep]; exact ⟨_, rfl, hρ x⟩)
        simp only [Instr.makeInterface, Sem.run_bind, run_underlying hu, Result.andThen_ok]
        cases d <;> first | rfl | (simp [isFace, hu] at hf)
  case makeFunc fn first captured =>
    cases fn <;> simp only [R.bad] at hok ⊢ <;> try exact hok.elim
    rename_i f
    refine Out.value h (u := .func (.func f) (first.map ρ') (captured.map ρ')) (by simp [Instr.makeFunc]) ?_
    simp only [Rep]
    exact ⟨_, _, rfl, by simpa using RepL.ofOperands hρ first.toList, by simpa using RepL.ofOperands hρ captured.toList⟩
  case makeMap t r =>
    cases r <;> simp only [R.bad] at hok ⊢ <;> try exact hok.elim
    exact makeMap_sound h
  case makeSlice t l c =>
    split at hok
    · rename_i e he
      split at hok
      · rename_i g k i z hl hi hz
        try simp only [he, hl, hi, hz]
        exact makeSlice_sound h (elemOfSlice_spec he) hl hi hz (hρ l) (hρ c) hok
      · exact hok.elim
    · exact hok.elim
  case slice t x lo hi mx =>
    split at hok
    · rename_i hu
      try simp only [hu]
      exact same (sliceStr_sound h hu (hρ x) (opt lo).1 (opt lo).2 (opt hi).1 (opt hi).2 (opt mx).2 hok)
    · rename_i e hu
      split at hok
      · rename_i g k hl
        try simp only [hu, hl]
        exact same (sliceSl_sound h hu hl (hρ x) (opt lo).1 (opt lo).2 (opt hi).1 (opt hi).2 (opt mx).1 (opt mx).2 hok)
      · exact hok.elim
    · exact hok.elim
  case fieldAddr s x f =>
    split at hok
    · rename_i fl hf
      split at hok
      · exact hok.elim
      · rename_i p hne hl
        obtain ⟨g, k⟩ := p
        cases k with
        | zero => exact (hne g rfl).elim
        | succ k' => exact same (fieldAddr_sound h hf hl (hρ x) hok)
      · exact hok.elim
    · exact hok.elim
  case field s x f =>
    split at hok
    · rename_i fl hf
      split at hok
      · rename_i g k hl
        try simp only [hf, hl]
        exact same (field_sound h hf hl (hρ x) hok)
      · exact hok.elim
    · exact hok.elim
  case indexAddr t x i =>
    split at hok
    · rename_i e he
      split at hok
      · rename_i g k hl
        try simp only [he, hl]
        exact same (indexAddr_sound h he hl (hρ x) (hρ i) hok)
      · exact hok.elim
    · exact hok.elim
  case index t x i =>
    split at hok
    · rename_i hu
      try simp only [hu]
      exact same (index_sound h hu (hρ x) (hρ i) hok)
    · exact hok.elim
  case lookup t m k ok =>
    split at hok
    · rename_i kt e ht
      split at hok
      · rename_i d z hd hz
        try simp only [ht, hd, hz]
        exact same (lookup_sound h ht hd hz (hρ m) (hρ k) hok)
      · exact hok.elim
    · exact hok.elim
  case mapUpdate t m k x =>
    split at hok
    · rename_i kt e ht
      split at hok
      · rename_i d hd
        try simp only [ht, hd]
        obtain ⟨w', h1, h2, h3⟩ := mapUpdate_sound h ht hd (hρ m) (hρ k) (hρ x) hok
        refine ⟨undef, w', γ, F, .inr ⟨by simp [execOp, h1], rfl⟩, h2, h3, ?_⟩
        have : (mapUpdateR d (ρ m) (ρ k) (ρ x) H).v = .tup [] := by
          unfold mapUpdateR at hok ⊢
          split
          · split
            · rfl
            · simp_all [R.bad]
          · simp_all [R.bad]
        rw [this]
        simp only [Rep]
        exact ⟨#[], rfl, by simp [RepL]⟩
      · exact hok.elim
    · exact hok.elim
  case extract t i => exact same (extract_sound (hρ t) hok)
  case call c =>
    obtain ⟨callee, args, argTypes⟩ := c
    cases callee <;> simp only at hok ⊢ <;> try exact hok.elim
    rename_i b
    obtain ⟨cs, hcs⟩ : ∃ cs, execOp ρ' ⟨dst, .call ⟨.builtin b, args, argTypes⟩, ty, pos, after, guard⟩ = builtin b argTypes ty cs (args.map ρ') := ⟨_, rfl⟩
    rw [hcs]
    exact builtin_sound h (b := b) (ats := argTypes) (ty := ty) (consts := cs) (args := args.toList.map ρ) (av := args.map ρ') (by simpa using RepL.ofOperands hρ args.toList) hok
end
end Go.Ab
namespace Go.Ab
variable [Env]

mutual
/-- A value with its objects renumbered. -/
def ren (f : Nat → Option Nat) : V → V
  | .ptr r off => match f r with | some i => .ptr i off | none => .junk
  | .cptr cs => .cptr (renL f cs)
  | .eptr r L i o => match f r with | some j => .eptr j L i o | none => .junk
  | .sl k xs => .sl k (renL f xs)
  | .arr r L off n => match f r with | some j => .arr j L off n | none => .junk
  | .mp r => match f r with | some j => .mp j | none => .junk
  | .yld r => match f r with | some j => .yld j | none => .junk
  | .fn g a c => .fn g (renL f a) (renL f c)
  | .iface t v => .iface t (ren f v)
  | .agg cs => .agg (renL f cs)
  | .tup vs => .tup (renL f vs)
  | .bool b => .bool b
  | .int k n => .int k n
  | .str s => .str s
  | .nilptr => .nilptr
  | .nilsl => .nilsl
  | .zsl => .zsl
  | .nilmap => .nilmap
  | .nilfn => .nilfn
  | .niliface => .niliface
  | .opq => .opq
  | .junk => .junk
def renL (f : Nat → Option Nat) : List V → List V
  | [] => []
  | v :: vs => ren f v :: renL f vs
end

def renM (f : Nat → Option Nat) : List (V × V) → List (V × V)
  | [] => []
  | (k, x) :: es => (ren f k, ren f x) :: renM f es

def renO (f : Nat → Option Nat) : Ob → Ob
  | .cells t cs => .cells t (renL f cs)
  | .arr t k xs => .arr t k (renL f xs)
  | .mp es => .mp (renM f es)
  | .loop k env st pend => .loop k (renL f env) st pend
  | .dead => .dead

/-- The first n objects stay, and some more. -/
def newIx (n : Nat) (ks : List Nat) (r : Nat) : Option Nat := if r < n then some r else (ks.idxOf? r).map (n + ·)

def trimH (n : Nat) (ks : List Nat) (H : Heap) : Heap := ((H.take n) ++ ks.map fun k => H.getD k .dead).map (renO (newIx n ks))

def trimG (n : Nat) (ks : List Nat) (γ : List Loc) : List Loc := (γ.take n) ++ ks.map fun k => γ.getD k .dead

section
variable {γ γ' γ0 : List Loc} {F F' F0 : Frz} {w w' w0 : World} {H : Heap} {f : Nat → Option Nat}

theorem renL_len : ∀ xs : List V, (renL f xs).length = xs.length
  | [] => rfl
  | x :: xs => by simp [renL, renL_len xs]

theorem ren_agg {x : V} (h : ∀ cs, x ≠ .agg cs) : ∀ cs, ren f x ≠ .agg cs := by
  intro cs
  cases x <;> simp only [ren] <;> first | exact absurd rfl (h _) | (split <;> simp) | simp

mutual
theorem Rep.ren (hf : ∀ (r i : Nat) l, f r = some i → γ[r]? = some l → γ'[i]? = some l) : ∀ (x : V) {v : Value}, Rep γ F x v → Rep γ' F (ren f x) v
  | .ptr r off, v, h => by
    simp only [Go.Ab.ren]
    split
    · rename_i i hi
      simp only [Rep] at h ⊢
      obtain ⟨b, h1, h2⟩ := h
      exact ⟨b, hf r i _ hi h1, h2⟩
    · simp only [Rep]
  | .cptr cs, v, h => by
    simp only [Go.Ab.ren, Rep] at h ⊢
    obtain ⟨b, off, vs, t, fz, h1, h2, ws, rest, h3, h4⟩ := h
    exact ⟨b, off, vs, t, fz, h1, h2, ws, rest, h3, RepC.ren hf cs h4⟩
  | .eptr r L i o, v, h => by
    simp only [Go.Ab.ren]
    split
    · rename_i j hj
      simp only [Rep] at h ⊢
      obtain ⟨b, p, h1, l, h2, h3⟩ := h
      exact ⟨b, p, h1, l, hf r j _ hj h2, h3⟩
    · simp only [Rep]
  | .sl k xs, v, h => by
    simp only [Go.Ab.ren, Rep] at h ⊢
    obtain ⟨a, cap, h1, h2, h3⟩ := h
    refine ⟨a, cap, by rw [renL_len]; exact h1, by rw [renL_len]; exact h2, ?_⟩
    rcases h3 with rfl | ⟨b, off, vs, t, fz, h4, h5, h6⟩
    · left; rfl
    · right; exact ⟨b, off, vs, t, fz, h4, h5, RepEs.ren hf k xs h6⟩
  | .arr r L off n, v, h => by
    simp only [Go.Ab.ren]
    split
    · rename_i j hj
      simp only [Rep] at h ⊢
      obtain ⟨a, c, h1, l, h2, h3⟩ := h
      exact ⟨a, c, h1, l, hf r j _ hj h2, h3⟩
    · simp only [Rep]
  | .mp r, v, h => by
    simp only [Go.Ab.ren]
    split
    · rename_i j hj
      simp only [Rep] at h ⊢
      obtain ⟨b, h1, h2⟩ := h
      exact ⟨b, hf r j _ hj h1, h2⟩
    · simp only [Rep]
  | .yld r, v, h => by
    simp only [Go.Ab.ren]
    split
    · rename_i j hj
      simp only [Rep] at h ⊢
      obtain ⟨b, h1, h2⟩ := h
      exact ⟨b, hf r j _ hj h1, h2⟩
    · simp only [Rep]
  | .fn g a c, v, h => by
    simp only [Go.Ab.ren, Rep] at h ⊢
    obtain ⟨as, cs, h1, h2, h3⟩ := h
    exact ⟨as, cs, h1, RepL.ren hf a h2, RepL.ren hf c h3⟩
  | .iface t x, v, h => by
    simp only [Go.Ab.ren, Rep] at h ⊢
    obtain ⟨u, h1, h2⟩ := h
    exact ⟨u, h1, Rep.ren hf x h2⟩
  | .agg cs, v, h => by
    simp only [Go.Ab.ren, Rep] at h ⊢
    obtain ⟨vs, h1, h2⟩ := h
    exact ⟨vs, h1, RepC.ren hf cs h2⟩
  | .tup xs, v, h => by
    simp only [Go.Ab.ren, Rep] at h ⊢
    obtain ⟨vs, h1, h2⟩ := h
    exact ⟨vs, h1, RepL.ren hf xs h2⟩
  | .bool b, v, h => by simpa only [Go.Ab.ren, Rep] using h
  | .int k n, v, h => by simpa only [Go.Ab.ren, Rep] using h
  | .str s, v, h => by simpa only [Go.Ab.ren, Rep] using h
  | .nilptr, v, h => by simpa only [Go.Ab.ren, Rep] using h
  | .nilsl, v, h => by simpa only [Go.Ab.ren, Rep] using h
  | .zsl, v, h => by simpa only [Go.Ab.ren, Rep] using h
  | .nilmap, v, h => by simpa only [Go.Ab.ren, Rep] using h
  | .nilfn, v, h => by simpa only [Go.Ab.ren, Rep] using h
  | .niliface, v, h => by simpa only [Go.Ab.ren, Rep] using h
  | .opq, v, h => by simpa only [Go.Ab.ren, Rep] using h
  | .junk, v, h => by simp only [Go.Ab.ren, Rep]
theorem RepL.ren (hf : ∀ (r i : Nat) l, f r = some i → γ[r]? = some l → γ'[i]? = some l) : ∀ (xs : List V) {vs : List Value}, RepL γ F xs vs → RepL γ' F (renL f xs) vs
  | [], vs, h => h
  | x :: xs, vs, h => by
    simp only [renL, RepL] at h ⊢
    obtain ⟨v, ws, h1, h2, h3⟩ := h
    exact ⟨v, ws, h1, Rep.ren hf x h2, RepL.ren hf xs h3⟩
theorem RepC.ren (hf : ∀ (r i : Nat) l, f r = some i → γ[r]? = some l → γ'[i]? = some l) : ∀ (xs : List V) {vs : List Value}, RepC γ F xs vs → RepC γ' F (renL f xs) vs
  | [], vs, h => h
  | x :: xs, vs, h => by
    simp only [renL, RepC] at h ⊢
    obtain ⟨v, ws, h1, h2, h3, h4⟩ := h
    exact ⟨v, ws, h1, h2, Rep.ren hf x h3, RepC.ren hf xs h4⟩
theorem RepEs.ren (hf : ∀ (r i : Nat) l, f r = some i → γ[r]? = some l → γ'[i]? = some l) (k : Nat) : ∀ (xs : List V) {vs : List Value}, RepEs γ F k xs vs → RepEs γ' F k (renL f xs) vs
  | [], vs, h => by simp only [renL, RepEs]
  | .agg cs :: xs, vs, h => by
    simp only [renL, Go.Ab.ren, RepEs] at h ⊢
    obtain ⟨c, rest, h1, h2, h3, h4⟩ := h
    exact ⟨c, rest, h1, h2, RepC.ren hf cs h3, RepEs.ren hf k xs h4⟩
  | .ptr r off :: xs, vs, h => by
    simp only [RepEs] at h
    obtain ⟨v, rest, h1, h2, h3, h4, h5⟩ := h
    have h4' := Rep.ren hf _ h4
    have h5' := RepEs.ren hf k xs h5
    simp only [Go.Ab.ren, renL] at h4' ⊢
    revert h4'
    split <;> intro h4' <;> simp only [RepEs] <;> exact ⟨v, rest, h1, h2, h3, h4', h5'⟩
  | .eptr r L i o :: xs, vs, h => by
    simp only [RepEs] at h
    obtain ⟨v, rest, h1, h2, h3, h4, h5⟩ := h
    have h4' := Rep.ren hf _ h4
    have h5' := RepEs.ren hf k xs h5
    simp only [Go.Ab.ren, renL] at h4' ⊢
    revert h4'
    split <;> intro h4' <;> simp only [RepEs] <;> exact ⟨v, rest, h1, h2, h3, h4', h5'⟩
  | .arr r L off n :: xs, vs, h => by
    simp only [RepEs] at h
    obtain ⟨v, rest, h1, h2, h3, h4, h5⟩ := h
    have h4' := Rep.ren hf _ h4
    have h5' := RepEs.ren hf k xs h5
    simp only [Go.Ab.ren, renL] at h4' ⊢
    revert h4'
    split <;> intro h4' <;> simp only [RepEs] <;> exact ⟨v, rest, h1, h2, h3, h4', h5'⟩
  | .mp r :: xs, vs, h => by
    simp only [RepEs] at h
    obtain ⟨v, rest, h1, h2, h3, h4, h5⟩ := h
    have h4' := Rep.ren hf _ h4
    have h5' := RepEs.ren hf k xs h5
    simp only [Go.Ab.ren, renL] at h4' ⊢
    revert h4'
    split <;> intro h4' <;> simp only [RepEs] <;> exact ⟨v, rest, h1, h2, h3, h4', h5'⟩
  | .yld r :: xs, vs, h => by
    simp only [RepEs] at h
    obtain ⟨v, rest, h1, h2, h3, h4, h5⟩ := h
    have h4' := Rep.ren hf _ h4
    have h5' := RepEs.ren hf k xs h5
    simp only [Go.Ab.ren, renL] at h4' ⊢
    revert h4'
    split <;> intro h4' <;> simp only [RepEs] <;> exact ⟨v, rest, h1, h2, h3, h4', h5'⟩
  | .cptr cs :: xs, vs, h => by
    simp only [RepEs] at h
    obtain ⟨v, rest, h1, h2, h3, h4, h5⟩ := h
    have h4' := Rep.ren hf _ h4
    simp only [Go.Ab.ren] at h4'
    simp only [Go.Ab.ren, renL, RepEs]
    exact ⟨v, rest, h1, h2, h3, h4', RepEs.ren hf k xs h5⟩
  | .sl q ys :: xs, vs, h => by
    simp only [RepEs] at h
    obtain ⟨v, rest, h1, h2, h3, h4, h5⟩ := h
    have h4' := Rep.ren hf _ h4
    simp only [Go.Ab.ren] at h4'
    simp only [Go.Ab.ren, renL, RepEs]
    exact ⟨v, rest, h1, h2, h3, h4', RepEs.ren hf k xs h5⟩
  | .fn g a c :: xs, vs, h => by
    simp only [RepEs] at h
    obtain ⟨v, rest, h1, h2, h3, h4, h5⟩ := h
    have h4' := Rep.ren hf _ h4
    simp only [Go.Ab.ren] at h4'
    simp only [Go.Ab.ren, renL, RepEs]
    exact ⟨v, rest, h1, h2, h3, h4', RepEs.ren hf k xs h5⟩
  | .iface t x :: xs, vs, h => by
    simp only [RepEs] at h
    obtain ⟨v, rest, h1, h2, h3, h4, h5⟩ := h
    have h4' := Rep.ren hf _ h4
    simp only [Go.Ab.ren] at h4'
    simp only [Go.Ab.ren, renL, RepEs]
    exact ⟨v, rest, h1, h2, h3, h4', RepEs.ren hf k xs h5⟩
  | .tup ts :: xs, vs, h => by
    simp only [RepEs] at h
    obtain ⟨v, rest, h1, h2, h3, h4, h5⟩ := h
    have h4' := Rep.ren hf _ h4
    simp only [Go.Ab.ren] at h4'
    simp only [Go.Ab.ren, renL, RepEs]
    exact ⟨v, rest, h1, h2, h3, h4', RepEs.ren hf k xs h5⟩
  | .bool b :: xs, vs, h => by
    simp only [RepEs] at h
    obtain ⟨v, rest, h1, h2, h3, h4, h5⟩ := h
    have h4' := Rep.ren hf _ h4
    simp only [Go.Ab.ren] at h4'
    simp only [Go.Ab.ren, renL, RepEs]
    exact ⟨v, rest, h1, h2, h3, h4', RepEs.ren hf k xs h5⟩
  | .int q n :: xs, vs, h => by
    simp only [RepEs] at h
    obtain ⟨v, rest, h1, h2, h3, h4, h5⟩ := h
    have h4' := Rep.ren hf _ h4
    simp only [Go.Ab.ren] at h4'
    simp only [Go.Ab.ren, renL, RepEs]
    exact ⟨v, rest, h1, h2, h3, h4', RepEs.ren hf k xs h5⟩
  | .str s :: xs, vs, h => by
    simp only [RepEs] at h
    obtain ⟨v, rest, h1, h2, h3, h4, h5⟩ := h
    have h4' := Rep.ren hf _ h4
    simp only [Go.Ab.ren] at h4'
    simp only [Go.Ab.ren, renL, RepEs]
    exact ⟨v, rest, h1, h2, h3, h4', RepEs.ren hf k xs h5⟩
  | .nilptr :: xs, vs, h => by
    simp only [RepEs] at h
    obtain ⟨v, rest, h1, h2, h3, h4, h5⟩ := h
    have h4' := Rep.ren hf _ h4
    simp only [Go.Ab.ren] at h4'
    simp only [Go.Ab.ren, renL, RepEs]
    exact ⟨v, rest, h1, h2, h3, h4', RepEs.ren hf k xs h5⟩
  | .nilsl :: xs, vs, h => by
    simp only [RepEs] at h
    obtain ⟨v, rest, h1, h2, h3, h4, h5⟩ := h
    have h4' := Rep.ren hf _ h4
    simp only [Go.Ab.ren] at h4'
    simp only [Go.Ab.ren, renL, RepEs]
    exact ⟨v, rest, h1, h2, h3, h4', RepEs.ren hf k xs h5⟩
  | .zsl :: xs, vs, h => by
    simp only [RepEs] at h
    obtain ⟨v, rest, h1, h2, h3, h4, h5⟩ := h
    have h4' := Rep.ren hf _ h4
    simp only [Go.Ab.ren] at h4'
    simp only [Go.Ab.ren, renL, RepEs]
    exact ⟨v, rest, h1, h2, h3, h4', RepEs.ren hf k xs h5⟩
  | .opq :: xs, vs, h => by
    simp only [RepEs] at h
    obtain ⟨v, rest, h1, h2, h3, h4, h5⟩ := h
    have h4' := Rep.ren hf _ h4
    simp only [Go.Ab.ren] at h4'
    simp only [Go.Ab.ren, renL, RepEs]
    exact ⟨v, rest, h1, h2, h3, h4', RepEs.ren hf k xs h5⟩
  | .nilmap :: xs, vs, h => by
    simp only [RepEs] at h
    obtain ⟨v, rest, h1, h2, h3, h4, h5⟩ := h
    have h4' := Rep.ren hf _ h4
    simp only [Go.Ab.ren] at h4'
    simp only [Go.Ab.ren, renL, RepEs]
    exact ⟨v, rest, h1, h2, h3, h4', RepEs.ren hf k xs h5⟩
  | .nilfn :: xs, vs, h => by
    simp only [RepEs] at h
    obtain ⟨v, rest, h1, h2, h3, h4, h5⟩ := h
    have h4' := Rep.ren hf _ h4
    simp only [Go.Ab.ren] at h4'
    simp only [Go.Ab.ren, renL, RepEs]
    exact ⟨v, rest, h1, h2, h3, h4', RepEs.ren hf k xs h5⟩
  | .niliface :: xs, vs, h => by
    simp only [RepEs] at h
    obtain ⟨v, rest, h1, h2, h3, h4, h5⟩ := h
    have h4' := Rep.ren hf _ h4
    simp only [Go.Ab.ren] at h4'
    simp only [Go.Ab.ren, renL, RepEs]
    exact ⟨v, rest, h1, h2, h3, h4', RepEs.ren hf k xs h5⟩
  | .junk :: xs, vs, h => by
    simp only [RepEs] at h
    obtain ⟨v, rest, h1, h2, h3, h4, h5⟩ := h
    simp only [Go.Ab.ren, renL, RepEs]
    exact ⟨v, rest, h1, h2, h3, by simp only [Rep], RepEs.ren hf k xs h5⟩
end

theorem RepM.ren (hf : ∀ (r i : Nat) l, f r = some i → γ[r]? = some l → γ'[i]? = some l) : ∀ (l : List (V × V)) {es : List MapEntry}, RepM γ F l es → RepM γ' F (renM f l) es
  | [], es, h => h
  | (k, x) :: l, es, h => by
    obtain ⟨e, rest, h1, h2, h3, h4⟩ := h
    exact ⟨e, rest, h1, Rep.ren hf k h2, Rep.ren hf x h3, RepM.ren hf l h4⟩

theorem RelO.ren (hf : ∀ (r i : Nat) l, f r = some i → γ[r]? = some l → γ'[i]? = some l) {l : Loc} {o : Ob} (h : RelO γ F w l o) : RelO γ' F w l (renO f o) := by
  cases l <;> cases o <;> simp only [RelO, renO] at h ⊢
  · obtain ⟨vs, fz, h1, h2, h3⟩ := h
    exact ⟨vs, fz, h1, RepC.ren hf _ h2, h3⟩
  · obtain ⟨h0, h1, h2, vs, fz, h3, h4, h5, h6⟩ := h
    exact ⟨h0, by rw [renL_len]; exact h1, h2, vs, fz, h3, h4, RepEs.ren hf _ _ h5, h6⟩
  · subst h; rfl
  · obtain ⟨ms, clock, h1, h2, h3⟩ := h
    exact ⟨ms, clock, h1, RepM.ren hf _ h2, h3⟩
  · obtain ⟨rec, h0, h1, h2, h3, h4⟩ := h
    exact ⟨rec, h0, h1, h2, h3, RepL.ren hf _ h4⟩

theorem idxOf_some {ks : List Nat} {r i : Nat} (h : ks.idxOf? r = some i) : ks[i]? = some r := by
  rw [List.idxOf?_eq_some_iff] at h
  obtain ⟨h1, h2, h3⟩ := h
  rw [List.getElem?_eq_getElem h1]; simp [h2]

/-- Which objects may stay. -/
def KsOk (n : Nat) (ks : List Nat) (len : Nat) : Prop := n ≤ len ∧ ks.Nodup ∧ ∀ k ∈ ks, n ≤ k ∧ k < len

theorem trimG_at {n : Nat} {ks : List Nat} (hk : KsOk n ks γ.length) (r i : Nat) (l : Loc) (h : newIx n ks r = some i) (hl : γ[r]? = some l) : (trimG n ks γ)[i]? = some l := by
  have htl : (γ.take n).length = n := by simp; have := hk.1; omega
  unfold newIx at h
  unfold trimG
  split at h
  · cases h
    rename_i hlt
    rw [List.getElem?_append_left (by omega), List.getElem?_take, if_pos hlt]; exact hl
  · cases hx : ks.idxOf? r with
    | none => rw [hx] at h; cases h
    | some j =>
      rw [hx] at h
      simp only [Option.map_some, Option.some.injEq] at h
      subst h
      rw [List.getElem?_append_right (by omega), htl, Nat.add_sub_cancel_left, List.getElem?_map, idxOf_some hx]
      simp [List.getD, hl]

theorem trim_src {α : Type} {n : Nat} {ks : List Nat} {l : List α} {d : α} (hk : KsOk n ks l.length) {i : Nat} {x : α} (h : ((l.take n) ++ ks.map fun k => l.getD k d)[i]? = some x) :
    ∃ r, l[r]? = some x ∧ ((i < n ∧ r = i) ∨ (n ≤ i ∧ ks[i - n]? = some r)) := by
  have htl : (l.take n).length = n := by simp; have := hk.1; omega
  rcases Nat.lt_or_ge i n with hi | hi
  · rw [List.getElem?_append_left (by omega), List.getElem?_take, if_pos hi] at h
    exact ⟨i, h, .inl ⟨hi, rfl⟩⟩
  · rw [List.getElem?_append_right (by omega), htl, List.getElem?_map] at h
    cases hx : ks[i - n]? with
    | none => rw [hx] at h; cases h
    | some r =>
      rw [hx] at h
      simp only [Option.map_some, Option.some.injEq] at h
      have hr := (hk.2.2 r (List.mem_of_getElem? hx)).2
      refine ⟨r, ?_, .inr ⟨hi, rfl⟩⟩
      simpa [List.getD, hr] using h

theorem Rel.trim (h : Rel γ F w H) {n : Nat} {ks : List Nat} (hk : KsOk n ks H.length) : Rel (trimG n ks γ) F w (trimH n ks H) := by
  have hkg : KsOk n ks γ.length := by rw [h.len]; exact hk
  have inj : ∀ (i i' r : Nat), ((i < n ∧ r = i) ∨ (n ≤ i ∧ ks[i - n]? = some r)) → ((i' < n ∧ r = i') ∨ (n ≤ i' ∧ ks[i' - n]? = some r)) → i = i' := by
    rintro i i' r (⟨h1, h2⟩ | ⟨h1, h2⟩) (⟨h3, h4⟩ | ⟨h3, h4⟩)
    · omega
    · have := (hk.2.2 r (List.mem_of_getElem? h4)).1; omega
    · have := (hk.2.2 r (List.mem_of_getElem? h2)).1; omega
    · have h5 := getElem?_lt h2
      have h6 := getElem?_lt h4
      have := (List.getElem_inj (h₀ := h5) (h₁ := h6) hk.2.1).1 (by
        rw [List.getElem?_eq_getElem h5] at h2; rw [List.getElem?_eq_getElem h6] at h4
        exact (Option.some.inj h2).trans (Option.some.inj h4).symm)
      omega
  refine ⟨by simp [trimG, trimH, h.len], ?_, ?_, ?_, h.frz, h.glb⟩
  · intro i l o hl ho
    unfold trimH at ho
    rw [List.getElem?_map] at ho
    cases hx : ((H.take n) ++ ks.map fun k => H.getD k .dead)[i]? with
    | none => rw [hx] at ho; cases ho
    | some x =>
      rw [hx] at ho
      simp only [Option.map_some, Option.some.injEq] at ho
      subst ho
      obtain ⟨r, h1, h2⟩ := trim_src hk hx
      obtain ⟨r', h3, h4⟩ := trim_src hkg hl
      have : r = r' := by
        rcases h2 with ⟨_, h2⟩ | ⟨_, h2⟩ <;> rcases h4 with ⟨_, h4⟩ | ⟨_, h4⟩
        · omega
        · omega
        · omega
        · rw [h2] at h4; cases h4; rfl
      subst this
      exact RelO.ren (fun r i l => trimG_at hkg r i l) (h.obj r l x h3 h1)
  · intro i i' l l' b hl hl' hb hb'
    obtain ⟨r, h1, h2⟩ := trim_src hkg hl
    obtain ⟨r', h3, h4⟩ := trim_src hkg hl'
    have := h.inj r r' l l' b h1 h3 hb hb'
    subst this
    exact inj i i' r h2 h4
  · intro i l b hl hb
    obtain ⟨r, h1, h2⟩ := trim_src hkg hl
    exact h.own r l b h1 hb

theorem Rep.trim {n : Nat} {ks : List Nat} (hk : KsOk n ks γ.length) {x : V} {v : Value} (h : Rep γ F x v) : Rep (trimG n ks γ) F (Go.Ab.ren (newIx n ks) x) v :=
  Rep.ren (fun r i l => trimG_at hk r i l) x h

theorem Nx.trim (h : Nx γ0 F0 w0 γ F w) {n : Nat} {ks : List Nat} (hk : KsOk n ks γ.length) (hn : γ0.length ≤ n) : Nx γ0 F0 w0 (trimG n ks γ) F w := by
  refine ⟨⟨fun r l hl => ?_⟩, h.frz, h.keep, ?_, h.size, h.os, h.tape, h.output, h.fz⟩
  · obtain ⟨l', h1, h2⟩ := h.ext.all r l hl
    have hr := getElem?_lt hl
    exact ⟨l', trimG_at hk r r l' (by unfold newIx; rw [if_pos (by omega)]) h1, h2⟩
  · rintro b ⟨i, l, hl, hb⟩ hlt
    obtain ⟨r, h1, h2⟩ := trim_src hk hl
    exact h.old b ⟨r, l, h1, hb⟩ hlt
end
end Go.Ab
