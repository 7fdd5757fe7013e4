/- The abstract machine: pure values, heaps, operations; each operation's answer is the program's. -/
import Derived.Calls
import Derived.RowKit3
import Derived.Laws.Sem
import Derived.Laws.Entries
import Derived.Laws.StructEq
import Derived.Laws.World
import Derived.Laws.Slices
import Derived.Laws.Build
import Derived.Laws.Concat
set_option linter.unusedVariables false
set_option linter.unusedSectionVars false
set_option linter.unusedSimpArgs false
namespace Go.Ab

/-- Abstract values: slices that are never written are lists; pointers go to objects by their numbers. -/
inductive V where
  | bool (b : Bool)
  | int (k : IntKind) (n : Int)
  | str (l : List UInt8)
  | nilptr
  | ptr (r off : Nat)
  | cptr (cs : List V)
  | eptr (r L i o : Nat)
  | nilsl
  | zsl
  | sl (k : Nat) (xs : List V)
  | arr (r L off n : Nat)
  | nilmap
  | mp (r : Nat)
  | yld (r : Nat)
  | fn (f : FuncId) (first captured : List V)
  | nilfn
  | iface (t : TypeId) (v : V)
  | niliface
  | agg (cs : List V)
  | tup (vs : List V)
  | opq
  | junk
  deriving Inhabited

/-- Objects: the cells of a variable; an array that its owner may write and append to; a map; a loop over a function (which one, its temporaries, its state, the jump that is pending); nothing. -/
inductive Ob where
  | cells (t : TypeId) (cs : List V)
  | arr (t : TypeId) (k : Nat) (xs : List V)
  | mp (es : List (V × V))
  | loop (k : Nat) (env : List V) (st : LoopState) (pend : Option (Option Nat))
  | dead
  deriving Inhabited

abbrev Heap := List Ob

/-- What is known of a program: its loops over functions by their keys, and what its variables hold. -/
class Env where
  codeOf : Nat → Option (Array Tmp × Code × Code)
  gtab : Nat → List V

/-- Where an object lies. -/
inductive Loc where
  | cells (b : Nat)
  | arr (b : Nat) (cap L k : Nat)
  | nilarr
  | mp (b : Nat)
  | loop (b : Nat)
  | dead
  deriving Inhabited

def Loc.block : Loc → Option Nat
  | .cells b | .arr b _ _ _ | .mp b | .loop b => some b
  | .nilarr | .dead => none

def Loc.len : Loc → Option Nat
  | .arr _ _ L _ => some L
  | .nilarr => some 0
  | _ => none

def cellsOf : V → List V
  | .agg cs => cs
  | v => [v]

/-- A value of one cell. -/
def V.isCell : V → Bool
  | .agg _ | .tup _ | .junk => false
  | _ => true

/-- Frozen blocks: they hold what they hold. -/
abbrev Frz := Nat → Option Obj

mutual
def Rep (γ : List Loc) (F : Frz) : V → Value → Prop
  | .bool b, v => v = .bool b
  | .int k n, v => v = .int k n
  | .str l, v => v = .string ⟨l.toArray⟩
  | .nilptr, v => v = .pointer none
  | .ptr r off, v => ∃ b, γ[r]? = some (.cells b) ∧ v = .pointer (some ⟨b, off, none⟩)
  | .cptr cs, v => ∃ b off vs t fz, v = .pointer (some ⟨b, off, none⟩) ∧ F b = some (.cells vs t fz) ∧ ∃ ws rest, vs.toList.drop off = ws ++ rest ∧ RepC γ F cs ws
  | .eptr r L i o, v => ∃ b p, v = .pointer (some ⟨b, p, none⟩) ∧ ∃ l, γ[r]? = some l ∧ (∀ n, l.len = some n → L ≤ n) ∧ ∀ c cap k, l = .arr c cap L k → b = c ∧ p = i * k + o
  | .nilsl, v => ∃ a, v = .slice a 0 0
  | .zsl, v => v = .slice none 0 0
  | .sl k xs, v => ∃ a cap, v = .slice a xs.length cap ∧ xs.length ≤ cap ∧
      (xs = [] ∨ ∃ b off vs t fz, a = some ⟨b, off, none⟩ ∧ F b = some (.cells vs t fz) ∧ RepEs γ F k xs (vs.toList.drop off))
  | .arr r L off n, v => ∃ a c, v = .slice a n c ∧ ∃ l, γ[r]? = some l ∧ (∀ m, l.len = some m → L ≤ m) ∧
      (∀ b cap k, l = .arr b cap L k → off + n ≤ cap ∧ c = cap - off ∧ (off = cap ∨ a = some ⟨b, off * k, none⟩)) ∧
      (l = .nilarr → off = 0 ∧ n = 0 ∧ c = 0)
  | .nilmap, v => v = .map none
  | .mp r, v => ∃ b, γ[r]? = some (.mp b) ∧ v = .map (some b)
  | .yld r, v => ∃ b, γ[r]? = some (.loop b) ∧ v = .func (.yield b) #[] #[]
  | .fn f a c, v => ∃ as cs, v = .func (.func f) as cs ∧ RepL γ F a as.toList ∧ RepL γ F c cs.toList
  | .nilfn, v => v = .nilFunc
  | .iface t x, v => ∃ u, v = .iface t u ∧ Rep γ F x u
  | .niliface, v => v = .nilIface
  | .agg cs, v => ∃ vs, v = .agg vs ∧ RepC γ F cs vs.toList
  | .tup xs, v => ∃ vs, v = .tuple vs ∧ RepL γ F xs vs.toList
  | .opq, v => v.oneCell' = true
  | .junk, _ => True
def RepL (γ : List Loc) (F : Frz) : List V → List Value → Prop
  | [], vs => vs = []
  | x :: xs, vs => ∃ v ws, vs = v :: ws ∧ Rep γ F x v ∧ RepL γ F xs ws
/-- Cells: values of one cell each. -/
def RepC (γ : List Loc) (F : Frz) : List V → List Value → Prop
  | [], vs => vs = []
  | x :: xs, vs => ∃ v ws, vs = v :: ws ∧ v.oneCell' = true ∧ Rep γ F x v ∧ RepC γ F xs ws
/-- Elements of k cells each, at the begin of some cells. -/
def RepEs (γ : List Loc) (F : Frz) (k : Nat) : List V → List Value → Prop
  | [], _ => True
  | .agg cs :: xs, vs => ∃ c rest, vs = c ++ rest ∧ c.length = k ∧ RepC γ F cs c ∧ RepEs γ F k xs rest
  | x :: xs, vs => ∃ v rest, vs = v :: rest ∧ k = 1 ∧ v.oneCell' = true ∧ Rep γ F x v ∧ RepEs γ F k xs rest
end

end Go.Ab
namespace Go.Ab

/-- An object's place goes on: an array grows, or is given up. -/
def LocLe : Loc → Loc → Prop
  | .arr b cap L k, l' => l' = .arr b cap L k ∨ l' = .dead ∨ ∃ b' cap' L' k', l' = .arr b' cap' L' k' ∧ L < L'
  | .nilarr, l' => l' = .nilarr ∨ l' = .dead ∨ ∃ b' cap' L' k', l' = .arr b' cap' L' k' ∧ 0 < L'
  | l, l' => l' = l

structure Ext (γ γ' : List Loc) : Prop where
  all : ∀ (r : Nat) l, γ[r]? = some l → ∃ l', γ'[r]? = some l' ∧ LocLe l l'

theorem LocLe.refl (l : Loc) : LocLe l l := by cases l <;> simp [LocLe]
theorem LocLe.trans {a b c : Loc} (h : LocLe a b) (h' : LocLe b c) : LocLe a c := by
  cases a <;> simp only [LocLe] at h
  · subst h; exact h'
  · rcases h with rfl | rfl | ⟨b', cap', L', k', rfl, hl⟩
    · exact h'
    · simp only [LocLe] at h'; subst h'; exact .inr (.inl rfl)
    · simp only [LocLe] at h'
      rcases h' with rfl | rfl | ⟨b'', cap'', L'', k'', rfl, hl'⟩
      · exact .inr (.inr ⟨_, _, _, _, rfl, hl⟩)
      · exact .inr (.inl rfl)
      · exact .inr (.inr ⟨_, _, _, _, rfl, by omega⟩)
  · rcases h with rfl | rfl | ⟨b', cap', L', k', rfl, hl⟩
    · exact h'
    · simp only [LocLe] at h'; subst h'; exact .inr (.inl rfl)
    · simp only [LocLe] at h'
      rcases h' with rfl | rfl | ⟨b'', cap'', L'', k'', rfl, hl'⟩
      · exact .inr (.inr ⟨_, _, _, _, rfl, hl⟩)
      · exact .inr (.inl rfl)
      · exact .inr (.inr ⟨_, _, _, _, rfl, by omega⟩)
  · subst h; exact h'
  · subst h; exact h'
  · subst h; exact h'
theorem Ext.refl (γ : List Loc) : Ext γ γ := ⟨fun r l h => ⟨l, h, LocLe.refl l⟩⟩
theorem Ext.trans {a b c : List Loc} (h : Ext a b) (h' : Ext b c) : Ext a c :=
  ⟨fun r l hl => let ⟨l', h1, h2⟩ := h.all r l hl; let ⟨l'', h3, h4⟩ := h'.all r l' h1; ⟨l'', h3, h2.trans h4⟩⟩
theorem Ext.append (γ δ : List Loc) : Ext γ (γ ++ δ) := ⟨fun r l h => ⟨l, by
  have hr : r < γ.length := by
    rcases Nat.lt_or_ge r γ.length with h' | h'
    · exact h'
    · rw [List.getElem?_eq_none h'] at h; cases h
  rw [List.getElem?_append_left hr]; exact h, LocLe.refl l⟩⟩
theorem Ext.set {γ : List Loc} {r : Nat} {l l' : Loc} (h : γ[r]? = some l) (hl : LocLe l l') : Ext γ (γ.set r l') := ⟨fun q m hm => by
  by_cases e : r = q
  · subst e
    rw [h] at hm; cases hm
    have hr : r < γ.length := by
      rcases Nat.lt_or_ge r γ.length with h' | h'
      · exact h'
      · rw [List.getElem?_eq_none h'] at h; cases h
    exact ⟨l', by simp [hr], hl⟩
  · exact ⟨m, by rw [List.getElem?_set_ne e]; exact hm, LocLe.refl m⟩⟩
theorem Ext.len {γ γ' : List Loc} (h : Ext γ γ') : γ.length ≤ γ'.length := by
  rcases Nat.lt_or_ge γ'.length γ.length with h' | h'
  · obtain ⟨l', h1, _⟩ := h.all γ'.length γ[γ'.length] (by simp)
    simp at h1
  · exact h'
theorem Ext.take {γ γ' : List Loc} (h : Ext γ γ') {n : Nat} (hn : γ.length ≤ n) : Ext γ (γ'.take n) := ⟨fun r l hl => by
  have hr : r < γ.length := by
    rcases Nat.lt_or_ge r γ.length with h' | h'
    · exact h'
    · rw [List.getElem?_eq_none h'] at hl; cases hl
  obtain ⟨l', h1, h2⟩ := h.all r l hl
  exact ⟨l', by rw [List.getElem?_take_of_lt (by omega)]; exact h1, h2⟩⟩

def FLe (F F' : Frz) : Prop := ∀ b o, F b = some o → F' b = some o
theorem FLe.refl (F : Frz) : FLe F F := fun _ _ h => h
theorem FLe.trans {a b c : Frz} (h : FLe a b) (h' : FLe b c) : FLe a c := fun _ _ x => h' _ _ (h _ _ x)

section
variable {γ γ' : List Loc} {F F' : Frz} (hg : Ext γ γ') (hF : FLe F F')
include hg hF

theorem stamp_mono {r L : Nat} {l : Loc} (h : γ[r]? = some l) (hL : ∀ n, l.len = some n → L ≤ n) :
    ∃ l', γ'[r]? = some l' ∧ (∀ n, l'.len = some n → L ≤ n) ∧ (∀ b cap k, l' = .arr b cap L k → l = l') ∧ (l' = .nilarr → l = .nilarr) := by
  obtain ⟨l', h1, h2⟩ := hg.all r l h
  refine ⟨l', h1, ?_⟩
  cases l <;> simp only [LocLe] at h2
  · subst h2; exact ⟨hL, fun _ _ _ e => rfl, fun e => e⟩
  · rcases h2 with rfl | rfl | ⟨b', cap', L', k', rfl, hl⟩
    · exact ⟨hL, fun _ _ _ e => rfl, fun e => e⟩
    · exact ⟨by simp [Loc.len], by simp, by simp⟩
    · have hq := hL _ rfl
      refine ⟨fun n hn => ?_, fun b cap k e => ?_, by simp⟩
      · simp only [Loc.len, Option.some.injEq] at hn; omega
      · simp only [Loc.arr.injEq] at e; omega
  · rcases h2 with rfl | rfl | ⟨b', cap', L', k', rfl, hl⟩
    · exact ⟨hL, fun _ _ _ e => rfl, fun e => e⟩
    · exact ⟨by simp [Loc.len], by simp, by simp⟩
    · have hq := hL _ rfl
      refine ⟨fun n hn => ?_, fun b cap k e => ?_, by simp⟩
      · simp only [Loc.len, Option.some.injEq] at hn; omega
      · simp only [Loc.arr.injEq] at e; omega
  · subst h2; exact ⟨hL, fun _ _ _ e => rfl, fun e => e⟩
  · subst h2; exact ⟨hL, fun _ _ _ e => rfl, fun e => e⟩
  · subst h2; exact ⟨hL, fun _ _ _ e => rfl, fun e => e⟩

mutual
theorem Rep.mono : ∀ (x : V) (v : Value), Rep γ F x v → Rep γ' F' x v
  | .bool b, v, h => by simpa only [Rep] using h
  | .int k n, v, h => by simpa only [Rep] using h
  | .str l, v, h => by simpa only [Rep] using h
  | .nilptr, v, h => by simpa only [Rep] using h
  | .ptr r off, v, h => by
    simp only [Rep] at *
    obtain ⟨b, h1, h2⟩ := h
    obtain ⟨l', h3, h4⟩ := hg.all _ _ h1
    simp only [LocLe] at h4; subst h4
    exact ⟨b, h3, h2⟩
  | .cptr cs, v, h => by
    simp only [Rep] at *
    obtain ⟨b, off, vs, t, fz, h1, h2, ws, rest, h3, h4⟩ := h
    exact ⟨b, off, vs, t, fz, h1, hF _ _ h2, ws, rest, h3, RepC.mono cs ws h4⟩
  | .eptr r L i o, v, h => by
    simp only [Rep] at *
    obtain ⟨b, p, h0, l, h1, h2, h3⟩ := h
    obtain ⟨l', g1, g2, g3, g4⟩ := stamp_mono hg hF h1 h2
    exact ⟨b, p, h0, l', g1, g2, fun b cap k e => h3 b cap k ((g3 b cap k e).trans e)⟩
  | .nilsl, v, h => by simpa only [Rep] using h
  | .zsl, v, h => by simpa only [Rep] using h
  | .sl k xs, v, h => by
    simp only [Rep] at *
    obtain ⟨a, cap, h1, h2, h3⟩ := h
    refine ⟨a, cap, h1, h2, h3.imp id ?_⟩
    rintro ⟨b, off, vs, t, fz, h4, h5, h6⟩
    exact ⟨b, off, vs, t, fz, h4, hF _ _ h5, RepEs.mono k xs _ h6⟩
  | .arr r L off n, v, h => by
    simp only [Rep] at *
    obtain ⟨a, c, h0, l, h1, h2, h3, h4⟩ := h
    obtain ⟨l', g1, g2, g3, g4⟩ := stamp_mono hg hF h1 h2
    exact ⟨a, c, h0, l', g1, g2, fun b cap k e => h3 b cap k ((g3 b cap k e).trans e), fun e => h4 (g4 e)⟩
  | .nilmap, v, h => by simpa only [Rep] using h
  | .mp r, v, h => by
    simp only [Rep] at *
    obtain ⟨b, h1, h2⟩ := h
    obtain ⟨l', h3, h4⟩ := hg.all _ _ h1
    simp only [LocLe] at h4; subst h4
    exact ⟨b, h3, h2⟩
  | .yld r, v, h => by
    simp only [Rep] at *
    obtain ⟨b, h1, h2⟩ := h
    obtain ⟨l', h3, h4⟩ := hg.all _ _ h1
    simp only [LocLe] at h4; subst h4
    exact ⟨b, h3, h2⟩
  | .fn f a c, v, h => by
    simp only [Rep] at *
    obtain ⟨as, cs, h1, h2, h3⟩ := h
    exact ⟨as, cs, h1, RepL.mono a _ h2, RepL.mono c _ h3⟩
  | .nilfn, v, h => by simpa only [Rep] using h
  | .iface t x, v, h => by
    simp only [Rep] at *
    obtain ⟨u, h1, h2⟩ := h
    exact ⟨u, h1, Rep.mono x u h2⟩
  | .niliface, v, h => by simpa only [Rep] using h
  | .agg cs, v, h => by
    simp only [Rep] at *
    obtain ⟨vs, h1, h2⟩ := h
    exact ⟨vs, h1, RepC.mono cs _ h2⟩
  | .tup xs, v, h => by
    simp only [Rep] at *
    obtain ⟨vs, h1, h2⟩ := h
    exact ⟨vs, h1, RepL.mono xs _ h2⟩
  | .opq, v, h => by simpa only [Rep] using h
  | .junk, v, h => by simp only [Rep]
theorem RepL.mono : ∀ (xs : List V) (vs : List Value), RepL γ F xs vs → RepL γ' F' xs vs
  | [], vs, h => by simpa only [RepL] using h
  | x :: xs, vs, h => by
    simp only [RepL] at *
    obtain ⟨v, ws, h1, h2, h3⟩ := h
    exact ⟨v, ws, h1, Rep.mono x v h2, RepL.mono xs ws h3⟩
theorem RepC.mono : ∀ (xs : List V) (vs : List Value), RepC γ F xs vs → RepC γ' F' xs vs
  | [], vs, h => by simpa only [RepC] using h
  | x :: xs, vs, h => by
    simp only [RepC] at *
    obtain ⟨v, ws, h1, h0, h2, h3⟩ := h
    exact ⟨v, ws, h1, h0, Rep.mono x v h2, RepC.mono xs ws h3⟩
theorem RepEs.mono (k : Nat) : ∀ (xs : List V) (vs : List Value), RepEs γ F k xs vs → RepEs γ' F' k xs vs
  | [], vs, h => by simp only [RepEs]
  | x :: xs, vs, h => by
    cases x
    case agg cs =>
      simp only [RepEs] at *
      obtain ⟨c, rest, h1, h2, h3, h4⟩ := h
      exact ⟨c, rest, h1, h2, RepC.mono cs c h3, RepEs.mono k xs rest h4⟩
    all_goals
      simp only [RepEs] at *
      obtain ⟨v, rest, h1, h2, h3, h4, h5⟩ := h
      exact ⟨v, rest, h1, h2, h3, Rep.mono _ v h4, RepEs.mono k xs rest h5⟩
end
end

end Go.Ab
namespace Go.Ab
variable [Env]

/-- No cell of a block is frozen (the mark of a string's bytes stands behind its last cell). -/
def Clear (fz : Nat × Nat) (n : Nat) : Prop := ∀ i, i < n → ¬ (fz.1 ≤ i ∧ i < fz.2)

theorem Clear.of0 {fz : Nat × Nat} (h : fz = (0, 0)) (n : Nat) : Clear fz n := by
  subst h
  intro i _ h
  exact absurd h.2 (Nat.not_lt_zero i)

/-- A map's entries, in order: each was born at a number of its own, below the clock. -/
def RepM (γ : List Loc) (F : Frz) : List (V × V) → List MapEntry → Prop
  | [], es => es = []
  | (k, x) :: l, es => ∃ e rest, es = e :: rest ∧ Rep γ F k e.key ∧ Rep γ F x e.val ∧ RepM γ F l rest

def Borns (es : List MapEntry) (clock : Nat) : Prop := (∀ e ∈ es, e.born < clock) ∧ es.Pairwise (fun a b => a.born ≠ b.born)

/-- The code of a pending jump. -/
def jumpOf : Option Nat → Code
  | none => .ret
  | some id => .exit id

def RelO (γ : List Loc) (F : Frz) (w : World) : Loc → Ob → Prop
  | .cells b, .cells t cs => ∃ vs fz, w.heap[b]? = some (.cells vs t fz) ∧ RepC γ F cs vs.toList ∧ fz = (0, 0)
  | .arr b cap L k, .arr t k' xs => k' = k ∧ L = xs.length ∧ L ≤ cap ∧ ∃ vs fz, w.heap[b]? = some (.cells vs t fz) ∧ vs.size = cap * k ∧ RepEs γ F k xs vs.toList ∧ Clear fz vs.size
  | .nilarr, .arr _ _ xs => xs = []
  | .mp b, .mp es => ∃ ms clock, w.heap[b]? = some (.map ms clock) ∧ RepM γ F es ms.toList ∧ Borns ms.toList clock
  | .loop b, .loop k env st pend => ∃ rec, Env.codeOf k = some (rec.params, rec.assign, rec.body) ∧ w.heap[b]? = some (.loop rec) ∧ rec.state = st ∧ rec.pending = pend.map jumpOf ∧ RepL γ F env rec.tmps.toList
  | .dead, .dead => True
  | _, _ => False

structure Rel (γ : List Loc) (F : Frz) (w : World) (H : Heap) : Prop where
  len : γ.length = H.length
  obj : ∀ (r : Nat) l o, γ[r]? = some l → H[r]? = some o → RelO γ F w l o
  inj : ∀ (r r' : Nat) l l' b, γ[r]? = some l → γ[r']? = some l' → l.block = some b → l'.block = some b → r = r'
  own : ∀ (r : Nat) l b, γ[r]? = some l → l.block = some b → F b = none ∧ b < w.heap.size
  frz : ∀ b o, F b = some o → w.heap[b]? = some o
  glb : ∀ g, Env.gtab g ≠ [] → Rep [] F (.cptr (Env.gtab g)) (.pointer (some ⟨g, 0, none⟩))

def Owned (γ : List Loc) (b : Nat) : Prop := ∃ (r : Nat) (l : Loc), γ[r]? = some l ∧ l.block = some b

/-- The world goes on: what nobody owns is as it was. -/
structure Nx (γ : List Loc) (F : Frz) (w : World) (γ' : List Loc) (F' : Frz) (w' : World) : Prop where
  ext : Ext γ γ'
  frz : FLe F F'
  keep : ∀ b, b < w.heap.size → ¬ Owned γ b → w'.heap[b]? = w.heap[b]?
  old : ∀ b, Owned γ' b → b < w.heap.size → Owned γ b
  size : w.heap.size ≤ w'.heap.size
  os : w'.os = w.os
  tape : w'.tape = w.tape
  output : w'.output = w.output
  fz : ∀ b, b < w.heap.size → ¬ Owned γ b → F' b = F b

theorem Nx.refl (γ : List Loc) (F : Frz) (w : World) : Nx γ F w γ F w :=
  ⟨Ext.refl γ, FLe.refl F, fun _ _ _ => rfl, fun _ h _ => h, Nat.le_refl _, rfl, rfl, rfl, fun _ _ _ => rfl⟩
theorem Nx.trans {γ γ1 γ2 : List Loc} {F F1 F2 : Frz} {w w1 w2 : World} (h : Nx γ F w γ1 F1 w1) (k : Nx γ1 F1 w1 γ2 F2 w2) : Nx γ F w γ2 F2 w2 :=
  ⟨h.ext.trans k.ext, h.frz.trans k.frz, fun b hb ho => (k.keep b (Nat.lt_of_lt_of_le hb h.size) fun ho' => ho (h.old b ho' hb)).trans (h.keep b hb ho),
    fun b ho hb => h.old b (k.old b ho (Nat.lt_of_lt_of_le hb h.size)) hb, Nat.le_trans h.size k.size, k.os.trans h.os, k.tape.trans h.tape, k.output.trans h.output,
    fun b hb ho => (k.fz b (Nat.lt_of_lt_of_le hb h.size) fun ho' => ho (h.old b ho' hb)).trans (h.fz b hb ho)⟩

theorem getElem?_lt {α : Type} {l : List α} {i : Nat} {a : α} (h : l[i]? = some a) : i < l.length := by
  rcases Nat.lt_or_ge i l.length with h' | h'
  · exact h'
  · rw [List.getElem?_eq_none h'] at h; cases h
theorem agetElem?_lt {α : Type} {l : Array α} {i : Nat} {a : α} (h : l[i]? = some a) : i < l.size := by
  rcases Nat.lt_or_ge i l.size with h' | h'
  · exact h'
  · rw [Array.getElem?_eq_none h'] at h; cases h

section
variable {γ γ' : List Loc} {F F' : Frz} {w w' : World} {H : Heap}

theorem RepM.mono (hg : Ext γ γ') (hF : FLe F F') : ∀ (l : List (V × V)) (es : List MapEntry), RepM γ F l es → RepM γ' F' l es
  | [], es, h => h
  | (k, x) :: l, es, h => by
    obtain ⟨e, rest, h1, h2, h3, h4⟩ := h
    exact ⟨e, rest, h1, Rep.mono hg hF k _ h2, Rep.mono hg hF x _ h3, RepM.mono hg hF l rest h4⟩

theorem RelO.mono (hg : Ext γ γ') (hF : FLe F F') {l : Loc} {o : Ob} (hw : ∀ b, l.block = some b → w'.heap[b]? = w.heap[b]?) (h : RelO γ F w l o) : RelO γ' F' w' l o := by
  cases l <;> cases o <;> simp only [RelO] at h ⊢
  · obtain ⟨vs, fz, h1, h2, h3⟩ := h
    exact ⟨vs, fz, by rw [hw _ rfl]; exact h1, RepC.mono hg hF _ _ h2, h3⟩
  · obtain ⟨h0, h1, h2, vs, fz, h3, h4, h5, h6⟩ := h
    exact ⟨h0, h1, h2, vs, fz, by rw [hw _ rfl]; exact h3, h4, RepEs.mono hg hF _ _ _ h5, h6⟩
  · exact h
  · obtain ⟨ms, clock, h1, h2, h3⟩ := h
    exact ⟨ms, clock, by rw [hw _ rfl]; exact h1, RepM.mono hg hF _ _ h2, h3⟩
  · obtain ⟨rec, h0, h1, h2, h3, h4⟩ := h
    exact ⟨rec, h0, by rw [hw _ rfl]; exact h1, h2, h3, RepL.mono hg hF _ _ h4⟩

theorem Rel.lt_size (h : Rel γ F w H) {b : Nat} {o : Obj} (hF : F b = some o) : b < w.heap.size := agetElem?_lt (h.frz b o hF)

/-- One object turns. -/
theorem Rel.upd (h : Rel γ F w H) {r : Nat} {l : Loc} {l' : Loc} {o' : Ob} (hr : γ[r]? = some l) (hle : LocLe l l') (hsize : w.heap.size ≤ w'.heap.size)
    (hsame : ∀ b, b < w.heap.size → l.block ≠ some b → w'.heap[b]? = w.heap[b]?)
    (hblk : ∀ b, l'.block = some b → (l.block = some b ∨ w.heap.size ≤ b) ∧ b < w'.heap.size)
    (hob : RelO (γ.set r l') F w' l' o') : Rel (γ.set r l') F w' (H.set r o') := by
  have hrl := getElem?_lt hr
  have hext : Ext γ (γ.set r l') := Ext.set hr hle
  refine ⟨by simp [h.len], ?_, ?_, ?_, ?_, h.glb⟩
  · intro q m o hm ho
    by_cases e : r = q
    · subst e
      rw [List.getElem?_set_self hrl] at hm; cases hm
      rw [List.getElem?_set_self (by rw [← h.len]; exact hrl)] at ho; cases ho
      exact hob
    · rw [List.getElem?_set_ne e] at hm ho
      refine RelO.mono hext (FLe.refl F) (fun b hb => ?_) (h.obj q m o hm ho)
      exact hsame b (h.own q m b hm hb).2 fun hb' => e (h.inj r q l m b hr hm hb' hb)
  · intro q q' m m' b hm hm' hb hb'
    have key : ∀ (q : Nat) (m : Loc), γ[q]? = some m → r ≠ q → m.block = some b → l'.block = some b → False := fun q m hm e hb hb' => by
      rcases (hblk b hb').1 with h1 | h1
      · exact e (h.inj r q l m b hr hm h1 hb)
      · have := (h.own q m b hm hb).2; omega
    by_cases e : r = q
    · subst e
      rw [List.getElem?_set_self hrl] at hm; cases hm
      by_cases e' : r = q'
      · exact e'
      · rw [List.getElem?_set_ne e'] at hm'
        exact (key q' m' hm' e' hb' hb).elim
    · rw [List.getElem?_set_ne e] at hm
      by_cases e' : r = q'
      · subst e'
        rw [List.getElem?_set_self hrl] at hm'; cases hm'
        exact (key q m hm e hb hb').elim
      · rw [List.getElem?_set_ne e'] at hm'
        exact h.inj q q' m m' b hm hm' hb hb'
  · intro q m b hm hb
    by_cases e : r = q
    · subst e
      rw [List.getElem?_set_self hrl] at hm; cases hm
      refine ⟨?_, (hblk b hb).2⟩
      rcases (hblk b hb).1 with h1 | h1
      · exact (h.own r l b hr h1).1
      · cases hF : F b with
        | none => rfl
        | some o => have := h.lt_size hF; omega
    · rw [List.getElem?_set_ne e] at hm
      have := h.own q m b hm hb
      exact ⟨this.1, by omega⟩
  · intro b o hF
    rw [hsame b (h.lt_size hF) fun hb => by rw [(h.own r l b hr hb).1] at hF; cases hF]
    exact h.frz b o hF

theorem Nx.upd (h : Rel γ F w H) {r : Nat} {l : Loc} {l' : Loc} (hr : γ[r]? = some l) (hle : LocLe l l') (hsize : w.heap.size ≤ w'.heap.size)
    (hsame : ∀ b, b < w.heap.size → l.block ≠ some b → w'.heap[b]? = w.heap[b]?)
    (hblk : ∀ b, l'.block = some b → (l.block = some b ∨ w.heap.size ≤ b) ∧ b < w'.heap.size)
    (h1 : w'.os = w.os) (h2 : w'.tape = w.tape) (h3 : w'.output = w.output) : Nx γ F w (γ.set r l') F w' := by
  have hrl := getElem?_lt hr
  refine ⟨Ext.set hr hle, FLe.refl F, fun b hb ho => hsame b hb fun hb' => ho ⟨r, l, hr, hb'⟩, ?_, hsize, h1, h2, h3, fun _ _ _ => rfl⟩
  rintro b ⟨q, m, hm, hb⟩ hlt
  by_cases e : r = q
  · subst e
    rw [List.getElem?_set_self hrl] at hm; cases hm
    rcases (hblk b hb).1 with h1 | h1
    · exact ⟨r, l, hr, h1⟩
    · omega
  · rw [List.getElem?_set_ne e] at hm
    exact ⟨q, m, hm, hb⟩

/-- One object more. -/
theorem Rel.push (h : Rel γ F w H) {l : Loc} {o : Ob} (hsize : w.heap.size ≤ w'.heap.size) (hsame : ∀ b, b < w.heap.size → w'.heap[b]? = w.heap[b]?)
    (hblk : ∀ b, l.block = some b → w.heap.size ≤ b ∧ b < w'.heap.size) (hob : RelO (γ ++ [l]) F w' l o) : Rel (γ ++ [l]) F w' (H ++ [o]) := by
  have key : ∀ (q : Nat) (m : Loc), (γ ++ [l])[q]? = some m → γ[q]? = some m ∨ (q = γ.length ∧ m = l) := fun q m hm => by
    rcases Nat.lt_trichotomy q γ.length with hq | hq | hq
    · rw [List.getElem?_append_left hq] at hm; exact .inl hm
    · subst hq; simp at hm; exact .inr ⟨rfl, hm.symm⟩
    · rw [List.getElem?_eq_none (by simp; omega)] at hm; cases hm
  refine ⟨by simp [h.len], ?_, ?_, ?_, ?_, h.glb⟩
  · intro q m x hm hx
    rcases key q m hm with hq | ⟨rfl, rfl⟩
    · have hlt := getElem?_lt hq
      rw [List.getElem?_append_left (by rw [← h.len]; exact hlt)] at hx
      exact RelO.mono (Ext.append γ [l]) (FLe.refl F) (fun b hb => hsame b (h.own q m b hq hb).2) (h.obj q m x hq hx)
    · rw [h.len] at hx; simp at hx; subst hx; exact hob
  · intro q q' m m' b hm hm' hb hb'
    rcases key q m hm with hq | ⟨rfl, rfl⟩ <;> rcases key q' m' hm' with hq' | ⟨rfl, rfl⟩
    · exact h.inj q q' m m' b hq hq' hb hb'
    · have := (h.own q m b hq hb).2; have := (hblk b hb').1; omega
    · have := (h.own q' m' b hq' hb').2; have := (hblk b hb).1; omega
    · rfl
  · intro q m b hm hb
    rcases key q m hm with hq | ⟨rfl, rfl⟩
    · have := h.own q m b hq hb
      exact ⟨this.1, by omega⟩
    · refine ⟨?_, (hblk b hb).2⟩
      cases hF : F b with
      | none => rfl
      | some o => have := h.lt_size hF; have := (hblk b hb).1; omega
  · intro b x hF
    rw [hsame b (h.lt_size hF)]; exact h.frz b x hF

theorem Nx.push (h : Rel γ F w H) {l : Loc} (hsize : w.heap.size ≤ w'.heap.size) (hsame : ∀ b, b < w.heap.size → w'.heap[b]? = w.heap[b]?)
    (hblk : ∀ b, l.block = some b → w.heap.size ≤ b ∧ b < w'.heap.size)
    (h1 : w'.os = w.os) (h2 : w'.tape = w.tape) (h3 : w'.output = w.output) : Nx γ F w (γ ++ [l]) F w' := by
  refine ⟨Ext.append γ [l], FLe.refl F, fun b hb _ => hsame b hb, ?_, hsize, h1, h2, h3, fun _ _ _ => rfl⟩
  rintro b ⟨q, m, hm, hb⟩ hlt
  rcases Nat.lt_trichotomy q γ.length with hq | hq | hq
  · rw [List.getElem?_append_left hq] at hm; exact ⟨q, m, hm, hb⟩
  · subst hq; simp at hm; subst hm; have := (hblk b hb).1; omega
  · rw [List.getElem?_eq_none (by simp; omega)] at hm; cases hm

/-- The world grows, by blocks that are frozen or that nobody knows of. -/
theorem Rel.grow (h : Rel γ F w H) (hF : FLe F F') (hsize : w.heap.size ≤ w'.heap.size) (hsame : ∀ b, b < w.heap.size → w'.heap[b]? = w.heap[b]?)
    (hnew : ∀ b o, F' b = some o → F b = some o ∨ (w.heap.size ≤ b ∧ w'.heap[b]? = some o)) : Rel γ F' w' H := by
  refine ⟨h.len, fun r l o hl ho => RelO.mono (Ext.refl γ) hF (fun b hb => hsame b (h.own r l b hl hb).2) (h.obj r l o hl ho), h.inj, ?_, ?_, fun g hg => Rep.mono (Ext.refl _) hF _ _ (h.glb g hg)⟩
  · intro r l b hl hb
    have := h.own r l b hl hb
    refine ⟨?_, by omega⟩
    cases hx : F' b with
    | none => rfl
    | some o => rcases hnew b o hx with h1 | ⟨h1, _⟩
                · rw [this.1] at h1; cases h1
                · omega
  · intro b o hx
    rcases hnew b o hx with h1 | ⟨_, h1⟩
    · rw [hsame b (h.lt_size h1)]; exact h.frz b o h1
    · exact h1

theorem Nx.grow (h : Rel γ F w H) (hF : FLe F F') (hsize : w.heap.size ≤ w'.heap.size) (hsame : ∀ b, b < w.heap.size → w'.heap[b]? = w.heap[b]?)
    (hnew : ∀ b, b < w.heap.size → F' b = F b) (h1 : w'.os = w.os) (h2 : w'.tape = w.tape) (h3 : w'.output = w.output) : Nx γ F w γ F' w' :=
  ⟨Ext.refl γ, hF, fun b hb _ => hsame b hb, fun _ h _ => h, hsize, h1, h2, h3, fun b hb _ => hnew b hb⟩

/-- An array is given up: what it holds is frozen. -/
theorem Rel.freeze (h : Rel γ F w H) {r b cap L k : Nat} {x : Obj} (hr : γ[r]? = some (.arr b cap L k)) (hx : w.heap[b]? = some x) :
    Rel (γ.set r .dead) (fun c => if c = b then some x else F c) w (H.set r .dead) := by
  have hrl := getElem?_lt hr
  have hF : FLe F (fun c => if c = b then some x else F c) := fun c o ho => by
    by_cases e : c = b
    · subst e; rw [(h.own r _ c hr rfl).1] at ho; cases ho
    · simp [e, ho]
  have hext : Ext γ (γ.set r .dead) := Ext.set hr (by simp [LocLe])
  refine ⟨by simp [h.len], ?_, ?_, ?_, ?_, fun g hg => Rep.mono (Ext.refl _) hF _ _ (h.glb g hg)⟩
  · intro q m o hm ho
    by_cases e : r = q
    · subst e
      rw [List.getElem?_set_self hrl] at hm; cases hm
      rw [List.getElem?_set_self (by rw [← h.len]; exact hrl)] at ho; cases ho
      trivial
    · rw [List.getElem?_set_ne e] at hm ho
      exact RelO.mono hext hF (fun b hb => rfl) (h.obj q m o hm ho)
  · intro q q' m m' c hm hm' hb hb'
    by_cases e : r = q
    · subst e; rw [List.getElem?_set_self hrl] at hm; cases hm; cases hb
    by_cases e' : r = q'
    · subst e'; rw [List.getElem?_set_self hrl] at hm'; cases hm'; cases hb'
    rw [List.getElem?_set_ne e] at hm
    rw [List.getElem?_set_ne e'] at hm'
    exact h.inj q q' m m' c hm hm' hb hb'
  · intro q m c hm hb
    by_cases e : r = q
    · subst e; rw [List.getElem?_set_self hrl] at hm; cases hm; cases hb
    rw [List.getElem?_set_ne e] at hm
    have := h.own q m c hm hb
    refine ⟨?_, this.2⟩
    by_cases e' : c = b
    · subst e'; exact (e (h.inj r q _ m c hr hm rfl hb)).elim
    · simp [e', this.1]
  · intro c o ho
    by_cases e' : c = b
    · subst e'; simp at ho; subst ho; exact hx
    · simp [e'] at ho; exact h.frz c o ho

theorem Nx.freeze (h : Rel γ F w H) {r b cap L k : Nat} {x : Obj} (hr : γ[r]? = some (.arr b cap L k)) :
    Nx γ F w (γ.set r .dead) (fun c => if c = b then some x else F c) w := by
  have hrl := getElem?_lt hr
  refine ⟨Ext.set hr (by simp [LocLe]), fun c o ho => ?_, fun _ _ _ => rfl, ?_, Nat.le_refl _, rfl, rfl, rfl, fun c hc ho => ?_⟩
  · by_cases e : c = b
    · subst e; rw [(h.own r _ c hr rfl).1] at ho; cases ho
    · simp [e, ho]
  · rintro c ⟨q, m, hm, hb⟩ hlt
    by_cases e : r = q
    · subst e; rw [List.getElem?_set_self hrl] at hm; cases hm; cases hb
    · rw [List.getElem?_set_ne e] at hm; exact ⟨q, m, hm, hb⟩
  · by_cases e : c = b
    · subst e; exact (ho ⟨r, _, hr, rfl⟩).elim
    · simp [e]

/-- Two facts of one object. -/
theorem Rel.at (h : Rel γ F w H) {r : Nat} {o : Ob} (ho : H[r]? = some o) : ∃ l, γ[r]? = some l ∧ RelO γ F w l o := by
  have hr : r < γ.length := by rw [h.len]; exact getElem?_lt ho
  exact ⟨γ[r], by simp [hr], h.obj r _ o (by simp [hr]) ho⟩
end

end Go.Ab
namespace Go.Ab

/-- What an operation comes to: it may be done, its value, the heap behind it. -/
structure R where
  ok : Prop
  v : V
  H : Heap

def R.bad : R := ⟨False, .junk, []⟩

/-- A constant, or a zero value's cell. -/
def ofCell : Value → V
  | .bool b => .bool b
  | .int k n => .int k n
  | .string s => .str s.data.toList
  | .pointer none => .nilptr
  | .slice none 0 0 => .zsl
  | .slice _ 0 0 => .nilsl
  | .map none => .nilmap
  | .func (.func f) ⟨[]⟩ ⟨[]⟩ => .fn f [] []
  | .nilFunc => .nilfn
  | .nilIface => .niliface
  | _ => .junk

def ofConst : Value → V
  | .agg cs => if cs.toList.all (·.oneCell') then .agg (cs.toList.map ofCell) else .junk
  | .tuple ⟨[]⟩ => .tup []
  | v => ofCell v

/-- Of a type: is it a struct or an array, and how many cells has it? -/
def lay (P : Program) (t : TypeId) : Option (Bool × Nat) :=
  match P.underlying t, P.info? t with
  | some (.struct _), some i => some (true, i.size)
  | some (.array _ _), some i => some (true, i.size)
  | some _, some i => if i.size = 1 then some (false, 1) else none
  | _, _ => none

def zeroOf (P : Program) (t : TypeId) : Option V := ((P.info? t).bind (·.zero)).map ofConst

def elemOfSlice (P : Program) (t : TypeId) : Option TypeId :=
  match P.underlying t with
  | some (.slice e) => some e
  | _ => none

def fieldOf (P : Program) (s : TypeId) (f : Nat) : Option Field :=
  match P.underlying s with
  | some (.struct fs) => fs[f]?
  | _ => none

def splice (cs : List V) (off : Nat) (new : List V) : List V := cs.take off ++ new ++ cs.drop (off + new.length)

/-- The cells of a value that is stored at a place of a type. -/
def valCells (g : Bool) (v : V) : List V := match g with
  | true => cellsOf v
  | false => [v]

def okVal (g : Bool) (k : Nat) (v : V) : Prop := match g with
  | true => match v with | .agg cs => cs.length = k | _ => False
  | false => v.isCell = true

/-- What k cells mean, of which a list begins with them. -/
def fromCells (g : Bool) (k : Nat) (cs : List V) (c : Prop) (H : Heap) : R := match g with
  | true => ⟨c ∧ k ≤ cs.length, .agg (cs.take k), H⟩
  | false => ⟨c ∧ 0 < cs.length, cs.headD .junk, H⟩

def loadR (g : Bool) (k : Nat) (p : V) (H : Heap) : R :=
  match p with
  | .ptr r off => match H[r]? with
    | some (.cells _ cs) => fromCells g k (cs.drop off) True H
    | _ => R.bad
  | .cptr cs => fromCells g k cs True H
  | .eptr r L i o => match H[r]? with
    | some (.arr _ _ xs) => fromCells g k ((cellsOf (xs.getD i .junk)).drop o) (xs.length = L ∧ i < L) H
    | _ => R.bad
  | _ => R.bad

/-- An element of which a part is stored anew. -/
def setPart (x : V) (o : Nat) (new : List V) : V := match x with
  | .agg cs => .agg (splice cs o new)
  | _ => new.headD .junk

def okPart (g : Bool) (k : Nat) (x : V) (o : Nat) : Prop := match x with
  | .agg cs => o + (if g then k else 1) ≤ cs.length
  | _ => g = false ∧ o = 0

def storeR (g : Bool) (k : Nat) (p v : V) (H : Heap) : R :=
  match p with
  | .ptr r off => match H[r]? with
    | some (.cells t cs) => ⟨okVal g k v ∧ off + (valCells g v).length ≤ cs.length, .tup [], H.set r (.cells t (splice cs off (valCells g v)))⟩
    | _ => R.bad
  | .eptr r L i o => match H[r]? with
    | some (.arr t kk xs) => ⟨okVal g k v ∧ xs.length = L ∧ i < L ∧ okPart g k (xs.getD i .junk) o, .tup [], H.set r (.arr t kk (xs.set i (setPart (xs.getD i .junk) o (valCells g v))))⟩
    | _ => R.bad
  | _ => R.bad

def fieldAddrR (off : Nat) (p : V) (H : Heap) : R :=
  match p with
  | .ptr r o => ⟨True, .ptr r (o + off), H⟩
  | .cptr cs => ⟨True, .cptr (cs.drop off), H⟩
  | .eptr r L i o => ⟨True, .eptr r L i (o + off), H⟩
  | _ => R.bad

def nilCheckR (p : V) (H : Heap) : R :=
  match p with
  | .ptr r o => ⟨True, .ptr r o, H⟩
  | .cptr cs => ⟨True, .cptr cs, H⟩
  | .eptr r L i o => ⟨True, .eptr r L i o, H⟩
  | .fn f a c => ⟨True, .fn f a c, H⟩
  | _ => R.bad

def fieldR (g : Bool) (k off : Nat) (x : V) (H : Heap) : R :=
  match x with
  | .agg cs => fromCells g k (cs.drop off) True H
  | _ => R.bad

/-- An element's address. k: an element's cells. -/
def indexAddrR (k : Nat) (x i : V) (H : Heap) : R :=
  match x, i with
  | .sl k' xs, .int _ n => ⟨k' = k ∧ 0 ≤ n ∧ n < xs.length, .cptr (cellsOf (xs.getD n.toNat .junk)), H⟩
  | .arr r L off m, .int _ n => match H[r]? with
    | some (.arr _ k' xs) => ⟨k' = k ∧ xs.length = L ∧ off + m ≤ L ∧ 0 ≤ n ∧ n < m, .eptr r L (off + n.toNat) 0, H⟩
    | _ => R.bad
  | _, _ => R.bad

def indexR (x i : V) (H : Heap) : R :=
  match x, i with
  | .str l, .int _ n => ⟨0 ≤ n ∧ n < l.length, .int .u8 (l.getD n.toNat 0).toNat, H⟩
  | _, _ => R.bad

/-- Bounds of a slice expression: the lower and the upper one. -/
def loOf (lo : Option V) : Option Int := match lo with
  | none => some 0
  | some (.int _ n) => some n
  | _ => none
def hiOf (hi : Option V) (n : Nat) : Option Int := match hi with
  | none => some n
  | some (.int _ m) => some m
  | _ => none

def sliceStrR (x : V) (lo hi mx : Option V) (H : Heap) : R :=
  match x, mx with
  | .str l, none => match loOf lo, hiOf hi l.length with
    | some a, some b => ⟨0 ≤ a ∧ a ≤ b ∧ b ≤ l.length, .str ((l.take b.toNat).drop a.toNat), H⟩
    | _, _ => R.bad
  | _, _ => R.bad

def sliceSlR (k : Nat) (x : V) (lo hi mx : Option V) (H : Heap) : R :=
  match mx with
  | none =>
    match x with
    | .sl k' xs => match loOf lo, hiOf hi xs.length with
      | some a, some b => ⟨k' = k ∧ 0 ≤ a ∧ a ≤ b ∧ b ≤ xs.length, .sl k' ((xs.take b.toNat).drop a.toNat), H⟩
      | _, _ => R.bad
    | .nilsl => match loOf lo, hiOf hi 0 with
      | some a, some b => ⟨0 ≤ a ∧ a ≤ b ∧ b ≤ 0, .nilsl, H⟩
      | _, _ => R.bad
    | .zsl => match loOf lo, hiOf hi 0 with
      | some a, some b => ⟨0 ≤ a ∧ a ≤ b ∧ b ≤ 0, .nilsl, H⟩
      | _, _ => R.bad
    | .arr r L off n => match H[r]? with
      | some (.arr _ k' xs) => match loOf lo, hiOf hi n with
        | some a, some b => ⟨k' = k ∧ xs.length = L ∧ off + n ≤ L ∧ 0 ≤ a ∧ a ≤ b ∧ b ≤ n, .arr r L (off + a.toNat) (b - a).toNat, H⟩
        | _, _ => R.bad
      | _ => R.bad
    | _ => R.bad
  | some (.int _ m) =>
    match x, loOf lo, hiOf hi 0 with
    | .sl _ xs, some a, some b => ⟨m = 0 ∧ a = 0 ∧ b = 0 ∧ hi.isSome = true, .nilsl, H⟩
    | .nilsl, some a, some b => ⟨m = 0 ∧ a = 0 ∧ b = 0 ∧ hi.isSome = true, .nilsl, H⟩
    | .zsl, some a, some b => ⟨m = 0 ∧ a = 0 ∧ b = 0 ∧ hi.isSome = true, .nilsl, H⟩
    | .arr r L off n, some a, some b => ⟨m = 0 ∧ a = 0 ∧ b = 0 ∧ hi.isSome = true, .nilsl, H⟩
    | _, _, _ => R.bad
  | _ => R.bad

def bitsOf (op : BinOp) (k : IntKind) (a b : Int) : Int := match op with
  | .and => k.wrap (BitVec.ofInt k.bits a &&& BitVec.ofInt k.bits b).toNat
  | .or => k.wrap (BitVec.ofInt k.bits a ||| BitVec.ofInt k.bits b).toNat
  | .xor => k.wrap (BitVec.ofInt k.bits a ^^^ BitVec.ofInt k.bits b).toNat
  | .andNot => k.wrap (BitVec.ofInt k.bits a &&& ~~~ BitVec.ofInt k.bits b).toNat
  | _ => 0

def intBin (op : BinOp) (k : IntKind) (a b : Int) (H : Heap) : R :=
  match op with
  | .add => ⟨True, .int k (k.wrap (a + b)), H⟩
  | .sub => ⟨True, .int k (k.wrap (a - b)), H⟩
  | .mul => ⟨True, .int k (k.wrap (a * b)), H⟩
  | .quo => ⟨b ≠ 0, .int k (k.wrap (a.tdiv b)), H⟩
  | .rem => ⟨b ≠ 0, .int k (a.tmod b), H⟩
  | .and => ⟨True, .int k (bitsOf .and k a b), H⟩
  | .or => ⟨True, .int k (bitsOf .or k a b), H⟩
  | .xor => ⟨True, .int k (bitsOf .xor k a b), H⟩
  | .andNot => ⟨True, .int k (bitsOf .andNot k a b), H⟩
  | .eql => ⟨True, .bool (a == b), H⟩
  | .neq => ⟨True, .bool (a != b), H⟩
  | .lss => ⟨True, .bool (decide (a < b)), H⟩
  | .leq => ⟨True, .bool (decide (a ≤ b)), H⟩
  | .gtr => ⟨True, .bool (decide (a > b)), H⟩
  | .geq => ⟨True, .bool (decide (a ≥ b)), H⟩
  | _ => R.bad

def strBin (op : BinOp) (a b : List UInt8) (H : Heap) : R :=
  match op with
  | .add => ⟨a.length + b.length < 2 ^ 62, .str (a ++ b), H⟩
  | .eql => ⟨True, .bool (a == b), H⟩
  | .neq => ⟨True, .bool (!(a == b)), H⟩
  | .lss => ⟨True, .bool (Op.bytesLess a b), H⟩
  | .leq => ⟨True, .bool (Op.bytesLess a b || a == b), H⟩
  | .gtr => ⟨True, .bool (!(Op.bytesLess a b || a == b)), H⟩
  | .geq => ⟨True, .bool (!Op.bytesLess a b), H⟩
  | _ => R.bad

def eqCell : V → V → Bool
  | .int _ a, .int _ b => a == b
  | .str a, .str b => a == b
  | .bool a, .bool b => a == b
  | _, _ => false

/-- Two cells of one of the kinds that are compared. -/
def okCell : TypeDesc → V → V → Bool
  | .int q, .int k _, .int k' _ => q == k && q == k'
  | .string, .str _, .str _ => true
  | .bool, .bool _, .bool _ => true
  | _, _, _ => false

def eqCells : List V → List V → Bool
  | x :: xs, y :: ys => eqCell x y && eqCells xs ys
  | _, _ => true

def okCells : List TypeDesc → List V → List V → Bool
  | d :: ds, x :: xs, y :: ys => okCell d x y && okCells ds xs ys
  | [], [], [] => true
  | _, _, _ => false

/-- The kinds of a struct's fields, if each is of one cell and lies at its number. -/
def plainFields (P : Program) : Nat → List Field → Option (List TypeDesc)
  | _, [] => some []
  | i, f :: fs => if f.name == "_" || f.offset != i then none else
    match P.underlying f.type with
    | some (.int k) => (plainFields P (i + 1) fs).map (.int k :: ·)
    | some .string => (plainFields P (i + 1) fs).map (.string :: ·)
    | some .bool => (plainFields P (i + 1) fs).map (.bool :: ·)
    | _ => none

def eqKinds (P : Program) (t : TypeId) : Option (List TypeDesc) :=
  match P.underlying t with
  | some (.struct fs) => if P.stoodInHeld t || P.eqGuardType P.depth t then none else plainFields P 0 fs.toList
  | _ => none

def isPtr (P : Program) (t : TypeId) : Bool := match P.underlying t with | some (.pointer _) => true | _ => false
def isFace (P : Program) (t : TypeId) : Bool := match P.underlying t with | some (.interface _) => true | _ => false
def isBoolT (P : Program) (t : TypeId) : Bool := match P.underlying t with | some .bool => true | _ => false
def isFuncT (P : Program) (t : TypeId) : Bool := match P.underlying t with | some (.func ..) => true | _ => false
def isMapT (P : Program) (t : TypeId) : Bool := match P.underlying t with | some (.map ..) => true | _ => false

/-- Are two values one? c: an operand is a constant. -/
def eqR (P : Program) (t : TypeId) (c : Bool) (x y : V) (H : Heap) : R :=
  match x, y with
  | .bool a, .bool b => ⟨isBoolT P t = true, .bool (a == b), H⟩
  | .agg xs, .agg ys => match eqKinds P t with
    | some ds => ⟨okCells ds xs ys = true, .bool (eqCells xs ys), H⟩
    | none => R.bad
  | .nilptr, .nilptr => ⟨isPtr P t = true, .bool true, H⟩
  | .nilptr, .ptr _ _ => ⟨isPtr P t = true, .bool false, H⟩
  | .ptr _ _, .nilptr => ⟨isPtr P t = true, .bool false, H⟩
  | .niliface, .niliface => ⟨isFace P t = true ∧ c = true, .bool true, H⟩
  | .niliface, .iface _ _ => ⟨isFace P t = true, .bool false, H⟩
  | .iface _ _, .niliface => ⟨isFace P t = true, .bool false, H⟩
  | .nilfn, .nilfn => ⟨isFuncT P t = true, .bool true, H⟩
  | .nilfn, .fn _ _ _ => ⟨isFuncT P t = true, .bool false, H⟩
  | .fn _ _ _, .nilfn => ⟨isFuncT P t = true, .bool false, H⟩
  | .nilmap, .nilmap => ⟨isMapT P t = true, .bool true, H⟩
  | .nilmap, .mp _ => ⟨isMapT P t = true, .bool false, H⟩
  | .mp _, .nilmap => ⟨isMapT P t = true, .bool false, H⟩
  | _, _ => R.bad

def notR (r : R) : R := match r.v with
  | .bool b => ⟨r.ok, .bool (!b), r.H⟩
  | _ => R.bad

def binR (P : Program) (op : BinOp) (t : TypeId) (c : Bool) (x y : V) (H : Heap) : R :=
  match op, x, y with
  | .shl, .int k a, .int _ b => ⟨0 ≤ b, .int k (k.wrap (a * 2 ^ (min b.toNat k.bits))), H⟩
  | .shr, .int k a, .int _ b => ⟨0 ≤ b, .int k (a.fdiv (2 ^ (min b.toNat k.bits))), H⟩
  | op, .int k a, .int k' b => if k = k' then intBin op k a b H else R.bad
  | op, .str a, .str b => strBin op a b H
  | .eql, x, y => eqR P t c x y H
  | .neq, x, y => notR (eqR P t c x y H)
  | _, _, _ => R.bad

def unR (op : UnOp) (x : V) (H : Heap) : R :=
  match op, x with
  | .neg, .int k n => ⟨True, .int k (k.wrap (0 - n)), H⟩
  | .xor, .int k n => ⟨True, .int k (bitsOf .xor k (if k.signed then -1 else k.max) n), H⟩
  | .not, .bool b => ⟨True, .bool (!b), H⟩
  | _, _ => R.bad

def pickR (c a b : V) (H : Heap) : R :=
  match c with
  | .bool t => ⟨True, if t then a else b, H⟩
  | _ => R.bad

def byteV (b : UInt8) : V := .int .u8 b.toNat
def byteOfV : V → UInt8
  | .int _ n => UInt8.ofNat n.toNat
  | _ => 0
def okByte : V → Bool
  | .int .u8 n => decide (0 ≤ n ∧ n < 256)
  | _ => false

def isU8 (P : Program) (e : TypeId) : Bool := match P.underlying e with | some (.int .u8) => true | _ => false

/-- The elements of a slice, or the bytes of a text. -/
def elemsR (x : V) (H : Heap) : Option (Prop × Nat × List V) :=
  match x with
  | .nilsl => some (True, 0, [])
  | .zsl => some (True, 0, [])
  | .sl k xs => some (True, k, xs)
  | .str l => some (True, 1, l.map byteV)
  | .arr r L off n => match H[r]? with
    | some (.arr _ k xs) => some (xs.length = L ∧ off + n ≤ L, k, (xs.drop off).take n)
    | _ => none
  | _ => none

def convR (P : Program) (src dst : TypeId) (x : V) (H : Heap) : R :=
  match P.underlying src, P.underlying dst, x with
  | some _, some (.int k), .int _ n => ⟨True, .int k (k.wrap n), H⟩
  | some _, some .string, .str l => ⟨True, .str l, H⟩
  | some .string, some (.slice e), .str l => ⟨isU8 P e = true ∧ l.length < 2 ^ 46, .arr H.length l.length 0 l.length, H ++ [.arr e 1 (l.map byteV)]⟩
  | some (.slice e), some .string, x => match elemsR x H with
    | some (c, k, xs) => ⟨isU8 P e = true ∧ c ∧ (k = 1 ∨ xs = []) ∧ xs.all okByte = true, .str (xs.map byteOfV), H⟩
    | none => R.bad
  | _, _, _ => R.bad

/-- May an array of so many elements be made by append? -/
def fits (n bytes : Nat) : Prop := (2 * n + 1000) * bytes ≤ 2 ^ 48 ∧ n < 2 ^ 62

def appendR (e : TypeId) (g : Bool) (k bytes : Nat) (z s x : V) (H : Heap) : R :=
  match elemsR x H with
  | some (c, k', ys) =>
    match s with
    | .nilsl => ⟨c ∧ (k' = k ∨ ys = []) ∧ okVal g k z ∧ 0 < k ∧ fits ys.length bytes, .arr H.length ys.length 0 ys.length, H ++ [.arr e k ys]⟩
    | .zsl => ⟨c ∧ (k' = k ∨ ys = []) ∧ okVal g k z ∧ 0 < k ∧ fits ys.length bytes, .arr H.length ys.length 0 ys.length, H ++ [.arr e k ys]⟩
    | .arr r L off n => match H[r]? with
      | some (.arr t kk xs) => ⟨c ∧ (k' = k ∨ ys = []) ∧ okVal g k z ∧ 0 < k ∧ t = e ∧ kk = k ∧ xs.length = L ∧ off + n = L ∧ off = 0 ∧ fits (L + ys.length) bytes,
          .arr r (L + ys.length) off (n + ys.length), H.set r (.arr t kk (xs ++ ys))⟩
      | _ => R.bad
    | _ => R.bad
  | none => R.bad

def lenKind : Option TypeDesc → Nat
  | some .string => 0
  | some (.slice _) => 1
  | some (.map _ _) => 2
  | _ => 3

def lenR (d : Nat) (x : V) (H : Heap) : R :=
  match x with
  | .str l => ⟨d = 0, .int .i64 l.length, H⟩
  | .nilsl => ⟨d = 1, .int .i64 0, H⟩
  | .zsl => ⟨d = 1, .int .i64 0, H⟩
  | .sl _ xs => ⟨d = 1, .int .i64 xs.length, H⟩
  | .arr r L off n => ⟨d = 1, .int .i64 n, H⟩
  | .nilmap => ⟨d = 2, .int .i64 0, H⟩
  | .mp r => match H[r]? with
    | some (.mp es) => ⟨d = 2, .int .i64 es.length, H⟩
    | _ => R.bad
  | _ => R.bad

def minR (mx : Bool) (x y : V) (H : Heap) : R :=
  match x, y with
  | .int k a, .int _ b => ⟨True, .int k (if mx then (if b > a then b else a) else (if b < a then b else a)), H⟩
  | _, _ => R.bad

def makeSliceR (e : TypeId) (g : Bool) (k bytes : Nat) (z l c : V) (H : Heap) : R :=
  match l, c with
  | .int _ n, .int _ m => ⟨0 ≤ n ∧ n ≤ m ∧ m * bytes ≤ 2 ^ 47 ∧ m < 2 ^ 62 ∧ okVal g k z ∧ 0 < k, .arr H.length n.toNat 0 n.toNat, H ++ [.arr e k (List.replicate n.toNat z)]⟩
  | _, _ => R.bad

/-- Is a key of a map this one? -/
def keyEq : V → V → Bool
  | .agg xs, .agg ys => eqCells xs ys
  | x, y => eqCell x y

def findKey : V → List (V × V) → Option V
  | _, [] => none
  | k, (q, x) :: es => if keyEq k q then some x else findKey k es

def putKey : V → V → List (V × V) → List (V × V)
  | k, x, [] => [(k, x)]
  | k, x, (q, y) :: es => if keyEq k q then (k, x) :: es else (q, y) :: putKey k x es

/-- The kinds of a map's key: one cell, or a struct of plain ones. -/
def keyKinds (P : Program) (t : TypeId) : Option (List TypeDesc × Bool) :=
  match P.underlying t with
  | some (.int k) => some ([.int k], false)
  | some .string => some ([.string], false)
  | some .bool => some ([.bool], false)
  | some (.struct _) => (eqKinds P t).map (·, true)
  | _ => none

def okKey (d : List TypeDesc × Bool) (k : V) : Bool := match d.2, k with
  | true, .agg cs => okCells d.1 cs cs
  | true, _ => false
  | false, .agg _ => false
  | false, k => okCells d.1 [k] [k]

def mapOf (P : Program) (t : TypeId) : Option (TypeId × TypeId) := match P.underlying t with
  | some (.map k e) => some (k, e)
  | _ => none

def lookupR (d : List TypeDesc × Bool) (z m k : V) (ok : Bool) (H : Heap) : R :=
  match m with
  | .nilmap => ⟨okKey d k = true, match ok with | true => .tup [z, .bool false] | false => z, H⟩
  | .mp r => match H[r]? with
    | some (.mp es) => ⟨okKey d k = true ∧ es.all (fun e => okKey d e.1) = true, match ok with
        | true => .tup [(findKey k es).getD z, .bool (findKey k es).isSome]
        | false => (findKey k es).getD z, H⟩
    | _ => R.bad
  | _ => R.bad

def mapUpdateR (d : List TypeDesc × Bool) (m k x : V) (H : Heap) : R :=
  match m with
  | .mp r => match H[r]? with
    | some (.mp es) => ⟨okKey d k = true ∧ es.all (fun e => okKey d e.1) = true, .tup [], H.set r (.mp (putKey k x es))⟩
    | _ => R.bad
  | _ => R.bad

def extractR (t : V) (i : Nat) (H : Heap) : R :=
  match t with
  | .tup vs => match vs[i]? with
    | some v => ⟨True, v, H⟩
    | none => R.bad
  | _ => R.bad

/-- A struct of parts: where each lies. -/
def buildGo (place : Nat → Option (Nat × Bool × Nat)) : List V → List (Nat × V) → Option (Prop × List V)
  | cells, [] => some (True, cells)
  | cells, (i, v) :: rest => match place i with
    | some (off, g, k) => match buildGo place (splice cells off (valCells g v)) rest with
      | some (c, out) => some (okVal g k v ∧ (off + k ≤ cells.length) ∧ c, out)
      | none => none
    | none => none

/-- All fields of a struct have types that are known. -/
def placesOk (P : Program) (t : TypeId) : Bool := match P.underlying t with
  | some (.struct fs) => fs.toList.all fun f => (P.info? f.type).isSome
  | _ => false

def placeOf (P : Program) (t : TypeId) (i : Nat) : Option (Nat × Bool × Nat) :=
  match fieldOf P t i with
  | some f => (lay P f.type).map fun (g, k) => (f.offset, g, k)
  | none => none

def buildR (P : Program) (t : TypeId) (z : V) (parts : List (Nat × V)) (H : Heap) : R :=
  match z with
  | .agg cells => match buildGo (placeOf P t) cells parts with
    | some (c, out) => ⟨c, .agg out, H⟩
    | none => R.bad
  | _ => R.bad

/-- The parts of a list, in order. -/
def partsInOrder : Nat → List (Nat × V) → Option (List V)
  | _, [] => some []
  | i, (j, v) :: rest => if i = j then (partsInOrder (i + 1) rest).map (v :: ·) else none

def okElems (g : Bool) (k : Nat) : List V → Prop
  | [] => True
  | [v] => okVal g k v
  | v :: vs => okVal g k v ∧ okElems g k vs

def buildSliceR (g : Bool) (k len : Nat) (parts : List (Nat × V)) (H : Heap) : R :=
  match partsInOrder 0 parts with
  | some [] => match len with
    | 0 => ⟨True, .nilsl, H⟩
    | _ => R.bad
  | some vs => if vs.length = len then ⟨okElems g k vs ∧ 0 < k ∧ len * k ≤ 2 ^ 24, .sl k vs, H⟩ else R.bad
  | none => R.bad

def isConstOp : Operand → Bool
  | .const _ => true
  | _ => false

def builtinR (P : Program) (b : Builtin) (args : List V) (ats : List TypeId) (H : Heap) : R :=
  match b, args, ats with
  | .len, [x], [t] => lenR (lenKind (P.underlying t)) x H
  | .append, [s, x], [t, u] => match elemOfSlice P t with
    | some e => match lay P e, P.info? e, zeroOf P e, P.underlying u with
      | some (g, k), some i, some z, some (.slice _) => appendR e g k i.bytes z s x H
      | some (g, k), some i, some z, some .string => appendR e g k i.bytes z s x H
      | _, _, _, _ => R.bad
    | none => R.bad
  | .min, [x, y], _ => minR false x y H
  | .max, [x, y], _ => minR true x y H
  | _, _, _ => R.bad

/-- What an operation does, but for calls. -/
def ares (P : Program) (ρ : Operand → V) (H : Heap) : Op → R
  | .move x | .assign x => ⟨True, ρ x, H⟩
  | .pick c a b => pickR (ρ c) (ρ a) (ρ b) H
  | .alloc t => match zeroOf P t, lay P t with
    | some z, some (g, k) => ⟨okVal g k z, .ptr H.length 0, H ++ [.cells t (valCells g z)]⟩
    | _, _ => R.bad
  | .box t x => match lay P t with
    | some (g, k) => ⟨okVal g k (ρ x), .ptr H.length 0, H ++ [.cells t (valCells g (ρ x))]⟩
    | none => R.bad
  | .build t parts => match zeroOf P t, placesOk P t with
    | some z, true => buildR P t z (parts.toList.map fun (i, x) => (i, ρ x)) H
    | _, _ => R.bad
  | .buildSlice t len parts => match elemOfSlice P t with
    | some e => match lay P e, zeroOf P e with
      | some (g, k), some _ => buildSliceR g k len (parts.toList.map fun (i, x) => (i, ρ x)) H
      | _, _ => R.bad
    | none => R.bad
  | .load t a => match lay P t with
    | some (g, k) => loadR g k (ρ a) H
    | none => R.bad
  | .store t a x => match lay P t with
    | some (g, k) => storeR g k (ρ a) (ρ x) H
    | none => R.bad
  | .nilCheck x => nilCheckR (ρ x) H
  | .binOp op t x y _ => binR P op t (isConstOp x || isConstOp y) (ρ x) (ρ y) H
  | .unOp op _ x => unR op (ρ x) H
  | .convert src dst x => convR P src dst (ρ x) H
  | .makeInterface t x => if isFace P t then R.bad else ⟨(P.underlying t).isSome = true, .iface t (ρ x), H⟩
  | .makeFunc (.func f) first captured => ⟨True, .fn f (first.toList.map ρ) (captured.toList.map ρ), H⟩
  | .makeMap t none => ⟨True, .mp H.length, H ++ [.mp []]⟩
  | .makeSlice t l c => match elemOfSlice P t with
    | some e => match lay P e, P.info? e, zeroOf P e with
      | some (g, k), some i, some z => makeSliceR e g k i.bytes z (ρ l) (ρ c) H
      | _, _, _ => R.bad
    | none => R.bad
  | .slice t x lo hi mx => match P.underlying t with
    | some .string => sliceStrR (ρ x) (lo.map ρ) (hi.map ρ) (mx.map ρ) H
    | some (.slice e) => match lay P e with
      | some (_, k) => sliceSlR k (ρ x) (lo.map ρ) (hi.map ρ) (mx.map ρ) H
      | none => R.bad
    | _ => R.bad
  | .fieldAddr s x f => match fieldOf P s f with
    | some fl => match lay P fl.type with
      | some (_, 0) => R.bad
      | some _ => fieldAddrR fl.offset (ρ x) H
      | none => R.bad
    | none => R.bad
  | .field s x f => match fieldOf P s f with
    | some fl => match lay P fl.type with
      | some (g, k) => fieldR g k fl.offset (ρ x) H
      | none => R.bad
    | none => R.bad
  | .indexAddr t x i => match elemOfSlice P t with
    | some e => match lay P e with
      | some (_, k) => indexAddrR k (ρ x) (ρ i) H
      | none => R.bad
    | none => R.bad
  | .index t x i => match P.underlying t with
    | some .string => indexR (ρ x) (ρ i) H
    | _ => R.bad
  | .lookup t m k ok => match mapOf P t with
    | some (kt, e) => match keyKinds P kt, zeroOf P e with
      | some d, some z => lookupR d z (ρ m) (ρ k) ok H
      | _, _ => R.bad
    | none => R.bad
  | .mapUpdate t m k x => match mapOf P t with
    | some (kt, _) => match keyKinds P kt with
      | some d => mapUpdateR d (ρ m) (ρ k) (ρ x) H
      | none => R.bad
    | none => R.bad
  | .extract t i => extractR (ρ t) i H
  | .call c => match c.callee with
    | .builtin b => builtinR P b (c.args.toList.map ρ) c.argTypes.toList H
    | _ => R.bad
  | _ => R.bad

end Go.Ab
namespace Go.Ab
variable [Env]

/-- A world in which one block alone was turned. -/
structure But (b : Nat) (w w' : World) : Prop where
  size : w'.heap.size = w.heap.size
  same : ∀ c, c ≠ b → w'.heap[c]? = w.heap[c]?
  os : w'.os = w.os
  tape : w'.tape = w.tape
  output : w'.output = w.output
  drawn : w'.drawn = w.drawn

theorem But.refl (b : Nat) (w : World) : But b w w := ⟨rfl, fun _ _ => rfl, rfl, rfl, rfl, rfl⟩
theorem But.trans {b : Nat} {w1 w2 w3 : World} (h : But b w1 w2) (k : But b w2 w3) : But b w1 w3 :=
  ⟨k.size.trans h.size, fun c hc => (k.same c hc).trans (h.same c hc), k.os.trans h.os, k.tape.trans h.tape, k.output.trans h.output, k.drawn.trans h.drawn⟩

section
variable {P : Program} {w : World}

theorem cell_of_block {b o : Nat} {vs : Array Value} {t : TypeId} {fz : Nat × Nat} (h : w.heap[b]? = some (.cells vs t fz)) : w.cell? ⟨b, o, none⟩ = vs[o]? := by
  simp [World.cell?, h]
theorem frozen_of_block {b o : Nat} {vs : Array Value} {t : TypeId} {fz : Nat × Nat} (h : w.heap[b]? = some (.cells vs t fz)) : w.frozen? ⟨b, o, none⟩ = (decide (fz.1 ≤ o) && decide (o < fz.2)) := by
  obtain ⟨lo, hi⟩ := fz
  simp [World.frozen?, h]

theorem run_load_at {b o : Nat} {vs : Array Value} {t : TypeId} {fz : Nat × Nat} {v : Value} (h : w.heap[b]? = some (.cells vs t fz)) (hv : vs[o]? = some v) :
    (load ⟨b, o, none⟩).run P w = .ok v w := by
  rw [run_load, cell_of_block h, hv]

theorem add_none (b o n : Nat) : Addr.add ⟨b, o, none⟩ n = ⟨b, o + n, none⟩ := by
  unfold Addr.add; split <;> simp_all

theorem run_loadCellsFrom {b o : Nat} {vs : Array Value} {t : TypeId} {fz : Nat × Nat} (h : w.heap[b]? = some (.cells vs t fz)) :
    ∀ (n i : Nat) (acc : Array Value), o + i + n ≤ vs.size → (loadCellsFrom ⟨b, o, none⟩ i n acc).run P w = .ok (acc ++ vs.extract (o + i) (o + i + n)) w
  | 0, i, acc, _ => by simp [loadCellsFrom]; omega
  | n + 1, i, acc, hn => by
    have hv : vs[o + i]? = some vs[o + i] := by rw [Array.getElem?_eq_getElem]
    rw [loadCellsFrom, Sem.run_bind, add_none, run_load_at h hv, Result.andThen_ok, run_loadCellsFrom h n (i + 1) _ (by omega)]
    congr 1
    apply Array.ext'
    simp only [Array.toList_append, Array.toList_push, Array.toList_extract, List.append_assoc]
    congr 1
    rw [show o + (i + 1) = o + i + 1 by omega]
    simp only [List.extract_eq_take_drop]
    rw [show o + i + (n + 1) - (o + i) = n + 1 by omega, show o + i + 1 + n - (o + i + 1) = n by omega]
    rw [List.drop_eq_getElem_cons (l := vs.toList) (i := o + i) (by simpa using (by omega : o + i < vs.size))]
    simp

theorem run_loadCells {b o : Nat} {vs : Array Value} {t : TypeId} {fz : Nat × Nat} (h : w.heap[b]? = some (.cells vs t fz)) {n : Nat} (hn : o + n ≤ vs.size) :
    (loadCells ⟨b, o, none⟩ n).run P w = .ok (vs.extract o (o + n)) w := by
  rw [loadCells, run_loadCellsFrom h n 0 #[] (by omega)]; simp

theorem run_isAgg {t : TypeId} {g : Bool} {k : Nat} (h : lay P t = some (g, k)) (w : World) : (isAgg t).run P w = .ok g w := by
  unfold lay at h
  unfold isAgg
  rw [Sem.run_bind]
  cases hu : P.underlying t with
  | none => rw [hu] at h; simp at h
  | some d =>
    rw [run_underlying hu]
    cases hi : P.info? t with
    | none => rw [hu, hi] at h; cases d <;> simp at h
    | some i =>
      rw [hu, hi] at h
      cases d <;> simp at h <;> (try obtain ⟨h0, h1, h2⟩ := h) <;> (try obtain ⟨h1, h2⟩ := h) <;> subst_vars <;> simp

theorem run_sizeOf' {t : TypeId} {g : Bool} {k : Nat} (h : lay P t = some (g, k)) (w : World) : (sizeOf t).run P w = .ok k w := by
  unfold lay at h
  cases hu : P.underlying t with
  | none => rw [hu] at h; simp at h
  | some d =>
    cases hi : P.info? t with
    | none => rw [hu, hi] at h; cases d <;> simp at h
    | some i =>
      rw [hu, hi] at h
      simp only [sizeOf, typeInfo, Sem.run_bind, run_program, Result.andThen_ok, hi, Sem.run_pure]
      cases d <;> simp at h <;> (try obtain ⟨h0, h1, h2⟩ := h) <;> (try obtain ⟨h1, h2⟩ := h) <;> subst_vars <;> simp_all

theorem lay_one {t : TypeId} {k : Nat} (h : lay P t = some (false, k)) : k = 1 := by
  unfold lay at h
  split at h <;> simp_all

/-- A load, of cells that are there. -/
theorem run_loadVar' {t : TypeId} {g : Bool} {k : Nat} (ht : lay P t = some (g, k)) {b o : Nat} {vs : Array Value} {t' : TypeId} {fz : Nat × Nat} (h : w.heap[b]? = some (.cells vs t' fz))
    (hn : o + (if g then k else 1) ≤ vs.size) :
    (loadVar t ⟨b, o, none⟩).run P w = .ok (if g then .agg (vs.extract o (o + k)) else vs.getD o undef) w := by
  cases g
  · have hv : vs[o]? = some (vs.getD o undef) := by
      simp at hn
      rw [Array.getElem?_eq_getElem (by omega)]; simp [Array.getD, show o < vs.size by omega]
    rw [loadVar, Sem.run_bind, run_isAgg ht]
    simpa using run_load_at h hv
  · simp at hn
    simp [loadVar, run_isAgg ht, run_sizeOf' ht, run_loadCells h hn]

theorem heap_setCell_at {b o : Nat} {vs : Array Value} {t : TypeId} {fz : Nat × Nat} (h : w.heap[b]? = some (.cells vs t fz)) (v : Value) :
    (w.setCell ⟨b, o, none⟩ v).heap[b]? = some (.cells (vs.setIfInBounds o v) t fz) := by
  simp [World.setCell, Array.getElem?_modify, h]
theorem but_setCell (w : World) (b o : Nat) (v : Value) : But b w (w.setCell ⟨b, o, none⟩ v) :=
  ⟨by simp, fun c hc => by simp [World.setCell, Array.getElem?_modify, Ne.symm hc], rfl, rfl, rfl, rfl⟩

theorem run_store_at {b o : Nat} {vs : Array Value} {t : TypeId} {fz : Nat × Nat} {v : Value} (h : w.heap[b]? = some (.cells vs t fz)) (ho : o < vs.size) (hc : Clear fz vs.size) (hv : v.oneCell' = true) :
    (store ⟨b, o, none⟩ v).run P w = .ok () (w.setCell ⟨b, o, none⟩ v) := by
  rw [run_store _ _ _ _ _ hv, cell_of_block h, Array.getElem?_eq_getElem ho, frozen_of_block h]
  have := hc o ho
  have e : (decide (fz.1 ≤ o) && decide (o < fz.2)) = false := by simp; omega
  simp [e]

theorem run_storeCells {b : Nat} {t : TypeId} {fz : Nat × Nat} (o : Nat) : ∀ (ws : List Value) (i : Nat) (w : World) (vs : Array Value), w.heap[b]? = some (.cells vs t fz) →
    o + i + ws.length ≤ vs.size → Clear fz vs.size → (∀ v ∈ ws, v.oneCell' = true) →
    ∃ w' vs', (storeCells ⟨b, o, none⟩ ws i).run P w = .ok () w' ∧ But b w w' ∧ w'.heap[b]? = some (.cells vs' t fz) ∧ vs'.toList = vs.toList.take (o + i) ++ ws ++ vs.toList.drop (o + i + ws.length)
  | [], i, w, vs, h, hn, hc, hv => ⟨w, vs, by simp [storeCells], But.refl b w, h, by simp⟩
  | v :: ws, i, w, vs, h, hn, hc, hv => by
    simp only [List.length_cons] at hn
    have h1 := run_store_at (P := P) (v := v) h (show o + i < vs.size by omega) hc (hv v (by simp))
    have h2 := heap_setCell_at (o := o + i) h v
    obtain ⟨w', vs', r, hb, hh, hl⟩ := run_storeCells o ws (i + 1) (w.setCell ⟨b, o + i, none⟩ v) (vs.setIfInBounds (o + i) v) h2 (by simp; omega) (by simpa using hc) (fun x hx => hv x (by simp [hx]))
    refine ⟨w', vs', ?_, (but_setCell w b (o + i) v).trans hb, hh, ?_⟩
    · rw [storeCells, Sem.run_bind, add_none, h1, Result.andThen_ok]; exact r
    · rw [hl]
      simp only [Array.toList_setIfInBounds, List.length_cons]
      apply List.ext_getElem?
      intro j
      simp only [List.getElem?_append, List.length_take, List.length_append, List.length_set, List.length_drop, Array.length_toList, List.getElem?_take, List.getElem?_drop, List.getElem?_set, List.getElem?_cons, List.length_cons]
      rcases Nat.lt_trichotomy j (o + i) with hj | hj | hj
      · simp [show j < o + (i + 1) by omega, show o + i ≠ j by omega, hj, show j < vs.size by omega, show j < min (o + (i + 1)) vs.size by omega, show j < min (o + i) vs.size by omega, show j < min (o + (i + 1)) vs.size + ws.length by omega, show j < min (o + i) vs.size + (ws.length + 1) by omega]
      · subst hj
        simp [show o + i < vs.size by omega, show min (o + i) vs.size = o + i by omega, show min (o + (i + 1)) vs.size = o + i + 1 by omega, show o + i < o + i + 1 + ws.length by omega, show o + i < o + (i + 1) by omega]
      · rw [show min (o + (i + 1)) vs.size = o + i + 1 by omega, show min (o + i) vs.size = o + i by omega]
        by_cases hj2 : j < o + i + 1 + ws.length
        · simp [hj2, show j < o + i + (ws.length + 1) by omega, show ¬ j < o + i + 1 by omega, show ¬ j < o + i by omega, show ¬ j - (o + i) = 0 by omega, show j - (o + i) - 1 = j - (o + i + 1) by omega]
        · simp [hj2, show ¬ j < o + i + (ws.length + 1) by omega, show o + i ≠ o + (i + 1) + ws.length + (j - (o + i + 1 + ws.length)) by omega]
          congr 1; omega

/-- A store, of cells that are there. -/
theorem run_storeVar' {t : TypeId} {g : Bool} {k : Nat} (ht : lay P t = some (g, k)) {b o : Nat} {vs : Array Value} {t' : TypeId} {fz : Nat × Nat} (h : w.heap[b]? = some (.cells vs t' fz))
    {v : Value} (hk : v.cells.size = k) (hn : o + k ≤ vs.size) (hc : Clear fz vs.size) (hv : ∀ x ∈ v.cells.toList, x.oneCell' = true) :
    ∃ w' vs', (storeVar t ⟨b, o, none⟩ v).run P w = .ok () w' ∧ But b w w' ∧ w'.heap[b]? = some (.cells vs' t' fz) ∧ vs'.toList = vs.toList.take o ++ v.cells.toList ++ vs.toList.drop (o + k) := by
  obtain ⟨w', vs', r, hb, hh, hl⟩ := run_storeCells (P := P) (b := b) o v.cells.toList 0 w vs h (by simp; omega) hc hv
  refine ⟨w', vs', ?_, hb, hh, ?_⟩
  · rw [storeVar, Sem.run_bind, run_sizeOf' ht]
    simp only [Result.andThen_ok, hk, ne_eq, not_true_eq_false, if_false]
    exact r
  · rw [hl]; simp [hk]

end
end Go.Ab
namespace Go.Ab
variable [Env]
section
variable {γ : List Loc} {F : Frz}

theorem RepC.length : ∀ {cs : List V} {vs : List Value}, RepC γ F cs vs → vs.length = cs.length
  | [], vs, h => by simp only [RepC] at h; simp [h]
  | x :: xs, vs, h => by
    simp only [RepC] at h
    obtain ⟨v, ws, rfl, _, _, h3⟩ := h
    simp [RepC.length h3]
theorem RepC.one : ∀ {cs : List V} {vs : List Value}, RepC γ F cs vs → ∀ v ∈ vs, v.oneCell' = true
  | [], vs, h => by simp only [RepC] at h; simp [h]
  | x :: xs, vs, h => by
    simp only [RepC] at h
    obtain ⟨v, ws, rfl, h1, _, h3⟩ := h
    intro u hu
    rcases List.mem_cons.1 hu with rfl | hu
    · exact h1
    · exact RepC.one h3 u hu
theorem RepC.append : ∀ {cs ds : List V} {vs ws : List Value}, RepC γ F cs vs → RepC γ F ds ws → RepC γ F (cs ++ ds) (vs ++ ws)
  | [], ds, vs, ws, h, h' => by simp only [RepC] at h; subst h; exact h'
  | x :: xs, ds, vs, ws, h, h' => by
    simp only [RepC] at h
    obtain ⟨v, us, rfl, h1, h2, h3⟩ := h
    simp only [List.cons_append, RepC]
    exact ⟨v, us ++ ws, rfl, h1, h2, RepC.append h3 h'⟩
theorem RepC.take : ∀ {cs : List V} {vs : List Value} (n : Nat), RepC γ F cs vs → RepC γ F (cs.take n) (vs.take n)
  | cs, vs, 0, h => by simp [RepC]
  | [], vs, n + 1, h => by simp only [RepC] at h; subst h; simp [RepC]
  | x :: xs, vs, n + 1, h => by
    simp only [RepC] at h
    obtain ⟨v, us, rfl, h1, h2, h3⟩ := h
    simp only [List.take_succ_cons, RepC]
    exact ⟨v, us.take n, rfl, h1, h2, RepC.take n h3⟩
theorem RepC.drop : ∀ {cs : List V} {vs : List Value} (n : Nat), RepC γ F cs vs → RepC γ F (cs.drop n) (vs.drop n)
  | cs, vs, 0, h => by simpa using h
  | [], vs, n + 1, h => by simp only [RepC] at h; subst h; simp [RepC]
  | x :: xs, vs, n + 1, h => by
    simp only [RepC] at h
    obtain ⟨v, us, rfl, h1, h2, h3⟩ := h
    simp only [List.drop_succ_cons]
    exact RepC.drop n h3
theorem RepC.splice {cs new : List V} {vs ws : List Value} {off : Nat} (h : RepC γ F cs vs) (hn : RepC γ F new ws) :
    RepC γ F (splice cs off new) (vs.take off ++ ws ++ vs.drop (off + new.length)) := by
  unfold Ab.splice
  exact ((h.take off).append hn).append (h.drop _)
theorem RepC.head {x : V} {cs : List V} {vs : List Value} (h : RepC γ F (x :: cs) vs) : ∃ v ws, vs = v :: ws ∧ v.oneCell' = true ∧ Rep γ F x v := by
  simp only [RepC] at h
  obtain ⟨v, us, rfl, h1, h2, h3⟩ := h
  exact ⟨v, us, rfl, h1, h2⟩
theorem RepC.single {x : V} {v : Value} (h1 : v.oneCell' = true) (h2 : Rep γ F x v) : RepC γ F [x] [v] := by
  simp only [RepC]; exact ⟨v, [], rfl, h1, h2, rfl⟩

theorem RepL.length : ∀ {cs : List V} {vs : List Value}, RepL γ F cs vs → vs.length = cs.length
  | [], vs, h => by simp only [RepL] at h; simp [h]
  | x :: xs, vs, h => by
    simp only [RepL] at h
    obtain ⟨v, ws, rfl, _, h3⟩ := h
    simp [RepL.length h3]
theorem RepL.append : ∀ {cs ds : List V} {vs ws : List Value}, RepL γ F cs vs → RepL γ F ds ws → RepL γ F (cs ++ ds) (vs ++ ws)
  | [], ds, vs, ws, h, h' => by simp only [RepL] at h; subst h; exact h'
  | x :: xs, ds, vs, ws, h, h' => by
    simp only [RepL] at h
    obtain ⟨v, us, rfl, h2, h3⟩ := h
    simp only [List.cons_append, RepL]
    exact ⟨v, us ++ ws, rfl, h2, RepL.append h3 h'⟩
theorem RepL.get : ∀ {cs : List V} {vs : List Value} (i : Nat) {x : V}, RepL γ F cs vs → cs[i]? = some x → ∃ v, vs[i]? = some v ∧ Rep γ F x v
  | [], vs, i, x, h, hx => by simp at hx
  | y :: ys, vs, i, x, h, hx => by
    simp only [RepL] at h
    obtain ⟨v, us, rfl, h2, h3⟩ := h
    cases i with
    | zero => simp at hx; subst hx; exact ⟨v, by simp, h2⟩
    | succ i => simp at hx; simpa using RepL.get i h3 hx
theorem RepL.map {α : Type} {f : α → V} {g : α → Value} : ∀ {l : List α}, (∀ a ∈ l, Rep γ F (f a) (g a)) → RepL γ F (l.map f) (l.map g)
  | [], _ => by simp [RepL]
  | a :: l, h => by
    simp only [List.map_cons, RepL]
    exact ⟨g a, _, rfl, h a (by simp), RepL.map fun b hb => h b (by simp [hb])⟩

/-- A value of one cell, of a place of one cell. -/
theorem Rep.cell {x : V} {v : Value} (h : Rep γ F x v) (hx : x.isCell = true) : v.oneCell' = true := by
  cases x <;> simp only [Rep, V.isCell] at h hx
  case bool => subst h; rfl
  case int => subst h; rfl
  case str => subst h; rfl
  case nilptr => subst h; rfl
  case ptr => obtain ⟨b, _, rfl⟩ := h; rfl
  case cptr => obtain ⟨b, off, vs, t, fz, rfl, _⟩ := h; rfl
  case eptr => obtain ⟨b, p, rfl, _⟩ := h; rfl
  case nilsl => obtain ⟨a, rfl⟩ := h; rfl
  case zsl => subst h; rfl
  case sl => obtain ⟨a, cap, rfl, _⟩ := h; rfl
  case arr => obtain ⟨a, c, rfl, _⟩ := h; rfl
  case nilmap => subst h; rfl
  case mp => obtain ⟨b, _, rfl⟩ := h; rfl
  case yld => obtain ⟨b, _, rfl⟩ := h; rfl
  case fn => obtain ⟨as, cs, rfl, _⟩ := h; rfl
  case nilfn => subst h; rfl
  case iface => obtain ⟨u, rfl, _⟩ := h; rfl
  case niliface => subst h; rfl
  case opq => exact h
  all_goals cases hx

theorem cells_of_one {v : Value} (h : v.oneCell' = true) : v.cells = #[v] := by
  cases v <;> simp [Value.oneCell', Value.cells] at *

theorem undef_not : undef.oneCell' = false := rfl

/-- What a place of a type is stored. -/
theorem Rep.valCells {g : Bool} {k : Nat} {x : V} {v : Value} (h : Rep γ F x v) (hx : okVal g k x) :
    RepC γ F (valCells g x) v.cells.toList ∧ (g = true → v.cells.size = k) ∧ (g = false → v.cells.size = 1) ∧ (valCells g x).length = v.cells.size := by
  cases g
  · simp only [okVal] at hx
    have h1 := Rep.cell h hx
    rw [cells_of_one h1]
    exact ⟨RepC.single h1 h, by simp, by simp, rfl⟩
  · cases x <;> simp only [okVal] at hx
    case agg cs =>
      simp only [Rep] at h
      obtain ⟨vs, rfl, h2⟩ := h
      have := h2.length
      simp at this
      refine ⟨by simpa [Ab.valCells, cellsOf, Value.cells] using h2, by simp [Value.cells]; omega, by simp, by simp [Ab.valCells, cellsOf, Value.cells, this]⟩

theorem RepEs_cons {k : Nat} {x : V} {xs : List V} {vs : List Value} :
    RepEs γ F k (x :: xs) vs ↔ ∃ c rest, vs = c ++ rest ∧ c.length = k ∧ RepC γ F (cellsOf x) c ∧ RepEs γ F k xs rest ∧ ((∃ cs, x = .agg cs) ∨ k = 1) := by
  cases x
  case agg cs =>
    simp only [RepEs, cellsOf]
    constructor
    · rintro ⟨c, rest, h1, h2, h3, h4⟩; exact ⟨c, rest, h1, h2, h3, h4, .inl ⟨cs, rfl⟩⟩
    · rintro ⟨c, rest, h1, h2, h3, h4, _⟩; exact ⟨c, rest, h1, h2, h3, h4⟩
  all_goals
    simp only [RepEs, cellsOf]
    constructor
    · rintro ⟨v, rest, h1, h2, h3, h4, h5⟩
      exact ⟨[v], rest, by simpa using h1, by simp [h2], RepC.single h3 h4, h5, .inr h2⟩
    · rintro ⟨c, rest, h1, h2, h3, h4, h5⟩
      have hk : k = 1 := by simpa using h5
      obtain ⟨v, ws, rfl, h6, h7⟩ := RepC.head h3
      have : ws = [] := by rw [hk] at h2; simpa using h2
      subst this
      exact ⟨v, rest, by simpa using h1, hk, h6, h7, h4⟩

theorem RepEs.length {k : Nat} : ∀ {xs : List V} {vs : List Value}, RepEs γ F k xs vs → xs.length * k ≤ vs.length
  | [], vs, h => by simp
  | x :: xs, vs, h => by
    obtain ⟨c, rest, rfl, h2, h3, h4, h5⟩ := RepEs_cons.1 h
    have := RepEs.length h4
    simp only [List.length_cons, List.length_append, Nat.add_mul]; omega

theorem RepEs.drop {k : Nat} : ∀ {xs : List V} {vs : List Value} (j : Nat), RepEs γ F k xs vs → RepEs γ F k (xs.drop j) (vs.drop (j * k))
  | xs, vs, 0, h => by simpa using h
  | [], vs, j + 1, h => by simp [RepEs]
  | x :: xs, vs, j + 1, h => by
    obtain ⟨c, rest, rfl, h2, h3, h4, h5⟩ := RepEs_cons.1 h
    have := RepEs.drop j h4
    rw [List.drop_succ_cons, Nat.add_mul, Nat.one_mul, Nat.add_comm, ← List.drop_drop]
    subst h2
    rw [List.drop_append_of_le_length (by omega)]
    simpa using this

theorem RepEs.take {k : Nat} : ∀ {xs : List V} {vs : List Value} (j : Nat), RepEs γ F k xs vs → RepEs γ F k (xs.take j) vs
  | xs, vs, 0, h => by simp [RepEs]
  | [], vs, j + 1, h => by simp [RepEs]
  | x :: xs, vs, j + 1, h => by
    obtain ⟨c, rest, rfl, h2, h3, h4, h5⟩ := RepEs_cons.1 h
    rw [List.take_succ_cons]
    exact RepEs_cons.2 ⟨c, rest, rfl, h2, h3, RepEs.take j h4, h5⟩

/-- More cells behind the elements do not matter. -/
theorem RepEs.more {k : Nat} : ∀ {xs : List V} {vs ws : List Value}, RepEs γ F k xs vs → (∀ i, i < xs.length * k → vs[i]? = ws[i]?) → RepEs γ F k xs ws
  | [], vs, ws, h, _ => by simp [RepEs]
  | x :: xs, vs, ws, h, he => by
    obtain ⟨c, rest, rfl, h2, h3, h4, h5⟩ := RepEs_cons.1 h
    have hl := RepEs.length h4
    have e1 : ws = c ++ ws.drop k := by
      apply List.ext_getElem?
      intro i
      by_cases hi : i < k
      · rw [← he i (by simp only [List.length_cons, Nat.add_mul]; omega)]
        rw [List.getElem?_append_left (by omega), List.getElem?_append_left (by omega)]
      · rw [List.getElem?_append_right (by omega), h2, List.getElem?_drop]
        congr 1; omega
    refine RepEs_cons.2 ⟨c, ws.drop k, e1, h2, h3, RepEs.more h4 fun i hi => ?_, h5⟩
    rw [List.getElem?_drop, ← he (k + i) (by simp only [List.length_cons, Nat.add_mul]; omega), List.getElem?_append_right (by omega)]
    congr 1; omega

theorem RepEs.append {k : Nat} : ∀ {xs ys : List V} {vs ws : List Value}, RepEs γ F k xs vs → vs.length = xs.length * k → RepEs γ F k ys ws → RepEs γ F k (xs ++ ys) (vs ++ ws)
  | [], ys, vs, ws, h, hl, h' => by
    have : vs = [] := by simpa using hl
    subst this; exact h'
  | x :: xs, ys, vs, ws, h, hl, h' => by
    obtain ⟨c, rest, rfl, h2, h3, h4, h5⟩ := RepEs_cons.1 h
    rw [List.cons_append]
    refine RepEs_cons.2 ⟨c, rest ++ ws, by simp, h2, h3, RepEs.append h4 ?_ h', h5⟩
    simp only [List.length_append, List.length_cons, Nat.add_mul] at hl; omega

theorem RepEs.get {k : Nat} {xs : List V} {vs : List Value} {i : Nat} (h : RepEs γ F k xs vs) (hi : i < xs.length) :
    ∃ c, vs.drop (i * k) = c ++ vs.drop (i * k + k) ∧ c.length = k ∧ RepC γ F (cellsOf (xs.getD i .junk)) c ∧ ((∃ cs, xs.getD i .junk = .agg cs) ∨ k = 1) := by
  have h1 := RepEs.drop i h
  rw [List.drop_eq_getElem_cons hi] at h1
  obtain ⟨c, rest, e, h2, h3, h4, h5⟩ := RepEs_cons.1 h1
  have e2 : xs.getD i .junk = xs[i] := by simp [List.getD, hi]
  rw [e2]
  refine ⟨c, ?_, h2, h3, h5⟩
  rw [e]
  congr 1
  have : vs.drop (i * k + k) = (vs.drop (i * k)).drop k := by rw [List.drop_drop]
  rw [this, e, ← h2]; simp

theorem RepEs.set {k : Nat} : ∀ {xs : List V} {vs : List Value} (i : Nat) {x : V} {c : List Value}, RepEs γ F k xs vs → i < xs.length → c.length = k → RepC γ F (cellsOf x) c →
    ((∃ cs, x = .agg cs) ∨ k = 1) → RepEs γ F k (xs.set i x) (vs.take (i * k) ++ c ++ vs.drop (i * k + k))
  | [], vs, i, x, c, h, hi, hc, hx, hk => by simp at hi
  | y :: ys, vs, 0, x, c, h, hi, hc, hx, hk => by
    obtain ⟨d, rest, rfl, h2, h3, h4, h5⟩ := RepEs_cons.1 h
    simp only [List.set_cons_zero, Nat.zero_mul, List.take_zero, List.nil_append, Nat.zero_add]
    subst h2
    exact RepEs_cons.2 ⟨c, _, rfl, hc, hx, by simpa using h4, hk⟩
  | y :: ys, vs, i + 1, x, c, h, hi, hc, hx, hk => by
    obtain ⟨d, rest, rfl, h2, h3, h4, h5⟩ := RepEs_cons.1 h
    have := RepEs.set i h4 (by simpa using hi) hc hx hk
    rw [List.set_cons_succ]
    refine RepEs_cons.2 ⟨d, rest.take (i * k) ++ c ++ rest.drop (i * k + k), ?_, h2, h3, this, h5⟩
    rw [Nat.add_mul, Nat.one_mul]
    rw [List.take_append, List.drop_append]
    rw [show i * k + k - d.length = i * k by omega, show i * k + k + k - d.length = i * k + k by omega, List.take_of_length_le (by omega), List.drop_of_length_le (by omega)]
    simp

theorem RepEs.replicate {k : Nat} {x : V} {c : List Value} (hc : c.length = k) (hx : RepC γ F (cellsOf x) c) (hk : (∃ cs, x = .agg cs) ∨ k = 1) :
    ∀ (n : Nat), RepEs γ F k (List.replicate n x) (List.replicate n c).flatten
  | 0 => by simp [RepEs]
  | n + 1 => by
    rw [List.replicate_succ, List.replicate_succ, List.flatten_cons]
    exact RepEs_cons.2 ⟨c, _, rfl, hc, hx, RepEs.replicate hc hx hk n, hk⟩

theorem RepEs.bytes : ∀ (l : List UInt8), RepEs γ F 1 (l.map byteV) (l.map fun b => Value.int .u8 b.toNat)
  | [] => by simp [RepEs]
  | b :: l => by
    rw [List.map_cons, List.map_cons]
    exact RepEs_cons.2 ⟨[.int .u8 b.toNat], _, rfl, rfl, RepC.single rfl (by simp [byteV, Rep]), RepEs.bytes l, .inr rfl⟩
end
end Go.Ab
namespace Go.Ab
variable [Env]
section
variable {P : Program} {γ : List Loc} {F : Frz} {w : World} {H : Heap}

theorem drop_cons_of {α : Type} {l : List α} {n : Nat} {a : α} {r : List α} (h : l.drop n = a :: r) : l[n]? = some a := by
  rw [← List.head?_drop, h]; rfl

/-- Cells that are there are loaded. -/
theorem fromCells_sound {g : Bool} {k : Nat} {t : TypeId} (ht : lay P t = some (g, k)) {b o : Nat} {vs : Array Value} {t' : TypeId} {fz : Nat × Nat} (hb : w.heap[b]? = some (.cells vs t' fz))
    {cs : List V} {ws rest : List Value} (hd : vs.toList.drop o = ws ++ rest) (hc : RepC γ F cs ws) {c : Prop} (hok : (fromCells g k cs c H).ok) :
    c ∧ ∃ u, (loadVar t ⟨b, o, none⟩).run P w = .ok u w ∧ Rep γ F (fromCells g k cs c H).v u ∧ (fromCells g k cs c H).H = H := by
  have hl := hc.length
  have hs : vs.size - o = ws.length + rest.length := by have := congrArg List.length hd; simpa using this
  cases g
  · simp only [fromCells] at hok ⊢
    refine ⟨hok.1, ?_⟩
    cases cs with
    | nil => simp at hok
    | cons x cs =>
      obtain ⟨v, us, rfl, h1, h2⟩ := RepC.head hc
      simp only [List.cons_append] at hd
      have hv : vs[o]? = some v := by simpa using drop_cons_of hd
      have hlt := agetElem?_lt hv
      refine ⟨v, ?_, by simpa using h2, trivial⟩
      rw [run_loadVar' ht hb (by simp; omega)]
      simp [Array.getD, hlt]
      rw [Array.getElem?_eq_getElem hlt] at hv; simpa using hv
  · simp only [fromCells] at hok ⊢
    refine ⟨hok.1, .agg (vs.extract o (o + k)), ?_, ?_, trivial⟩
    · rcases Nat.eq_zero_or_pos k with hk | hk
      · subst hk
        simp [loadVar, run_isAgg ht, run_sizeOf' ht, loadCells, loadCellsFrom]; omega
      · rw [run_loadVar' ht hb (by simp; omega)]; rfl
    · simp only [Rep]
      refine ⟨_, rfl, ?_⟩
      have := hc.take k
      rw [Array.toList_extract, List.extract_eq_take_drop, hd, show o + k - o = k by omega, List.take_append_of_le_length (by omega)]
      exact this

theorem load_sound (h : Rel γ F w H) {g : Bool} {k : Nat} {t : TypeId} (ht : lay P t = some (g, k)) {p : V} {pv : Value} (hp : Rep γ F p pv) (hok : (loadR g k p H).ok) :
    ∃ u, (Instr.loadAt t pv).run P w = .ok u w ∧ Rep γ F (loadR g k p H).v u ∧ (loadR g k p H).H = H := by
  cases p <;> simp only [loadR, R.bad] at hok ⊢
  case ptr r off =>
    simp only [Rep] at hp
    obtain ⟨b, h1, rfl⟩ := hp
    cases ho : H[r]? with
    | none => rw [ho] at hok; exact hok.elim
    | some o =>
      rw [ho] at hok
      cases o <;> simp only [R.bad] at hok ⊢
      case cells t' cs =>
        have := h.obj r _ _ h1 ho
        simp only [RelO] at this
        obtain ⟨vs, fz, h2, h3, h4⟩ := this
        obtain ⟨_, u, h5, h6, h7⟩ := fromCells_sound (H := H) ht h2 (o := off) (ws := vs.toList.drop off) (rest := []) (by simp) (h3.drop off) hok
        exact ⟨u, by simpa [Instr.loadAt, Instr.sureAddr] using h5, h6, h7⟩
  case cptr cs =>
    simp only [Rep] at hp
    obtain ⟨b, off, vs, t', fz, rfl, h2, ws, rest, h3, h4⟩ := hp
    obtain ⟨_, u, h5, h6, h7⟩ := fromCells_sound (H := H) ht (h.frz _ _ h2) h3 h4 hok
    exact ⟨u, by simpa [Instr.loadAt, Instr.sureAddr] using h5, h6, h7⟩
  case eptr r L i o =>
    simp only [Rep] at hp
    obtain ⟨qb, qo, rfl, l, h1, h2, h3⟩ := hp
    cases ho : H[r]? with
    | none => rw [ho] at hok; exact hok.elim
    | some ob =>
      rw [ho] at hok
      cases ob <;> simp only [R.bad] at hok ⊢
      case arr t' k' xs =>
        have hr := h.obj r _ _ h1 ho
        have hc : xs.length = L ∧ i < L := by cases g <;> exact hok.1
        cases l <;> simp only [RelO] at hr
        case nilarr => subst hr; simp at hc; omega
        case arr b cap L' kk =>
          obtain ⟨rfl, rfl, hcap, vs, fz, h4, h5, h6, h7⟩ := hr
          obtain ⟨hc1, hc2⟩ := hc
          subst hc1
          obtain ⟨rfl, rfl⟩ := h3 b cap k' rfl
          obtain ⟨c, g1, g2, g3, g4⟩ := RepEs.get h6 hc2
          have e : vs.toList.drop (i * k' + o) = c.drop o ++ (if o ≤ k' then vs.toList.drop (i * k' + k') else (vs.toList.drop (i * k' + o))) := by
            by_cases ho : o ≤ k'
            · rw [if_pos ho, ← List.drop_drop, g1, List.drop_append_of_le_length (by omega)]
            · rw [if_neg ho, show c.drop o = [] from List.drop_eq_nil_of_le (by omega)]; rfl
          obtain ⟨_, u, q5, q6, q7⟩ := fromCells_sound (H := H) ht h4 e (g3.drop o) hok
          exact ⟨u, by simpa [Instr.loadAt, Instr.sureAddr] using q5, q6, q7⟩

/-- What a store leaves. -/
theorem But.keep {b : Nat} {w w' : World} (h : But b w w') : ∀ c, c < w.heap.size → some b ≠ some c → w'.heap[c]? = w.heap[c]? :=
  fun c _ hc => h.same c fun e => hc (by rw [e])

theorem set_getElem?_of {α : Type} {l : List α} {r : Nat} {a : α} (h : l[r]? = some a) : l.set r a = l := by
  apply List.ext_getElem?
  intro i
  by_cases e : r = i
  · subst e; rw [List.getElem?_set_self (getElem?_lt h), h]
  · rw [List.getElem?_set_ne e]

theorem store_sound (h : Rel γ F w H) {g : Bool} {k : Nat} {t : TypeId} (ht : lay P t = some (g, k)) {p x : V} {pv xv : Value} (hp : Rep γ F p pv) (hx : Rep γ F x xv) (hok : (storeR g k p x H).ok) :
    ∃ w', (Instr.storeAt t pv xv).run P w = .ok () w' ∧ Nx γ F w γ F w' ∧ Rel γ F w' (storeR g k p x H).H := by
  cases p <;> simp only [storeR, R.bad] at hok ⊢
  case ptr r off =>
    simp only [Rep] at hp
    obtain ⟨b, h1, rfl⟩ := hp
    cases ho : H[r]? with
    | none => rw [ho] at hok; exact hok.elim
    | some o =>
      rw [ho] at hok
      cases o <;> simp only [R.bad] at hok ⊢
      case cells t' cs =>
        have := h.obj r _ _ h1 ho
        simp only [RelO] at this
        obtain ⟨vs, fz, h2, h3, h4⟩ := this
        obtain ⟨g1, g2, g3, g4⟩ := Rep.valCells hx hok.1
        have hk : xv.cells.size = k := by
          cases g
          · rw [g3 rfl, lay_one ht]
          · exact g2 rfl
        have hl : vs.size = cs.length := by have := h3.length; simpa using this
        obtain ⟨w', vs', r1, r2, r3, r4⟩ := run_storeVar' (P := P) ht h2 (o := off) hk (by omega) (.of0 h4 _) (fun y hy => g1.one y hy)
        have hob : RelO γ F w' (.cells b) (.cells t' (splice cs off (valCells g x))) := by
          refine ⟨vs', fz, r3, ?_, ?_⟩
          · rw [r4, ← hk, ← g4]; exact RepC.splice h3 g1
          · have : vs'.size = vs.size := by
              have := congrArg List.length r4
              simp at this; omega
            exact h4
        have hset : γ.set r (.cells b) = γ := set_getElem?_of h1
        have hown := h.own r _ b h1 rfl
        refine ⟨w', by simpa [Instr.storeAt, Instr.sureAddr] using r1, ?_, ?_⟩
        · have := Nx.upd h (w' := w') (l' := .cells b) h1 (by simp [LocLe]) (by rw [r2.size]; exact Nat.le_refl _) r2.keep (fun c hc => ⟨.inl hc, by cases hc; rw [r2.size]; exact hown.2⟩) r2.os r2.tape r2.output
          rwa [hset] at this
        · have := Rel.upd h (w' := w') (l' := .cells b) (o' := .cells t' (splice cs off (valCells g x))) h1 (by simp [LocLe]) (by rw [r2.size]; exact Nat.le_refl _) r2.keep (fun c hc => ⟨.inl hc, by cases hc; rw [r2.size]; exact hown.2⟩) (by rw [hset]; exact hob)
          rwa [hset] at this
  case eptr r L i o =>
    simp only [Rep] at hp
    obtain ⟨qb, qo, rfl, l, h1, h2, h3⟩ := hp
    cases ho : H[r]? with
    | none => rw [ho] at hok; exact hok.elim
    | some ob =>
      rw [ho] at hok
      cases ob <;> simp only [R.bad] at hok ⊢
      case arr t' k' xs =>
        have hr := h.obj r _ _ h1 ho
        obtain ⟨hv, hc1, hc2, hpart⟩ := hok
        cases l <;> simp only [RelO] at hr
        case nilarr => subst hr; simp at hc1; omega
        case arr b cap L' kk =>
          obtain ⟨rfl, rfl, hcap, vs, fz, h4, h5, h6, h7⟩ := hr
          subst hc1
          obtain ⟨rfl, rfl⟩ := h3 b cap k' rfl
          obtain ⟨c, g1, g2, g3, g4⟩ := RepEs.get h6 hc2
          obtain ⟨q1, q2, q3, q4⟩ := Rep.valCells hx hv
          have hk : xv.cells.size = k := by
            cases g
            · rw [q3 rfl, lay_one ht]
            · exact q2 rfl
          have hlen := RepEs.length h6
          have hpos : o + k ≤ k' ∧ (setPart (xs.getD i .junk) o (valCells g x) = .agg (splice (cellsOf (xs.getD i .junk)) o (valCells g x)) ∨ (k' = 1 ∧ o = 0 ∧ g = false ∧ setPart (xs.getD i .junk) o (valCells g x) = x)) := by
            generalize xs.getD i .junk = y at hpart g3 g4 ⊢
            have hlc := g3.length
            cases y
            case agg cs =>
              simp only [okPart, cellsOf, setPart] at hpart hlc ⊢
              refine ⟨?_, .inl trivial⟩
              cases g
              · have := lay_one ht; simp at hpart; omega
              · simp at hpart; omega
            all_goals
              simp only [okPart, cellsOf, setPart] at hpart hlc ⊢
              obtain ⟨rfl, rfl⟩ := hpart
              have hk1 : k' = 1 := by simpa using g4
              have := lay_one ht
              exact ⟨by omega, .inr ⟨hk1, rfl, rfl, by simp [Ab.valCells]⟩⟩
          have hi1 : i * k' + k' ≤ xs.length * k' := by have := Nat.mul_le_mul_right k' hc2; simp only [Nat.add_mul, Nat.succ_mul] at this; omega
          simp at hlen
          obtain ⟨w', vs', r1, r2, r3, r4⟩ := run_storeVar' (P := P) ht h4 (o := i * k' + o) hk (by omega) h7 (fun y hy => q1.one y hy)
          have hown := h.own r _ qb h1 rfl
          have hset : γ.set r (.arr qb cap xs.length k') = γ := set_getElem?_of h1
          have hvs : vs'.size = vs.size := by
            have := congrArg List.length r4
            simp at this; omega
          have hes : RepEs γ F k' (xs.set i (setPart (xs.getD i .junk) o (valCells g x))) vs'.toList := by
            have hc' : ∀ (y : V), RepC γ F (cellsOf y) (c.take o ++ xv.cells.toList ++ c.drop (o + k)) → ((∃ cs, y = .agg cs) ∨ k' = 1) → RepEs γ F k' (xs.set i y) vs'.toList := by
              intro y hd2 hd3
              have := RepEs.set i h6 hc2 (c := c.take o ++ xv.cells.toList ++ c.drop (o + k)) (by simp; omega) hd2 hd3
              refine RepEs.more this fun j hj => ?_
              rw [r4]
              congr 1
              have e1 : vs.toList.take (i * k' + o) = vs.toList.take (i * k') ++ c.take o := by
                rw [List.take_add, g1, List.take_append_of_le_length (by omega)]
              have e2 : vs.toList.drop (i * k' + o + k) = c.drop (o + k) ++ vs.toList.drop (i * k' + k') := by
                rw [Nat.add_assoc, ← List.drop_drop, g1, List.drop_append_of_le_length (by omega)]
              rw [e1, e2]; simp
            rcases hpos.2 with e | ⟨e1, e2, e3, e4⟩
            · rw [e]
              refine hc' _ ?_ (.inl ⟨_, rfl⟩)
              simp only [cellsOf]
              have := RepC.splice (off := o) g3 q1
              rw [q4, hk] at this
              exact this
            · rw [e4]
              refine hc' _ ?_ (.inr e1)
              subst e2 e3
              have hk1 := lay_one ht
              simp only [okVal] at hv
              have hcx : cellsOf x = [x] := by cases x <;> simp_all [V.isCell, cellsOf]
              rw [hcx]
              have : c.drop (0 + k) = [] := List.drop_eq_nil_of_le (by omega)
              rw [this]
              simpa [Ab.valCells] using q1
          have hob : RelO γ F w' (.arr qb cap xs.length k') (.arr t' k' (xs.set i (setPart (xs.getD i .junk) o (valCells g x)))) :=
            ⟨rfl, by simp, hcap, vs', fz, r3, by rw [hvs]; exact h5, hes, by rw [hvs]; exact h7⟩
          refine ⟨w', by simpa [Instr.storeAt, Instr.sureAddr] using r1, ?_, ?_⟩
          · have := Nx.upd h (w' := w') (l' := .arr qb cap xs.length k') h1 (LocLe.refl _) (by rw [r2.size]; exact Nat.le_refl _) r2.keep (fun c hc => ⟨.inl hc, by cases hc; rw [r2.size]; exact hown.2⟩) r2.os r2.tape r2.output
            rwa [hset] at this
          · have := Rel.upd h (w' := w') (l' := .arr qb cap xs.length k') (o' := .arr t' k' (xs.set i (setPart (xs.getD i .junk) o (valCells g x)))) h1 (LocLe.refl _) (by rw [r2.size]; exact Nat.le_refl _) r2.keep (fun c hc => ⟨.inl hc, by cases hc; rw [r2.size]; exact hown.2⟩) (by rw [hset]; exact hob)
            rwa [hset] at this
end
end Go.Ab
namespace Go.Ab
variable [Env]
section
variable {P : Program} {γ : List Loc} {F : Frz} {w : World} {H : Heap}

/-- What an operation leaves. -/
def Out (P : Program) (γ : List Loc) (F : Frz) (w : World) (s : Sem Next) (v : V) (H' : Heap) : Prop :=
  ∃ u w' γ' F', (s.run P w = .ok (.value u) w' ∨ (s.run P w = .ok .skip w' ∧ u = undef)) ∧ Nx γ F w γ' F' w' ∧ Rel γ' F' w' H' ∧ Rep γ' F' v u

theorem Out.same {s : Sem Next} {v : V} {u : Value} (h : Rel γ F w H) (hr : s.run P w = .ok (.value u) w) (hv : Rep γ F v u) : Out P γ F w s v H :=
  ⟨u, w, γ, F, .inl hr, Nx.refl γ F w, h, hv⟩

theorem run_val {s : Sem Value} {u : Value} {w' : World} (h : s.run P w = .ok u w') : (do pure (.value (← s)) : Sem Next).run P w = .ok (.value u) w' := by
  simp [h]

theorem Out.value {s : Sem Value} {v : V} {u : Value} (h : Rel γ F w H) (hr : s.run P w = .ok u w) (hv : Rep γ F v u) : Out P γ F w (do pure (.value (← s))) v H :=
  .same h (run_val hr) hv

theorem run_fieldPlace {f : Field} {g : Bool} {k b o : Nat} (h : lay P f.type = some (g, k + 1)) : (fieldPlace ⟨b, o, none⟩ f).run P w = .ok ⟨b, o + f.offset, none⟩ w := by
  simp [fieldPlace, run_sizeOf' h, add_none]

theorem fieldOf_spec {s : TypeId} {n : Nat} {f : Field} (h : fieldOf P s n = some f) : ∃ fs, P.underlying s = some (.struct fs) ∧ fs[n]? = some f := by
  unfold fieldOf at h
  split at h
  · rename_i fs hu; exact ⟨fs, hu, h⟩
  · cases h

theorem fieldAddr_sound (h : Rel γ F w H) {s : TypeId} {n : Nat} {f : Field} (hf : fieldOf P s n = some f) {g : Bool} {k : Nat} (hl : lay P f.type = some (g, k + 1)) {p : V} {pv : Value} (hp : Rep γ F p pv)
    (hok : (fieldAddrR f.offset p H).ok) : ∃ u, (Instr.fieldAt s pv n).run P w = .ok u w ∧ Rep γ F (fieldAddrR f.offset p H).v u ∧ (fieldAddrR f.offset p H).H = H := by
  obtain ⟨fs, hu, hn⟩ := fieldOf_spec hf
  have hrun : ∀ b o, (Instr.fieldAt s (.pointer (some ⟨b, o, none⟩)) n).run P w = .ok (.pointer (some ⟨b, o + f.offset, none⟩)) w := fun b o => by
    simp [Instr.fieldAt, run_underlying hu, hn, Instr.sureAddr, run_fieldPlace hl]
  cases p <;> simp only [fieldAddrR, R.bad] at hok ⊢
  case ptr r off =>
    simp only [Rep] at hp ⊢
    obtain ⟨b, h1, rfl⟩ := hp
    exact ⟨_, hrun _ _, ⟨b, h1, rfl⟩, trivial⟩
  case cptr cs =>
    simp only [Rep] at hp ⊢
    obtain ⟨b, off, vs, t, fz, rfl, h2, ws, rest, h3, h4⟩ := hp
    refine ⟨_, hrun _ _, ⟨b, off + f.offset, vs, t, fz, rfl, h2, ws.drop f.offset, rest.drop (f.offset - ws.length), ?_, h4.drop _⟩, trivial⟩
    rw [← List.drop_drop, h3, List.drop_append]
  case eptr r L i o =>
    simp only [Rep] at hp ⊢
    obtain ⟨b, q, rfl, l, h1, h2, h3⟩ := hp
    refine ⟨_, hrun _ _, ⟨b, q + f.offset, rfl, l, h1, h2, fun c cap k' e => ?_⟩, trivial⟩
    obtain ⟨e1, e2⟩ := h3 c cap k' e
    exact ⟨e1, by omega⟩

theorem nilCheck_sound (h : Rel γ F w H) {p : V} {pv : Value} (hp : Rep γ F p pv) (hok : (nilCheckR p H).ok) {ρ' : Operand → Value} {x : Operand} (hx : ρ' x = pv) {o : Oper} (ho : o.op = .nilCheck x) :
    (execOp ρ' o).run P w = .ok (.value pv) w ∧ Rep γ F (nilCheckR p H).v pv ∧ (nilCheckR p H).H = H := by
  cases p <;> simp only [nilCheckR, R.bad] at hok ⊢
  case ptr r off =>
    refine ⟨?_, hp, trivial⟩
    simp only [Rep] at hp
    obtain ⟨b, h1, rfl⟩ := hp
    simp [execOp, ho, hx]
  case cptr cs =>
    refine ⟨?_, hp, trivial⟩
    simp only [Rep] at hp
    obtain ⟨b, off, vs, t, fz, rfl, h2, ws, rest, h3, h4⟩ := hp
    simp [execOp, ho, hx]
  case eptr r L i o =>
    refine ⟨?_, hp, trivial⟩
    simp only [Rep] at hp
    obtain ⟨b, q, rfl, l, h1, h2, h3⟩ := hp
    simp [execOp, ho, hx]
  case fn f a c =>
    refine ⟨?_, hp, trivial⟩
    simp only [Rep] at hp
    obtain ⟨as, cs, rfl, h1, h2⟩ := hp
    simp [execOp, ho, hx]

theorem field_sound (h : Rel γ F w H) {s : TypeId} {n : Nat} {f : Field} (hf : fieldOf P s n = some f) {g : Bool} {k : Nat} (hl : lay P f.type = some (g, k)) {x : V} {xv : Value} (hx : Rep γ F x xv)
    (hok : (fieldR g k f.offset x H).ok) : ∃ u, (Instr.field s xv n).run P w = .ok u w ∧ Rep γ F (fieldR g k f.offset x H).v u ∧ (fieldR g k f.offset x H).H = H := by
  obtain ⟨fs, hu, hn⟩ := fieldOf_spec hf
  cases x <;> simp only [fieldR, R.bad] at hok ⊢
  case agg cs =>
    simp only [Rep] at hx
    obtain ⟨vs, rfl, h2⟩ := hx
    have hd := h2.drop f.offset
    have hlen := hd.length
    cases g
    · simp only [fromCells] at hok ⊢
      obtain ⟨_, h0⟩ := hok
      cases hc : cs.drop f.offset with
      | nil => rw [hc] at h0; simp at h0
      | cons y ys =>
        rw [hc] at hd
        obtain ⟨v, us, e, h1, h3⟩ := RepC.head hd
        have hv : vs[f.offset]? = some v := by simpa using drop_cons_of e
        exact ⟨v, by simp [Instr.field, run_underlying hu, hn, asAgg, part, run_isAgg hl, hv], by simpa using h3, trivial⟩
    · simp only [fromCells] at hok ⊢
      refine ⟨.agg (vs.extract f.offset (f.offset + k)), by simp [Instr.field, run_underlying hu, hn, asAgg, part, run_isAgg hl, run_sizeOf' hl], ?_, trivial⟩
      simp only [Rep]
      refine ⟨_, rfl, ?_⟩
      have := hd.take k
      rw [Array.toList_extract, List.extract_eq_take_drop, show f.offset + k - f.offset = k by omega]
      exact this

theorem elemOfSlice_spec {t e : TypeId} (h : elemOfSlice P t = some e) : P.underlying t = some (.slice e) := by
  unfold elemOfSlice at h
  split at h
  · rename_i x hu; cases h; exact hu
  · cases h

theorem indexAddr_sound (h : Rel γ F w H) {t e : TypeId} (ht : elemOfSlice P t = some e) {g : Bool} {k : Nat} (hl : lay P e = some (g, k)) {x i : V} {xv iv : Value} (hx : Rep γ F x xv) (hi : Rep γ F i iv)
    (hok : (indexAddrR k x i H).ok) : ∃ u, (Instr.indexAt t xv iv).run P w = .ok u w ∧ Rep γ F (indexAddrR k x i H).v u ∧ (indexAddrR k x i H).H = H := by
  have hu := elemOfSlice_spec ht
  cases x <;> cases i <;> simp only [indexAddrR, R.bad] at hok ⊢
  case sl.int k' xs ik n =>
    obtain ⟨rfl, h0, h1⟩ := hok
    simp only [Rep] at hx hi ⊢
    subst hi
    obtain ⟨a, cap, rfl, h2, h3⟩ := hx
    rcases h3 with rfl | ⟨b, off, vs, t', fz, rfl, h4, h5⟩
    · simp at h1; omega
    · refine ⟨.pointer (some ⟨b, off + n.toNat * k', none⟩), by simp [Instr.indexAt, asIntOf, run_underlying hu, h0, h1, run_sizeOf' hl, add_none], ?_, trivial⟩
      obtain ⟨c, g1, g2, g3, g4⟩ := RepEs.get h5 (i := n.toNat) (by omega)
      refine ⟨b, off + n.toNat * k', vs, t', fz, rfl, h4, c, (vs.toList.drop off).drop (n.toNat * k' + k'), ?_, g3⟩
      rw [← List.drop_drop]; exact g1
  case arr.int r L off m ik n =>
    cases ho : H[r]? with
    | none => rw [ho] at hok; exact hok.elim
    | some ob =>
      rw [ho] at hok
      cases ob <;> simp only [R.bad] at hok ⊢
      case arr t' k' xs =>
        obtain ⟨rfl, rfl, hm, h0, h1⟩ := hok
        simp only [Rep] at hx hi ⊢
        subst hi
        obtain ⟨a, c, rfl, l, h2, h3, h4, h5⟩ := hx
        have hr := h.obj r _ _ h2 ho
        cases l <;> simp only [RelO] at hr
        case nilarr => obtain ⟨_, rfl, _⟩ := h5 rfl; omega
        case arr b cap L' kk =>
          obtain ⟨rfl, rfl, hcap, vs, fz, g4, g5, g6, g7⟩ := hr
          obtain ⟨q1, q2, q3⟩ := h4 b cap k' rfl
          have ha : a = some ⟨b, off * k', none⟩ := by
            rcases q3 with q3 | q3
            · omega
            · exact q3
          subst ha
          refine ⟨.pointer (some ⟨b, off * k' + n.toNat * k', none⟩), by simp [Instr.indexAt, asIntOf, run_underlying hu, h0, h1, run_sizeOf' hl, add_none], ⟨b, _, rfl, _, h2, h3, ?_⟩, trivial⟩
          intro c cap' k2 e
          cases e
          exact ⟨rfl, by rw [Nat.add_mul]; omega⟩

theorem index_sound (h : Rel γ F w H) {t : TypeId} (ht : P.underlying t = some .string) {x i : V} {xv iv : Value} (hx : Rep γ F x xv) (hi : Rep γ F i iv)
    (hok : (indexR x i H).ok) : ∃ u, (Instr.index t xv iv).run P w = .ok u w ∧ Rep γ F (indexR x i H).v u ∧ (indexR x i H).H = H := by
  cases x <;> cases i <;> simp only [indexR, R.bad] at hok ⊢
  case str.int l ik n =>
    obtain ⟨h0, h1⟩ := hok
    simp only [Rep] at hx hi ⊢
    subst hx hi
    have hn : n.toNat < l.length := by omega
    refine ⟨_, ?_, rfl, trivial⟩
    have e : (⟨l.toArray⟩ : ByteArray)[n.toNat]? = some l[n.toNat] := by
      have : n.toNat < (⟨l.toArray⟩ : ByteArray).size := by simpa [ByteArray.size] using hn
      rw [getElem?_pos (⟨l.toArray⟩ : ByteArray) n.toNat this]; rfl
    simp [Instr.index, asIntOf, run_underlying ht, h0, e, List.getD, hn]

theorem loOf_spec {lo : Option V} {lv : Option Value} {a : Int} (hr : ∀ v, lo = some v → ∃ u, lv = some u ∧ Rep γ F v u) (hn : lo = none → lv = none) (h : loOf lo = some a) :
    (lv = none ∧ a = 0) ∨ ∃ k, lv = some (.int k a) := by
  cases lo with
  | none => simp [loOf] at h; exact .inl ⟨hn rfl, h.symm⟩
  | some v =>
    obtain ⟨u, rfl, hu⟩ := hr v rfl
    cases v <;> simp only [loOf] at h <;> cases h
    simp only [Rep] at hu; subst hu; exact .inr ⟨_, rfl⟩
theorem hiOf_spec {hi : Option V} {hv : Option Value} {m : Nat} {a : Int} (hr : ∀ v, hi = some v → ∃ u, hv = some u ∧ Rep γ F v u) (hn : hi = none → hv = none) (h : hiOf hi m = some a) :
    (hv = none ∧ a = m) ∨ ∃ k, hv = some (.int k a) := by
  cases hi with
  | none => simp [hiOf] at h; exact .inl ⟨hn rfl, h.symm⟩
  | some v =>
    obtain ⟨u, rfl, hu⟩ := hr v rfl
    cases v <;> simp only [hiOf] at h <;> cases h
    simp only [Rep] at hu; subst hu; exact .inr ⟨_, rfl⟩

theorem run_bounds {sl : Bool} {len cap : Nat} {lv hv : Option Value} {a b : Int} (hl : (lv = none ∧ a = 0) ∨ ∃ k, lv = some (.int k a)) (hh : (hv = none ∧ b = len) ∨ ∃ k, hv = some (.int k b))
    (h0 : 0 ≤ a) (h1 : a ≤ b) (h2 : b ≤ cap) : (Instr.sliceBounds sl len cap lv hv none).run P w = .ok (a.toNat, b.toNat, cap) w := by
  have e1 : (b.toNat : Int) = b := by omega
  rcases hl with ⟨rfl, rfl⟩ | ⟨kl, rfl⟩ <;> rcases hh with ⟨rfl, rfl⟩ | ⟨kh, rfl⟩ <;>
    simp [Instr.sliceBounds, Instr.sliceBound, asIntOf, h0, h1, h2, e1] <;> omega

theorem bytes_extract (l : List UInt8) (a b : Nat) : (⟨l.toArray⟩ : ByteArray).extract a b = ⟨((l.take b).drop a).toArray⟩ := by
  apply ByteArray.ext
  rw [ByteArray.data_extract]
  apply Array.ext'
  simp [List.extract_eq_take_drop, List.drop_take]

theorem sliceStr_sound (h : Rel γ F w H) {t : TypeId} (ht : P.underlying t = some .string) {x : V} {xv : Value} {lo hi mx : Option V} {lv hv mv : Option Value} (hx : Rep γ F x xv)
    (hlr : ∀ v, lo = some v → ∃ u, lv = some u ∧ Rep γ F v u) (hln : lo = none → lv = none) (hhr : ∀ v, hi = some v → ∃ u, hv = some u ∧ Rep γ F v u) (hhn : hi = none → hv = none)
    (hmn : mx = none → mv = none) (hok : (sliceStrR x lo hi mx H).ok) :
    ∃ u, (Instr.sliceAt t xv lv hv mv).run P w = .ok u w ∧ Rep γ F (sliceStrR x lo hi mx H).v u ∧ (sliceStrR x lo hi mx H).H = H := by
  cases x <;> cases mx <;> simp only [sliceStrR, R.bad] at hok ⊢
  case str.none l =>
    cases hlo : loOf lo with
    | none => rw [hlo] at hok; exact hok.elim
    | some a =>
      cases hhi : hiOf hi l.length with
      | none => rw [hlo, hhi] at hok; exact hok.elim
      | some b =>
        rw [hlo, hhi] at hok
        obtain ⟨h0, h1, h2⟩ := hok
        have hrun := run_bounds (P := P) (w := w) (sl := false) (len := l.length) (cap := l.length) (loOf_spec hlr hln hlo) (hiOf_spec hhr hhn hhi) h0 h1 h2
        simp only [Rep] at hx ⊢
        subst hx
        obtain rfl := hmn rfl
        refine ⟨_, ?_, rfl, trivial⟩
        have hrun' : (Instr.sliceBounds false (⟨l.toArray⟩ : ByteArray).size (⟨l.toArray⟩ : ByteArray).size lv hv none).run P w = .ok (a.toNat, b.toNat, l.length) w := by simpa [ByteArray.size] using hrun
        simp [Instr.sliceAt, Instr.slice, run_underlying ht, hrun', bytes_extract]

theorem sliceSl_sound (h : Rel γ F w H) {t e : TypeId} (ht : P.underlying t = some (.slice e)) {g : Bool} {k : Nat} (hl : lay P e = some (g, k)) {x : V} {xv : Value} {lo hi mx : Option V} {lv hv mv : Option Value} (hx : Rep γ F x xv)
    (hlr : ∀ v, lo = some v → ∃ u, lv = some u ∧ Rep γ F v u) (hln : lo = none → lv = none) (hhr : ∀ v, hi = some v → ∃ u, hv = some u ∧ Rep γ F v u) (hhn : hi = none → hv = none)
    (hmr : ∀ v, mx = some v → ∃ u, mv = some u ∧ Rep γ F v u) (hmn : mx = none → mv = none) (hok : (sliceSlR k x lo hi mx H).ok) :
    ∃ u, (Instr.sliceAt t xv lv hv mv).run P w = .ok u w ∧ Rep γ F (sliceSlR k x lo hi mx H).v u ∧ (sliceSlR k x lo hi mx H).H = H := by
  have hgo : ∀ (a : Option Addr) (n c l' h' m' : Nat) , (Instr.sliceBounds true n c lv hv mv).run P w = .ok (l', h', m') w →
      (Instr.sliceAt t (.slice a n c) lv hv mv).run P w = .ok (.slice (if m' = l' then a else a.map (·.add (l' * k))) (h' - l') (m' - l')) w := fun a n c l' h' m' hb => by
    simp [Instr.sliceAt, Instr.slice, run_underlying ht, hb, run_sizeOf' hl]
  cases mx with
  | none =>
    obtain rfl := hmn rfl
    cases x <;> simp only [sliceSlR, R.bad] at hok ⊢
    case sl k' xs =>
      cases hlo : loOf lo with
      | none => rw [hlo] at hok; exact hok.elim
      | some a =>
        cases hhi : hiOf hi xs.length with
        | none => rw [hlo, hhi] at hok; exact hok.elim
        | some b =>
          rw [hlo, hhi] at hok
          obtain ⟨rfl, h0, h1, h2⟩ := hok
          simp only [Rep] at hx ⊢
          obtain ⟨q, cap, rfl, h3, h4⟩ := hx
          have hrun := run_bounds (P := P) (w := w) (sl := true) (len := xs.length) (cap := cap) (loOf_spec hlr hln hlo) (hiOf_spec hhr hhn hhi) h0 h1 (by omega)
          refine ⟨_, hgo _ _ _ _ _ _ hrun, ⟨_, cap - a.toNat, by congr 1; simp; omega, by simp; omega, ?_⟩, trivial⟩
          by_cases hab : b.toNat ≤ a.toNat
          · left; rw [List.drop_eq_nil_of_le]; simp; omega
          · right
            rcases h4 with rfl | ⟨b', off, vs, t', fz, rfl, h5, h6⟩
            · simp at h2; omega
            · refine ⟨b', off + a.toNat * k', vs, t', fz, ?_, h5, ?_⟩
              · rw [if_neg (by omega)]; simp [add_none]
              · rw [← List.drop_drop, List.drop_take]
                exact RepEs.take _ (RepEs.drop _ h6)
    case nilsl =>
      cases hlo : loOf lo with
      | none => rw [hlo] at hok; exact hok.elim
      | some a =>
        cases hhi : hiOf hi 0 with
        | none => rw [hlo, hhi] at hok; exact hok.elim
        | some b =>
          rw [hlo, hhi] at hok
          obtain ⟨h0, h1, h2⟩ := hok
          simp only [Rep] at hx ⊢
          obtain ⟨q, rfl⟩ := hx
          have hrun := run_bounds (P := P) (w := w) (sl := true) (len := 0) (cap := 0) (loOf_spec hlr hln hlo) (hiOf_spec hhr hhn hhi) h0 h1 h2
          refine ⟨_, hgo _ _ _ _ _ _ hrun, ⟨q, ?_⟩, trivial⟩
          have e1 : a = 0 := by omega
          have e2 : b = 0 := by omega
          subst e1 e2; simp
    case zsl =>
      cases hlo : loOf lo with
      | none => rw [hlo] at hok; exact hok.elim
      | some a =>
        cases hhi : hiOf hi 0 with
        | none => rw [hlo, hhi] at hok; exact hok.elim
        | some b =>
          rw [hlo, hhi] at hok
          obtain ⟨h0, h1, h2⟩ := hok
          simp only [Rep] at hx ⊢
          obtain ⟨q, rfl⟩ : ∃ a, _ = Value.slice a 0 0 := ⟨none, hx⟩
          have hrun := run_bounds (P := P) (w := w) (sl := true) (len := 0) (cap := 0) (loOf_spec hlr hln hlo) (hiOf_spec hhr hhn hhi) h0 h1 h2
          refine ⟨_, hgo _ _ _ _ _ _ hrun, ⟨q, ?_⟩, trivial⟩
          have e1 : a = 0 := by omega
          have e2 : b = 0 := by omega
          subst e1 e2; simp
    case arr r L off n =>
      cases ho : H[r]? with
      | none => rw [ho] at hok; exact hok.elim
      | some ob =>
        rw [ho] at hok
        cases ob <;> simp only [R.bad] at hok ⊢
        case arr t' k' xs =>
          cases hlo : loOf lo with
          | none => rw [hlo] at hok; exact hok.elim
          | some a =>
            cases hhi : hiOf hi n with
            | none => rw [hlo, hhi] at hok; exact hok.elim
            | some b =>
              rw [hlo, hhi] at hok
              obtain ⟨rfl, rfl, hLn, h0, h1, h2⟩ := hok
              simp only [Rep] at hx ⊢
              obtain ⟨q, c, rfl, l, g1, g2, g3, g4⟩ := hx
              have hr := h.obj r _ _ g1 ho
              have hn : n ≤ c := by
                cases l <;> simp only [RelO] at hr
                case nilarr => obtain ⟨_, rfl, _⟩ := g4 rfl; omega
                case arr b' cap L' kk =>
                  obtain ⟨rfl, rfl, hcap, _⟩ := hr
                  obtain ⟨q1, q2, _⟩ := g3 b' cap k' rfl
                  omega
              have hrun := run_bounds (P := P) (w := w) (sl := true) (len := n) (cap := c) (loOf_spec hlr hln hlo) (hiOf_spec hhr hhn hhi) h0 h1 (by omega)
              refine ⟨_, hgo _ _ _ _ _ _ hrun, ⟨_, c - a.toNat, by congr 1; omega, l, g1, g2, ?_, ?_⟩, trivial⟩
              · intro b' cap kk e
                subst e
                simp only [RelO] at hr
                obtain ⟨rfl, _, _⟩ := hr
                obtain ⟨q1, q2, q3⟩ := g3 b' cap k' rfl
                refine ⟨by omega, by omega, ?_⟩
                by_cases hc : c = a.toNat
                · left; omega
                · right
                  rw [if_neg hc]
                  rcases q3 with q3 | rfl
                  · omega
                  · simp [add_none, Nat.add_mul]
              · intro e
                obtain ⟨rfl, rfl, rfl⟩ := g4 e
                omega
  | some mv' =>
    obtain ⟨mu, rfl, hmu⟩ := hmr _ rfl
    cases mv' <;> simp only [sliceSlR, R.bad] at hok ⊢
    case int mk m =>
      simp only [Rep] at hmu
      subst hmu
      have key : ∀ {a b : Int} (q : Option Addr) (n c : Nat), loOf lo = some a → hiOf hi 0 = some b → m = 0 → a = 0 → b = 0 → hi.isSome = true →
          (Instr.sliceAt t (.slice q n c) lv hv (some (.int mk m))).run P w = .ok (.slice q 0 0) w := by
        intro a b q n c hlo hhi hm ha hb his
        subst hm ha hb
        have hl' := loOf_spec hlr hln hlo
        have hh' : ∃ kk, hv = some (.int kk 0) := by
          rcases hiOf_spec hhr hhn hhi with ⟨h1, _⟩ | h1
          · cases hi with
            | none => simp at his
            | some v => obtain ⟨u, hu, _⟩ := hhr v rfl; rw [h1] at hu; cases hu
          · exact h1
        obtain ⟨kk, rfl⟩ := hh'
        have hb : (Instr.sliceBounds true n c lv (some (.int kk 0)) (some (.int mk 0))).run P w = .ok (0, 0, 0) w := by
          rcases hl' with ⟨rfl, _⟩ | ⟨kl, rfl⟩ <;> simp [Instr.sliceBounds, Instr.sliceBound, asIntOf]
        rw [hgo _ _ _ _ _ _ hb]; simp
      cases x
      all_goals
        cases hlo : loOf lo with
        | none => rw [hlo] at hok; exact hok.elim
        | some a =>
          cases hhi : hiOf hi 0 with
          | none => rw [hlo, hhi] at hok; exact hok.elim
          | some b =>
            rw [hlo, hhi] at hok
            first
              | exact hok.elim
              | (obtain ⟨h1, h2, h3, h4⟩ := hok
                 simp only [Rep] at hx
                 first
                   | (obtain ⟨q, cap, rfl, _⟩ := hx
                      exact ⟨_, key _ _ _ hlo hhi h1 h2 h3 h4, ⟨_, rfl⟩, rfl⟩)
                   | (obtain ⟨q, rfl⟩ := hx
                      exact ⟨_, key _ _ _ hlo hhi h1 h2 h3 h4, ⟨_, rfl⟩, rfl⟩))
end
end Go.Ab
namespace Go.Ab
variable [Env]
section
variable {P : Program} {γ : List Loc} {F : Frz} {w : World} {H : Heap}

theorem bytes_toList (l : List UInt8) : (⟨l.toArray⟩ : ByteArray).toList = l := by
  rw [ByteArray.toList_eq]

theorem bytes_inj {a b : List UInt8} : ((⟨a.toArray⟩ : ByteArray) == ⟨b.toArray⟩) = (a == b) := by
  rw [beq_toListBytes, bytes_toList, bytes_toList]

theorem intBin_sound {op : BinOp} {t : TypeId} {k : IntKind} {a b : Int} (hok : (intBin op k a b H).ok) :
    ∃ u, (binOp op t (.int k a) (.int k b)).run P w = .ok u w ∧ Rep γ F (intBin op k a b H).v u ∧ (intBin op k a b H).H = H := by
  cases op <;> simp only [intBin, R.bad, Rep] at hok ⊢ <;>
    first
      | exact hok.elim
      | (refine ⟨_, ?_, rfl, trivial⟩
         first
           | (simp [binOp, Op.intArith]; done)
           | (simp [binOp, Op.intDiv, hok]; done)
           | (simp [binOp, Op.intCmp]; done)
           | (simp [binOp, Op.intBits, bitsOf]; done))

theorem strBin_sound {op : BinOp} {t : TypeId} {a b : List UInt8} (hok : (strBin op a b H).ok) :
    ∃ u, (binOp op t (.string ⟨a.toArray⟩) (.string ⟨b.toArray⟩)).run P w = .ok u w ∧ Rep γ F (strBin op a b H).v u ∧ (strBin op a b H).H = H := by
  cases op <;> simp only [strBin, R.bad, Rep] at hok ⊢ <;>
    first
      | exact hok.elim
      | (refine ⟨_, ?_, rfl, trivial⟩
         simp only [binOp, Op.stringOp, bytes_toList]
         first
           | rfl
           | (rw [if_neg (by simp [ByteArray.size]; omega)]
              rw [← ByteArray.mk_append_mk]; rfl))

theorem okCell_spec {d : TypeDesc} {x y : V} {xv yv : Value} {f : TypeId} {n : Nat} (hd : P.underlying f = some d) (hx : Rep γ F x xv) (hy : Rep γ F y yv) (h : okCell d x y = true) :
    (Op.equalIn (n + 1) f xv yv).run P w = .ok (eqCell x y) w := by
  cases d <;> cases x <;> cases y <;> simp [okCell] at h <;> simp only [Rep] at hx hy <;> subst hx hy
  · simp [Op.equalIn, run_underlying hd, eqCell]
  · obtain ⟨rfl, rfl⟩ := h; simp [Op.equalIn, run_underlying hd, eqCell]
  · simp [Op.equalIn, run_underlying hd, eqCell, bytes_inj]

theorem RepC.head' {x : V} {xs : List V} {vs : Array Value} {i : Nat} (h : RepC γ F (x :: xs) (vs.toList.drop i)) :
    ∃ v, vs[i]? = some v ∧ Rep γ F x v ∧ RepC γ F xs (vs.toList.drop (i + 1)) := by
  simp only [RepC] at h
  obtain ⟨v, ws, h1, h2, h3, h4⟩ := h
  refine ⟨v, by simpa using drop_cons_of h1, h3, ?_⟩
  rw [← List.drop_drop, h1]; simpa using h4

theorem plainFields_spec : ∀ (fs : List Field) (i : Nat) (ds : List TypeDesc), plainFields P i fs = some ds →
    ∀ (xs ys : List V) (xv yv : Array Value), RepC γ F xs (xv.toList.drop i) → RepC γ F ys (yv.toList.drop i) → okCells ds xs ys = true →
    ∀ n, (Op.eqFields (n + 1) xv yv fs).run P w = .ok (eqCells xs ys) w
  | [], i, ds, h, xs, ys, xv, yv, hx, hy, ho, n => by
    simp [plainFields] at h; subst h
    cases xs <;> cases ys <;> simp [okCells] at ho
    simp [Op.eqFields, eqCells]
  | f :: fs, i, ds, h, xs, ys, xv, yv, hx, hy, ho, n => by
    simp only [plainFields] at h
    split at h
    · cases h
    rename_i hno
    simp only [Bool.or_eq_true, beq_iff_eq, bne_iff_ne, not_or, ne_eq, Decidable.not_not] at hno
    have key : ∀ (d : TypeDesc), P.underlying f.type = some d → (∀ fs', d ≠ .struct fs') → (∀ m e, d ≠ .array m e) → (plainFields P (i + 1) fs).map (d :: ·) = some ds →
        (Op.eqFields (n + 1) xv yv (f :: fs)).run P w = .ok (eqCells xs ys) w := by
      intro d hd hns hna hm
      cases hp : plainFields P (i + 1) fs with
      | none => rw [hp] at hm; cases hm
      | some ds' =>
        rw [hp] at hm
        simp at hm; subst hm
        cases xs with
        | nil => cases ys <;> simp [okCells] at ho
        | cons x xs =>
          cases ys with
          | nil => simp [okCells] at ho
          | cons y ys =>
            simp only [okCells, Bool.and_eq_true] at ho
            obtain ⟨xu, e1, r1, c1⟩ := RepC.head' hx
            obtain ⟨yu, e2, r2, c2⟩ := RepC.head' hy
            have hpart : ∀ (zs : Array Value) (u : Value), zs[i]? = some u → (part f.type zs f.offset).run P w = .ok u w := fun zs u hz => by
              have hagg : (isAgg f.type).run P w = .ok false w := by
                simp only [isAgg, Sem.run_bind, run_underlying hd, Result.andThen_ok]
                cases d <;> first | rfl | exact absurd rfl (hns _) | exact absurd rfl (hna _ _)
              simp [part, hagg, hno.2, hz]
            have hrec := plainFields_spec fs (i + 1) ds' hp xs ys xv yv c1 c2 ho.2 n
            simp only [Op.eqFields, ne_eq, hno.1, not_false_eq_true, if_true, Sem.run_bind, hpart xv xu e1, hpart yv yu e2, Result.andThen_ok, okCell_spec hd r1 r2 ho.1, Sem.run_ite, Sem.run_pure, eqCells]
            cases eqCell x y
            · simp
            · simp [hrec]
    split at h
    · rename_i k hu; exact key _ hu (by simp) (by simp) h
    · rename_i hu; exact key _ hu (by simp) (by simp) h
    · rename_i hu; exact key _ hu (by simp) (by simp) h
    · cases h

theorem eqKinds_spec {t : TypeId} {ds : List TypeDesc} (h : eqKinds P t = some ds) :
    P.underlying t = some (.struct (P.fieldsOf t)) ∧ P.stoodInHeld t = false ∧ P.eqGuardType P.depth t = false ∧ plainFields P 0 (P.fieldsOf t).toList = some ds := by
  unfold eqKinds at h
  split at h
  · rename_i fs hu
    split at h
    · cases h
    · rename_i hn
      simp only [Bool.or_eq_true, not_or, Bool.not_eq_true] at hn
      have : P.fieldsOf t = fs := by unfold Program.fieldsOf; rw [hu]
      rw [this]; exact ⟨hu, hn.1, hn.2, h⟩
  · cases h

theorem eqAgg_sound {t : TypeId} {ds : List TypeDesc} (h : eqKinds P t = some ds) {xs ys : List V} {xv yv : Array Value} (hx : RepC γ F xs xv.toList) (hy : RepC γ F ys yv.toList) (ho : okCells ds xs ys = true) :
    (Op.equalIn 10000 t (.agg xv) (.agg yv)).run P w = .ok (eqCells xs ys) w := by
  obtain ⟨h1, h2, h3, h4⟩ := eqKinds_spec h
  rw [run_equalIn_struct w 9999 t xv yv h1 h2]
  exact plainFields_spec _ 0 ds h4 xs ys xv yv (by simpa using hx) (by simpa using hy) ho 9998

theorem isPtr_spec {t : TypeId} (h : isPtr P t = true) : ∃ e, P.underlying t = some (.pointer e) := by
  unfold isPtr at h; split at h
  · rename_i e hu; exact ⟨e, hu⟩
  · cases h
theorem isFace_spec {t : TypeId} (h : isFace P t = true) : ∃ e, P.underlying t = some (.interface e) := by
  unfold isFace at h; split at h
  · rename_i e hu; exact ⟨e, hu⟩
  · cases h
theorem isBoolT_spec {t : TypeId} (h : isBoolT P t = true) : P.underlying t = some .bool := by
  unfold isBoolT at h; split at h
  · rename_i hu; exact hu
  · cases h
theorem isFuncT_spec {t : TypeId} (h : isFuncT P t = true) : ∃ a b c, P.underlying t = some (.func a b c) := by
  unfold isFuncT at h; split at h
  · rename_i a b c hu; exact ⟨a, b, c, hu⟩
  · cases h
theorem isMapT_spec {t : TypeId} (h : isMapT P t = true) : ∃ a b, P.underlying t = some (.map a b) := by
  unfold isMapT at h; split at h
  · rename_i a b hu; exact ⟨a, b, hu⟩
  · cases h

theorem eqGuard_one {op : BinOp} {t : TypeId} {x y : Operand} {a b : Value} (ha : a ≠ .nilIface) (h : ∀ xs, a ≠ .agg xs) : (eqGuard op t x y a b).run P w = .ok () w := by
  cases op <;> cases a <;> first | exact absurd rfl ha | exact absurd rfl (h _) | simp [eqGuard] | (cases b <;> simp [eqGuard])

theorem run_equal_of {t : TypeId} {x y : Value} {r : Bool} (h : ∀ d, (Op.equalIn (d + 1) t x y).run P w = .ok r w) : (Op.equal t x y).run P w = .ok r w := h 9999

/-- Are two values one? -/
theorem eqR_sound {t : TypeId} {xo yo : Operand} {x y : V} {xv yv : Value} (hx : Rep γ F x xv) (hy : Rep γ F y yv) (hok : (eqR P t (isConstOp xo || isConstOp yo) x y H).ok) :
    ∃ r, (eqR P t (isConstOp xo || isConstOp yo) x y H).v = .bool r ∧ (eqR P t (isConstOp xo || isConstOp yo) x y H).H = H ∧
      (Op.equal t xv yv).run P w = .ok r w ∧ (∀ op, (eqGuard op t xo yo xv yv).run P w = .ok () w) ∧
      (∀ k n, xv ≠ .int k n) ∧ (∀ s, xv ≠ .string s) ∧ (∀ k n, xv ≠ .float k n) ∧ (∀ k n m, xv ≠ .complex k n m) := by
  have hcon : ∀ z : Operand, isConstOp z = true → ∃ c, z = .const c := fun z hz => by cases z <;> simp [isConstOp] at hz; exact ⟨_, rfl⟩
  cases x <;> cases y <;> simp only [eqR, R.bad] at hok ⊢ <;> try exact hok.elim
  case bool.bool a b =>
    simp only [Rep] at hx hy; subst hx hy
    have hu := isBoolT_spec hok
    exact ⟨_, rfl, trivial, run_equal_of fun d => by simp [Op.equalIn, run_underlying hu], fun op => eqGuard_one (by simp) (by simp), by simp, by simp, by simp, by simp⟩
  case agg.agg xs ys =>
    simp only [Rep] at hx hy
    obtain ⟨xs', rfl, h1⟩ := hx
    obtain ⟨ys', rfl, h2⟩ := hy
    cases hk : eqKinds P t with
    | none => rw [hk] at hok; exact hok.elim
    | some ds =>
      rw [hk] at hok
      exact ⟨_, rfl, rfl, eqAgg_sound hk h1 h2 hok, fun op => run_eqGuard_agg w op t xo yo xs' ys' (eqKinds_spec hk).2.2.1, by simp, by simp, by simp, by simp⟩
  case niliface.niliface =>
    simp only [Rep] at hx hy; subst hx hy
    obtain ⟨e, hu⟩ := isFace_spec hok.1
    refine ⟨true, rfl, trivial, run_equal_of fun d => by simp [Op.equalIn, run_underlying hu], fun op => ?_, by simp, by simp, by simp, by simp⟩
    have hc := hok.2
    simp only [Bool.or_eq_true] at hc
    rcases hc with hc | hc
    · obtain ⟨c, rfl⟩ := hcon _ hc; rw [eqGuard_nil_constL]; rfl
    · obtain ⟨c, rfl⟩ := hcon _ hc; rw [eqGuard_nil_constR]; rfl
  case niliface.iface =>
    simp only [Rep] at hx hy; subst hx; obtain ⟨u, rfl, _⟩ := hy
    obtain ⟨e, hu⟩ := isFace_spec hok
    exact ⟨false, rfl, trivial, run_equal_of fun d => by simp [Op.equalIn, run_underlying hu], fun op => by cases op <;> simp [eqGuard], by simp, by simp, by simp, by simp⟩
  case iface.niliface =>
    simp only [Rep] at hx hy; subst hy; obtain ⟨u, rfl, _⟩ := hx
    obtain ⟨e, hu⟩ := isFace_spec hok
    exact ⟨false, rfl, trivial, run_equal_of fun d => by simp [Op.equalIn, run_underlying hu], fun op => eqGuard_one (by simp) (by simp), by simp, by simp, by simp, by simp⟩
  case nilptr.nilptr =>
    simp only [Rep] at hx hy; subst hx hy
    obtain ⟨e, hu⟩ := isPtr_spec hok
    exact ⟨true, rfl, trivial, run_equal_of fun d => by simp [Op.equalIn, run_underlying hu], fun op => eqGuard_one (by simp) (by simp), by simp, by simp, by simp, by simp⟩
  case nilptr.ptr =>
    simp only [Rep] at hx hy; subst hx; obtain ⟨b, _, rfl⟩ := hy
    obtain ⟨e, hu⟩ := isPtr_spec hok
    exact ⟨false, rfl, trivial, run_equal_of fun d => by simp [Op.equalIn, run_underlying hu], fun op => eqGuard_one (by simp) (by simp), by simp, by simp, by simp, by simp⟩
  case ptr.nilptr =>
    simp only [Rep] at hx hy; subst hy; obtain ⟨b, _, rfl⟩ := hx
    obtain ⟨e, hu⟩ := isPtr_spec hok
    exact ⟨false, rfl, trivial, run_equal_of fun d => by simp [Op.equalIn, run_underlying hu], fun op => eqGuard_one (by simp) (by simp), by simp, by simp, by simp, by simp⟩
  case nilfn.nilfn =>
    simp only [Rep] at hx hy; subst hx hy
    obtain ⟨a, b, c, hu⟩ := isFuncT_spec hok
    exact ⟨true, rfl, trivial, run_equal_of fun d => by simp [Op.equalIn, run_underlying hu], fun op => eqGuard_one (by simp) (by simp), by simp, by simp, by simp, by simp⟩
  case nilfn.fn =>
    simp only [Rep] at hx hy; subst hx; obtain ⟨as, cs, rfl, _⟩ := hy
    obtain ⟨a, b, c, hu⟩ := isFuncT_spec hok
    exact ⟨false, rfl, trivial, run_equal_of fun d => by simp [Op.equalIn, run_underlying hu], fun op => eqGuard_one (by simp) (by simp), by simp, by simp, by simp, by simp⟩
  case fn.nilfn =>
    simp only [Rep] at hx hy; subst hy; obtain ⟨as, cs, rfl, _⟩ := hx
    obtain ⟨a, b, c, hu⟩ := isFuncT_spec hok
    exact ⟨false, rfl, trivial, run_equal_of fun d => by simp [Op.equalIn, run_underlying hu], fun op => eqGuard_one (by simp) (by simp), by simp, by simp, by simp, by simp⟩
  case nilmap.nilmap =>
    simp only [Rep] at hx hy; subst hx hy
    obtain ⟨a, b, hu⟩ := isMapT_spec hok
    exact ⟨true, rfl, trivial, run_equal_of fun d => by simp [Op.equalIn, run_underlying hu], fun op => eqGuard_one (by simp) (by simp), by simp, by simp, by simp, by simp⟩
  case nilmap.mp =>
    simp only [Rep] at hx hy; subst hx; obtain ⟨b', _, rfl⟩ := hy
    obtain ⟨a, b, hu⟩ := isMapT_spec hok
    exact ⟨false, rfl, trivial, run_equal_of fun d => by simp [Op.equalIn, run_underlying hu], fun op => eqGuard_one (by simp) (by simp), by simp, by simp, by simp, by simp⟩
  case mp.nilmap =>
    simp only [Rep] at hx hy; subst hy; obtain ⟨b', _, rfl⟩ := hx
    obtain ⟨a, b, hu⟩ := isMapT_spec hok
    exact ⟨false, rfl, trivial, run_equal_of fun d => by simp [Op.equalIn, run_underlying hu], fun op => eqGuard_one (by simp) (by simp), by simp, by simp, by simp, by simp⟩

end
end Go.Ab
