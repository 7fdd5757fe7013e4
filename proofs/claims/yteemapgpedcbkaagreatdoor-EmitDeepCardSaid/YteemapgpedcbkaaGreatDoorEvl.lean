/- The evaluator over the abstract machine, and that it is sound. -/
import Derived.Test.YteemapgpedcbkaaGreatDoorFun
import Derived.Lib.UnsafeStr
import Derived.Lib.Bytealg
import Derived.LaidEql
import Derived.LoopNIn
set_option linter.unusedVariables false
set_option linter.unusedSectionVars false
set_option linter.unusedSimpArgs false
namespace Go.Ab
variable [Env]
section
variable {P : Program} {γ γ' : List Loc} {F F' : Frz} {w w' : World} {H H' : Heap} {hp hp' : HP} {v : V}

theorem cellsOf_lay {t : TypeId} {g : Bool} {k : Nat} (h : lay P t = some (g, k)) : P.cellsOf t = k := by
  unfold lay at h
  cases hi : P.info? t with
  | none => rw [hi] at h; split at h <;> simp_all
  | some i =>
    have := lay_info (P := P) (t := t) (g := g) (k := k) (by unfold lay; exact h) hi
    simp [Program.cellsOf, hi, this]

/-- The address of a slice's first element. -/
def sliceDataB (x : V) (H : HP) : RB := match x with
  | .zsl => some (.nilptr, H)
  | .arr r L off n => match H.get r with
    | some (.arr _ _ xs) => when (Nat.beq xs.length L && Nat.ble (off + n) L && Nat.blt 0 n) (.eptr r L off 0) H
    | _ => none
  | _ => none

theorem sliceData_out (h : Rel γ F w H) (hh : HAbs hp H) {ts : Array TypeId} {ty : TypeId} {x : V} {xv : Value} (hx : Rep γ F x xv)
    (hb : sliceDataB x hp = some (v, hp')) : OutB P γ F w (do pure (.value (← Builtin.unsafeSliceData_ ts ty #[xv]))) v hp' := by
  unfold sliceDataB at hb
  split at hb
  · cases hb
    simp only [Rep] at hx
    subst hx
    exact ⟨H, hh, Out.value h (u := .pointer none) (Lib.run_unsafeSliceData_nil w ts ty 0 0) (by simp only [Rep])⟩
  · rename_i r L off n
    rw [hh.get] at hb
    split at hb
    · rename_i t k xs ho
      obtain ⟨hc, rfl, rfl⟩ := when_some hb
      simp only [Bool.and_eq_true, nbeq_iff, nble_iff, nblt_iff] at hc
      obtain ⟨⟨c1, c2⟩, c3⟩ := hc
      have hx0 := hx
      obtain ⟨a, c, rfl, hcase⟩ := arr_at h hx ho c1 c2
      rcases hcase with ⟨rfl, _⟩ | ⟨b, cap, g1, g2, g3, g4⟩
      · omega
      · have ha : a = some ⟨b, off * k, none⟩ := by
          rcases g4 with g4 | g4
          · omega
          · exact g4
        subst ha
        refine ⟨H, hh, Out.value h (u := .pointer (some ⟨b, off * k, none⟩)) (Lib.run_unsafeSliceData_row w ts ty _ n c (by omega)) ?_⟩
        simp only [Rep]
        refine ⟨b, off * k, rfl, _, g1, by simp [Loc.len], fun c' cap' k' e => ?_⟩
        cases e
        exact ⟨rfl, by simp⟩
    · cases hb
  · cases hb

/-- Bytes become a text; nobody writes them any more. -/
def unsafeStringB (e : TypeId) (x n : V) (H : HP) : RB := match n with
  | .int .i64 m => match x with
    | .nilptr => when (m == 0) (.str []) H
    | .eptr r L i o => match m with
      | .ofNat 0 => some (.str [], H)
      | m => match H.get r with
        | some (.arr t kk xs) => when (Nat.beq t e && Nat.beq kk 1 && Nat.beq xs.length L && Nat.beq i 0 && Nat.beq o 0 && leI 0 m && leI m L && (xs.take m.toNat).all okByte && leI m 9223372036854775807)
            (.str ((xs.take m.toNat).map byteOfV)) (H.set r .dead)
        | _ => none
    | _ => none
  | _ => none

theorem unsafeString_out (h : Rel γ F w H) (hh : HAbs hp H) {pt it ty e : TypeId} (hpt : P.underlying pt = some (.pointer e)) {g : Bool} (hl : lay P e = some (g, 1)) {x n : V} {xv nv : Value} (hx : Rep γ F x xv) (hn : Rep γ F n nv)
    (hb : unsafeStringB e x n hp = some (v, hp')) : OutB P γ F w (do pure (.value (← Builtin.unsafeString_ #[pt, it] ty #[xv, nv]))) v hp' := by
  unfold unsafeStringB at hb
  split at hb
  · rename_i m
    simp only [Rep] at hn
    subst hn
    split at hb
    · obtain ⟨hc, rfl, rfl⟩ := when_some hb
      simp only [Rep] at hx
      subst hx
      have : m = 0 := by simpa using hc
      subst this
      exact ⟨H, hh, Out.value h (u := .string .empty) (Lib.run_unsafeString_none w pt it ty none) (by simp only [Rep]; rfl)⟩
    · rename_i r L i o
      split at hb
      · cases hb
        simp only [Rep] at hx
        obtain ⟨b, p, rfl, _⟩ := hx
        exact ⟨H, hh, Out.value h (u := .string .empty) (Lib.run_unsafeString_none w pt it ty _) (by simp only [Rep]; rfl)⟩
      · rename_i hm0
        rw [hh.get] at hb
        split at hb
        · rename_i t kk xs ho
          obtain ⟨hc, rfl, rfl⟩ := when_some hb
          simp only [Bool.and_eq_true, nbeq_iff, leI_iff] at hc
          obtain ⟨⟨⟨⟨⟨⟨⟨⟨rfl, rfl⟩, rfl⟩, rfl⟩, rfl⟩, c6⟩, c7⟩, c8⟩, c9⟩ := hc
          simp only [Rep] at hx
          obtain ⟨b, p, rfl, l, h1, h2, h3⟩ := hx
          have hm : 0 < m := by
            rcases Int.lt_or_eq_of_le c6 with c | c
            · exact c
            · exact (hm0 (by rw [← c]; rfl)).elim
          have hr := h.obj r _ _ h1 ho
          cases l <;> simp only [RelO] at hr
          case nilarr => subst hr; simp at c7; omega
          case arr b' cap L' k' =>
            obtain ⟨rfl, rfl, hcap, vs, fz, q4, q5, q6, q7⟩ := hr
            obtain ⟨rfl, rfl⟩ := h3 b' cap 1 rfl
            simp only [Nat.zero_mul, Nat.add_zero] at *
            obtain ⟨q, rfl⟩ := Int.eq_ofNat_of_zero_le c6
            simp only [Int.toNat_natCast] at *
            generalize hlq : (xs.take q).map byteOfV = l
            have hll : l.length = q := by rw [← hlq]; simp; omega
            have hbc := bytes_cells (γ := γ) (F := F) (RepEs.take q q6) c8
            have hq2 : (xs.take q).length = q := by simp; omega
            rw [hq2, hlq] at hbc
            have hcell : ∀ j x, l[j]? = some x → w.cell? ((⟨b, 0, none⟩ : Addr).add j) = some (.int .u8 x.toNat) := by
              intro j x hj
              rw [add_none, Nat.zero_add, cell_of_block q4]
              have hjl := getElem?_lt hj
              have : (vs.toList.take q)[j]? = some (Value.int .u8 x.toNat) := by rw [hbc]; simp [hj]
              rw [List.getElem?_take_of_lt (by omega)] at this
              simpa using this
            have hrun := Lib.run_unsafeString_row (P := P) w pt it ty t hpt (cellsOf_lay hl) b vs.size (by simp [World.shape?, q4]) l (by intro e; rw [e] at hll; simp at hll; omega) (by omega) (by omega) hcell
            rw [hll] at hrun
            have hfz : ∀ c, c < w.heap.size → b ≠ c → (w.freeze ⟨b, 0, none⟩ q).heap[c]? = w.heap[c]? := by
              intro c _ hbc
              unfold World.freeze
              split
              · rfl
              · simp [Array.getElem?_modify, hbc]
            have hsz : (w.freeze ⟨b, 0, none⟩ q).heap.size = w.heap.size := by
              unfold World.freeze
              split <;> simp
            have h3' : (w.freeze ⟨b, 0, none⟩ q).os = w.os ∧ (w.freeze ⟨b, 0, none⟩ q).tape = w.tape ∧ (w.freeze ⟨b, 0, none⟩ q).output = w.output := by
              unfold World.freeze
              split <;> exact ⟨rfl, rfl, rfl⟩
            have hle : LocLe (.arr b cap xs.length 1) .dead := .inr (.inl rfl)
            have hsame : ∀ c, c < w.heap.size → (Loc.arr b cap xs.length 1).block ≠ some c → (w.freeze ⟨b, 0, none⟩ q).heap[c]? = w.heap[c]? := fun c hc hne => hfz c hc fun e => hne (by rw [e]; rfl)
            have hblk : ∀ c, Loc.dead.block = some c → ((Loc.arr b cap xs.length 1).block = some c ∨ w.heap.size ≤ c) ∧ c < (w.freeze ⟨b, 0, none⟩ q).heap.size := fun c hc => by cases hc
            refine ⟨H.set r .dead, hh.set ho, .string ⟨l.toArray⟩, w.freeze ⟨b, 0, none⟩ q, γ.set r .dead, F, .inl (run_val hrun), Nx.upd h h1 hle (by rw [hsz]; exact Nat.le_refl _) hsame hblk h3'.1 h3'.2.1 h3'.2.2, Rel.upd h h1 hle (by rw [hsz]; exact Nat.le_refl _) hsame hblk trivial, ?_⟩
            simp only [Rep]
        · cases hb
    · cases hb
  · cases hb

/-- A variable's address, seen as unsafe.Pointer, and back. -/
def unsafeOfB (x : V) (H : HP) : RB := match x with
  | .ptr r o => match H.get r with
    | some (.cells _ cs) => when (Nat.blt o cs.length) (.ptr r o) H
    | _ => none
  | _ => none
def unsafeToB (u k : Nat) (x : V) (H : HP) : RB := match x with
  | .ptr r o => match H.get r with
    | some (.cells t cs) => when (Nat.beq t u && Nat.beq o 0 && Nat.ble k cs.length) (.ptr r o) H
    | _ => none
  | _ => none

theorem unsafeOf_out (h : Rel γ F w H) (hh : HAbs hp H) {src dst e : TypeId} (hs : P.underlying src = some (.pointer e)) (hd : P.underlying dst = some .unsafePointer) {g : Bool} {k : Nat} (hl : lay P e = some (g, k + 1)) {x : V} {xv : Value} (hx : Rep γ F x xv)
    (hb : unsafeOfB x hp = some (v, hp')) : OutB P γ F w (do pure (.value (← convert src dst xv))) v hp' := by
  unfold unsafeOfB at hb
  split at hb
  · rename_i r o
    rw [hh.get] at hb
    split at hb
    · rename_i t cs ho
      obtain ⟨hc, rfl, rfl⟩ := when_some hb
      have hc := nblt_iff.1 hc
      simp only [Rep] at hx
      obtain ⟨b, h1, rfl⟩ := hx
      have hr := h.obj r _ _ h1 ho
      simp only [RelO] at hr
      obtain ⟨vs, fz, g1, g2, g3⟩ := hr
      have hlen := g2.length
      simp only [Array.length_toList] at hlen
      have hsh : w.shape? b = some (t, vs.size) := by simp [World.shape?, g1]
      refine ⟨H, hh, Out.value h (u := .pointer (some ⟨b, o, none⟩)) ?_ (by simp only [Rep]; exact ⟨b, h1, rfl⟩)⟩
      have hno : ¬ vs.size ≤ o := by omega
      simp [convert, run_underlying hs, run_underlying hd, Conv.unsafePointer, Conv.seenAt, viewAt, hsh, cellsIn, run_sizeOf' hl, hno]
    · cases hb
  · cases hb

theorem liesAt_one {u : TypeId} {k count : Nat} (hk : P.cellsOf u = k + 1) (hc : 1 ≤ count) : liesAt P P.depth u count 0 u 1 = true := by
  have hd : P.depth = (2 * (P.types.size + Made.depth) + 1) + 1 := rfl
  rw [hd]
  simp only [liesAt, Bool.or_eq_true]
  left
  rw [hd]
  simp [rowAt, hk, hc, sameLayout]

theorem unsafeTo_out (h : Rel γ F w H) (hh : HAbs hp H) {src dst e : TypeId} (hs : P.underlying src = some .unsafePointer) (hd : P.underlying dst = some (.pointer e)) {g : Bool} {k : Nat} (hl : lay P e = some (g, k + 1)) {x : V} {xv : Value} (hx : Rep γ F x xv)
    (hb : unsafeToB e (k + 1) x hp = some (v, hp')) : OutB P γ F w (do pure (.value (← convert src dst xv))) v hp' := by
  unfold unsafeToB at hb
  split at hb
  · rename_i r o
    rw [hh.get] at hb
    split at hb
    · rename_i t cs ho
      obtain ⟨hc, rfl, rfl⟩ := when_some hb
      simp only [Bool.and_eq_true, nbeq_iff, nble_iff] at hc
      obtain ⟨⟨rfl, rfl⟩, hc⟩ := hc
      simp only [Rep] at hx
      obtain ⟨b, h1, rfl⟩ := hx
      have hr := h.obj r _ _ h1 ho
      simp only [RelO] at hr
      obtain ⟨vs, fz, g1, g2, g3⟩ := hr
      have hlen := g2.length
      simp only [Array.length_toList] at hlen
      have hsh : w.shape? b = some (t, vs.size) := by simp [World.shape?, g1]
      have hco := cellsOf_lay hl
      have hcount : 1 ≤ vs.size / P.cellsOf t := by
        rw [hco]
        exact (Nat.le_div_iff_mul_le (by omega)).2 (by omega)
      have hlies := liesAt_one (P := P) hco hcount
      refine ⟨H, hh, Out.value h (u := .pointer (some ⟨b, 0, none⟩)) ?_ (by simp only [Rep]; exact ⟨b, h1, rfl⟩)⟩
      simp [convert, run_underlying hs, run_underlying hd, Conv.unsafePointer, Conv.seenAt, viewAt, hsh, run_sizeOf' hl, variablesAt, hlies]
    · cases hb
  · cases hb

/-- Is a value of an interface of a type? -/
def assertB (t : TypeId) (z : V) (ok : Bool) (x : V) (H : HP) : RB := match x with
  | .iface u y => match Nat.beq u t with
    | true => some (match ok with | true => .tup [y, .bool true] | false => y, H)
    | false => none
  | _ => none

theorem assert_out (h : Rel γ F w H) (hh : HAbs hp H) {xt t : TypeId} {d : TypeDesc} (hu : P.underlying t = some d) (hnf : isFace P t = false) {z : V} {ok : Bool} {x : V} {xv : Value} (hx : Rep γ F x xv)
    (hb : assertB t z ok x hp = some (v, hp')) : OutB P γ F w (do pure (.value (← Instr.typeAssert xv xt t ok))) v hp' := by
  unfold assertB at hb
  split at hb
  · rename_i u y
    split at hb
    · rename_i he
      have he := nbeq_iff.1 he
      subst he
      simp only [Rep] at hx
      obtain ⟨yv, rfl, hy⟩ := hx
      have hd : ∀ ms, d ≠ .interface ms := by
        rintro ms rfl
        simp [isFace, hu] at hnf
      cases ok
      · cases hb
        refine ⟨H, hh, Out.value h (u := yv) ?_ hy⟩
        cases d <;> first | exact absurd rfl (hd _) | simp [Instr.typeAssert, run_underlying hu]
      · cases hb
        refine ⟨H, hh, Out.value h (u := .tuple #[yv, .bool true]) ?_ ?_⟩
        · cases d <;> first | exact absurd rfl (hd _) | simp [Instr.typeAssert, run_underlying hu]
        · simp only [Rep]
          exact ⟨_, rfl, by simp only [RepL]; exact ⟨yv, _, rfl, hy, _, _, rfl, by simp [Rep], rfl⟩⟩
    · cases hb
  · cases hb

/-! Functions without a body. -/

/-- How a function may be called: it has a body, and a contract; or it answers at once. -/
def CSpec (P : Program) (f : FuncId) (args : List V) (H : Heap) (v : V) (H' : Heap) : Prop := (hasBody P f = true ∧ ASpec P f args H v H') ∨
  (∀ (γ : List Loc) (F : Frz) (w : World) (vs : List Value), Rel γ F w H → RepL γ F args vs → ∃ γ' F' u w', (callFunc f vs.toArray).run P w = .ok (.value u) w' ∧ Nx γ F w γ' F' w' ∧ Rel γ' F' w' H' ∧ Rep γ' F' v u)

theorem Spec.c {f : FuncId} {args : List V} (h : Spec P f args H v H') : CSpec P f args H v H' := .inl h

/-- A function of the library that the model knows. -/
def extern (P : Program) (f : FuncId) (name : String) : Bool := match P.funcs[f]? with
  | some fn => fn.body.isNone && fn.name == name
  | none => false

def extB (k : Nat) (args : List V) (H : HP) : RB := match k with
  | 0 => match args with
    | [x] => some (x, H)
    | _ => none
  | 1 => match args with
    | [.str l, .int .u8 c] => when (leI 0 c && ltI c 256) (.int .i64 (Lib.indexByte l (UInt8.ofNat c.toNat))) H
    | _ => none
  | 2 => match args with
    | [.iface t (.mp r)] => match H.get r with
      | some (.mp es) => some (.iface t (.mp H.n), H.push (.mp es))
      | _ => none
    | _ => none
  | _ => none

def extName : Nat → String
  | 0 => "internal/abi.NoEscape"
  | 1 => "internal/bytealg.IndexByteString"
  | 2 => "maps.clone"
  | _ => ""

theorem callFunc_ext {f : FuncId} {fn : Func} (hf : P.funcs[f]? = some fn) (hb : fn.body = none) (hg : (fn.name == "runtime.NumGoroutine") = false) {args : Array Value} {s : Array Value → Sem Value} (h1 : Extern.findNext fn = none) (h2 : Extern.find fn = some s) :
    (callFunc f args).run P w = (do pure (.value (← s args)) : Sem _root_.Go.Next).run P w := by
  have hne : ¬ fn.name = "runtime.NumGoroutine" := by simpa using hg
  simp [callFunc, hf, hb, hne, h1, h2]

theorem ext_out (k : Nat) {f : FuncId} {fn : Func} (hf : P.funcs[f]? = some fn) (hb : fn.body = none) (hname : fn.name = extName k) (hh : HAbs hp H) {args : List V}
    (h1 : Extern.findNext fn = none) (h2 : ∃ s, Extern.find fn = some s ∧ s = (match k with | 0 => Extern.AbiNoEscape.same | 1 => Extern.BytealgIndexByte.indexByte | _ => Extern.MapsClone.clone)) (hx : extB k args hp = some (v, hp')) :
    ∃ H', HAbs hp' H' ∧ CSpec P f args H v H' := by
  obtain ⟨s, h2, hs⟩ := h2
  have hg : (fn.name == "runtime.NumGoroutine") = false := by
    rw [hname]
    match k with
    | 0 => rfl
    | 1 => rfl
    | 2 => rfl
    | k + 3 => rfl
  have call := fun (w : World) (args : Array Value) => callFunc_ext (P := P) (w := w) hf hb hg (args := args) h1 h2
  unfold extB at hx
  split at hx
  · split at hx
    · rename_i x
      cases hx
      refine ⟨H, hh, .inr fun γ F w vs hrel hargs => ?_⟩
      simp only [RepL] at hargs
      obtain ⟨u, ws, rfl, hu, rfl⟩ := hargs
      refine ⟨γ, F, u, w, ?_, Nx.refl _ _ _, hrel, hu⟩
      rw [call, hs]
      rfl
    · cases hx
  · split at hx
    · rename_i l c
      obtain ⟨hc, rfl, rfl⟩ := when_some hx
      simp only [Bool.and_eq_true, leI_iff, ltI_iff] at hc
      refine ⟨H, hh, .inr fun γ F w vs hrel hargs => ?_⟩
      simp only [RepL, Rep] at hargs
      obtain ⟨u, ws, rfl, rfl, u2, ws2, rfl, rfl, rfl⟩ := hargs
      refine ⟨γ, F, .int .i64 (Lib.indexByte l (UInt8.ofNat c.toNat)), w, ?_, Nx.refl _ _ _, hrel, by simp only [Rep]⟩
      rw [call, hs]
      show (do pure (.value (← Extern.BytealgIndexByte.indexByte #[.string ⟨l.toArray⟩, .int .u8 c])) : Sem _root_.Go.Next).run P w = _
      have := Lib.run_indexByteString (P := P) ⟨l.toArray⟩ c w
      simp only [Sem.run_bind, this]
      rfl
    · cases hx
  · split at hx
    · rename_i t r
      rw [hh.get] at hx
      split at hx
      · rename_i es ho
        cases hx
        refine ⟨_, hh.push _, .inr fun γ F w vs hrel hargs => ?_⟩
        simp only [RepL, Rep] at hargs
        obtain ⟨u, ws, rfl, ⟨y, rfl, b, hg1, rfl⟩, rfl⟩ := hargs
        have hr := hrel.obj r _ _ hg1 ho
        simp only [RelO] at hr
        obtain ⟨ms, clock, q1, q2, q3⟩ := hr
        have hblk : ∀ c, (Loc.mp w.heap.size).block = some c → w.heap.size ≤ c ∧ c < (w.alloc (.map ms clock)).heap.size := fun c e => by cases e; simp
        refine ⟨γ ++ [.mp w.heap.size], F, .iface t (.map (some w.heap.size)), w.alloc (.map ms clock), ?_, Nx.push hrel (push_size _ _) (push_same _ _) hblk rfl rfl rfl, Rel.push hrel (push_size _ _) (push_same _ _) hblk ?_, ?_⟩
        · rw [call, hs]
          have hg : (getObj b).run P w = .ok (.map ms clock) w := by simp [getObj, Sem.run, q1]
          have hdef : Extern.MapsClone.clone #[.iface t (.map (some b))] = (do
              let .map entries clock ← getObj b | stuck "maps.clone: a map expected"
              pure (.iface t (.map (some (← newObj (.map entries clock)))))) := rfl
          show (do pure (.value (← Extern.MapsClone.clone #[.iface t (.map (some b))])) : Sem _root_.Go.Next).run P w = _
          rw [hdef]
          simp [hg]
        · exact ⟨ms, clock, push_new _ _, RepM.mono (Ext.append γ _) (FLe.refl F) _ _ q2, q3⟩
        · simp only [Rep]
          exact ⟨_, rfl, w.heap.size, by rw [hh.n, ← hrel.len]; simp, rfl⟩
      · cases hx
    · cases hx
  · cases hx
end
end Go.Ab
namespace Go.Ab
variable [Env]
section
variable {P : Program} {γ γ' : List Loc} {F F' : Frz} {w w' : World} {H H' : Heap} {hp hp' : HP} {v : V}

/-- Elements are appended where the array has them already. -/
def appInB (e : TypeId) (k bytes : Nat) (s x : V) (H : HP) : RB := match elemsB x H with
  | some (c, k', ys) => match s with
    | .arr r L off n => match H.get r with
      | some (.arr t kk xs) => when (c && (Nat.beq k' k || isNil ys) && Nat.blt 0 k && Nat.beq t e && Nat.beq kk k && Nat.beq xs.length L && Nat.ble (off + n + ys.length) L && Nat.blt (off + n) L && fitsB (n + ys.length) bytes)
          (.arr r L off (n + ys.length)) (H.set r (.arr t kk (xs.take (off + n) ++ ys ++ xs.drop (off + n + ys.length))))
      | _ => none
    | _ => none
  | none => none

theorem appIn_out (h : Rel γ F w H) (hh : HAbs hp H) {t u e : TypeId} {ty : TypeId} (ht : P.underlying t = some (.slice e)) (hu : (∃ q, P.underlying u = some (.slice q)) ∨ P.underlying u = some .string) {g : Bool} {k : Nat} (hl : lay P e = some (g, k)) {i : TypeInfo} (hi : P.info? e = some i) {z : V} (hz : zeroOf P e = some z)
    {s x : V} {sv xv : Value} (hs : Rep γ F s sv) (hx : Rep γ F x xv) (hb : appInB e k i.bytes s x hp = some (v, hp')) : OutB P γ F w (do pure (.value (← Builtin.append_ #[t, u] ty #[sv, xv]))) v hp' := by
  obtain ⟨zv, hz1, _⟩ := zeroOf_info hz hi
  have hik := lay_info hl hi
  unfold appInB at hb
  split at hb
  · rename_i c k' ys he
    obtain ⟨p, he', hc'⟩ := elems_rb hh he
    split at hb
    · rename_i r L off n
      rw [hh.get] at hb
      split at hb
      · rename_i t' kk xs ho
        obtain ⟨hc, rfl, rfl⟩ := when_some hb
        simp only [Bool.and_eq_true, Bool.or_eq_true, nbeq_iff, isNil_iff, nblt_iff, nble_iff, fitsB_iff] at hc
        obtain ⟨⟨⟨⟨⟨⟨⟨⟨c1, c2⟩, c3⟩, rfl⟩, rfl⟩, rfl⟩, c7⟩, c8⟩, c9⟩ := hc
        obtain ⟨e1, news, e2, e3, e4, e5⟩ := elems_sound (P := P) h hx he' (hc' c1) c2 c3
        obtain ⟨a, cc, rfl, hcase⟩ := arr_at h hs ho rfl (by omega)
        have hs0 := hs
        rcases hcase with ⟨rfl, _, rfl, rfl⟩ | ⟨b, cap, g1, g2, g3, g4⟩
        · simp at c8
        · have ha : a = some ⟨b, off * kk, none⟩ := by
            rcases g4 with g4 | g4
            · omega
            · exact g4
          subst ha
          have hle : n + ys.length ≤ cc := by omega
          have hrun := run_append' (P := P) (w := w) (base := some ⟨b, off * kk, none⟩) (sLen := n) (sCap := cc) (ty := ty) (olds := #[]) ht hu hi hz1 e1 (news := news) (by rw [hik]; exact e2) (fun hlt => by omega) c9
          rw [if_pos hle] at hrun
          obtain ⟨w', r1, r2, r3⟩ := arr_write (P := P) h ho g1 e3 (by simpa using e4) e5 (i := off + n) (by omega)
          have hadd : Addr.add ⟨b, off * kk, none⟩ (n * i.size) = ⟨b, (off + n) * kk, none⟩ := by rw [add_none, hik, Nat.add_mul]
          simp only [hadd] at hrun
          rw [r1] at hrun
          refine ⟨_, hh.set ho, .slice (some ⟨b, off * kk, none⟩) (n + ys.length) cc, w', γ, F, .inl (run_val hrun), r2, r3, ?_⟩
          simp only [Rep]
          refine ⟨_, cc, rfl, _, g1, by simp [Loc.len], fun b' c' k' e => ?_, by simp⟩
          cases e
          exact ⟨by omega, by omega, .inr rfl⟩
      · cases hb
    · cases hb
  · cases hb

/-- 'append(nil, make(n)...)'. -/
def growB (e : TypeId) (g : Bool) (k bytes : Nat) (z s x : V) (H : HP) : RB := match x with
  | .int .i64 m => match (match s with | .zsl => true | .nilsl => true | _ => false) with
    | true => when (ltI 0 m && okValB g k z && Nat.blt 0 k && fitsB m.toNat bytes) (.arr H.n m.toNat 0 m.toNat) (H.push (.arr e k (List.replicate m.toNat z)))
    | false => none
  | _ => none

theorem grow_out (h : Rel γ F w H) (hh : HAbs hp H) {t u e : TypeId} {ty : TypeId} (ht : P.underlying t = some (.slice e)) {q : IntKind} (hu : P.underlying u = some (.int q)) {g : Bool} {k : Nat} (hl : lay P e = some (g, k)) {i : TypeInfo} (hi : P.info? e = some i) {z : V} (hz : zeroOf P e = some z)
    {s x : V} {sv xv : Value} (hs : Rep γ F s sv) (hx : Rep γ F x xv) (hb : growB e g k i.bytes z s x hp = some (v, hp')) : OutB P γ F w (do pure (.value (← Builtin.append_ #[t, u] ty #[sv, xv]))) v hp' := by
  obtain ⟨zv, hz1, hz2⟩ := zeroOf_info hz hi
  have hik := lay_info hl hi
  have hzr : Rep γ F z zv := by rw [hz2]; exact ofConst_rep zv
  unfold growB at hb
  split at hb
  · rename_i m
    split at hb
    · rename_i hsn
      have hsv : ∃ a, sv = .slice a 0 0 := by
        cases s
        case nilsl => simpa only [Rep] using hs
        case zsl => simp only [Rep] at hs; exact ⟨none, hs⟩
        all_goals cases hsn
      obtain ⟨a, rfl⟩ := hsv
      simp only [Rep] at hx
      subst hx
      obtain ⟨hc, rfl, rfl⟩ := when_some hb
      simp only [Bool.and_eq_true, ltI_iff, okValB_iff, nblt_iff, fitsB_iff] at hc
      obtain ⟨⟨⟨c1, c2⟩, c3⟩, c4⟩ := hc
      obtain ⟨n, rfl⟩ := Int.eq_ofNat_of_zero_le (Int.le_of_lt c1)
      simp only [Int.toNat_natCast] at *
      have hn0 : 0 < n := by omega
      have hg : g = false → k = 1 := fun hg => by subst hg; exact lay_one hl
      have hsize := size_zero hzr c2 hg
      have h1 := nextslicecap_le (need := n) (cap := 0) hn0
      have h2 := Nat.mul_le_mul_right i.bytes h1
      have h48 : ¬ (281474976710656 < Builtin.nextslicecap n 0 * i.bytes) := by have := c4.1; omega
      have h48b : ¬ ((281474976710656 : Int) < (n : Int) * (i.bytes : Int)) := by
        have h3 : n * i.bytes ≤ (2 * n + 1000) * i.bytes := Nat.mul_le_mul_right _ (by omega)
        have := c4.1
        have : n * i.bytes ≤ 281474976710656 := by omega
        intro hlt
        have h5 : ((n * i.bytes : Nat) : Int) ≤ 281474976710656 := by omega
        rw [Int.natCast_mul] at h5
        exact absurd hlt (Int.not_lt.2 h5)
      have hwrap : IntKind.i64.wrap (n : Int) = n := by
        have := c4.2
        have h62 : (n : Int) < 4611686018427387904 := by
          have h : n < 4611686018427387904 := c4.2
          omega
        exact wrap_i64 (Int.le_trans (by decide) (Int.le_of_lt c1)) (Int.lt_trans h62 (by decide))
      have h63 : ¬ (9223372036854775807 < (n : Int)) := by have := c4.2; omega
      have hrun : (Builtin.append_ #[t, u] ty #[.slice a 0 0, .int .i64 n]).run P w = .ok (.slice (some ⟨w.heap.size, 0, none⟩) n (grownCap w n 0 e)) (w.drew.alloc (.cells (#[] ++ Builtin.zeroCells zv.cells n ++ Builtin.zeroCells zv.cells (grownCap w n 0 e - n)) e)) := by
        have hfc : (Builtin.firstCells i.size 0 (.slice a 0 0)).run P w.drew = .ok #[] w.drew := by cases a <;> simp [Builtin.firstCells, loadCells, loadCellsFrom]
        have hnk : ¬ (n * i.size = 0) := by rw [hik]; have := Nat.mul_pos hn0 c3; omega
        simp [Builtin.append_, run_underlying ht, run_underlying hu, sizeOf, typeInfo, zeroValue, hi, hz1, asInt, asIntOf, hwrap, h48, h48b, h63, Question.forced, newRow, grownCap, hfc, hnk, show ¬ (n : Int) < 0 by omega, show ¬ n = 0 by omega]
      have hes := made_es (γ := γ) (F := F) hzr c2 hg c3 (n := n) (cap := n) (Nat.le_refl _)
      have hcs : (madeCells zv.cells (n * k)).size = n * k := size_madeCells _ _
      have hzc : Builtin.zeroCells zv.cells n = madeCells zv.cells (n * k) := by
        unfold Builtin.zeroCells madeCells
        rw [hsize]
      have hgc := grown_cells (γ := γ) (F := F) (k := k) (xs := []) (olds := #[]) (ys := List.replicate n z) (news := madeCells zv.cells (n * k)) (by simp [RepEs]) (by simp) hes (by simpa using hcs) hsize (cap := grownCap w n 0 e) (by simpa using grownCap_ge w n 0 e)
      simp only [List.nil_append, List.length_nil, Nat.zero_add, List.length_replicate] at hgc
      rw [hzc] at hrun
      obtain ⟨r1, r2, r3⟩ := new_arr (e := e) (xs := List.replicate n z) h hgc.1 hgc.2 (by simpa using grownCap_ge w n 0 e) (fz := (0, 0)) (fun i _ => by simp) (w' := w.drew.alloc (.cells (#[] ++ madeCells zv.cells (n * k) ++ Builtin.zeroCells zv.cells (grownCap w n 0 e - n)) e)) rfl rfl rfl rfl
      simp only [List.length_replicate] at r1 r2 r3
      refine ⟨_, hh.push _, .slice (some ⟨w.heap.size, 0, none⟩) n (grownCap w n 0 e), _, _, _, .inl (run_val hrun), r2, r1, ?_⟩
      rw [hh.n]; exact r3
    · cases hb
  · cases hb

/-- Room: of nil there is none. -/
def capB (x : V) (H : HP) : RB := match x with
  | .zsl => some (.int .i64 0, H)
  | .nilsl => some (.int .i64 0, H)
  | _ => none

theorem cap_out (h : Rel γ F w H) (hh : HAbs hp H) {t e : TypeId} {ty : TypeId} (ht : P.underlying t = some (.slice e)) {x : V} {xv : Value} (hx : Rep γ F x xv) (hb : capB x hp = some (v, hp')) : OutB P γ F w (do pure (.value (← Builtin.cap_ #[t] ty #[xv]))) v hp' := by
  have key : (∃ a, xv = .slice a 0 0) → OutB P γ F w (do pure (.value (← Builtin.cap_ #[t] ty #[xv]))) (.int .i64 0) hp := by
    rintro ⟨a, rfl⟩
    exact ⟨H, hh, Out.value h (u := goInt 0) (by simp [Builtin.cap_, run_underlying ht]) (by simp [Rep, goInt])⟩
  unfold capB at hb
  split at hb
  · cases hb; simp only [Rep] at hx; exact key ⟨_, hx⟩
  · cases hb; simp only [Rep] at hx; exact key hx
  · cases hb

/-! Methods. -/

/-- Which function a method is, by the dynamic type, and of how many cells the receiver is that the pointer leads to (none: the receiver is the value). -/
def methodRow (P : Program) (name : String) (t : TypeId) : Option (FuncId × Option (Bool × Nat)) := match P.info? t, P.underlying t with
  | some i, some (.pointer e) => match i.methods.find? (·.name == name) with
    | some m => match m.path.isEmpty, m.func with
      | true, some (f, true) => some (f, none)
      | true, some (f, false) => (lay P e).map fun gk => (f, some gk)
      | _, _ => none
    | none => none
  | _, _ => none

def methodTab (P : Program) (name : String) : List (TypeId × FuncId × Option (Bool × Nat)) := (List.range P.types.size).filterMap fun t => (methodRow P name t).map fun r => (t, r)

theorem methodTab_spec {name : String} {t : TypeId} {r : FuncId × Option (Bool × Nat)} (h : (methodTab P name).lookup t = some r) : methodRow P name t = some r := by
  have h1 : (t, r) ∈ methodTab P name := by
    generalize methodTab P name = l at h
    induction l with
    | nil => simp at h
    | cons q l ih =>
      obtain ⟨x, y⟩ := q
      rw [List.lookup_cons] at h
      cases he : t == x with
      | true => rw [he] at h; simp only [Option.some.injEq] at h; rw [eq_of_beq he, h]; simp
      | false => rw [he] at h; exact List.mem_cons_of_mem _ (ih h)
  unfold methodTab at h1
  obtain ⟨t', _, h2⟩ := List.mem_filterMap.1 h1
  cases hr : methodRow P name t' with
  | none => rw [hr] at h2; cases h2
  | some q => rw [hr] at h2; cases h2; exact hr

/-- The function that is called, and its arguments. -/
def invArgs (tab : List (TypeId × FuncId × Option (Bool × Nat))) (x : V) (args : List V) (H : HP) : Option (FuncId × List V) := match x with
  | .iface t y => match tab.lookup t with
    | some (f, none) => some (f, y :: args)
    | some (f, some (g, k)) => match loadB g k y H with
      | some (u, _) => some (f, u :: args)
      | none => none
    | none => none
  | _ => none

theorem inv_run (h : Rel γ F w H) (hh : HAbs hp H) {name : String} {x : V} {xv : Value} {args : List V} {avs : List Value} {f : FuncId} {vs : List V} (hx : Rep γ F x xv) (ha : RepL γ F args avs)
    (hb : invArgs (methodTab P name) x args hp = some (f, vs)) : ∃ us, RepL γ F vs us ∧ (callMethod xv name avs.toArray).run P w = (callFunc f us.toArray).run P w := by
  unfold invArgs at hb
  split at hb
  · rename_i t y
    simp only [Rep] at hx
    obtain ⟨yv, rfl, hy⟩ := hx
    have cm : ∀ (f : FuncId) (rv : Value), (method (P.types.size + Made.depth) t yv name).run P w = .ok (f, rv) w → (callMethod (.iface t yv) name avs.toArray).run P w = (callFunc f (rv :: avs).toArray).run P w := by
      intro f rv hm
      simp only [callMethod, Sem.run_bind, run_program, Result.andThen_ok, hm]
      congr 2
      simp
    have row : ∀ r, (methodTab P name).lookup t = some r → ∃ i e m, P.info? t = some i ∧ P.underlying t = some (.pointer e) ∧ i.methods.find? (·.name == name) = some m ∧ m.path.isEmpty = true ∧ ((m.func = some (r.1, true) ∧ r.2 = none) ∨ (m.func = some (r.1, false) ∧ lay P e = r.2 ∧ r.2.isSome = true)) := by
      intro r hr
      have h1 := methodTab_spec hr
      unfold methodRow at h1
      split at h1
      · rename_i i e hi hu
        split at h1
        · rename_i m hm
          split at h1
          · rename_i hp hf; cases h1; exact ⟨i, e, m, hi, hu, hm, hp, .inl ⟨hf, rfl⟩⟩
          · rename_i f' hp hf
            cases hl : lay P e with
            | none => rw [hl] at h1; cases h1
            | some gk => rw [hl] at h1; cases h1; exact ⟨i, e, m, hi, hu, hm, hp, .inr ⟨hf, hl, rfl⟩⟩
          · cases h1
        · cases h1
      · cases h1
    have hfuel : ∃ n, P.types.size + Made.depth = n + 1 := ⟨P.types.size + Made.depth - 1, by have : 0 < Made.depth := (by decide); omega⟩
    obtain ⟨n, hn⟩ := hfuel
    split at hb
    · rename_i f' hr
      cases hb
      obtain ⟨i, e, m, hi, hu, hm, hp0, ⟨hf, _⟩ | ⟨_, _, h3⟩⟩ := row _ hr
      · refine ⟨yv :: avs, by simp only [RepL]; exact ⟨yv, avs, rfl, hy, ha⟩, cm _ _ ?_⟩
        rw [hn]
        have hpl : m.path.toList = [] := by simpa using hp0
        simp [method, typeInfo, hi, hm, hpl, follow, hf, receiverAt, run_underlying hu, Place.get]
      · cases h3
    · rename_i f' g k hr
      split at hb
      · rename_i u hq hld
        cases hb
        obtain ⟨i, e, m, hi, hu, hm, hp0, ⟨_, h3⟩ | ⟨hf, hl, _⟩⟩ := row _ hr
        · cases h3
        · simp only at hl hf
          obtain ⟨l1, l2, l3⟩ := load_rb hh g k y _ _ hld
          obtain ⟨uv, r1, r2, r3⟩ := load_sound (P := P) h hl hy l1
          rw [l2] at r2
          have hp : ∃ ad, yv = .pointer (some ad) := by
            simp only [loadR] at l1
            split at l1
            · simp only [Rep] at hy; obtain ⟨c, _, hh⟩ := hy; exact ⟨_, hh⟩
            · simp only [Rep] at hy; obtain ⟨c, off, vs, t', fz, hh, _⟩ := hy; exact ⟨_, hh⟩
            · simp only [Rep] at hy; obtain ⟨c, p, hh, _⟩ := hy; exact ⟨_, hh⟩
            · exact l1.elim
          obtain ⟨ad, rfl⟩ := hp
          refine ⟨uv :: avs, by simp only [RepL]; exact ⟨uv, avs, rfl, r2, ha⟩, cm _ _ ?_⟩
          rw [hn]
          have hpl : m.path.toList = [] := by simpa using hp0
          have hld : (loadVar e ad).run P w = .ok uv w := by simpa [Instr.loadAt, Instr.sureAddr] using r1
          have hwr : ∀ (a b : String), (Builtin.ssaWrapNilChk_ #[t] t #[.pointer (some ad), strVal a, strVal b]).run P w = .ok (.pointer (some ad)) w := fun a b => rfl
          have hpe : m.path = #[] := by simpa using hp0
          simp [method, typeInfo, hi, hm, hpl, hpe, follow, hf, receiverAt, run_underlying hu, Place.get, asAddr, hld, hwr]
      · cases hb
    · cases hb
  · cases hb
end
end Go.Ab
namespace Go.Ab
variable [Env]

/-- Are two pointers to variables one? -/
def ptrKeyB (k q : V) (H : HP) : Option Bool := match k, q with
  | .ptr r o, .ptr r' o' => match H.get r, H.get r' with
    | some (.cells _ _), some (.cells _ _) => some (Nat.beq r r' && Nat.beq o o')
    | _, _ => none
  | _, _ => none

def findPB (k : V) (H : HP) : List (V × V) → Option (Option V)
  | [] => some none
  | (q, x) :: es => match ptrKeyB k q H with
    | some true => some (some x)
    | some false => findPB k H es
    | none => none

def lookupPB (z m k : V) (ok : Bool) (H : HP) : RB := match m with
  | .mp r => match H.get r with
    | some (.mp es) => match findPB k H es with
      | some f => some (match ok with
        | true => .tup [f.getD z, .bool f.isSome]
        | false => f.getD z, H)
      | none => none
    | _ => none
  | _ => none

def insertPB (m k x : V) (H : HP) : RB := match m with
  | .mp r => match H.get r with
    | some (.mp es) => match findPB k H es with
      | some none => some (.tup [], H.set r (.mp (es ++ [(k, x)])))
      | _ => none
    | _ => none
  | _ => none

section
variable {P : Program} {γ γ' : List Loc} {F F' : Frz} {w w' : World} {H H' : Heap} {hp hp' : HP} {v : V}

theorem ptrKey_equal (h : Rel γ F w H) (hh : HAbs hp H) {kt el : TypeId} (hu : P.underlying kt = some (.pointer el)) {g : Bool} {n : Nat} (hl : lay P el = some (g, n + 1)) {k q : V} {kv qv : Value} (hk : Rep γ F k kv) (hq : Rep γ F q qv) {b : Bool}
    (hb : ptrKeyB k q hp = some b) : (Op.equal kt kv qv).run P w = .ok b w ∧ (∃ a, kv = .pointer a) := by
  unfold ptrKeyB at hb
  split at hb
  · rename_i r o r' o'
    rw [hh.get, hh.get] at hb
    split at hb
    · rename_i t cs t' cs' e1 e2
      simp only [Option.some.injEq] at hb
      simp only [Rep] at hk hq
      obtain ⟨c, h1, rfl⟩ := hk
      obtain ⟨c', h2, rfl⟩ := hq
      have r1 := h.obj r _ _ h1 e1
      have r2 := h.obj r' _ _ h2 e2
      simp only [RelO] at r1 r2
      obtain ⟨vs, fz, g1, _, rfl⟩ := r1
      obtain ⟨vs', fz', g2, _, rfl⟩ := r2
      refine ⟨?_, _, rfl⟩
      refine run_equal_of fun d => ?_
      have hsz := run_sizeOf' (P := P) hl w
      simp only [Op.equalIn, Sem.run_bind, run_underlying hu, Result.andThen_ok, hsz]
      simp only [ne_eq, Nat.add_one_ne_zero, not_false_eq_true, if_true]
      have hsame : (sameAddr ⟨c, o, none⟩ ⟨c', o', none⟩).run P w = .ok b w := by
        by_cases e : r = r'
        · subst e
          rw [h1] at h2
          cases h2
          simp only [sameAddr, beq_self_eq_true, if_true, Sem.run_pure]
          congr 1
          rw [← hb]
          simp only [nbeq_iff.2 rfl, Bool.true_and]
          rw [Bool.eq_iff_iff]
          simp
        · have hne : c ≠ c' := fun hcc => e (h.inj r r' _ _ c h1 h2 rfl (by rw [hcc]; rfl))
          have hbf : b = false := by
            rw [← hb]
            have : Nat.beq r r' = false := nbeq_false.2 e
            rw [this]; rfl
          rw [hbf]
          exact run_sameAddr_other w (fun hcc => hne (by cases hcc; rfl)) g1 g2
      simp only [hsame, Result.andThen_ok, Sem.run_pure]
    · cases hb
  · cases hb

theorem findP_asking (h : Rel γ F w H) (hh : HAbs hp H) {kt el : TypeId} (hu : P.underlying kt = some (.pointer el)) {g : Bool} {n : Nat} (hl : lay P el = some (g, n + 1)) {k : V} {kv : Value} (hk : Rep γ F k kv) :
    ∀ (es : List (V × V)) (ms : List MapEntry) (i : Nat) (f : Option V), RepM γ F es ms → findPB k hp es = some f →
      ∃ res, (Instr.findAsking kt kv ms i).run P w = .ok res w ∧ (f = none → res = none) ∧ ∀ x, f = some x → ∃ j u, res = some (j, u) ∧ Rep γ F x u
  | [], ms, i, f, hm, hf => by
    simp only [RepM] at hm
    subst hm
    cases hf
    exact ⟨none, by simp [Instr.findAsking], fun _ => rfl, fun x hx => by cases hx⟩
  | (q, x) :: es, ms, i, f, hm, hf => by
    obtain ⟨e, rest, rfl, h1, h2, h3⟩ := hm
    simp only [findPB] at hf
    split at hf
    · rename_i hb
      have heq := (ptrKey_equal (P := P) h hh hu hl hk h1 hb).1
      cases hf
      have r1 : (Instr.findAsking kt kv (e :: rest) i).run P w = .ok (some (i, e.val)) w := by simp [Instr.findAsking, heq]
      refine ⟨_, r1, fun hx => (by cases hx), fun y hy => ?_⟩
      cases hy
      exact ⟨_, _, rfl, h2⟩
    · rename_i hb
      have heq := (ptrKey_equal (P := P) h hh hu hl hk h1 hb).1
      obtain ⟨res, r1, r2, r3⟩ := findP_asking h hh hu hl hk es rest (i + 1) f h3 hf
      exact ⟨res, by simp [Instr.findAsking, heq, r1], r2, r3⟩
    · cases hf

theorem findP_run (h : Rel γ F w H) (hh : HAbs hp H) {kt el : TypeId} (hu : P.underlying kt = some (.pointer el)) {g : Bool} {n : Nat} (hl : lay P el = some (g, n + 1)) {k : V} {kv : Value} (hk : Rep γ F k kv) 
    {es : List (V × V)} {ms : List MapEntry} {f : Option V} (hm : RepM γ F es ms) (hf : findPB k hp es = some f) :
      ∃ res, (Instr.findKey kt kv ms).run P w = .ok res w ∧ (f = none → res = none) ∧ ∀ x, f = some x → ∃ j u, res = some (j, u) ∧ Rep γ F x u := by
  cases es with
  | nil =>
    simp only [RepM] at hm
    subst hm
    cases hf
    exact ⟨none, by simp [Instr.findKey, run_underlying hu, Instr.findNow], fun _ => rfl, fun x hx => by cases hx⟩
  | cons p es =>
    obtain ⟨q, x⟩ := p
    obtain ⟨res, r1, r2, r3⟩ := findP_asking (P := P) h hh hu hl hk _ ms 0 f hm hf
    refine ⟨res, ?_, r2, r3⟩
    obtain ⟨e, rest, rfl, _⟩ := hm
    have : Instr.findNow (.pointer el) kv (e :: rest) 0 = none := by
      simp only [Instr.findNow]
      cases kv <;> cases e <;> rename_i key _ _ <;> cases key <;> rfl
    simp only [Instr.findKey, Sem.run_bind, run_underlying hu, Result.andThen_ok, this]
    exact r1

theorem checkKeyP {kt el : TypeId} (hu : P.underlying kt = some (.pointer el)) (em : Bool) (n : Nat) (v : Value) : (Instr.checkKey em (n + 1) kt v).run P w = .ok () w := by
  simp only [Instr.checkKey, Sem.run_bind, run_underlying hu, Result.andThen_ok]
  simp

theorem lookupP_out (h : Rel γ F w H) (hh : HAbs hp H) {t kt e el : TypeId} (ht : mapOf P t = some (kt, e)) (hku : P.underlying kt = some (.pointer el)) {g : Bool} {n : Nat} (hl : lay P el = some (g, n + 1)) {z : V} (hz : zeroOf P e = some z) {m k : V} {mv kv : Value} {ok : Bool} (hm : Rep γ F m mv) (hk : Rep γ F k kv)
    (hb : lookupPB z m k ok hp = some (v, hp')) : OutB P γ F w (do pure (.value (← Instr.lookup t mv kv ok))) v hp' := by
  have hu := mapOf_spec ht
  obtain ⟨zv, hz1, hz2⟩ := zeroOf_spec hz
  unfold lookupPB at hb
  split at hb
  · rename_i r
    rw [hh.get] at hb
    split at hb
    · rename_i es ho
      split at hb
      · rename_i f hf
        simp only [Option.some.injEq, Prod.mk.injEq] at hb
        obtain ⟨rfl, rfl⟩ := hb
        simp only [Rep] at hm
        obtain ⟨b, h1, rfl⟩ := hm
        have hr := h.obj r _ _ h1 ho
        simp only [RelO] at hr
        obtain ⟨ms, clock, h2, h3, h4⟩ := hr
        have hg : (getObj b).run P w = .ok (.map ms clock) w := by simp [getObj, Sem.run, h2]
        have hc := checkKeyP (P := P) (w := w) hku ms.isEmpty 9999 kv
        obtain ⟨res, r1, r2, r3⟩ := findP_run (P := P) h hh hku hl hk h3 hf
        cases f with
        | none =>
          have hres := r2 rfl
          subst hres
          refine ⟨H, hh, Out.value h ?_ (lookVal_rep (x := z) (b := false) (hz2 γ F))⟩
          simp only [Instr.lookup, Sem.run_bind, run_underlying hu, Result.andThen_ok, Sem.run_pure, hg, hc, r1, hz1]
        | some x =>
          obtain ⟨j, u, rfl, hx⟩ := r3 x rfl
          refine ⟨H, hh, Out.value h ?_ (lookVal_rep (x := x) (b := true) hx)⟩
          simp only [Instr.lookup, Sem.run_bind, run_underlying hu, Result.andThen_ok, Sem.run_pure, hg, hc, r1]
      · cases hb
    · cases hb
  · cases hb

theorem RepM.snoc {k x : V} {kv xv : Value} (hk : Rep γ F k kv) (hx : Rep γ F x xv) {born : Nat} : ∀ {es : List (V × V)} {ms : List MapEntry}, RepM γ F es ms → RepM γ F (es ++ [(k, x)]) (ms ++ [⟨kv, xv, born⟩])
  | [], ms, h => by
    simp only [RepM] at h
    subst h
    exact ⟨_, [], rfl, hk, hx, rfl⟩
  | (q, y) :: es, ms, h => by
    obtain ⟨e, rest, rfl, h1, h2, h3⟩ := h
    exact ⟨e, _, rfl, h1, h2, RepM.snoc hk hx h3⟩

theorem insertP_out (h : Rel γ F w H) (hh : HAbs hp H) {t kt e el : TypeId} (ht : mapOf P t = some (kt, e)) (hku : P.underlying kt = some (.pointer el)) {g : Bool} {n : Nat} (hl : lay P el = some (g, n + 1)) {m k x : V} {mv kv xv : Value} (hm : Rep γ F m mv) (hk : Rep γ F k kv) (hx : Rep γ F x xv)
    (hb : insertPB m k x hp = some (v, hp')) : OutB P γ F w (do Instr.mapUpdate t mv kv xv; pure .skip) v hp' := by
  have hu := mapOf_spec ht
  unfold insertPB at hb
  split at hb
  · rename_i r
    rw [hh.get] at hb
    split at hb
    · rename_i es ho
      split at hb
      · rename_i hf
        simp only [Option.some.injEq, Prod.mk.injEq] at hb
        obtain ⟨rfl, rfl⟩ := hb
        simp only [Rep] at hm
        obtain ⟨b, h1, rfl⟩ := hm
        have hr := h.obj r _ _ h1 ho
        simp only [RelO] at hr
        obtain ⟨ms, clock, h2, h3, h4⟩ := hr
        have hg : (getObj b).run P w = .ok (.map ms clock) w := by simp [getObj, Sem.run, h2]
        have hc := checkKeyP (P := P) (w := w) hku false 9999 kv
        obtain ⟨res, r1, r2, r3⟩ := findP_run (P := P) h hh hku hl hk h3 hf
        have hres := r2 rfl
        subst hres
        have hown := h.own r _ b h1 rfl
        have hset : γ.set r (.mp b) = γ := set_getElem?_of h1
        have hsz : ({ w with heap := w.heap.setIfInBounds b (.map (ms.push ⟨kv, xv, clock⟩) (clock + 1)) } : World).heap.size = w.heap.size := by simp
        have hsame : ∀ c, c < w.heap.size → (Loc.mp b).block ≠ some c → ({ w with heap := w.heap.setIfInBounds b (.map (ms.push ⟨kv, xv, clock⟩) (clock + 1)) } : World).heap[c]? = w.heap[c]? := by
          intro c _ hcb
          have : b ≠ c := fun e => hcb (by rw [e]; rfl)
          simp [Array.getElem?_setIfInBounds, this]
        have hblk : ∀ c, (Loc.mp b).block = some c → ((Loc.mp b).block = some c ∨ w.heap.size ≤ c) ∧ c < ({ w with heap := w.heap.setIfInBounds b (.map (ms.push ⟨kv, xv, clock⟩) (clock + 1)) } : World).heap.size := fun c hcb => ⟨.inl hcb, by cases hcb; rw [hsz]; exact hown.2⟩
        have n1 := Nx.upd h h1 (l' := .mp b) (LocLe.refl _) (by rw [hsz]; exact Nat.le_refl _) hsame hblk rfl rfl rfl
        have n2 := Rel.upd h h1 (l' := .mp b) (o' := .mp (es ++ [(k, x)])) (LocLe.refl _) (by rw [hsz]; exact Nat.le_refl _) hsame hblk (by
          rw [hset]
          exact ⟨ms.push ⟨kv, xv, clock⟩, clock + 1, by simp [Array.getElem?_setIfInBounds, hown.2], by simpa using RepM.snoc hk hx h3, by simpa using borns_push h4 kv xv⟩)
        rw [hset] at n1 n2
        refine ⟨_, hh.set ho, undef, _, γ, F, .inr ⟨?_, rfl⟩, n1, n2, rep_undef⟩
        have hsetrun : (setObj b (.map (ms.push ⟨kv, xv, clock⟩) (clock + 1))).run P w = .ok () { w with heap := w.heap.setIfInBounds b (.map (ms.push ⟨kv, xv, clock⟩) (clock + 1)) } := by
          simp [setObj, Sem.run, h2]
        simp only [Instr.mapUpdate, Sem.run_bind, run_underlying hu, Result.andThen_ok, hg, hc, r1, hsetrun, Sem.run_pure]
      · cases hb
    · cases hb
  · cases hb
end
end Go.Ab
namespace Go.Ab

/-- One, or else another one. -/
def oOr (f g : Exec) : Exec := fun e H => match f e H with
  | some r => some r
  | none => g e H
def oEp (op : BinOp) (x y : X) : Exec := fun e H => eqPtrB op (x.ev e) (y.ev e) H
def oEs (op : BinOp) (x y : X) : Exec := fun e H => eqSlB op (x.ev e) (y.ev e) H
def oEf (ks : List (TypeId × IntKind)) (op : BinOp) (x y : X) : Exec := fun e H => eqFaB ks op (x.ev e) (y.ev e) H
def oUo (x : X) : Exec := fun e H => unsafeOfB (x.ev e) H
def oUt (u k : Nat) (x : X) : Exec := fun e H => unsafeToB u k (x.ev e) H
def oTa (t : TypeId) (z : V) (ok : Bool) (x : X) : Exec := fun e H => assertB t z ok (x.ev e) H
def oCp (k : Nat) (d s : X) : Exec := fun e H => copyB k (d.ev e) (s.ev e) H
def oCl (g : Bool) (k : Nat) (z : V) (x : X) : Exec := fun e H => clearB k z (x.ev e) g H
def oDe (d : List TypeDesc × Bool) (m k : X) : Exec := fun e H => deleteB d (m.ev e) (k.ev e) H
def oCa (x : X) : Exec := fun e H => capB (x.ev e) H
def oSd (x : X) : Exec := fun e H => sliceDataB (x.ev e) H
def oUs (t : TypeId) (x n : X) : Exec := fun e H => unsafeStringB t (x.ev e) (n.ev e) H
def oAi (t : TypeId) (k b : Nat) (s x : X) : Exec := fun e H => appInB t k b (s.ev e) (x.ev e) H
def oGr (t : TypeId) (g : Bool) (k b : Nat) (z : V) (s x : X) : Exec := fun e H => growB t g k b z (s.ev e) (x.ev e) H

def oLp (z : V) (m k : X) (ok : Bool) : Exec := fun e H => lookupPB z (m.ev e) (k.ev e) ok H
def oUp (m k x : X) : Exec := fun e H => insertPB (m.ev e) (k.ev e) (x.ev e) H

mutual
/-- Are two values one? -/
def beqV : V → V → Bool
  | .bool a, .bool b => a == b
  | .int k a, .int k' b => decide (k = k') && a == b
  | .str a, .str b => a == b
  | .nilptr, .nilptr => true
  | .ptr r o, .ptr r' o' => Nat.beq r r' && Nat.beq o o'
  | .eptr r l i o, .eptr r' l' i' o' => Nat.beq r r' && Nat.beq l l' && Nat.beq i i' && Nat.beq o o'
  | .nilsl, .nilsl => true
  | .zsl, .zsl => true
  | .cptr a, .cptr b => beqL a b
  | .sl k xs, .sl k' ys => Nat.beq k k' && beqL xs ys
  | .arr r l o n, .arr r' l' o' n' => Nat.beq r r' && Nat.beq l l' && Nat.beq o o' && Nat.beq n n'
  | .nilmap, .nilmap => true
  | .mp r, .mp r' => Nat.beq r r'
  | .yld r, .yld r' => Nat.beq r r'
  | .fn f a c, .fn f' a' c' => Nat.beq f f' && beqL a a' && beqL c c'
  | .nilfn, .nilfn => true
  | .iface t x, .iface t' y => Nat.beq t t' && beqV x y
  | .niliface, .niliface => true
  | .agg a, .agg b => beqL a b
  | .tup a, .tup b => beqL a b
  | .opq, .opq => true
  | .junk, .junk => true
  | _, _ => false
def beqL : List V → List V → Bool
  | [], [] => true
  | x :: xs, y :: ys => beqV x y && beqL xs ys
  | _, _ => false
end

section
variable [Env]
mutual
theorem beqV_eq : ∀ (x y : V), beqV x y = true → x = y := by
  intro x y h
  cases x <;> cases y <;> simp only [beqV, Bool.and_eq_true, nbeq_iff, beq_iff_eq, decide_eq_true_eq, reduceCtorEq, Bool.false_eq_true] at h
  all_goals first
    | rfl
    | (subst h; rfl)
    | (rw [beqL_eq _ _ h])
    | (rw [h.1, beqL_eq _ _ h.2])
    | (rw [h.1, beqV_eq _ _ h.2])
    | (rw [h.1.1, beqL_eq _ _ h.1.2, beqL_eq _ _ h.2])
    | (obtain ⟨rfl, rfl⟩ := h; rfl)
    | (obtain ⟨⟨⟨rfl, rfl⟩, rfl⟩, rfl⟩ := h; rfl)
theorem beqL_eq : ∀ (x y : List V), beqL x y = true → x = y
  | [], [], _ => rfl
  | x :: xs, y :: ys, h => by
    simp only [beqL, Bool.and_eq_true] at h
    rw [beqV_eq x y h.1, beqL_eq xs ys h.2]
  | [], _ :: _, h => by simp [beqL] at h
  | _ :: _, [], h => by simp [beqL] at h
end
end

inductive Ek where
  | op (f : Exec)
  | call (f : FuncId) (args : List X)
  | callV (f : X) (args : List X)
  | inv (tab : List (TypeId × FuncId × Option (Bool × Nat))) (x : X) (args : List X)

structure CO where
  dst : Option Nat
  guard : Option (Nat × Bool)
  ex : Ek

/-- An operation of a region that draws its order: its number and kind. -/
structure DO where
  i : Nat
  k : Nat
  o : CO

inductive CC where
  | skip
  | reg (ops : List CO)
  | drw (m : List Nat) (ops : List DO)
  | seq (a b : CC)
  | cond (c : X) (a b : CC)
  | block (id : Nat) (c : CC)
  | loop (c : CC)
  | range (n : Nat) (f : X) (key : Nat)
  | exit (id : Nat)
  | ret
  | bad

inductive RV where
  | t (n : Nat)
  | cell (a : Nat) (g : Bool) (k : Nat)

inductive FE where
  | code (n : Nat) (body : CC) (res : List RV)
  | ext (k : Nat)
  | spec (f : List V → HP → RB)

/-- What may be asked: a function, or a loop's round. -/
inductive Task where
  | f (f : FuncId)
  | g (f : FuncId)
  | y (r : Nat)

abbrev Call := Task → List V → HP → RB

def exOne (call : Call) (e : ET) (H : HP) : Ek → RB
  | .op f => f e H
  | .call f args => call (.f f) (args.map (X.ev e)) H
  | .callV f args => match f.ev e with
    | .fn g a c => call (.f g) (a ++ args.map (X.ev e) ++ c) H
    | .yld r => call (.y r) (args.map (X.ev e)) H
    | _ => none
  | .inv tab x args => match invArgs tab (x.ev e) (args.map (X.ev e)) H with
    | some (f, vs) => call (.f f) vs H
    | none => none

/-- A guard, by the temporary that it looks at. -/
def gdOf (e : ET) : Option (Nat × Bool) → Option Bool
  | none => some true
  | some (d, w) => match e.get d with
    | .bool b => some (match w with | true => b | false => !b)
    | .tup [] => match e.has d with
      | true => some false
      | false => none
    | _ => none

def runOps (call : Call) : List CO → ET → HP → Option (ET × HP)
  | [], e, H => some (e, H)
  | o :: os, e, H => match gdOf e o.guard with
    | some true => match exOne call e H o.ex with
      | some (v, H') => runOps call os (putE e o.dst v) H'
      | none => none
    | some false => runOps call os (putE e o.dst (.tup [])) H
    | none => none

structure PdB where
  i : Nat
  f : Exec
  e : ET
  v : V

def sameB (f : Exec) (e : ET) (H : HP) (v : V) : Bool := match f e H with
  | some (v', _) => beqV v' v
  | none => false

def histB (m : List Nat) (i : Nat) (f : Exec) (e : ET) (v : V) : List (Nat × HP) → Bool
  | [] => true
  | (j, Hj) :: l => match below m i j with
    | true => true
    | false => sameB f e Hj v && histB m i f e v l

def pendB (H : HP) : List PdB → Bool
  | [] => true
  | q :: l => sameB q.f q.e H q.v && pendB H l

def runD (call : Call) (m : List Nat) : List DO → List (Nat × HP) → List PdB → ET → HP → Option (ET × HP)
  | [], _, _, e, H => some (e, H)
  | o :: os, hist, pend, e, H => match gdOf e o.o.guard with
    | some true => match o.k with
      | 0 => match o.o.ex with
        | .op f => match f e H with
          | some (v, _) => runD call m os hist pend (putE e o.o.dst v) H
          | none => none
        | _ => none
      | 1 => match o.o.ex with
        | .op f => match f e H with
          | some (v, _) => match histB m o.i f e v hist with
            | true => runD call m os hist (⟨o.i, f, e, v⟩ :: pend) (putE e o.o.dst v) H
            | false => none
          | none => none
        | _ => none
      | _ => match exOne call e H o.o.ex with
        | some (v, H') => match pendB H' (pend.filter fun q => !below m o.i q.i) with
          | true => runD call m os ((o.i, H) :: hist) (pend.filter fun q => !below m o.i q.i) (putE e o.o.dst v) H'
          | false => none
        | none => none
    | some false => runD call m os hist pend (putE e o.o.dst (.tup [])) H
    | none => none

/-- How a statement ends. -/
inductive Eo where
  | normal
  | exit (id : Nat)
  | ret

def listE (e : ET) (n : Nat) : List V := (List.range n).map e.get

/-- Calls, but for rounds. -/
def noY (call : Call) : Call := fun t args H => match t with
  | .f f => call (.f f) args H
  | .g _ => none
  | .y _ => none

def runC (call : Call) (rd : Bool) : Nat → CC → ET → HP → Option (Eo × ET × HP)
  | 0, _, _, _ => none
  | n + 1, c, e, H => match c with
    | .skip => some (.normal, e, H)
    | .reg ops => match runOps call ops e H with
      | some (e', H') => some (.normal, e', H')
      | none => none
    | .drw m ops => match runD (noY call) m ops [] [] e H with
      | some (e', H') => some (.normal, e', H')
      | none => none
    | .seq a b => match runC call rd n a e H with
      | some (.normal, e', H') => runC call rd n b e' H'
      | r => r
    | .cond c a b => match c.ev e with
      | .bool true => runC call rd n a e H
      | .bool false => runC call rd n b e H
      | _ => none
    | .block id c => match runC call rd n c e H with
      | some (.exit i, e', H') => match Nat.beq i id with
        | true => some (.normal, e', H')
        | false => some (.exit i, e', H')
      | r => r
    | .loop c => match runC call rd n c e H with
      | some (.normal, e', H') => runC call rd n (.loop c) e' H'
      | r => r
    | .range k f key => match rd with
      | true => none
      | false => match f.ev e with
        | .fn g [] c => match call (.g g) (.yld H.n :: c) (H.push (.loop key (listE e k) .ready none)) with
          | some (_, H2) => match H2.get H.n with
            | some (.loop key' env st pend) => match st with
              | .busy => none
              | _ => match pend with
                | none => some (.normal, e, H2.set H.n (.loop key' env .exhausted pend))
                | some none => some (.ret, e, H2.set H.n (.loop key' env .exhausted pend))
                | some (some id) => some (.exit id, e, H2.set H.n (.loop key' env .exhausted pend))
            | _ => none
          | none => none
        | _ => none
    | .exit id => some (.exit id, e, H)
    | .ret => some (.ret, e, H)
    | .bad => none

def resB (e : ET) (H : HP) : List RV → Option (List V)
  | [] => some []
  | .t n :: rs => match resB e H rs with
    | some vs => some (e.get n :: vs)
    | none => none
  | .cell a g k :: rs => match loadB g k (e.get a) H with
    | some (v, _) => match resB e H rs with
      | some vs => some (v :: vs)
      | none => none
    | none => none

def putEs : List Nat → List V → ET → ET
  | d :: ds, v :: vs, e => putEs ds vs (e.set d v)
  | _, _, e => e

/-- What a program is made of: its functions, its loops over functions (their parameters, what assigns them, their bodies), and what is known of some calls. -/
structure Tab where
  fn : FuncId → Option FE
  lp : Nat → Option (List Nat × CC × CC)

/-- A function's body. -/
def codeB (call : Call) (m : Nat) (body : CC) (res : List RV) (args : List V) (H : HP) : RB := match Nat.ble args.length m with
  | true => match runC call false 4000 body (initE 0 args (ET.mk m m)) H with
    | some (.exit _, _, _) => none
    | some (_, e, H') => match resB e H' res with
      | some [v] => some (v, H')
      | some vs => some (.tup vs, H')
      | none => none
    | none => none
  | false => none

/-- A round's end. -/
def endB (r : Nat) (o : Eo) (H : HP) : RB := match H.get r with
  | some (.loop key env .busy none) => match o with
    | .normal => some (.bool true, H.set r (.loop key env .ready none))
    | .ret => some (.bool false, H.set r (.loop key env .done (some none)))
    | .exit id => some (.bool false, H.set r (.loop key env .done (some (some id))))
  | _ => none

/-- A round. -/
def roundB (call : Call) (T : Tab) (r : Nat) (args : List V) (H : HP) : RB := match H.get r with
  | some (.loop key env .ready none) => match T.lp key with
    | some (ps, ca, cb) => match Nat.beq ps.length args.length with
      | true => match runC call true 4000 ca (putEs ps args (initE 0 env (ET.mk env.length env.length))) H with
        | some (.normal, e1, H1) => match H1.get r with
          | some (.loop key1 env1 .ready none) => match runC call true 4000 cb e1 (H1.set r (.loop key1 env1 .busy none)) with
            | some (o, _, H2) => endB r o H2
            | none => none
          | _ => none
        | _ => none
      | false => none
    | none => none
  | _ => none

def exN (T : Tab) : Nat → Call
  | 0, _, _, _ => none
  | n + 1, .f f, args, H => match T.fn f with
    | some (.ext k) => extB k args H
    | some (.spec g) => g args H
    | some (.code m body res) => codeB (exN T n) m body res args H
    | none => none
  | n + 1, .g f, args, H => match T.fn f with
    | some (.code m body res) => codeB (exN T n) m body res args H
    | _ => none
  | n + 1, .y r, args, H => roundB (exN T n) T r args H

end Go.Ab
namespace Go.Ab
variable [Env]

/-- What an operation is, as a function (but for calls of functions). -/
def compX (P : Program) : Op → Exec
  | .indexAddr t x i => match arrOf P t with
    | some (n, e) => match lay P e with
      | some (_, k) => oIaA n k (xOf x) (xOf i)
      | none => oNo
    | none => compB P (.indexAddr t x i)
  | .binOp op t x y z => match P.underlying t with
    | some (.pointer e) => match lay P e with
      | some (_, _ + 1) => oOr (compB P (.binOp op t x y z)) (oEp op (xOf x) (xOf y))
      | _ => compB P (.binOp op t x y z)
    | some (.slice _) => oEs op (xOf x) (xOf y)
    | some (.interface _) => oOr (compB P (.binOp op t x y z)) (oEf (intTypes P) op (xOf x) (xOf y))
    | _ => compB P (.binOp op t x y z)
  | .convert s d x => match P.underlying s, P.underlying d with
    | some (.pointer e), some .unsafePointer => match lay P e with
      | some (_, _ + 1) => oUo (xOf x)
      | _ => oNo
    | some .unsafePointer, some (.pointer e) => match lay P e with
      | some (_, k + 1) => oUt e (k + 1) (xOf x)
      | _ => oNo
    | _, _ => compB P (.convert s d x)
  | .buildSlice t n ps => match elemOfSlice P t with
    | some e => match lay P e, zeroOf P e with
      | some (g, k), some _ => oBs e g k n (xsOf ps)
      | _, _ => oNo
    | none => oNo
  | .insert t m k x => match mapOf P t with
    | some (kt, _) => match keyKinds P kt with
      | some d => oMu d (xOf m) (xOf k) (xOf x)
      | none => oNo
    | none => oNo
  | .lookup t m k ok => match mapOf P t with
    | some (kt, e) => match P.underlying kt, zeroOf P e with
      | some (.pointer el), some z => match lay P el with
        | some (_, _ + 1) => oLp z (xOf m) (xOf k) ok
        | _ => oNo
      | _, _ => compB P (.lookup t m k ok)
    | none => oNo
  | .mapUpdate t m k x => match mapOf P t with
    | some (kt, _) => match P.underlying kt with
      | some (.pointer el) => match lay P el with
        | some (_, _ + 1) => oUp (xOf m) (xOf k) (xOf x)
        | _ => oNo
      | _ => compB P (.mapUpdate t m k x)
    | none => oNo
  | .typeAssert x xt t ok => match isFace P t, P.underlying t with
    | false, some _ => oTa t .junk ok (xOf x)
    | _, _ => oNo
  | .call c => match c.callee, c.args.toList, c.argTypes.toList with
    | .builtin .copy, [d, s], [t, u] => match elemOfSlice P t with
      | some e => match lay P e with
        | some (_, k) => oCp k (xOf d) (xOf s)
        | none => oNo
      | none => oNo
    | .builtin .clear, [x], [t] => match elemOfSlice P t with
      | some e => match lay P e, zeroOf P e with
        | some (g, k), some z => oCl g k z (xOf x)
        | _, _ => oNo
      | none => oNo
    | .builtin .delete, [m, k], [t, u] => match mapOf P t with
      | some (kt, _) => match keyKinds P kt with
        | some d => oDe d (xOf m) (xOf k)
        | none => oNo
      | none => oNo
    | .builtin .cap, [x], [t] => match elemOfSlice P t with
      | some _ => oCa (xOf x)
      | none => oNo
    | .builtin .unsafeSliceData, [x], _ => oSd (xOf x)
    | .builtin .unsafeString, [x, n], [pt, it] => match P.underlying pt with
      | some (.pointer e) => match lay P e with
        | some (_, 1) => oUs e (xOf x) (xOf n)
        | _ => oNo
      | _ => oNo
    | .builtin .append, [s, x], [t, u] => match elemOfSlice P t with
      | some e => match lay P e, P.info? e, zeroOf P e, P.underlying u with
        | some (g, k), some i, some z, some (.int _) => oGr e g k i.bytes z (xOf s) (xOf x)
        | some (g, k), some i, some z, some (.slice _) => oOr (compB P (.call c)) (oAi e k i.bytes (xOf s) (xOf x))
        | some (g, k), some i, some z, some .string => oOr (compB P (.call c)) (oAi e k i.bytes (xOf s) (xOf x))
        | _, _, _, _ => oNo
      | none => oNo
    | _, _, _ => compB P (.call c)
  | op => compB P op

section
variable {P : Program} {γ γ' : List Loc} {F F' : Frz} {w w' : World} {H H' : Heap} {env : List V} {e : ET} {hp hp' : HP} {v : V} {a : Act}

/-- A function does what an operation does. -/
def Sound (P : Program) (γ : List Loc) (F : Frz) (w : World) (e : ET) (hp : HP) (s : Sem _root_.Go.Next) (f : Exec) : Prop := ∀ v hp', f e hp = some (v, hp') → OutB P γ F w s v hp'

theorem sound_no {s : Sem _root_.Go.Next} : Sound P γ F w e hp s oNo := fun v hp' h => by cases h
theorem sound_or {s : Sem _root_.Go.Next} {f g : Exec} (hf : Sound P γ F w e hp s f) (hg : Sound P γ F w e hp s g) : Sound P γ F w e hp s (oOr f g) := by
  intro v hp' h
  unfold oOr at h
  split at h
  · rename_i r hr; cases h; exact hf _ _ hr
  · exact hg _ _ h

theorem compB_sound (h : Rel γ F w H) (he : EAbs e env) (hh : HAbs hp H) (hρ : RepEnv γ F env a.tmps) (o : Oper) : Sound P γ F w e hp (execOp a.eval o) (compB P o.op) := by
  intro v hp' hx
  obtain ⟨h1, h2, h3⟩ := compB_ok (P := P) he hh o.op v hp' hx
  exact ⟨_, h3, by rw [← h2]; exact ares_sound h (aeval_rep hρ) h1⟩

set_option maxHeartbeats 400000 in
/-- Every operation but calls of functions. -/
theorem compX_sound (h : Rel γ F w H) (he : EAbs e env) (hh : HAbs hp H) (hρ : RepEnv γ F env a.tmps) (o : Oper) : Sound P γ F w e hp (execOp a.eval o) (compX P o.op) := by
  have base := compB_sound (P := P) h he hh hρ o
  have rp : ∀ x : Operand, Rep γ F ((xOf x).ev e) (a.eval x) := fun x => by rw [xOf_ev he]; exact aeval_rep hρ x
  obtain ⟨dst, op, ty, pos, after, guard⟩ := o
  simp only at base ⊢
  cases op <;> simp only [compX] <;> try exact base
  case indexAddr t x i =>
    split
    · rename_i n el ha
      split
      · rename_i g k hl
        intro v hp' hx
        exact indexArr_out (t := t) h hh (arrOf_spec ha) hl (rp x) (rp i) hx
      · exact sound_no
    · exact base
  case lookup t m k ok =>
    split
    · rename_i kt el ht
      split
      · rename_i pe z hku hz
        split
        · rename_i g n hl
          intro v hp' hx
          exact lookupP_out (P := P) h hh ht hku hl hz (rp m) (rp k) hx
        · exact sound_no
      · exact base
    · exact sound_no
  case mapUpdate t m k x =>
    split
    · rename_i kt el ht
      split
      · rename_i pe hku
        split
        · rename_i g n hl
          intro v hp' hx
          exact insertP_out (P := P) h hh ht hku hl (rp m) (rp k) (rp x) hx
        · exact sound_no
      · exact base
    · exact sound_no
  case binOp op t x y z =>
    split
    · rename_i el hu
      split
      · rename_i g k hl
        refine sound_or base fun v hp' hx => ?_
        have := eqPtr_out (P := P) (op := op) (t := t) (xo := x) (yo := y) h hh hu hl (rp x) (rp y) hx
        exact this
      · exact base
    · rename_i el hu
      intro v hp' hx
      have := eqSl_out (P := P) (op := op) (t := t) (xo := x) (yo := y) h hh hu (rp x) (rp y) hx
      exact this
    · rename_i ms hu
      refine sound_or base fun v hp' hx => ?_
      have := eqFa_out (P := P) (op := op) (t := t) (xo := x) (yo := y) h hh (by simp [isFace, hu]) (rp x) (rp y) hx
      exact this
    · exact base
  case convert s d x =>
    split
    · rename_i el hs hd
      split
      · rename_i g k hl
        intro v hp' hx
        have q := unsafeOf_out (P := P) (src := s) (dst := d) h hh hs hd hl (rp x) (show unsafeOfB ((xOf x).ev e) hp = some (v, hp') from hx)
        exact q
      · exact sound_no
    · rename_i el hs hd
      split
      · rename_i g k hl
        intro v hp' hx
        have q := unsafeTo_out (P := P) (src := s) (dst := d) h hh hs hd hl (rp x) (show unsafeToB el (k + 1) ((xOf x).ev e) hp = some (v, hp') from hx)
        exact q
      · exact sound_no
    · exact base
  case buildSlice t n ps =>
    split
    · rename_i el ht
      split
      · rename_i g k z hl hz
        intro v hp' hx
        have hr : ∀ (j : Nat) i x, (evp e (xsOf ps))[j]? = some (i, x) → ∃ v, (ps.map fun (x : Nat × Operand) => (x.1, a.eval x.2))[j]? = some (i, v) ∧ Rep γ F x v := by
          intro j i x hj
          rw [evp_map he] at hj
          simp only [List.getElem?_map, Array.getElem?_toList, Option.map_eq_some_iff] at hj
          obtain ⟨⟨i', y⟩, h1, h2⟩ := hj
          simp at h2
          obtain ⟨rfl, rfl⟩ := h2
          exact ⟨a.eval y, by simp [h1], aeval_rep hρ y⟩
        have q := buildOwn_out (P := P) (t := t) (len := n) h hh (elemOfSlice_spec ht) hl hz (parts := evp e (xsOf ps)) (pv := ps.map fun (x : Nat × Operand) => (x.1, a.eval x.2)) (by simp [evp, xsOf]) hr hx
        exact q
      · exact sound_no
    · exact sound_no
  case insert t m k x =>
    split
    · rename_i kt el ht
      split
      · rename_i d hd
        intro v hp' hx
        obtain ⟨h1, h2, h3⟩ := mapUpdate_rb hh d _ _ _ v hp' hx
        obtain ⟨w', r1, r2, r3⟩ := mapUpdate_sound (P := P) h ht hd (rp m) (rp k) (rp x) h1
        refine ⟨_, h3, undef, w', γ, F, .inr ⟨by simp [execOp, r1], rfl⟩, r2, r3, ?_⟩
        have : v = .tup [] := by
          rw [← h2]
          unfold mapUpdateR at h1 ⊢
          split
          · split
            · rfl
            · simp_all [R.bad]
          · simp_all [R.bad]
        rw [this]
        simp only [Rep]
        exact ⟨#[], rfl, by simp [RepL]⟩
      · exact sound_no
    · exact sound_no
  case typeAssert x xt t ok =>
    split
    · rename_i d hf hu
      intro v hp' hx
      have q := assert_out (xt := xt) (t := t) (ok := ok) h hh hu hf (rp x) hx
      exact q
    · exact sound_no
  case call c =>
    obtain ⟨callee, args, ats⟩ := c
    have hex : ∀ (b : Builtin) (args : Array Operand) (ats : Array TypeId), ∃ cs, execOp a.eval ⟨dst, .call ⟨.builtin b, args, ats⟩, ty, pos, after, guard⟩ = builtin b ats ty cs (args.map a.eval) := fun _ _ _ => ⟨_, rfl⟩
    have m1 : ∀ x : Operand, (#[x] : Array Operand).map a.eval = #[a.eval x] := fun x => by simp
    have m2 : ∀ x y : Operand, (#[x, y] : Array Operand).map a.eval = #[a.eval x, a.eval y] := fun x y => by simp
    have one : ∀ {x : Operand}, args.toList = [x] → args = #[x] := fun h => by rw [← Array.toArray_toList (xs := args), h]
    have two : ∀ {x y : Operand}, args.toList = [x, y] → args = #[x, y] := fun h => by rw [← Array.toArray_toList (xs := args), h]
    have tone : ∀ {x : TypeId}, ats.toList = [x] → ats = #[x] := fun h => by rw [← Array.toArray_toList (xs := ats), h]
    have ttwo : ∀ {x y : TypeId}, ats.toList = [x, y] → ats = #[x, y] := fun h => by rw [← Array.toArray_toList (xs := ats), h]
    split
    · rename_i d s t u h1 h2 h3
      simp only at h1 h2 h3
      obtain rfl := two h2
      obtain rfl := ttwo h3
      subst h1
      split
      · rename_i el ht
        split
        · rename_i g k hl
          intro v hp' hx
          have q := copy_out (t := t) (u := u) (ty := ty) h hh (elemOfSlice_spec ht) hl (rp d) (rp s) hx
          obtain ⟨cs, hcs⟩ := hex .copy #[d, s] #[t, u]
          rw [hcs, m2]
          exact q
        · exact sound_no
      · exact sound_no
    · rename_i x t h1 h2 h3
      simp only at h1 h2 h3
      obtain rfl := one h2
      obtain rfl := tone h3
      subst h1
      split
      · rename_i el ht
        split
        · rename_i g k z hl hz
          intro v hp' hx
          have q := clear_out (t := t) (ty := ty) h hh (elemOfSlice_spec ht) hl hz (rp x) hx
          obtain ⟨cs, hcs⟩ := hex .clear #[x] #[t]
          rw [hcs, m1]
          exact q
        · exact sound_no
      · exact sound_no
    · rename_i m k t u h1 h2 h3
      simp only at h1 h2 h3
      obtain rfl := two h2
      obtain rfl := ttwo h3
      subst h1
      split
      · rename_i kt el ht
        split
        · rename_i d hd
          intro v hp' hx
          have q := delete_out (t := t) (u := u) (ty := ty) h hh ht hd (rp m) (rp k) hx
          obtain ⟨cs, hcs⟩ := hex .delete #[m, k] #[t, u]
          rw [hcs, m2]
          exact q
        · exact sound_no
      · exact sound_no
    · rename_i x t h1 h2 h3
      simp only at h1 h2 h3
      obtain rfl := one h2
      obtain rfl := tone h3
      subst h1
      split
      · rename_i el ht
        intro v hp' hx
        have q := cap_out (t := t) (ty := ty) h hh (elemOfSlice_spec ht) (rp x) hx
        obtain ⟨cs, hcs⟩ := hex .cap #[x] #[t]
        rw [hcs, m1]
        exact q
      · exact sound_no
    · rename_i x h1 h2
      simp only at h1 h2
      obtain rfl := one h2
      subst h1
      intro v hp' hx
      have q := sliceData_out (P := P) (ts := ats) (ty := ty) h hh (rp x) hx
      obtain ⟨cs, hcs⟩ := hex .unsafeSliceData #[x] ats
      rw [hcs, m1]
      exact q
    · rename_i x n pt it h1 h2 h3
      simp only at h1 h2 h3
      obtain rfl := two h2
      obtain rfl := ttwo h3
      subst h1
      split
      · rename_i el hu
        split
        · rename_i g hl
          intro v hp' hx
          have q := unsafeString_out (pt := pt) (it := it) (ty := ty) h hh hu hl (rp x) (rp n) hx
          obtain ⟨cs, hcs⟩ := hex .unsafeString #[x, n] #[pt, it]
          rw [hcs, m2]
          exact q
        · exact sound_no
      · exact sound_no
    · rename_i s x t u h1 h2 h3
      simp only at h1 h2 h3
      obtain rfl := two h2
      obtain rfl := ttwo h3
      subst h1
      split
      · rename_i el ht
        split
        · rename_i g k i z q hl hi hz hu
          intro v hp' hx
          have q := grow_out (t := t) (u := u) (ty := ty) h hh (elemOfSlice_spec ht) hu hl hi hz (rp s) (rp x) hx
          obtain ⟨cs, hcs⟩ := hex .append #[s, x] #[t, u]
          rw [hcs, m2]
          exact q
        · rename_i g k i z q hl hi hz hu
          refine sound_or base fun v hp' hx => ?_
          have q := appIn_out (t := t) (u := u) (ty := ty) h hh (elemOfSlice_spec ht) (.inl ⟨_, hu⟩) hl hi hz (rp s) (rp x) hx
          obtain ⟨cs, hcs⟩ := hex .append #[s, x] #[t, u]
          rw [hcs, m2]
          exact q
        · rename_i g k i z hl hi hz hu
          refine sound_or base fun v hp' hx => ?_
          have q := appIn_out (t := t) (u := u) (ty := ty) h hh (elemOfSlice_spec ht) (.inr hu) hl hi hz (rp s) (rp x) hx
          obtain ⟨cs, hcs⟩ := hex .append #[s, x] #[t, u]
          rw [hcs, m2]
          exact q
        · exact sound_no
      · exact sound_no
    · exact base
end
end Go.Ab
namespace Go.Ab
variable [Env]

/-! Statements, turned into what is evaluated. -/

def gdX (ops : Array Oper) : Option (Nat × Bool) → Option (Option (Nat × Bool))
  | none => some none
  | some (g, w) => match dstAt ops g with
    | some d => some (some (d, w))
    | none => none

def ekX (P : Program) (o : Oper) : Ek := match o.op with
  | .call c => match c.callee with
    | .value f => match f with
      | .func g => .call g (c.args.toList.map xOf)
      | f => .callV (xOf f) (c.args.toList.map xOf)
    | .invoke r m => .inv (methodTab P m) (xOf r) (c.args.toList.map xOf)
    | .builtin b => .op (compX P (.call c))
  | op => .op (compX P op)

def coX (P : Program) (ops : Array Oper) (o : Oper) : CO := match gdX ops o.guard with
  | some g => ⟨o.dst, g, ekX P o⟩
  | none => ⟨o.dst, none, .op oNo⟩

section
variable {P : Program} {γ γ' : List Loc} {F F' : Frz} {w w' : World} {H H' : Heap} {env : List V} {e e' : ET} {hp hp' : HP} {v : V} {a : Act} {ro : Option Nat} {lo : Nat} {call : Call}

/-- What a loop's round does, as a call. -/
def YSpec (P : Program) (r : Nat) (args : List V) (H : Heap) (v : V) (H' : Heap) : Prop :=
  ∀ (γ : List Loc) (F : Frz) (w : World) (vs : List Value) (b : Nat), Rel γ F w H → RepL γ F args vs → γ[r]? = some (.loop b) →
    ∃ fn tmps asg body, (Instr.yield b vs.toArray).run P w = .ok (.round b fn tmps asg body) w ∧
      RoundIn (fen none) 0 P b fn tmps asg body w fun e w' => ∃ γ' F' u, e = .returned u ∧ Nx γ F w γ' F' w' ∧ Rel γ' F' w' H' ∧ Rep γ' F' v u

structure CallOk (P : Program) (call : Call) : Prop where
  f : ∀ f args hp v hp', call (.f f) args hp = some (v, hp') → ∀ H, HAbs hp H → ∃ H', HAbs hp' H' ∧ CSpec P f args H v H'
  g : ∀ f args hp v hp', call (.g f) args hp = some (v, hp') → ∀ H, HAbs hp H → ∃ H', HAbs hp' H' ∧ Spec P f args H v H'
  y : ∀ r args hp v hp', call (.y r) args hp = some (v, hp') → ∀ H, HAbs hp H → ∃ H', HAbs hp' H' ∧ YSpec P r args H v H'

/-- A state of both machines, as trees. -/
structure StB (lo n : Nat) (γ : List Loc) (F : Frz) (e : ET) (hp : HP) (a : Act) (w : World) : Prop where
  ex : ∃ env H, EAbs e env ∧ HAbs hp H ∧ St lo γ F env H a w
  sz : a.tmps.size = n
  lo : lo ≤ w.heap.size

theorem csp_upon {o : Oper} {f : FuncId} {vs : List Value} {args : List V} (hs : CSpec P f args H v H') (hrel : Rel γ F w H) (ha : RepL γ F args vs) {next : Act → World → Prop} {Q : Exit → Act → World → Prop} (hnd : ∀ c, o.op ≠ .defer c)
    (hexec : (execOp a.eval o).run P w = (callFunc f vs.toArray).run P w) (hnext : ∀ γ' F' u w', Nx γ F w γ' F' w' → Rel γ' F' w' H' → Rep γ' F' v u → next (a.put o.dst u) w') : o.wpIn (fen ro) 0 P a w next Q := by
  rcases hs with ⟨hb, hs⟩ | hs
  · exact call_upon hb hs hrel ha hnd hexec hnext
  · obtain ⟨γ', F', u, w', h1, h2, h3, h4⟩ := hs γ F w vs hrel ha
    unfold Oper.wpIn
    refine ⟨fun f _ => trivial, ?_⟩
    rw [Oper.semAt_eq _ _ _ hnd, hexec, h1]
    exact hnext γ' F' u w' h2 h3 h4

theorem map_xOf (he : EAbs e env) (hρ : RepEnv γ F env a.tmps) (l : List Operand) : RepL γ F ((l.map xOf).map (X.ev e)) (l.map a.eval) := by
  rw [map_ev he]
  exact RepL.map fun x _ => aeval_rep hρ x

/-- One operation. -/
theorem ex_sound (hc : CallOk P call) {o : Oper} (he : EAbs e env) (hh : HAbs hp H) (hst : St lo γ F env H a w) (hx : exOne call e hp (ekX P o) = some (v, hp')) {next : Act → World → Prop} {Q : Exit → Act → World → Prop}
    (hnext : ∀ H' γ' F' w' a', HAbs hp' H' → Nx γ F w γ' F' w' → St lo γ' F' (putD env o.dst v) H' a' w' → Kept o.dst.toList a a' → next a' w') : o.wpIn (fen ro) 0 P a w next Q := by
  have fin : ∀ (u : Value) H' γ' F' w', HAbs hp' H' → Nx γ F w γ' F' w' → Rel γ' F' w' H' → Rep γ' F' v u → next (a.put o.dst u) w' := fun u H' γ' F' w' hk h1 h2 h3 =>
    hnext H' γ' F' w' _ hk h1 ⟨h2, (hst.env.mono h1.ext h1.frz).put h3, by rw [put_defers]; exact hst.defers.mono h1⟩ (Kept.put a o.dst u)
  have general : ∀ op, o.op = op → compX P op e hp = some (v, hp') → o.wpIn (fen ro) 0 P a w next Q := by
    rintro op rfl hx
    have hnd : ∀ c, o.op ≠ .defer c := by
      intro c hc
      rw [hc] at hx
      cases hx
    obtain ⟨H', hH, u, w', γ', F', hr, n1, n2, n3⟩ := compX_sound (P := P) hst.rel he hh hst.env o v hp' hx
    unfold Oper.wpIn
    refine ⟨fun f _ => trivial, ?_⟩
    rw [Oper.semAt_eq _ _ _ hnd]
    rcases hr with hr | ⟨hr, rfl⟩
    · rw [hr]; exact fin u H' γ' F' w' hH n1 n2 n3
    · rw [hr]; exact fin undef H' γ' F' w' hH n1 n2 n3
  unfold ekX at hx
  split at hx
  · rename_i c hop
    have hnd : ∀ c, o.op ≠ .defer c := by intro c' hc'; rw [hop] at hc'; cases hc'
    obtain ⟨callee, args, ats⟩ := c
    have hargs := map_xOf (a := a) he hst.env args.toList
    simp only at hx
    split at hx
    · rename_i f
      split at hx
      · rename_i g
        simp only [exOne] at hx
        obtain ⟨H', hH, hs⟩ := hc.f _ _ _ _ _ hx H hh
        refine csp_upon hs hst.rel hargs hnd ?_ (fun γ' F' u w' h1 h2 h3 => fin u H' γ' F' w' hH h1 h2 h3)
        simp only [execOp, hop, Sem.run_bind, resolve, Act.eval, Deferred.ofValue, Sem.run_pure, Result.andThen_ok, invoke]
        congr 2
        apply Array.ext'
        simp
      · rename_i f' hne
        simp only [exOne] at hx
        split at hx
        · rename_i g first captured hg
          obtain ⟨H', hH, hs⟩ := hc.f _ _ _ _ _ hx H hh
          have hfr := aeval_rep hst.env f
          rw [← xOf_ev he, hg] at hfr
          simp only [Rep] at hfr
          obtain ⟨as, cs, hev, r1, r2⟩ := hfr
          refine csp_upon (vs := as.toList ++ args.toList.map a.eval ++ cs.toList) hs hst.rel ((r1.append hargs).append r2) hnd ?_ (fun γ' F' u w' h1 h2 h3 => fin u H' γ' F' w' hH h1 h2 h3)
          simp only [execOp, hop, Sem.run_bind, resolve, hev, Deferred.ofValue, Sem.run_pure, Result.andThen_ok, invoke]
          congr 1
          congr 1
          apply Array.ext'
          simp
        · rename_i r hg
          obtain ⟨H', hH, hs⟩ := hc.y _ _ _ _ _ hx H hh
          have hfr := aeval_rep hst.env f
          rw [← xOf_ev he, hg] at hfr
          simp only [Rep] at hfr
          obtain ⟨b, h1, hev⟩ := hfr
          obtain ⟨fn, tmps, asg, body, hy, hround⟩ := hs γ F w (args.toList.map a.eval) b hst.rel hargs h1
          unfold Oper.wpIn
          refine ⟨fun f _ => trivial, ?_⟩
          have hexec : (execOp a.eval o).run P w = .ok (.round b fn tmps asg body) w := by
            rw [← hy]
            simp only [execOp, hop, Sem.run_bind, resolve, hev, Deferred.ofValue, Sem.run_pure, Result.andThen_ok, invoke]
            congr 1
            congr 1
            apply Array.ext'
            simp
          rw [Oper.semAt_eq _ _ _ hnd, hexec]
          refine ⟨fen_depth _ _, RoundIn.mono (show RoundIn (fen ro) 0 P b fn tmps asg body w _ from hround) ?_⟩
          rintro e2 w' ⟨γ', F', u, rfl, n1, n2, n3⟩
          exact fin u H' γ' F' w' hH n1 n2 n3
        · cases hx
    · rename_i r m
      simp only [exOne] at hx
      split at hx
      · rename_i f vs hinv
        obtain ⟨H', hH, hs⟩ := hc.f _ _ _ _ _ hx H hh
        have hr := aeval_rep hst.env r
        rw [← xOf_ev he] at hr
        obtain ⟨us, hus, hcm⟩ := inv_run (P := P) hst.rel hh hr hargs hinv
        refine csp_upon hs hst.rel hus hnd ?_ (fun γ' F' u w' h1 h2 h3 => fin u H' γ' F' w' hH h1 h2 h3)
        rw [← hcm]
        simp only [execOp, hop, Sem.run_bind, resolve, Sem.run_pure, Result.andThen_ok, invoke]
        have e1 : (#[a.eval r] ++ args.map a.eval)[0]? = some (a.eval r) := by
          rw [Array.getElem?_append_left (by show 0 < 1; omega)]; rfl
        have e2 : (#[a.eval r] ++ args.map a.eval).extract 1 (#[a.eval r] ++ args.map a.eval).size = (args.toList.map a.eval).toArray := by
          apply Array.ext'
          rw [Array.toList_extract, List.extract_eq_take_drop]
          simp
          exact List.take_of_length_le (by simp)
        simp only [e1, e2]
      · cases hx
    · rename_i b
      exact general _ hop hx
  · exact general _ rfl hx

theorem gd_wanted {ops : Array Oper} {o : Oper} {g : Option (Nat × Bool)} (hg : gdX ops o.guard = some g) (he : EAbs e env) (hρ : RepEnv γ F env a.tmps) {b : Bool} (hb : gdOf e g = some b) : Region.wanted o (yielded ops a.tmps) = b := by
  unfold gdX at hg
  split at hg
  · rename_i hn
    cases hg
    simp only [gdOf] at hb
    cases hb
    simp [Region.wanted, hn]
  · rename_i j want hj
    split at hg
    · rename_i d hd
      cases hg
      have hr := hρ.rep d
      rw [← he.get] at hr
      have hy : yielded ops a.tmps j = match a.tmps.getD d undef with | .bool b => some b | _ => none := by
        unfold dstAt at hd
        unfold yielded
        rw [hd]
        simp only [Option.bind_some]
        by_cases hs : d < a.tmps.size
        · simp [Array.getD, hs]
          cases a.tmps[d] <;> rfl
        · simp [Array.getD, hs, undef]
      simp only [gdOf] at hb
      split at hb
      · rename_i c hc
        rw [hc] at hr
        simp only [Rep] at hr
        rw [hr] at hy
        cases hb
        simp only [Region.wanted, hj, hy]
        cases want <;> cases c <;> rfl
      · rename_i hc
        rw [hc] at hr
        simp only [Rep, RepL] at hr
        obtain ⟨vs, hr, _⟩ := hr
        rw [hr] at hy
        split at hb <;> cases hb
        simp only [Region.wanted, hj, hy]
        cases want <;> rfl
      · cases hb
    · cases hg

/-- A region's operations, in order. -/
theorem reg_sound (hc : CallOk P call) {n : Nat} {ops : Array Oper} {Q : Exit → Act → World → Prop} : ∀ (l : List (Nat × Oper)) (e : ET) (hp : HP) (γ : List Loc) (F : Frz) (a : Act) (w : World), (∀ p ∈ l, ops[p.1]? = some p.2) →
    runOps call (l.map fun p => coX P ops p.2) e hp = some (e', hp') → StB lo n γ F e hp a w →
    (∀ γ' F' w' a', Nx γ F w γ' F' w' → StB lo n γ' F' e' hp' a' w' → Q .normal a' w') → wpOpsIn (fen ro) 0 P ops Q (l.map (·.1)) a w
  | [], e, hp, γ, F, a, w, _, hx, hst, hQ => by
    cases hx
    exact hQ γ F w a (Nx.refl γ F w) hst
  | (i, o) :: l, e, hp, γ, F, a, w, hops, hx, hst, hQ => by
    obtain ⟨env, H, he, hh, hs⟩ := hst.ex
    have hi := hops (i, o) (by simp)
    have hl : ∀ p ∈ l, ops[p.1]? = some p.2 := fun p hm => hops p (by simp [hm])
    simp only [List.map_cons, runOps] at hx ⊢
    cases hg : gdX ops o.guard with
    | none =>
      have : coX P ops o = ⟨o.dst, none, .op oNo⟩ := by simp only [coX, hg]
      rw [this] at hx
      simp [gdOf, exOne, oNo] at hx
    | some g =>
      have : coX P ops o = ⟨o.dst, g, ekX P o⟩ := by simp only [coX, hg]
      rw [this] at hx
      simp only at hx
      split at hx
      · rename_i hb
        have hw := gd_wanted hg he hs.env hb
        split at hx
        · rename_i v H1 hone
          refine wpOps_do hi hw (ex_sound hc he hh hs hone ?_)
          intro H' γ' F' w' a' k1 k2 k3 k4
          exact reg_sound hc l _ _ γ' F' a' w' hl hx ⟨⟨_, _, he.put o.dst v, k1, k3⟩, k4.size.trans hst.sz, Nat.le_trans hst.lo k2.size⟩ fun γ2 F2 w2 a2 n1 n2 => hQ γ2 F2 w2 a2 (k2.trans n1) n2
        · cases hx
      · rename_i hb
        have hw := gd_wanted hg he hs.env hb
        refine wpOps_not hi hw ?_
        refine reg_sound hc l _ _ γ F _ w hl hx ⟨⟨_, _, he.put o.dst (.tup []), hh, ⟨hs.rel, hs.env.put rep_undef, by rw [put_defers]; exact hs.defers⟩⟩, (put_size a o.dst _).trans hst.sz, hst.lo⟩ hQ
      · cases hx
end
end Go.Ab
namespace Go.Ab
variable [Env]

def ekD (P : Program) (o : Oper) : Ek := match o.op with
  | .call c => match c.callee with
    | .value f => match f with
      | .func g => .call g (c.args.toList.map xOf)
      | f => .callV (xOf f) (c.args.toList.map xOf)
    | .builtin .unsafeSliceData => match c.args.toList with
      | [x] => .op (oSd (xOf x))
      | _ => .op oNo
    | .builtin .unsafeString => match c.args.toList, c.argTypes.toList with
      | [x, n], [pt, it] => match P.underlying pt with
        | some (.pointer e) => match lay P e with
          | some (_, 1) => .op (oUs e (xOf x) (xOf n))
          | _ => .op oNo
        | _ => .op oNo
      | _, _ => .op oNo
    | .builtin _ => .op (compB P (.call c))
    | .invoke _ _ => .op oNo
  | .buildSlice t n ps => match elemOfSlice P t with
    | some e => match lay P e, zeroOf P e with
      | some (g, k), some _ => .op (oBs e g k n (xsOf ps))
      | _, _ => .op oNo
    | none => .op oNo
  | op => .op (compB P op)

def doX (P : Program) (ops : Array Oper) (i : Nat) (o : Oper) : DO := match gdX ops o.guard with
  | some g => ⟨i, kindOf P o.op, ⟨o.dst, g, match kindOf P o.op with | 0 => .op (compB P o.op) | 1 => .op (compB P o.op) | _ => ekD P o⟩⟩
  | none => ⟨i, 2, ⟨o.dst, none, .op oNo⟩⟩

section
variable {P : Program} {γ γ' : List Loc} {F F' : Frz} {w w' : World} {H H' : Heap} {env : List V} {e e' : ET} {hp hp' : HP} {v : V} {a : Act} {ro : Option Nat} {lo : Nat} {call : Call} {m : List Nat}

theorem getD_of {e : ET} {env : List V} (he : EAbs e env) {d : Nat} (hd : d < env.length) (x : V) : env.getD d x = e.get d := by
  rw [he.get]
  simp [List.getD, hd]

/-- What a guard says. -/
theorem gd_run {ops : Array Oper} {o : Oper} {g : Option (Nat × Bool)} (hg : gdX ops o.guard = some g) (he : EAbs e env) {b : Bool} (hb : gdOf e g = some b) : guardRun o.guard (dstAt ops) env b := by
  unfold gdX at hg
  split at hg
  · rename_i hn
    cases hg
    simp only [gdOf] at hb
    cases hb
    rw [hn]; rfl
  · rename_i j want hj
    split at hg
    · rename_i d hd
      cases hg
      rw [hj]
      refine ⟨d, hd, ?_⟩
      simp only [gdOf] at hb
      split at hb
      · rename_i c hc
        have hlt : d < env.length := by
          rcases Nat.lt_or_ge d env.length with h | h
          · exact h
          · have := he.get d
            rw [hc] at this
            simp [List.getD, List.getElem?_eq_none h] at this
        cases hb
        refine .inl ⟨c, by rw [getD_of he hlt, hc], ?_⟩
        cases want <;> cases c <;> rfl
      · rename_i hc
        split at hb
        · rename_i hh
          cases hb
          have hlt := (he.has d).1 hh
          exact .inr ⟨by rw [getD_of he hlt, hc], rfl⟩
        · cases hb
      · cases hb
    · cases hg

theorem guardRun_det {g : Option (Nat × Bool)} {dst : Nat → Option Tmp} {env : List V} {b c : Bool} (h : guardRun g dst env b) (k : guardRun g dst env c) : b = c := by
  cases g with
  | none => simp only [guardRun] at h k; rw [h, k]
  | some q =>
    obtain ⟨j, want⟩ := q
    obtain ⟨d, hd, h⟩ := h
    obtain ⟨d', hd', k⟩ := k
    rw [hd] at hd'; cases hd'
    rcases h with ⟨x, h1, rfl⟩ | ⟨h1, rfl⟩ <;> rcases k with ⟨y, k1, rfl⟩ | ⟨k1, rfl⟩
    · rw [h1] at k1; cases k1; rfl
    · rw [h1] at k1; cases k1
    · rw [h1] at k1; cases k1
    · rfl

theorem lGd_intro {g : Option (Nat × Bool)} {dst : Nat → Option Tmp} {known : Known} {A B : Known → Prop} {b : Bool} (hk : KnownOk known dst env) (h : guardRun g dst env b)
    (hA : b = true → ∀ kn, KnownOk kn dst env → A kn) (hB : b = false → ∀ kn, KnownOk kn dst env → B kn) : lGd g known dst env A B := by
  unfold lGd
  split
  · simp only [guardRun] at h; exact hA h known hk
  · rename_i j want
    split
    · rename_i hl; exact hA (guardRun_det h (hk _ _ (lookup_mem _ hl))) known hk
    · rename_i hl; exact hB (guardRun_det h (hk _ _ (lookup_mem _ hl))) known hk
    · have hh := h
      obtain ⟨d, hd, hc⟩ := h
      rw [hd]
      simp only
      have yes : b = true → KnownOk (((j, want), true) :: ((j, !want), false) :: known) dst env := by
        intro hb
        subst hb
        rcases hc with ⟨c, hc, hw⟩ | ⟨_, hw⟩
        · intro g b hm
          rcases List.mem_cons.1 hm with hm | hm
          · cases hm; exact hh
          · rcases List.mem_cons.1 hm with hm | hm
            · cases hm; exact ⟨d, hd, .inl ⟨c, hc, by cases c <;> cases want <;> first | rfl | cases hw⟩⟩
            · exact hk g b hm
        · cases hw
      have no : b = false → KnownOk (((j, want), false) :: known) dst env := by
        intro hb
        subst hb
        intro g b hm
        rcases List.mem_cons.1 hm with hm | hm
        · cases hm; exact hh
        · exact hk g b hm
      rcases hc with ⟨c, hc, hw⟩ | ⟨hc, hw⟩
      · rw [hc]
        cases c <;> cases want <;> simp at hw <;> subst hw <;> simp only [lPass]
        · exact hA rfl _ (yes rfl)
        · exact hB rfl _ (no rfl)
        · exact hB rfl _ (no rfl)
        · exact hA rfl _ (yes rfl)
      · rw [hc]
        subst hw
        simp only [lPass]
        exact hB rfl _ (no rfl)

inductive All2 {α β : Type} (R : α → β → Prop) : List α → List β → Prop
  | nil : All2 R [] []
  | cons {a b l l'} (h : R a b) (t : All2 R l l') : All2 R (a :: l) (b :: l')

def HistAbs (q : Nat × HP) (q' : Nat × Heap) : Prop := q.1 = q'.1 ∧ HAbs q.2 q'.2

def PendAbs (P : Program) (q : PdB) (q' : Pd) : Prop := q.i = q'.i ∧ q.f = compB P q'.op ∧ EAbs q.e q'.env ∧ q.v = q'.v

theorem same_ok {op : Op} (he : EAbs e env) (hh : HAbs hp H) (h : sameB (compB P op) e hp v = true) : lSame (ares P (aeval env) H op) v := by
  unfold sameB at h
  split at h
  · rename_i v' hq hx
    obtain ⟨h1, h2, h3⟩ := compB_ok (P := P) he hh op _ _ hx
    exact ⟨h1, by rw [h2]; exact beqV_eq _ _ h⟩
  · cases h

theorem hist_ok {op : Op} (he : EAbs e env) {i : Nat} {A : Prop} : ∀ {l : List (Nat × HP)} {l' : List (Nat × Heap)}, All2 HistAbs l l' → histB m i (compB P op) e v l = true → A → histOk P m i op env v l' A
  | _, _, .nil, _, hA => hA
  | (j, Hj) :: l, (j', Hj') :: l', .cons ⟨h1, h2⟩ h3, h, hA => by
    simp only at h1 h2
    subst h1
    unfold histB at h
    unfold histOk
    cases hb : below m i j with
    | true => exact hA
    | false =>
      rw [hb] at h
      simp only [Bool.and_eq_true] at h
      exact ⟨same_ok he h2 h.1, hist_ok he h3 h.2 hA⟩

theorem pend_ok (hh : HAbs hp H) {A : Prop} : ∀ {l : List PdB} {l' : List Pd}, All2 (PendAbs P) l l' → pendB hp l = true → A → pendOk P H l' A
  | _, _, .nil, _, hA => hA
  | q :: l, q' :: l', .cons ⟨h1, h2, h3, h4⟩ hl, h, hA => by
    unfold pendB at h
    unfold pendOk
    simp only [Bool.and_eq_true] at h
    rw [h2, h4] at h
    exact ⟨same_ok h3 hh h.1, pend_ok hh hl h.2 hA⟩

theorem pend_filter {i : Nat} : ∀ {l : List PdB} {l' : List Pd}, All2 (PendAbs P) l l' → All2 (PendAbs P) (l.filter fun q => !below m i q.i) (l'.filter fun q => !below m i q.i)
  | _, _, .nil => .nil
  | q :: l, q' :: l', .cons h hl => by
    simp only [List.filter_cons, h.1]
    split
    · exact .cons h (pend_filter hl)
    · exact pend_filter hl

theorem HAbs.uniq {H1 H2 : Heap} (h1 : HAbs hp H1) (h2 : HAbs hp H2) : H1 = H2 := by
  apply List.ext_getElem?
  intro r
  rw [← h1.get, ← h2.get]

/-- An operation with an effect, in a region that draws. -/
theorem exD_sound (hc : CallOk P call) {o : Oper} (hk : kindOf P o.op = 2) (he : EAbs e env) (hh : HAbs hp H) (hx : exOne (noY call) e hp (ekD P o) = some (v, hp')) {K : V → Heap → Prop} (hK : ∀ H', HAbs hp' H' → K v H') : aopX P o env H K := by
  have base : compB P o.op e hp = some (v, hp') → (∀ c f, o.op = .call c → c.callee ≠ .value f) → aopX P o env H K := by
    intro hx hnv
    obtain ⟨h1, h2, h3⟩ := compB_ok (P := P) he hh o.op _ _ hx
    have hl : lR (ares P (aeval env) H o.op) K := ⟨h1, by rw [h2]; exact hK _ h3⟩
    left
    unfold aop
    split
    · rename_i x hop; rw [hop] at hk; simp [kindOf] at hk
    · rename_i x hop; rw [hop] at hk; simp [kindOf] at hk
    · rename_i c hop
      split
      · rename_i f hf; exact absurd hf (hnv c f hop)
      · rename_i b hb
        rw [hop] at hl
        simp only [ares, hb] at hl
        exact hl
      · rename_i r m hr
        rw [hop] at hl
        simp only [ares, hr] at hl
        exact hl.1
    · exact hl
  -- a call
  have hcall : ∀ {f : FuncId} {args : List V} {xs : List Operand} {fo : Operand} {first captured : List V}, (∃ ats, o.op = .call ⟨.value fo, xs.toArray, ats⟩) → aeval env fo = .fn f first captured → args = first ++ xs.map (aeval env) ++ captured →
      call (.f f) args hp = some (v, hp') → aopX P o env H K := by
    rintro f args xs fo first captured ⟨ats, hop⟩ hfo rfl hx
    obtain ⟨H', hH, hs⟩ := hc.f _ _ _ _ _ hx H hh
    rcases hs with hs | hs
    · left
      unfold aop
      rw [hop]
      simp only
      show lCallV P (aeval env fo) _ H K
      rw [hfo]
      exact ⟨v, H', hs, hK H' hH⟩
    · right
      refine ⟨fun c hc => (by rw [hop] at hc; cases hc), by rw [hop]; rfl, v, H', hK H' hH, fun γ F w ρ' hrel hρ => ?_⟩
      have h1 := hρ fo (by rw [hop]; simp [Op.operands, Call.operands])
      rw [hfo] at h1
      simp only [Rep] at h1
      obtain ⟨as, cs, hev, r1, r2⟩ := h1
      have hargs : RepL γ F (xs.map (aeval env)) (xs.map ρ') := RepL.map fun x hm => hρ x (by rw [hop]; simp [Op.operands, Call.operands]; exact .inr hm)
      obtain ⟨γ', F', u, w', q1, q2, q3, q4⟩ := hs γ F w (as.toList ++ xs.map ρ' ++ cs.toList) hrel ((r1.append hargs).append r2)
      refine ⟨u, w', γ', F', .inl ?_, q2, q3, q4⟩
      rw [← q1]
      simp only [execOp, hop, Sem.run_bind, resolve, hev, Deferred.ofValue, Sem.run_pure, Result.andThen_ok, invoke]
      congr 1
      congr 1
      apply Array.ext'
      simp
  have hother : ∀ s : Oper → Sem _root_.Go.Next, True := fun _ => trivial
  unfold ekD at hx
  split at hx
  · rename_i c hop
    obtain ⟨callee, args, ats⟩ := c
    simp only at hx
    have hargs : args = args.toList.toArray := by simp
    split at hx
    · rename_i f
      split at hx
      · rename_i g
        simp only [exOne, noY, map_ev he] at hx
        exact hcall ⟨ats, by rw [hop, ← hargs]⟩ (first := []) (captured := []) rfl (by simp) hx
      · rename_i f' hne
        simp only [exOne] at hx
        split at hx
        · rename_i g first captured hg
          simp only [noY, map_ev he] at hx
          rw [xOf_ev he] at hg
          exact hcall ⟨ats, by rw [hop, ← hargs]⟩ hg rfl hx
        · simp [noY] at hx
        · cases hx
    · -- unsafe.SliceData
      split at hx
      · rename_i x hxs
        simp only [exOne, oSd] at hx
        have hH : ∃ H', HAbs hp' H' := by
          have hx2 := hx
          unfold sliceDataB at hx2
          split at hx2
          · cases hx2; exact ⟨H, hh⟩
          · split at hx2
            · obtain ⟨_, _, rfl⟩ := when_some hx2; exact ⟨H, hh⟩
            · cases hx2
          · cases hx2
        obtain ⟨H', hH⟩ := hH
        right
        refine ⟨fun c hc => (by rw [hop] at hc; cases hc), by rw [hop]; rfl, v, H', hK H' hH, fun γ F w ρ' hrel hρ => ?_⟩
        have ha : args = #[x] := by rw [hargs, hxs]
        subst ha
        have h1 := hρ x (by rw [hop]; simp [Op.operands, Call.operands])
        rw [← xOf_ev he] at h1
        obtain ⟨H2, hH2, hout⟩ := sliceData_out (P := P) (ts := ats) (ty := o.type) hrel hh h1 hx
        have hu := hH.uniq hH2
        subst hu
        obtain ⟨cs, hcs⟩ : ∃ cs, execOp ρ' o = builtin .unsafeSliceData ats o.type cs (#[x].map ρ') := ⟨#[], by simp only [execOp, hop]; rfl⟩
        rw [hcs, show (#[x] : Array Operand).map ρ' = #[ρ' x] by simp]
        exact hout
      · simp [exOne, oNo] at hx
    · -- unsafe.String
      split at hx
      · rename_i x n pt it hxs hts
        split at hx
        · rename_i el hu
          split at hx
          · rename_i g hl
            simp only [exOne, oUs] at hx
            have hH : ∃ H', HAbs hp' H' := by
              have hx2 := hx
              unfold unsafeStringB at hx2
              split at hx2
              · split at hx2
                · obtain ⟨_, _, rfl⟩ := when_some hx2; exact ⟨H, hh⟩
                · split at hx2
                  · cases hx2; exact ⟨H, hh⟩
                  · rw [hh.get] at hx2
                    split at hx2
                    · rename_i ho
                      obtain ⟨_, _, rfl⟩ := when_some hx2; exact ⟨_, hh.set ho⟩
                    · cases hx2
                · cases hx2
              · cases hx2
            obtain ⟨H', hH⟩ := hH
            right
            refine ⟨fun c hc => (by rw [hop] at hc; cases hc), by rw [hop]; rfl, v, H', hK H' hH, fun γ F w ρ' hrel hρ => ?_⟩
            have ha : args = #[x, n] := by rw [hargs, hxs]
            have hb : ats = #[pt, it] := by rw [← Array.toArray_toList (xs := ats), hts]
            subst ha hb
            have h1 := hρ x (by rw [hop]; simp [Op.operands, Call.operands])
            have h2 := hρ n (by rw [hop]; simp [Op.operands, Call.operands])
            rw [← xOf_ev he] at h1 h2
            obtain ⟨H2, hH2, hout⟩ := unsafeString_out (P := P) (pt := pt) (it := it) (ty := o.type) hrel hh hu hl h1 h2 hx
            have hu := hH.uniq hH2
            subst hu
            obtain ⟨cs, hcs⟩ : ∃ cs, execOp ρ' o = builtin .unsafeString #[pt, it] o.type cs (#[x, n].map ρ') := ⟨#[], by simp only [execOp, hop]; rfl⟩
            rw [hcs, show (#[x, n] : Array Operand).map ρ' = #[ρ' x, ρ' n] by simp]
            exact hout
          · simp [exOne, oNo] at hx
        · simp [exOne, oNo] at hx
      · simp [exOne, oNo] at hx
    · rename_i b h1 h2
      simp only [exOne] at hx
      rw [← hop] at hx
      exact base hx (fun c f hc hcf => by rw [hop] at hc; cases hc; cases hcf)
    · simp [exOne, oNo] at hx
  · rename_i t n ps hop
    split at hx
    · rename_i el he'
      split at hx
      · rename_i g k z hl hz
        simp only [exOne, oBs] at hx
        have hH : ∃ H', HAbs hp' H' := by
          have hx2 := hx
          unfold buildOwnB at hx2
          split at hx2
          · obtain ⟨_, _, rfl⟩ := when_some hx2; exact ⟨_, hh.push _⟩
          · cases hx2
        obtain ⟨H', hH⟩ := hH
        right
        refine ⟨fun c hc => (by rw [hop] at hc; cases hc), by rw [hop]; rfl, v, H', hK H' hH, fun γ F w ρ' hrel hρ => ?_⟩
        have hr : ∀ (j : Nat) i x, (evp e (xsOf ps))[j]? = some (i, x) → ∃ v, (ps.map fun (x : Nat × Operand) => (x.1, ρ' x.2))[j]? = some (i, v) ∧ Rep γ F x v := by
          intro j i x hj
          rw [evp_map he] at hj
          simp only [List.getElem?_map, Array.getElem?_toList, Option.map_eq_some_iff] at hj
          obtain ⟨⟨i', y⟩, h1, h2⟩ := hj
          simp at h2
          obtain ⟨rfl, rfl⟩ := h2
          refine ⟨ρ' y, by simp [h1], hρ y ?_⟩
          rw [hop]
          simp only [Op.operands]
          have hm : (i', y) ∈ ps := Array.mem_of_getElem? h1
          simp only [Array.toList_map, List.mem_map, Array.mem_toList_iff]
          exact ⟨(i', y), hm, rfl⟩
        obtain ⟨H2, hH2, hout⟩ := buildOwn_out (P := P) (t := t) (len := n) hrel hh (elemOfSlice_spec he') hl hz (parts := evp e (xsOf ps)) (pv := ps.map fun (x : Nat × Operand) => (x.1, ρ' x.2)) (by simp [evp, xsOf]) hr hx
        have hu := hH.uniq hH2
        subst hu
        have hex : execOp ρ' o = (do pure (.value (← Instr.buildSlice t n (ps.map fun (x : Nat × Operand) => (x.1, ρ' x.2))))) := by
          simp only [execOp, hop]
        rw [hex]
        exact hout
      · simp [exOne, oNo] at hx
    · simp [exOne, oNo] at hx
  · rename_i hnc hnb
    exact base hx (fun c f hc => absurd hc (hnc c))

theorem draw_sound (hc : CallOk P call) {ops : Array Oper} {K : List V → Heap → Prop} : ∀ (l : List Oper) (i0 : Nat) (known : Known) (hist : List (Nat × HP)) (hist' : List (Nat × Heap)) (pend : List PdB) (pend' : List Pd) (e : ET) (env : List V) (hp : HP) (H : Heap),
    runD (noY call) m ((enum i0 l).map fun p => doX P ops p.1 p.2) hist pend e hp = some (e', hp') → EAbs e env → HAbs hp H → KnownOk known (dstAt ops) env → All2 HistAbs hist hist' → All2 (PendAbs P) pend pend' →
    (∀ env' H', EAbs e' env' → HAbs hp' H' → K env' H') → awpD P (dstAt ops) m (enum i0 l) known hist' pend' env H K
  | [], i0, known, hist, hist', pend, pend', e, env, hp, H, hx, he, hh, hk, h1, h2, hK => by
    cases hx
    exact hK env H he hh
  | o :: l, i0, known, hist, hist', pend, pend', e, env, hp, H, hx, he, hh, hk, h1, h2, hK => by
    simp only [enum, List.map_cons, runD] at hx
    simp only [enum, awpD]
    cases hg : gdX ops o.guard with
    | none =>
      have : doX P ops i0 o = ⟨i0, 2, ⟨o.dst, none, .op oNo⟩⟩ := by simp only [doX, hg]
      rw [this] at hx
      simp [gdOf, exOne, oNo] at hx
    | some g =>
      have hd : doX P ops i0 o = ⟨i0, kindOf P o.op, ⟨o.dst, g, match kindOf P o.op with | 0 => .op (compB P o.op) | 1 => .op (compB P o.op) | _ => ekD P o⟩⟩ := by simp only [doX, hg]
      rw [hd] at hx
      simp only at hx
      split at hx
      · rename_i hb
        refine lGd_intro hk (gd_run hg he hb) (fun _ kn hkn => ?_) (fun h => by cases h)
        split at hx
        · rename_i hk0
          rw [hk0]
          simp only [hk0] at hx
          split at hx
          · rename_i v H1 hv
            obtain ⟨r1, r2, r3⟩ := compB_ok (P := P) he hh o.op _ _ hv
            refine ⟨r1, ?_⟩
            rw [r2]
            exact draw_sound hc l (i0 + 1) _ hist hist' pend pend' _ _ hp H hx (he.put o.dst v) hh hkn.put h1 h2 hK
          · cases hx
        · rename_i hk1
          rw [hk1]
          simp only [hk1] at hx
          split at hx
          · rename_i v H1 hv
            split at hx
            · rename_i hhist
              obtain ⟨r1, r2, r3⟩ := compB_ok (P := P) he hh o.op _ _ hv
              refine ⟨r1, ?_⟩
              rw [r2]
              refine hist_ok he h1 hhist ?_
              exact draw_sound hc l (i0 + 1) _ hist hist' _ _ _ _ hp H hx (he.put o.dst v) hh hkn.put h1 (.cons ⟨rfl, rfl, he, rfl⟩ h2) hK
            · cases hx
          · cases hx
        · rename_i hk0 hk1
          have hk2 : kindOf P o.op = 2 := by
            have h3 : kindOf P o.op ≤ 2 := kindOf_le (P := P) o.op
            have hk0' : ¬ kindOf P o.op = 0 := hk0
            have hk1' : ¬ kindOf P o.op = 1 := hk1
            exact Nat.le_antisymm h3 (by omega)
          rw [hk2]
          simp only [hk2] at hx
          split at hx
          · rename_i v H1 hv
            split at hx
            · rename_i hpd
              refine exD_sound hc hk2 he hh hv fun H' hH' => ?_
              refine pend_ok hH' (pend_filter h2) hpd ?_
              exact draw_sound hc l (i0 + 1) _ _ _ _ _ _ _ H1 H' hx (he.put o.dst v) hH' hkn.put (.cons ⟨rfl, hh⟩ h1) (pend_filter h2) hK
            · cases hx
          · cases hx
      · rename_i hb
        refine lGd_intro hk (gd_run hg he hb) (fun h => by cases h) (fun _ kn hkn => ?_)
        exact draw_sound hc l (i0 + 1) _ hist hist' pend pend' _ _ hp H hx (he.put o.dst (.tup [])) hh hkn.put h1 h2 hK
      · cases hx
end
end Go.Ab
namespace Go.Ab
variable [Env]

/-- A tree that holds a heap. -/
def HW (hp : HP) : Prop := ∃ H, HAbs hp H
def EW (e : ET) : Prop := ∃ env, EAbs e env

theorem HW.push {hp : HP} (h : HW hp) (o : Ob) : HW (hp.push o) := by
  obtain ⟨H, h⟩ := h
  exact ⟨_, h.push o⟩
theorem HW.set {hp : HP} (h : HW hp) {r : Nat} {x : Ob} (hg : hp.get r = some x) (o : Ob) : HW (hp.set r o) := by
  obtain ⟨H, h⟩ := h
  rw [h.get] at hg
  exact ⟨_, h.set hg⟩
theorem EW.put {e : ET} (h : EW e) (d : Option Nat) (v : V) : EW (putE e d v) := by
  obtain ⟨env, h⟩ := h
  exact ⟨_, h.put d v⟩

/-- What it does leaves a tree. -/
def WfE (f : Exec) : Prop := ∀ e hp v hp', EW e → HW hp → f e hp = some (v, hp') → HW hp'

theorem wf_no : WfE oNo := fun _ _ _ _ _ _ h => by cases h
theorem wf_or {f g : Exec} (hf : WfE f) (hg : WfE g) : WfE (oOr f g) := by
  intro e hp v hp' he hh h
  unfold oOr at h
  split at h
  · rename_i r hr; cases h; exact hf _ _ _ _ he hh hr
  · exact hg _ _ _ _ he hh h
theorem wf_comp (P : Program) (op : Op) : WfE (compB P op) := by
  rintro e hp v hp' ⟨env, he⟩ ⟨H, hh⟩ h
  obtain ⟨_, _, h3⟩ := compB_ok (P := P) he hh op v hp' h
  exact ⟨_, h3⟩

theorem HW.when {c : Bool} {x v : V} {H hp' : HP} (hH : HW H) (h : when c x H = some (v, hp')) : HW hp' := by
  obtain ⟨_, _, rfl⟩ := when_some h
  exact hH
theorem HW.some {x v : V} {H hp' : HP} (hH : HW H) (h : some (x, H) = some (v, hp')) : HW hp' := by
  cases h
  exact hH

theorem wf_eqRes {op : BinOp} {b : Bool} {hp hp' : HP} {v : V} (hw : HW hp) (h : eqRes op b hp = some (v, hp')) : HW hp' := by
  unfold eqRes at h
  repeat' (split at h)
  all_goals first
    | (cases h; done)
    | exact HW.when hw h
    | exact HW.when (HW.push hw _) h
    | exact HW.when (HW.set hw (by assumption) _) h
    | exact HW.some hw h
    | exact HW.some (HW.push hw _) h
    | exact HW.some (HW.set hw (by assumption) _) h
theorem wf_eqPtr {op : BinOp} {x y v : V} {hp hp' : HP} (hw : HW hp) (h : eqPtrB op x y hp = some (v, hp')) : HW hp' := by
  unfold eqPtrB eqRes at h
  repeat' (split at h)
  all_goals first
    | (cases h; done)
    | exact HW.when hw h
    | exact HW.when (HW.push hw _) h
    | exact HW.when (HW.set hw (by assumption) _) h
    | exact HW.some hw h
    | exact HW.some (HW.push hw _) h
    | exact HW.some (HW.set hw (by assumption) _) h
theorem wf_eqSl {op : BinOp} {x y v : V} {hp hp' : HP} (hw : HW hp) (h : eqSlB op x y hp = some (v, hp')) : HW hp' := by
  unfold eqSlB at h
  split at h
  · exact wf_eqRes hw h
  · cases h
theorem wf_eqFa {ks : List (TypeId × IntKind)} {op : BinOp} {x y v : V} {hp hp' : HP} (hw : HW hp) (h : eqFaB ks op x y hp = some (v, hp')) : HW hp' := by
  unfold eqFaB eqRes at h
  repeat' (split at h)
  all_goals first
    | (cases h; done)
    | exact HW.when hw h
    | exact HW.when (HW.push hw _) h
    | exact HW.when (HW.set hw (by assumption) _) h
    | exact HW.some hw h
    | exact HW.some (HW.push hw _) h
    | exact HW.some (HW.set hw (by assumption) _) h
theorem wf_copy {k : Nat} {x y v : V} {hp hp' : HP} (hw : HW hp) (h : copyB k x y hp = some (v, hp')) : HW hp' := by
  unfold copyB at h
  repeat' (split at h)
  all_goals first
    | (cases h; done)
    | exact HW.when hw h
    | exact HW.when (HW.push hw _) h
    | exact HW.when (HW.set hw (by assumption) _) h
    | exact HW.some hw h
    | exact HW.some (HW.push hw _) h
    | exact HW.some (HW.set hw (by assumption) _) h
theorem wf_clear {k : Nat} {z x v : V} {g : Bool} {hp hp' : HP} (hw : HW hp) (h : clearB k z x g hp = some (v, hp')) : HW hp' := by
  unfold clearB at h
  repeat' (split at h)
  all_goals first
    | (cases h; done)
    | exact HW.when hw h
    | exact HW.when (HW.push hw _) h
    | exact HW.when (HW.set hw (by assumption) _) h
    | exact HW.some hw h
    | exact HW.some (HW.push hw _) h
    | exact HW.some (HW.set hw (by assumption) _) h
theorem wf_delete {d : List TypeDesc × Bool} {m k v : V} {hp hp' : HP} (hw : HW hp) (h : deleteB d m k hp = some (v, hp')) : HW hp' := by
  unfold deleteB at h
  repeat' (split at h)
  all_goals first
    | (cases h; done)
    | exact HW.when hw h
    | exact HW.when (HW.push hw _) h
    | exact HW.when (HW.set hw (by assumption) _) h
    | exact HW.some hw h
    | exact HW.some (HW.push hw _) h
    | exact HW.some (HW.set hw (by assumption) _) h
theorem wf_sliceData {x v : V} {hp hp' : HP} (hw : HW hp) (h : sliceDataB x hp = some (v, hp')) : HW hp' := by
  unfold sliceDataB at h
  repeat' (split at h)
  all_goals first
    | (cases h; done)
    | exact HW.when hw h
    | exact HW.when (HW.push hw _) h
    | exact HW.when (HW.set hw (by assumption) _) h
    | exact HW.some hw h
    | exact HW.some (HW.push hw _) h
    | exact HW.some (HW.set hw (by assumption) _) h
theorem wf_unsafeString {t : TypeId} {x n v : V} {hp hp' : HP} (hw : HW hp) (h : unsafeStringB t x n hp = some (v, hp')) : HW hp' := by
  unfold unsafeStringB at h
  repeat' (split at h)
  all_goals first
    | (cases h; done)
    | exact HW.when hw h
    | exact HW.when (HW.push hw _) h
    | exact HW.when (HW.set hw (by assumption) _) h
    | exact HW.some hw h
    | exact HW.some (HW.push hw _) h
    | exact HW.some (HW.set hw (by assumption) _) h
theorem wf_unsafeOf {x v : V} {hp hp' : HP} (hw : HW hp) (h : unsafeOfB x hp = some (v, hp')) : HW hp' := by
  unfold unsafeOfB at h
  repeat' (split at h)
  all_goals first
    | (cases h; done)
    | exact HW.when hw h
    | exact HW.when (HW.push hw _) h
    | exact HW.when (HW.set hw (by assumption) _) h
    | exact HW.some hw h
    | exact HW.some (HW.push hw _) h
    | exact HW.some (HW.set hw (by assumption) _) h
theorem wf_unsafeTo {u k : Nat} {x v : V} {hp hp' : HP} (hw : HW hp) (h : unsafeToB u k x hp = some (v, hp')) : HW hp' := by
  unfold unsafeToB at h
  repeat' (split at h)
  all_goals first
    | (cases h; done)
    | exact HW.when hw h
    | exact HW.when (HW.push hw _) h
    | exact HW.when (HW.set hw (by assumption) _) h
    | exact HW.some hw h
    | exact HW.some (HW.push hw _) h
    | exact HW.some (HW.set hw (by assumption) _) h
theorem wf_assert {t : TypeId} {z x v : V} {ok : Bool} {hp hp' : HP} (hw : HW hp) (h : assertB t z ok x hp = some (v, hp')) : HW hp' := by
  unfold assertB at h
  split at h
  · split at h
    · cases h; exact hw
    · cases h
  · cases h
theorem wf_ext {k : Nat} {args : List V} {v : V} {hp hp' : HP} (hw : HW hp) (h : extB k args hp = some (v, hp')) : HW hp' := by
  unfold extB at h
  repeat' (split at h)
  all_goals first
    | (cases h; done)
    | exact HW.when hw h
    | exact HW.when (HW.push hw _) h
    | exact HW.when (HW.set hw (by assumption) _) h
    | exact HW.some hw h
    | exact HW.some (HW.push hw _) h
    | exact HW.some (HW.set hw (by assumption) _) h
theorem wf_appIn {t : TypeId} {k b : Nat} {s x v : V} {hp hp' : HP} (hw : HW hp) (h : appInB t k b s x hp = some (v, hp')) : HW hp' := by
  unfold appInB at h
  repeat' (split at h)
  all_goals first
    | (cases h; done)
    | exact HW.when hw h
    | exact HW.when (HW.push hw _) h
    | exact HW.when (HW.set hw (by assumption) _) h
    | exact HW.some hw h
    | exact HW.some (HW.push hw _) h
    | exact HW.some (HW.set hw (by assumption) _) h
theorem wf_grow {t : TypeId} {g : Bool} {k b : Nat} {z s x v : V} {hp hp' : HP} (hw : HW hp) (h : growB t g k b z s x hp = some (v, hp')) : HW hp' := by
  unfold growB at h
  repeat' (split at h)
  all_goals first
    | (cases h; done)
    | exact HW.when hw h
    | exact HW.when (HW.push hw _) h
    | exact HW.when (HW.set hw (by assumption) _) h
    | exact HW.some hw h
    | exact HW.some (HW.push hw _) h
    | exact HW.some (HW.set hw (by assumption) _) h
theorem wf_cap {x v : V} {hp hp' : HP} (hw : HW hp) (h : capB x hp = some (v, hp')) : HW hp' := by
  unfold capB at h
  repeat' (split at h)
  all_goals first
    | (cases h; done)
    | exact HW.when hw h
    | exact HW.when (HW.push hw _) h
    | exact HW.when (HW.set hw (by assumption) _) h
    | exact HW.some hw h
    | exact HW.some (HW.push hw _) h
    | exact HW.some (HW.set hw (by assumption) _) h
theorem wf_iaA {n k : Nat} {x i : X} : WfE (oIaA n k x i) := by
  intro e hp v hp' _ hw h
  unfold oIaA indexArrB at h
  repeat' (split at h)
  all_goals first
    | (cases h; done)
    | exact HW.when hw h
    | exact HW.when (HW.push hw _) h
    | exact HW.when (HW.set hw (by assumption) _) h
    | exact HW.some hw h
    | exact HW.some (HW.push hw _) h
    | exact HW.some (HW.set hw (by assumption) _) h
theorem wf_bs {t : TypeId} {g : Bool} {k n : Nat} {ps : List (Nat × X)} : WfE (oBs t g k n ps) := by
  intro e hp v hp' _ hw h
  unfold oBs buildOwnB at h
  repeat' (split at h)
  all_goals first
    | (cases h; done)
    | exact HW.when hw h
    | exact HW.when (HW.push hw _) h
    | exact HW.when (HW.set hw (by assumption) _) h
    | exact HW.some hw h
    | exact HW.some (HW.push hw _) h
    | exact HW.some (HW.set hw (by assumption) _) h
theorem wf_mu {d : List TypeDesc × Bool} {m k x : X} : WfE (oMu d m k x) := by
  intro e hp v hp' _ hw h
  unfold oMu mapUpdateB at h
  repeat' (split at h)
  all_goals first
    | (cases h; done)
    | exact HW.when hw h
    | exact HW.when (HW.push hw _) h
    | exact HW.when (HW.set hw (by assumption) _) h
    | exact HW.some hw h
    | exact HW.some (HW.push hw _) h
    | exact HW.some (HW.set hw (by assumption) _) h

theorem wf_lp {z : V} {m k : X} {ok : Bool} : WfE (oLp z m k ok) := by
  intro e hp v hp' _ hw h
  unfold oLp lookupPB at h
  split at h
  · split at h
    · split at h
      · simp only [Option.some.injEq, Prod.mk.injEq] at h
        obtain ⟨_, rfl⟩ := h
        exact hw
      · cases h
    · cases h
  · cases h
theorem wf_up {m k x : X} : WfE (oUp m k x) := by
  intro e hp v hp' _ hw h
  unfold oUp insertPB at h
  repeat' (split at h)
  all_goals first
    | (cases h; done)
    | exact HW.when hw h
    | exact HW.when (HW.push hw _) h
    | exact HW.when (HW.set hw (by assumption) _) h
    | exact HW.some hw h
    | exact HW.some (HW.push hw _) h
    | exact HW.some (HW.set hw (by assumption) _) h

theorem compX_wf (P : Program) (op : Op) : WfE (compX P op) := by
  have base := wf_comp P op
  cases op <;> simp only [compX] <;> try exact base
  all_goals
    repeat' split
  all_goals first
    | exact base
    | exact wf_no
    | exact wf_iaA
    | exact wf_bs
    | exact wf_mu
    | exact wf_lp
    | exact wf_up
    | exact wf_or base fun _ _ _ _ _ hw h => wf_eqPtr hw h
    | exact wf_or base fun _ _ _ _ _ hw h => wf_eqFa hw h
    | exact wf_or base fun _ _ _ _ _ hw h => wf_appIn hw h
    | exact fun _ _ _ _ _ hw h => wf_eqSl hw h
    | exact fun _ _ _ _ _ hw h => wf_unsafeOf hw h
    | exact fun _ _ _ _ _ hw h => wf_unsafeTo hw h
    | exact fun _ _ _ _ _ hw h => wf_assert hw h
    | exact fun _ _ _ _ _ hw h => wf_copy hw h
    | exact fun _ _ _ _ _ hw h => wf_clear hw h
    | exact fun _ _ _ _ _ hw h => wf_delete hw h
    | exact fun _ _ _ _ _ hw h => wf_cap hw h
    | exact fun _ _ _ _ _ hw h => wf_sliceData hw h
    | exact fun _ _ _ _ _ hw h => wf_unsafeString hw h
    | exact fun _ _ _ _ _ hw h => wf_grow hw h

section
variable {P : Program} {e e' : ET} {hp hp' : HP} {v : V} {call : Call} {m : List Nat}

theorem one_wf (hc : CallOk P call) {o : Oper} (he : EW e) (hh : HW hp) (hx : exOne call e hp (ekX P o) = some (v, hp')) : HW hp' := by
  have hf : ∀ {f args}, call (.f f) args hp = some (v, hp') → HW hp' := by
    intro f args hx
    obtain ⟨H, hh⟩ := hh
    obtain ⟨H', hH, _⟩ := hc.f _ _ _ _ _ hx H hh
    exact ⟨H', hH⟩
  unfold ekX at hx
  repeat' split at hx
  all_goals simp only [exOne] at hx
  · exact hf hx
  · split at hx
    · exact hf hx
    · obtain ⟨H, hh⟩ := hh
      obtain ⟨H', hH, _⟩ := hc.y _ _ _ _ _ hx H hh
      exact ⟨H', hH⟩
    · cases hx
  · split at hx
    · exact hf hx
    · cases hx
  · exact compX_wf P _ _ _ _ _ he hh hx
  · exact compX_wf P _ _ _ _ _ he hh hx

theorem oneD_wf (hc : CallOk P call) {o : Oper} (he : EW e) (hh : HW hp) (hx : exOne (noY call) e hp (ekD P o) = some (v, hp')) : HW hp' := by
  have hf : ∀ {f args}, call (.f f) args hp = some (v, hp') → HW hp' := by
    intro f args hx
    obtain ⟨H, hh⟩ := hh
    obtain ⟨H', hH, _⟩ := hc.f _ _ _ _ _ hx H hh
    exact ⟨H', hH⟩
  unfold ekD at hx
  repeat' split at hx
  all_goals simp only [exOne, noY] at hx
  all_goals first
    | (cases hx; done)
    | exact hf hx
    | exact wf_comp P _ _ _ _ _ he hh hx
    | exact wf_sliceData hh hx
    | exact wf_unsafeString hh hx
    | exact wf_bs _ _ _ _ he hh hx
    | skip
  · split at hx
    · exact hf hx
    · cases hx
    · cases hx

theorem reg_wf (hc : CallOk P call) {ops : Array Oper} : ∀ (l : List Oper) (e : ET) (hp : HP), EW e → HW hp → runOps call (l.map (coX P ops)) e hp = some (e', hp') → EW e' ∧ HW hp'
  | [], e, hp, he, hh, h => by cases h; exact ⟨he, hh⟩
  | o :: l, e, hp, he, hh, h => by
    simp only [List.map_cons, runOps] at h
    split at h
    · split at h
      · rename_i v H1 hone
        have hH : HW H1 := by
          unfold coX at hone
          split at hone
          · exact one_wf hc he hh hone
          · cases hone
        exact reg_wf hc l _ _ (he.put _ _) hH h
      · cases h
    · exact reg_wf hc l _ _ (he.put _ _) hh h
    · cases h

theorem draw_wf (hc : CallOk P call) {ops : Array Oper} : ∀ (l : List (Nat × Oper)) (hist : List (Nat × HP)) (pend : List PdB) (e : ET) (hp : HP), EW e → HW hp → runD (noY call) m (l.map fun p => doX P ops p.1 p.2) hist pend e hp = some (e', hp') → EW e' ∧ HW hp'
  | [], hist, pend, e, hp, he, hh, h => by cases h; exact ⟨he, hh⟩
  | (i, o) :: l, hist, pend, e, hp, he, hh, h => by
    simp only [List.map_cons, runD] at h
    split at h
    · split at h
      · split at h
        · split at h
          · exact draw_wf hc l _ _ _ _ (he.put _ _) hh h
          · cases h
        · cases h
      · split at h
        · split at h
          · split at h
            · exact draw_wf hc l _ _ _ _ (he.put _ _) hh h
            · cases h
          · cases h
        · cases h
      · rename_i hk0 hk1
        split at h
        · rename_i v H1 hv
          have hH : HW H1 := by
            unfold doX at hv hk0 hk1
            split at hv
            · rename_i g hg
              simp only [hg] at hk0 hk1
              simp only at hv
              exact oneD_wf hc he hh hv
            · cases hv
          split at h
          · exact draw_wf hc l _ _ _ _ (he.put _ _) hH h
          · cases h
        · cases h
    · exact draw_wf hc l _ _ _ _ (he.put _ _) hh h
    · cases h
end
end Go.Ab
namespace Go.Ab
variable [Env]

/-- The loops over functions in a statement. -/
def rngs : Code → List (Array Tmp × Code × Code)
  | .rangeFunc _ ps x y => [(ps, x, y)]
  | .seq a b | .cond _ a b => rngs a ++ rngs b
  | .block _ c | .loop c | .scope c => rngs c
  | _ => []

/-- Statements, turned into what is evaluated. n: how many temporaries there are; key: where the loop over a function is to be found. -/
def ccX (P : Program) (n : Nat) (key : Option Nat) : Code → CC
  | .skip => .skip
  | .label _ => .skip
  | .region _ ops false => .reg (ops.toList.map (coX P ops))
  | .region _ ops true => match drawChk P (masks ops.toList []) ops.toList with
    | true => .drw (masks ops.toList []) ((enum 0 ops.toList).map fun p => doX P ops p.1 p.2)
    | false => .bad
  | .seq a b => .seq (ccX P n key a) (ccX P n key b)
  | .cond c a b => .cond (xOf c) (ccX P n key a) (ccX P n key b)
  | .block id c => .block id (ccX P n key c)
  | .loop c => .loop (ccX P n key c)
  | .rangeFunc f _ _ _ => match key with
    | some k => .range n (xOf f) k
    | none => .bad
  | .exit id => .exit id
  | .scope c => ccX P n key c
  | .ret => .ret
  | _ => .bad

def Eo.to : Eo → Exit
  | .normal => .normal
  | .exit id => .exit id
  | .ret => .ret

section
variable {P : Program} {γ γ' : List Loc} {F F' : Frz} {w w' : World} {H H' : Heap} {env : List V} {e e' : ET} {hp hp' : HP} {v : V} {a : Act} {ro : Option Nat} {lo n : Nat} {call : Call} {key : Option Nat} {rd : Bool}

/-- Where a statement leaves both machines. -/
def Rch (lo n : Nat) (γ : List Loc) (F : Frz) (w : World) (o : Eo) (e : ET) (hp : HP) (ex : Exit) (a' : Act) (w' : World) : Prop :=
  ex = o.to ∧ ∃ γ' F', Nx γ F w γ' F' w' ∧ StB lo n γ' F' e hp a' w'

theorem Rch.trans {γ1 : List Loc} {F1 : Frz} {w1 : World} {o : Eo} {ex : Exit} {a' : Act} (hn : Nx γ F w γ1 F1 w1) (h : Rch lo n γ1 F1 w1 o e hp ex a' w') : Rch lo n γ F w o e hp ex a' w' := by
  obtain ⟨h1, γ', F', h2, h3⟩ := h
  exact ⟨h1, γ', F', hn.trans h2, h3⟩

/-- The record of a loop over a function becomes another one. -/
theorem loop_upd (hrel : Rel γ F w H) {r b : Nat} {k : Nat} {le : List V} {st st' : LoopState} {pd pd' : Option (Option Nat)} (hr : γ[r]? = some (.loop b)) (ho : H[r]? = some (.loop k le st pd)) :
    ∃ rec : Loop, Env.codeOf k = some (rec.params, rec.assign, rec.body) ∧ w.heap[b]? = some (.loop rec) ∧ rec.state = st ∧ rec.pending = pd.map jumpOf ∧ RepL γ F le rec.tmps.toList ∧
      Rel γ F (w.putObj b (.loop { rec with state := st', pending := pd'.map jumpOf })) (H.set r (.loop k le st' pd')) ∧ Nx γ F w γ F (w.putObj b (.loop { rec with state := st', pending := pd'.map jumpOf })) := by
  have hro := hrel.obj r _ _ hr ho
  simp only [RelO] at hro
  obtain ⟨rec, h1, h2, h3, h4, h5⟩ := hro
  have hlt := agetElem?_lt h2
  have hset : γ.set r (.loop b) = γ := set_getElem?_of hr
  have hsame : ∀ c, c < w.heap.size → (Loc.loop b).block ≠ some c → (w.putObj b (.loop { rec with state := st', pending := pd'.map jumpOf })).heap[c]? = w.heap[c]? := by
    intro c _ hne
    exact World.putObj_heap_other (by rintro rfl; exact hne rfl)
  have hblk : ∀ c, (Loc.loop b).block = some c → ((Loc.loop b).block = some c ∨ w.heap.size ≤ c) ∧ c < (w.putObj b (.loop { rec with state := st', pending := pd'.map jumpOf })).heap.size := by
    intro c hc
    refine ⟨.inl hc, ?_⟩
    cases hc
    simpa using hlt
  refine ⟨rec, h1, h2, h3, h4, h5, ?_, ?_⟩
  · have := Rel.upd hrel hr (l' := .loop b) (o' := .loop k le st' pd') (w' := w.putObj b (.loop { rec with state := st', pending := pd'.map jumpOf })) (LocLe.refl _) (by simp) hsame hblk (by
      rw [hset]
      exact ⟨{ rec with state := st', pending := pd'.map jumpOf }, h1, World.putObj_heap_same hlt, rfl, rfl, h5⟩)
    rwa [hset] at this
  · have := Nx.upd hrel hr (l' := .loop b) (w' := w.putObj b (.loop { rec with state := st', pending := pd'.map jumpOf })) (LocLe.refl _) (by simp) hsame hblk rfl rfl rfl
    rwa [hset] at this

theorem loop_loc (hrel : Rel γ F w H) {r b : Nat} {o : Ob} (hn : Ext γ' γ) (hr : γ'[r]? = some (.loop b)) (ho : H[r]? = some o) (hne : o ≠ .dead) : γ[r]? = some (.loop b) := by
  obtain ⟨l, h1, h2⟩ := hn.all r _ hr
  have := hrel.obj r _ _ h1 ho
  cases l <;> simp only [LocLe] at h2
  · simp_all
  · simp_all
  · simp_all
  · simp_all
  · simp_all
  · cases o <;> simp only [RelO] at this
    exact absurd rfl hne

theorem enum_snd : ∀ (l : List Oper) (i : Nat), (enum i l).map (·.2) = l
  | [], i => rfl
  | o :: l, i => by simp [enum, enum_snd l (i + 1)]

theorem enum_map {α : Type} (f : Oper → α) (l : List Oper) (i : Nat) : (enum i l).map (fun p => f p.2) = l.map f := by
  have := congrArg (List.map f) (enum_snd l i)
  simpa [List.map_map, Function.comp_def] using this

/-- A statement leaves a tree. -/
theorem run_wf (hc : CallOk P call) : ∀ (fuel : Nat) (c : Code) (e : ET) (hp : HP) (o : Eo) (e' : ET) (hp' : HP), runC call rd fuel (ccX P n key c) e hp = some (o, e', hp') → EW e → HW hp → EW e' ∧ HW hp' := by
  intro fuel
  induction fuel with
  | zero => intro c e hp o e' hp' h; simp [runC] at h
  | succ fuel ih =>
    intro c
    induction c with
    | skip => intro e hp o e' hp' h he hh; simp only [ccX, runC] at h; cases h; exact ⟨he, hh⟩
    | label l => intro e hp o e' hp' h he hh; simp only [ccX, runC] at h; cases h; exact ⟨he, hh⟩
    | region id ops draw =>
      intro e hp o e' hp' h he hh
      cases draw with
      | false =>
        simp only [ccX, runC] at h
        split at h
        · rename_i e1 H1 hr; cases h; exact reg_wf hc _ _ _ he hh hr
        · cases h
      | true =>
        simp only [ccX] at h
        split at h
        · simp only [runC] at h
          split at h
          · rename_i e1 H1 hr; cases h; exact draw_wf hc _ _ _ _ _ he hh hr
          · cases h
        · simp [runC] at h
    | seq a b iha ihb =>
      intro e hp o e' hp' h he hh
      simp only [ccX, runC] at h
      split at h
      · rename_i e1 H1 hr
        obtain ⟨h1, h2⟩ := ih a _ _ _ _ _ hr he hh
        exact ih b _ _ _ _ _ h h1 h2
      · exact ih a _ _ _ _ _ h he hh
    | cond c a b iha ihb =>
      intro e hp o e' hp' h he hh
      simp only [ccX, runC] at h
      split at h
      · exact ih a _ _ _ _ _ h he hh
      · exact ih b _ _ _ _ _ h he hh
      · cases h
    | block id c ihc =>
      intro e hp o e' hp' h he hh
      simp only [ccX, runC] at h
      split at h
      · rename_i i e1 H1 hr
        split at h <;> (cases h; exact ih c _ _ _ _ _ hr he hh)
      · exact ih c _ _ _ _ _ h he hh
    | loop c ihc =>
      intro e hp o e' hp' h he hh
      simp only [ccX, runC] at h
      split at h
      · rename_i e1 H1 hr
        obtain ⟨h1, h2⟩ := ih c _ _ _ _ _ hr he hh
        exact ih (.loop c) _ _ _ _ _ h h1 h2
      · exact ih c _ _ _ _ _ h he hh
    | rangeFunc f ps x y ihx ihy =>
      intro e hp o e' hp' h he hh
      simp only [ccX] at h
      split at h
      · simp only [runC] at h
        split at h
        · cases h
        · split at h
          · split at h
            · rename_i v2 H2 hcall
              have hH2 : HW H2 := by
                obtain ⟨H, hh1⟩ := hh.push _
                obtain ⟨H', hH, _⟩ := hc.g _ _ _ _ _ hcall H hh1
                exact ⟨H', hH⟩
              split at h
              · rename_i hg
                split at h
                · cases h
                · split at h <;> (cases h; exact ⟨he, hH2.set hg _⟩)
              · cases h
            · cases h
          · cases h
      · simp [runC] at h
    | exit id => intro e hp o e' hp' h he hh; simp only [ccX, runC] at h; cases h; exact ⟨he, hh⟩
    | scope c ihc => intro e hp o e' hp' h he hh; simp only [ccX] at h; exact ihc _ _ _ _ _ h he hh
    | goto l => intro e hp o e' hp' h he hh; simp [ccX, runC] at h
    | ret => intro e hp o e' hp' h he hh; simp only [ccX, runC] at h; cases h; exact ⟨he, hh⟩
    | refuse why => intro e hp o e' hp' h he hh; simp [ccX, runC] at h

/-- What nobody owns may be laid. -/
theorem Rel.alloc (h : Rel γ F w H) (o : Obj) : Rel γ F (w.alloc o) H ∧ Nx γ F w γ F (w.alloc o) := by
  have hs : (w.alloc o).heap.size = w.heap.size + 1 := World.size_alloc ..
  have hsame : ∀ b, b < w.heap.size → (w.alloc o).heap[b]? = w.heap[b]? := by
    intro b hb
    show (w.heap.push o)[b]? = _
    rw [Array.getElem?_push, if_neg (by omega)]
  refine ⟨⟨h.len, fun r l x h1 h2 => RelO.mono (Ext.refl γ) (FLe.refl F) (fun b hb => hsame b (h.own r l b h1 hb).2) (h.obj r l x h1 h2), h.inj, fun r l b h1 h2 => ⟨(h.own r l b h1 h2).1, by rw [hs]; have := (h.own r l b h1 h2).2; omega⟩,
    fun b x hb => ?_, h.glb⟩, ⟨Ext.refl γ, FLe.refl F, fun b hb _ => hsame b hb, fun _ ho _ => ho, by omega, rfl, rfl, rfl, fun _ _ _ => rfl⟩⟩
  have := h.frz b x hb
  rw [hsame b (agetElem?_lt this)]; exact this

theorem Marks.push {ds : List Deferred} (h : Marks lo γ F w ds) {D : Nat} (h0 : lo ≤ D) (h1 : w.heap[D]? = some (.deferred (some []))) (h2 : ¬ Owned γ D) (h3 : F D = none) (hnew : ∀ d ∈ ds, d.target ≠ .collected D) :
    Marks lo γ F w ({ target := .collected D, args := #[] } :: ds) := by
  obtain ⟨Ds, rfl, hnd, hD⟩ := h
  refine ⟨D :: Ds, rfl, List.nodup_cons.2 ⟨fun hm => hnew _ (List.mem_map.2 ⟨D, hm, rfl⟩) rfl, hnd⟩, fun E hE => ?_⟩
  rcases List.mem_cons.1 hE with rfl | hE
  · exact ⟨h0, h1, h2, h3⟩
  · exact hD E hE

theorem marks_old {ds : List Deferred} (h : Marks lo γ F w ds) {d : Deferred} (hd : d ∈ ds) : d.target ≠ .collected w.heap.size := by
  obtain ⟨Ds, rfl, hnd, hD⟩ := h
  obtain ⟨D, hm, rfl⟩ := List.mem_map.1 hd
  intro e
  cases e
  have := agetElem?_lt (hD _ hm).2.1
  omega
end
end Go.Ab
namespace Go.Ab
variable [Env]
section
variable {P : Program} {γ γ' : List Loc} {F F' : Frz} {w w' : World} {H H' : Heap} {env : List V} {e e' : ET} {hp hp' : HP} {v : V} {a : Act} {ro : Option Nat} {lo n : Nat} {call : Call} {key : Option Nat} {rd : Bool}

theorem list_env (he : EAbs e env) (hρ : RepEnv γ F env a.tmps) (hn : a.tmps.size = n) : RepL γ F (listE e n) a.tmps.toList := by
  have h1 : listE e n = env := by
    apply List.ext_getElem?
    intro i
    simp only [listE, List.getElem?_map, List.getElem?_range']
    rcases Nat.lt_or_ge i n with h | h
    · have hl : i < env.length := by rw [hρ.len, hn]; exact h
      rw [List.getElem?_range h, List.getElem?_eq_getElem hl]
      simp only [Option.map_some, he.get]
      simp [List.getD, hl]
    · rw [List.getElem?_eq_none (by simpa using h), List.getElem?_eq_none (by rw [hρ.len, hn]; exact h)]
      rfl
  rw [h1]
  have key : ∀ (xs : List V) (us : List Value), xs.length = us.length → (∀ t, t < xs.length → Rep γ F (xs.getD t (.tup [])) (us.getD t undef)) → RepL γ F xs us := by
    intro xs
    induction xs with
    | nil => intro us hl _; cases us with
      | nil => simp [RepL]
      | cons u us => simp at hl
    | cons x xs ih =>
      intro us hl h
      cases us with
      | nil => simp at hl
      | cons u us =>
        simp only [RepL]
        exact ⟨u, us, rfl, by simpa using h 0 (by simp), ih us (by simpa using hl) fun t ht => by simpa using h (t + 1) (by simpa using ht)⟩
  refine key _ _ (by simpa using hρ.len) fun t _ => ?_
  have := hρ.rep t
  have e2 : a.tmps.toList.getD t undef = a.tmps.getD t undef := by
    rw [Array.getD_eq_getD_getElem?, List.getD, Array.getElem?_toList]
  rw [e2]; exact this

/-- A loop over a function. -/
theorem range_sound (hc : CallOk P call) {f : Operand} {ps : Array Tmp} {x y : Code} {k : Nat} (hk : Env.codeOf k = some (ps, x, y)) {fuel : Nat} {o : Eo} (hx : runC call false (fuel + 1) (.range n (xOf f) k) e hp = some (o, e', hp')) (hst : StB lo n γ F e hp a w) :
    (Code.rangeFunc f ps x y).wpIn (fen none) 0 P (Rch lo n γ F w o e' hp') a w := by
  obtain ⟨⟨env, H, he, hh, hs⟩, hsz, hlo⟩ := hst
  simp only [runC] at hx
  split at hx
  · rename_i g c hg
    split at hx
    · rename_i v2 hp2 hcall
      obtain ⟨H2, hH2, hbody, hspec⟩ := hc.g _ _ _ _ _ hcall _ (hh.push _)
      -- the function's value
      have hfr := aeval_rep hs.env f
      rw [← xOf_ev he, hg] at hfr
      simp only [Rep] at hfr
      obtain ⟨as, cs, hev, r1, r2⟩ := hfr
      simp only [RepL] at r1
      -- the blocks
      obtain ⟨ra, na⟩ := Rel.alloc hs.rel (.deferred (some []))
      let W1 := w.alloc (.deferred (some []))
      have hsz1 : W1.heap.size = w.heap.size + 1 := World.size_alloc ..
      refine wpIn_rangeFunc fun fn _ => ?_
      let rec0 : Loop := { state := .ready, pending := none, fn, tmps := a.tmps, params := ps, assign := x, body := y, defers := w.heap.size }
      let W2 := W1.alloc (.loop rec0)
      have hsz2 : W2.heap.size = w.heap.size + 2 := by rw [show W2.heap.size = W1.heap.size + 1 from World.size_alloc .., hsz1]
      have hsame : ∀ b, b < W1.heap.size → W2.heap[b]? = W1.heap[b]? := by
        intro b hb
        show (W1.heap.push (.loop rec0))[b]? = _
        rw [Array.getElem?_push, if_neg (by omega)]
      have hnew : W2.heap[w.heap.size + 1]? = some (.loop rec0) := by
        rw [← hsz1]
        exact World.alloc_heap_new W1 (.loop rec0)
      have hdef : W2.heap[w.heap.size]? = some (.deferred (some [])) := by
        rw [hsame _ (by omega)]
        exact World.alloc_heap_new w _
      have hblk : ∀ b, (Loc.loop (w.heap.size + 1)).block = some b → W1.heap.size ≤ b ∧ b < W2.heap.size := by
        intro b hb; cases hb; omega
      have hExt : Ext γ (γ ++ [.loop (w.heap.size + 1)]) := Ext.append γ _
      have rp : Rel (γ ++ [.loop (w.heap.size + 1)]) F W2 (H ++ [.loop k (listE e n) .ready none]) := Rel.push ra (by show W1.heap.size ≤ _; omega) hsame hblk
        ⟨rec0, hk, hnew, rfl, rfl, RepL.mono hExt (FLe.refl F) _ _ (list_env he hs.env hsz)⟩
      have np : Nx γ F w (γ ++ [.loop (w.heap.size + 1)]) F W2 := na.trans (Nx.push ra (by show W1.heap.size ≤ _; omega) hsame hblk rfl rfl rfl)
      have hlen : hp.n = γ.length := by rw [hh.n, hs.rel.len]
      have hat : (γ ++ [Loc.loop (w.heap.size + 1)])[hp.n]? = some (.loop (w.heap.size + 1)) := by rw [hlen]; simp
      have hargs : RepL (γ ++ [.loop (w.heap.size + 1)]) F (.yld hp.n :: c) (.func (.yield (w.heap.size + 1)) #[] #[] :: cs.toList) := by
        simp only [RepL]
        refine ⟨_, _, rfl, ?_, RepL.mono hExt (FLe.refl F) _ _ r2⟩
        simp only [Rep]
        exact ⟨_, hat, rfl⟩
      have hcf : (callFunc g (.func (.yield (w.heap.size + 1)) #[] #[] :: cs.toList).toArray).run P W2 = .ok (.enter g (.func (.yield (w.heap.size + 1)) #[] #[] :: cs.toList).toArray) W2 := by
        unfold hasBody at hbody
        simp only [callFunc, Sem.run_bind, run_program, Result.andThen_ok]
        cases hf : P.funcs[g]? with
        | none => rw [hf] at hbody; simp at hbody
        | some fn =>
          rw [hf] at hbody
          simp only [Bool.and_eq_true, Bool.not_eq_true'] at hbody
          have h2 : fn.body.isNone = false := by cases hbd : fn.body <;> simp_all
          simp [hbody.2, h2]
      have has : as = #[] := by
        apply Array.ext'
        simpa using r1
      subst has
      refine ⟨w.heap.size + 1, [{ target := .collected w.heap.size, args := #[] }], W2, { target := .fn (.func g) cs, args := #[.func (.yield (w.heap.size + 1)) #[] #[]] }, W2, g, _, W2, run_enterLoop_outer .., ?_, fun _ _ => trivial, ?_, fen_depth _ _, calls_fen.2 ((hspec _ _ _ _ rp hargs).mono ?_)⟩
      · simp only [resolve, Sem.run_bind, hev, Deferred.ofValue, Sem.run_pure]
        simp [Act.eval]
      · simp only [invoke]
        rw [← hcf]
        congr 2
        apply Array.ext'
        simp
      · rintro en w3 ⟨γ3, F3, u, rfl, n3, r3, hu⟩
        have ntot := np.trans n3
        -- the mark
        have hno : ¬ Owned (γ ++ [.loop (w.heap.size + 1)]) w.heap.size := by
          rintro ⟨r, l, hl, hb⟩
          rcases Nat.lt_or_ge r γ.length with hr | hr
          · rw [List.getElem?_append_left hr] at hl
            have := (hs.rel.own r l _ hl hb).2
            omega
          · rw [List.getElem?_append_right hr] at hl
            cases hq : r - γ.length with
            | zero => rw [hq] at hl; cases hl; simp [Loc.block] at hb
            | succ m => rw [hq] at hl; simp at hl
        have hD1 : w3.heap[w.heap.size]? = some (.deferred (some [])) := (n3.keep _ (by omega) hno).trans hdef
        have hD2 : ¬ Owned γ3 w.heap.size := fun ho => hno (n3.old _ ho (by omega))
        have hFn : F w.heap.size = none := by
          cases hF : F w.heap.size with
          | none => rfl
          | some q =>
            have := hs.rel.frz _ _ hF
            have := agetElem?_lt this
            omega
        have hD3 : F3 w.heap.size = none := (n3.fz _ (by omega) hno).trans hFn
        have hmk : Marks lo γ3 F3 w3 ({ target := .collected w.heap.size, args := #[] } :: a.defers) :=
          (hs.defers.mono ntot).push hlo hD1 hD2 hD3 fun d hd => marks_old hs.defers hd
        -- the record
        split at hx
        · rename_i key' env' st pend hget
          rw [hH2.get] at hget
          have hl3 := loop_loc r3 n3.ext hat hget (by simp)
          split at hx
          · cases hx
          · rename_i hbusy
            obtain ⟨rec, q1, q2, q3, q4, q5, q6, q7⟩ := loop_upd (st' := .exhausted) (pd' := pend) r3 hl3 hget
            have hH3 := hH2.set (r := hp.n) (o := .loop key' env' .exhausted pend) hget
            have hend : (Instr.endLoop (w.heap.size + 1)).run P w3 = .ok rec.pending (w3.putObj (w.heap.size + 1) (.loop { rec with state := .exhausted })) :=
              run_endLoop q2 (by rw [q3]; intro hh; exact hbusy hh)
            have hrec : { rec with state := .exhausted, pending := pend.map jumpOf } = { rec with state := LoopState.exhausted } := by rw [← q4]
            rw [hrec] at q6 q7
            have n7 := ntot.trans q7
            generalize hW : w3.putObj (w.heap.size + 1) (.loop { rec with state := .exhausted }) = W4 at *
            have fin : StB lo n γ3 F3 e (hp2.set hp.n (.loop key' env' .exhausted pend)) { a with defers := { target := .collected w.heap.size, args := #[] } :: a.defers } W4 :=
              ⟨⟨env, _, he, hH3, ⟨q6, hs.env.mono ntot.ext ntot.frz, hmk.mono q7⟩⟩, hsz, Nat.le_trans hlo n7.size⟩
            refine ⟨rec.pending, _, hend, ?_⟩
            rw [q4]
            split at hx
            · cases hx
              exact ⟨rfl, γ3, F3, n7, fin⟩
            · cases hx
              exact wpIn_ret ⟨rfl, γ3, F3, n7, fin⟩
            · cases hx
              exact wpIn_exit ⟨rfl, γ3, F3, n7, fin⟩
        · cases hx
    · cases hx
  · cases hx

/-- A statement. -/
theorem run_sound (hm : P.follows .mixedOrders = true) (hc : CallOk P call) (hro : rd = false → ro = none) : ∀ (fuel : Nat) (c : Code) (e : ET) (hp : HP) (o : Eo) (e' : ET) (hp' : HP), runC call rd fuel (ccX P n key c) e hp = some (o, e', hp') →
    (∀ k, key = some k → ∀ x ∈ rngs c, Env.codeOf k = some x) → ∀ (γ : List Loc) (F : Frz) (a : Act) (w : World), StB lo n γ F e hp a w → c.wpIn (fen ro) 0 P (Rch lo n γ F w o e' hp') a w := by
  intro fuel
  induction fuel using Nat.strongRecOn with
  | _ fuel ih =>
    cases fuel with
    | zero => intro c e hp o e' hp' h; simp [runC] at h
    | succ fuel =>
      intro c
      induction c with
      | skip =>
        intro e hp o e' hp' h hk γ F a w hst
        simp only [ccX, runC] at h
        cases h
        exact wpIn_skip ⟨rfl, γ, F, Nx.refl γ F w, hst⟩
      | label l =>
        intro e hp o e' hp' h hk γ F a w hst
        simp only [ccX, runC] at h
        cases h
        exact wpIn_label ⟨rfl, γ, F, Nx.refl γ F w, hst⟩
      | region id ops draw =>
        intro e hp o e' hp' h hk γ F a w hst
        cases draw with
        | false =>
          simp only [ccX, runC] at h
          split at h
          · rename_i e1 H1 hr
            cases h
            obtain ⟨h1, h2, h3⟩ := enum_spec ops.toList 0
            refine wpIn_region ?_
            rw [← enum_map (coX P ops) ops.toList 0] at hr
            have := reg_sound (ro := ro) (P := P) (ops := ops) hc (Q := Rch lo n γ F w .normal e' hp') (enum 0 ops.toList) _ _ γ F a w (fun p hp => by simpa using (h2 p hp).2) hr hst (fun γ' F' w' a' k1 k2 => ⟨rfl, γ', F', k1, k2⟩)
            rw [h1] at this
            simpa [List.range_eq_range'] using this
          · cases h
        | true =>
          simp only [ccX] at h
          split at h
          · rename_i hchk
            simp only [runC] at h
            split at h
            · rename_i e1 H1 hr
              cases h
              obtain ⟨⟨env, H, he, hh, hs⟩, hsz, hlo⟩ := hst
              refine draw_ok hm [(id, masks ops.toList [])] lo id ops env H (fun env' H' => EAbs e' env' ∧ HAbs hp' H') ?_ γ F a w _ hs ?_ ro
              · simp only [drawRule, List.lookup, beq_self_eq_true, hchk]
                exact draw_sound hc ops.toList 0 [] [] [] [] [] e env hp H hr he hh (by intro g b hm; cases hm) .nil .nil fun env' H' h1 h2 => ⟨h1, h2⟩
              · rintro env' H' γ' F' w' a' ⟨k1, k2⟩ k3 k4 k5
                exact ⟨rfl, γ', F', k3, ⟨env', H', k1, k2, k4⟩, k5.size.trans hsz, Nat.le_trans hlo k3.size⟩
            · cases h
          · simp [runC] at h
      | seq x y ihx ihy =>
        intro e hp o e' hp' h hk γ F a w hst
        have hkx : ∀ k, key = some k → ∀ z ∈ rngs x, Env.codeOf k = some z := fun k hh z hz => hk k hh z (by simp [rngs, hz])
        have hky : ∀ k, key = some k → ∀ z ∈ rngs y, Env.codeOf k = some z := fun k hh z hz => hk k hh z (by simp [rngs, hz])
        simp only [ccX, runC] at h
        refine wpIn_seq ?_
        split at h
        · rename_i e1 H1 hr
          refine wpIn_mono (ih fuel (by omega) x _ _ _ _ _ hr hkx γ F a w hst) ?_
          rintro ex a1 w1 ⟨rfl, γ1, F1, n1, s1⟩
          refine wpIn_mono (ih fuel (by omega) y _ _ _ _ _ h hky γ1 F1 a1 w1 s1) ?_
          intro ex a' w' hr
          exact hr.trans n1
        · rename_i r hne
          refine wpIn_mono (ih fuel (by omega) x _ _ _ _ _ h hkx γ F a w hst) ?_
          rintro ex a1 w1 ⟨rfl, hR⟩
          cases o with
          | normal => exact absurd h (hne _ _)
          | exit id => exact ⟨rfl, hR⟩
          | ret => exact ⟨rfl, hR⟩
      | cond c x y ihx ihy =>
        intro e hp o e' hp' h hk γ F a w hst
        have hkx : ∀ k, key = some k → ∀ z ∈ rngs x, Env.codeOf k = some z := fun k hh z hz => hk k hh z (by simp [rngs, hz])
        have hky : ∀ k, key = some k → ∀ z ∈ rngs y, Env.codeOf k = some z := fun k hh z hz => hk k hh z (by simp [rngs, hz])
        obtain ⟨env, H, he, hh, hs⟩ := hst.ex
        have hcv := aeval_rep hs.env c
        simp only [ccX, runC] at h
        split at h
        · rename_i hv
          rw [← xOf_ev he, hv] at hcv
          simp only [Rep] at hcv
          exact wpIn_cond_true hcv (ih fuel (by omega) x _ _ _ _ _ h hkx γ F a w hst)
        · rename_i hv
          rw [← xOf_ev he, hv] at hcv
          simp only [Rep] at hcv
          exact wpIn_cond_false hcv (ih fuel (by omega) y _ _ _ _ _ h hky γ F a w hst)
        · cases h
      | block id c ihc =>
        intro e hp o e' hp' h hk γ F a w hst
        simp only [ccX, runC] at h
        refine wpIn_block ?_
        split at h
        · rename_i i e1 H1 hr
          refine wpIn_mono (ih fuel (by omega) c _ _ _ _ _ hr hk γ F a w hst) ?_
          rintro ex a1 w1 ⟨rfl, hR⟩
          simp only [Eo.to, Exit.inBlock]
          split at h
          · rename_i hi
            have hi := nbeq_iff.1 hi
            cases h
            rw [if_pos hi]
            exact ⟨rfl, hR⟩
          · rename_i hi
            have hi := nbeq_false.1 hi
            cases h
            rw [if_neg hi]
            exact ⟨rfl, hR⟩
        · rename_i r hne
          refine wpIn_mono (ih fuel (by omega) c _ _ _ _ _ h hk γ F a w hst) ?_
          rintro ex a1 w1 ⟨rfl, hR⟩
          cases o with
          | normal => exact ⟨rfl, hR⟩
          | exit id => exact absurd h (hne _ _ _)
          | ret => exact ⟨rfl, hR⟩
      | loop c ihc =>
        intro e hp o e' hp' h hk γ F a w hst
        have key2 : ∀ j, j ≤ fuel + 1 → ∀ (e : ET) (hp : HP) (γ1 : List Loc) (F1 : Frz) (a1 : Act) (w1 : World), runC call rd j (.loop (ccX P n key c)) e hp = some (o, e', hp') → Nx γ F w γ1 F1 w1 → StB lo n γ1 F1 e hp a1 w1 →
            Code.roundsIn (fen ro) 0 P c (Rch lo n γ F w o e' hp') j a1 w1 := by
          intro j
          induction j with
          | zero => intro _ e hp γ1 F1 a1 w1 h; simp [runC] at h
          | succ j ihj =>
            intro hj e hp γ1 F1 a1 w1 h n1 s1
            simp only [runC] at h
            unfold Code.roundsIn
            split at h
            · rename_i e1 H1 hr
              refine wpIn_mono (ih j (by omega) c _ _ _ _ _ hr hk γ1 F1 a1 w1 s1) ?_
              rintro ex a2 w2 ⟨rfl, γ2, F2, n2, s2⟩
              exact ihj (by omega) e1 H1 γ2 F2 a2 w2 h (n1.trans n2) s2
            · rename_i r hne
              refine wpIn_mono (ih j (by omega) c _ _ _ _ _ h hk γ1 F1 a1 w1 s1) ?_
              rintro ex a2 w2 ⟨rfl, γ2, F2, n2, s2⟩
              cases o with
              | normal => exact absurd h (hne _ _)
              | exit id => exact ⟨rfl, γ2, F2, n1.trans n2, s2⟩
              | ret => exact ⟨rfl, γ2, F2, n1.trans n2, s2⟩
        exact wpIn_loop_rounds (fuel + 1) (key2 (fuel + 1) (Nat.le_refl _) e hp γ F a w h (Nx.refl γ F w) hst)
      | rangeFunc f ps x y ihx ihy =>
        intro e hp o e' hp' h hk γ F a w hst
        simp only [ccX] at h
        split at h
        · rename_i k hkk
          cases rd with
          | true => simp [runC] at h
          | false =>
            obtain rfl := hro rfl
            exact range_sound hc (hk _ rfl _ (by simp [rngs])) h hst
        · simp [runC] at h
      | exit id =>
        intro e hp o e' hp' h hk γ F a w hst
        simp only [ccX, runC] at h
        cases h
        exact wpIn_exit ⟨rfl, γ, F, Nx.refl γ F w, hst⟩
      | scope c ihc =>
        intro e hp o e' hp' h hk γ F a w hst
        simp only [ccX] at h
        refine wp_scope' (ihc _ _ _ _ _ h hk γ F a w hst) ?_
        rintro l a' w' ⟨hh, _⟩
        cases o <;> cases hh
      | goto l => intro e hp o e' hp' h; simp [ccX, runC] at h
      | ret =>
        intro e hp o e' hp' h hk γ F a w hst
        simp only [ccX, runC] at h
        cases h
        exact wpIn_ret ⟨rfl, γ, F, Nx.refl γ F w, hst⟩
      | refuse why => intro e hp o e' hp' h; simp [ccX, runC] at h
end
end Go.Ab
namespace Go.Ab
variable [Env]

def resX (P : Program) : List ResultVar → Option (List RV)
  | [] => some []
  | .tmp t :: rs => (resX P rs).map fun l => .t t :: l
  | .cell a t :: rs => match lay P t with
    | some (g, k) => (resX P rs).map fun l => .cell a g k :: l
    | none => none

/-- What a table says of a function is so. -/
def FnOk (P : Program) (f : FuncId) : FE → Prop
  | .ext k => ∃ fn, P.funcs[f]? = some fn ∧ fn.body = none ∧ fn.name = extName k ∧ Extern.findNext fn = none ∧
      ∃ s, Extern.find fn = some s ∧ s = (match k with | 0 => Extern.AbiNoEscape.same | 1 => Extern.BytealgIndexByte.indexByte | _ => Extern.MapsClone.clone)
  | .spec g => ∀ args hp v hp', g args hp = some (v, hp') → ∀ H, HAbs hp H → ∃ H', HAbs hp' H' ∧ CSpec P f args H v H'
  | .code m body res => ∃ fn c key, P.funcs[f]? = some fn ∧ fn.body = some c ∧ (fn.name == "runtime.NumGoroutine") = false ∧ fn.ntmps = m ∧ ccX P m key c = body ∧
      (∀ k, key = some k → ∀ x ∈ rngs c, Env.codeOf k = some x) ∧ resX P fn.results.toList = some res

structure TabOk (P : Program) (T : Tab) : Prop where
  fn : ∀ f fe, T.fn f = some fe → FnOk P f fe
  lp : ∀ k ps ca cb, T.lp k = some (ps, ca, cb) → ∃ x y, Env.codeOf k = some (ps.toArray, x, y) ∧ ca = ccX P 0 none x ∧ cb = ccX P 0 none y

theorem ccX_none (P : Program) (n m : Nat) : ∀ c : Code, ccX P n none c = ccX P m none c := by
  intro c
  induction c with
  | region id ops draw => cases draw <;> rfl
  | seq a b iha ihb => simp only [ccX, iha, ihb]
  | cond c a b iha ihb => simp only [ccX, iha, ihb]
  | block id c ih => simp only [ccX, ih]
  | loop c ih => simp only [ccX, ih]
  | scope c ih => simp only [ccX, ih]
  | _ => rfl

section
variable {P : Program} {γ γ' : List Loc} {F F' : Frz} {w w' : World} {H H' : Heap} {env : List V} {e e' : ET} {hp hp' : HP} {v : V} {a : Act} {ro : Option Nat} {lo n : Nat} {call : Call} {key : Option Nat} {rd : Bool} {T : Tab}

theorem resB_spec (he : EAbs e env) (hh : HAbs hp H) : ∀ (rs : List ResultVar) (res : List RV) (vs : List V), resX P rs = some res → resB e hp res = some vs → (∀ r ∈ rs, (resR P env H r).ok) ∧ rs.map (fun r => (resR P env H r).v) = vs
  | [], res, vs, h, hb => by
    cases h
    cases hb
    simp
  | .tmp t :: rs, res, vs, h, hb => by
    simp only [resX, Option.map_eq_some_iff] at h
    obtain ⟨l, h, rfl⟩ := h
    simp only [resB] at hb
    split at hb
    · rename_i vs1 hb1
      cases hb
      obtain ⟨h1, h2⟩ := resB_spec he hh rs l vs1 h hb1
      refine ⟨fun r hm => ?_, ?_⟩
      · rcases List.mem_cons.1 hm with rfl | hm
        · exact trivial
        · exact h1 r hm
      · rw [List.map_cons, h2]
        simp only [resR, he.get]
    · cases hb
  | .cell b t :: rs, res, vs, h, hb => by
    simp only [resX] at h
    split at h
    · rename_i g k hl
      simp only [Option.map_eq_some_iff] at h
      obtain ⟨l, h, rfl⟩ := h
      simp only [resB] at hb
      split at hb
      · rename_i v1 hp1 hv
        split at hb
        · rename_i vs1 hb1
          cases hb
          obtain ⟨h1, h2⟩ := resB_spec he hh rs l vs1 h hb1
          have hq := load_rb hh g k (e.get b) _ _ hv
          have hr : resR P env H (.cell b t) = loadR g k (e.get b) H := by simp only [resR, hl, he.get]
          refine ⟨fun r hm => ?_, ?_⟩
          · rcases List.mem_cons.1 hm with rfl | hm
            · rw [hr]; exact hq.1
            · exact h1 r hm
          · simp only [List.map_cons, h2, hr, hq.2.1]
        · cases hb
      · cases hb
    · cases h

theorem resOk_all : ∀ (rs : List ResultVar), (∀ r ∈ rs, (resR P env H r).ok) → resOk P env H rs
  | [], _ => trivial
  | [r], h => h r (by simp)
  | r :: r' :: rs, h => ⟨h r (by simp), resOk_all (r' :: rs) fun q hq => h q (by simp [hq])⟩

theorem fresh_abs (args : List V) (m : Nat) (h : args.length ≤ m) : EAbs (initE 0 args (ET.mk m m)) (args ++ List.replicate (m - args.length) (.tup [])) := by
  have := EAbs.init args 0 (EAbs.fresh m) (by simpa using h)
  simpa using this

/-- A function with a body. -/
theorem code_sound (hm : P.follows .mixedOrders = true) (hc : CallOk P call) {f : FuncId} {m : Nat} {body : CC} {res : List RV} (hf : FnOk P f (.code m body res)) {args : List V} (hx : codeB call m body res args hp = some (v, hp')) (hh : HAbs hp H) :
    ∃ H', HAbs hp' H' ∧ Spec P f args H v H' := by
  obtain ⟨fn, c, key, h1, h2, h3, rfl, rfl, h6, h7⟩ := hf
  unfold codeB at hx
  split at hx
  · rename_i hble
    have hle : args.length ≤ fn.ntmps := nble_iff.1 hble
    split at hx
    · cases hx
    · rename_i o e2 hp2 hne hr
      have hab := fresh_abs args fn.ntmps hle
      obtain ⟨_, H', hH'⟩ := run_wf hc _ _ _ _ _ _ _ hr ⟨_, hab⟩ ⟨H, hh⟩
      have key2 : ∀ vs, resB e2 hp2 res = some vs → v = tupV vs → hp' = hp2 → ∃ H', HAbs hp' H' ∧ Spec P f args H v H' := by
        rintro vs hvs rfl rfl
        refine ⟨H', hH', by simp [hasBody, h1, h2, h3], aspec_of_wp h1 h2 fun γ F w a hst _ => ?_⟩
        refine wpIn_mono (run_sound (lo := w.heap.size) (n := fn.ntmps) (ro := none) hm hc (fun _ => rfl) _ c _ _ _ _ _ hr h6 γ F a w ⟨⟨_, H, hab, hh, hst⟩, ?_, Nat.le_refl _⟩) ?_
        · rw [← hst.env.len]; simp; omega
        · rintro ex a' w' ⟨rfl, γ', F', n1, ⟨env2, H2, he2, hh2, s2⟩, _, _⟩
          obtain rfl := hh2.uniq hH'
          obtain ⟨k1, k2⟩ := resB_spec (P := P) he2 hh2 _ _ _ h7 hvs
          have hok := resOk_all _ k1
          refine ⟨?_, γ', F', γ', H2, n1, s2.defers, s2.rel, fun w'' r1 r2 => ?_⟩
          · cases o with
            | normal => exact .inl rfl
            | ret => exact .inr rfl
            | exit id => exact (hne id rfl).elim
          · obtain ⟨u, hu, hr⟩ := results_sound (lo := 0) (a := { a' with defers := [] }) ⟨r1, s2.env, Marks.nil _ _ _ _⟩ hok
            rw [k2] at hr
            exact ⟨u, hu, r2, r1, hr⟩
      split at hx
      · rename_i v1 hb
        cases hx
        exact key2 _ hb rfl rfl
      · rename_i vs hnv hb
        cases hx
        refine key2 _ hb ?_ rfl
        unfold tupV
        split
        · rename_i v1; exact (hnv v1 rfl).elim
        · rfl
      · cases hx
    · cases hx
  · cases hx

theorem putEs_abs : ∀ (ps : List Tmp) (args : List V) (us : List Value) (e : ET) (env : List V) (tm : Array Value), EAbs e env → RepEnv γ F env tm → RepL γ F args us →
    ∃ env', EAbs (putEs ps args e) env' ∧ RepEnv γ F env' ((ps.zip us).foldl (fun tmps (t, a) => tmps.setIfInBounds t a) tm)
  | [], args, us, e, env, tm, he, hr, ha => ⟨env, by simpa [putEs] using he, by simpa using hr⟩
  | p :: ps, [], us, e, env, tm, he, hr, ha => by
    simp only [RepL] at ha
    subst ha
    exact ⟨env, by simpa [putEs] using he, by simpa using hr⟩
  | p :: ps, x :: args, us, e, env, tm, he, hr, ha => by
    simp only [RepL] at ha
    obtain ⟨u, ws, rfl, h1, h2⟩ := ha
    simp only [putEs, List.zip_cons_cons, List.foldl_cons]
    exact putEs_abs ps args ws _ _ _ (he.put (some p) x) (hr.set h1) h2

theorem putEs_wf : ∀ (ps : List Tmp) (args : List V) (e : ET), EW e → EW (putEs ps args e)
  | [], args, e, he => by simpa [putEs] using he
  | p :: ps, [], e, he => by simpa [putEs] using he
  | p :: ps, x :: args, e, he => by
    simp only [putEs]
    exact putEs_wf ps args _ (he.put (some p) x)

theorem RepEnv.of_list (hrel : Rel γ F w H) {tm : Array Value} (h : RepL γ F env tm.toList) : RepEnv γ F env tm := by
  refine ⟨by rw [← RepL.length h]; simp, fun t => ?_, hrel.glb⟩
  have key : ∀ (xs : List V) (us : List Value), RepL γ F xs us → ∀ t, Rep γ F (xs.getD t (.tup [])) (us.getD t undef) := by
    intro xs
    induction xs with
    | nil => intro us h t; simp only [RepL] at h; subst h; simp only [List.getD_nil]; exact rep_undef
    | cons x xs ih =>
      intro us h t
      simp only [RepL] at h
      obtain ⟨u, ws, rfl, h1, h2⟩ := h
      cases t with
      | zero => simpa using h1
      | succ t => simpa using ih ws h2 t
  have e2 : tm.toList.getD t undef = tm.getD t undef := by
    rw [Array.getD_eq_getD_getElem?, List.getD, Array.getElem?_toList]
  rw [← e2]; exact key _ _ h t

theorem endB_wf {r : Nat} {o : Eo} (hw : HW hp) (h : endB r o hp = some (v, hp')) : HW hp' := by
  unfold endB at h
  split at h
  · rename_i hg
    split at h <;> (cases h; exact hw.set hg _)
  · cases h

/-- A round. -/
theorem round_sound (hm : P.follows .mixedOrders = true) (hc : CallOk P call) (hT : TabOk P T) {r : Nat} {args : List V} (hx : roundB call T r args hp = some (v, hp')) (hh : HAbs hp H) : ∃ H', HAbs hp' H' ∧ YSpec P r args H v H' := by
  unfold roundB at hx
  split at hx
  · rename_i k lenv hg
    split at hx
    · rename_i ps ca cb hlp
      obtain ⟨x, y, hcode, rfl, rfl⟩ := hT.lp _ _ _ _ hlp
      split at hx
      · rename_i hlen
        have hlen := nbeq_iff.1 hlen
        split at hx
        · rename_i e1 H1 hr1
          split at hx
          · rename_i k1 lenv1 hg1
            split at hx
            · rename_i o e2 H2 hr2
              have hab := fresh_abs lenv lenv.length (Nat.le_refl _)
              simp only [Nat.sub_self, List.replicate_zero, List.append_nil] at hab
              obtain ⟨we1, wh1⟩ := run_wf hc _ _ _ _ _ _ _ hr1 (putEs_wf ps args _ ⟨_, hab⟩) ⟨H, hh⟩
              obtain ⟨we2, wh2⟩ := run_wf hc _ _ _ _ _ _ _ hr2 we1 (wh1.set hg1 _)
              obtain ⟨H', hH'⟩ := endB_wf wh2 hx
              refine ⟨H', hH', ?_⟩
              intro γ F w us b hrel hargs hr
              have hg0 := hg
              rw [hh.get] at hg0
              have hro := hrel.obj r _ _ hr hg0
              simp only [RelO] at hro
              obtain ⟨rec, q1, q2, q3, q4, q5⟩ := hro
              rw [hcode] at q1
              simp only [Option.some.injEq, Prod.mk.injEq] at q1
              obtain ⟨q1a, q1b, q1c⟩ := q1
              have hul := RepL.length hargs
              have hy := run_yield (P := P) (args := us.toArray) q2 (by rw [← q1a]; simp; omega)
              refine ⟨_, _, _, _, hy, roundIn_of_wpIn trivial ?_⟩
              obtain ⟨env1, a1, a2⟩ := putEs_abs ps args us _ _ _ hab (RepEnv.of_list hrel q5) hargs
              have htm : (rec.params.zip us.toArray).foldl (fun tmps (t, a) => tmps.setIfInBounds t a) rec.tmps = (ps.zip us).foldl (fun tmps (t, a) => tmps.setIfInBounds t a) rec.tmps := by
                rw [← q1a]
                simp
              rw [htm, ← q1b, ← q1c]
              generalize (ps.zip us).foldl (fun tmps (t, a) => tmps.setIfInBounds t a) rec.tmps = tm at a2 ⊢
              rw [ccX_none P 0 tm.size] at hr1 hr2
              have S0 : StB w.heap.size tm.size γ F (putEs ps args (initE 0 lenv (ET.mk lenv.length lenv.length))) hp { tmps := tm, defers := [] } w := ⟨⟨env1, H, a1, hh, ⟨hrel, a2, Marks.nil _ _ _ _⟩⟩, rfl, Nat.le_refl _⟩
              have base := run_sound (rd := true) (ro := some b) hm hc (fun h => by cases h) _ x _ _ _ _ _ hr1 (fun k h => by cases h) γ F _ w S0
              refine wpIn_mono (show x.wpIn ((fen none).inRound b) 0 P _ _ w from base) ?_
              rintro ex a' w1 ⟨rfl, γ1, F1, n1, ⟨env2, Hh1, f1, f2, f3⟩, f4, f5⟩
              have hg1' := hg1
              rw [f2.get] at hg1'
              have hl1 := loop_loc f3.rel n1.ext hr hg1' (by simp)
              obtain ⟨rec1, p1, p2, p3, p4, p5, p6, p7⟩ := loop_upd (st' := .busy) (pd' := none) f3.rel hl1 hg1'
              have hbr := run_beginRound (P := P) p2 p3
              have hrec : { rec1 with state := LoopState.busy, pending := Option.map jumpOf none } = { rec1 with state := LoopState.busy } := by
                rw [show Option.map jumpOf none = rec1.pending from p4.symm]
              rw [hrec] at p6 p7
              refine ⟨_, hbr, ?_⟩
              have S1 : StB w.heap.size tm.size γ1 F1 e1 (H1.set r (.loop k1 lenv1 .busy none)) a' (w1.putObj b (.loop { rec1 with state := .busy })) :=
                ⟨⟨env2, _, f1, f2.set hg1', ⟨p6, f3.env, f3.defers.mono p7⟩⟩, f4, Nat.le_trans f5 p7.size⟩
              have base2 := run_sound (rd := true) (ro := some b) hm hc (fun h => by cases h) _ y _ _ _ _ _ hr2 (fun k h => by cases h) γ1 F1 _ _ S1
              refine wpIn_mono (show y.wpIn ((fen none).inRound b) 0 P _ _ _ from base2) ?_
              rintro ex a2 w2 ⟨rfl, γ2, F2, n2, ⟨env3, Hh2, g1, g2, g3⟩, g4, g5⟩
              have n12 := (n1.trans p7).trans n2
              unfold endB at hx
              split at hx
              · rename_i k2 lenv2 hg2
                have hg2' := hg2
                rw [g2.get] at hg2'
                have hl2 := loop_loc g3.rel n12.ext hr hg2' (by simp)
                cases o with
                | normal =>
                  simp only [Option.some.injEq, Prod.mk.injEq] at hx
                  obtain ⟨rfl, rfl⟩ := hx
                  obtain ⟨rec2, t1, t2, t3, t4, t5, t6, t7⟩ := loop_upd (st' := .ready) (pd' := none) g3.rel hl2 hg2'
                  obtain rfl := (g2.set hg2').uniq hH'
                  exact ⟨_, _, run_endRound none t2, γ2, F2, _, rfl, n12.trans t7, t6, by simp [Rep]⟩
                | ret =>
                  simp only [Option.some.injEq, Prod.mk.injEq] at hx
                  obtain ⟨rfl, rfl⟩ := hx
                  obtain ⟨rec2, t1, t2, t3, t4, t5, t6, t7⟩ := loop_upd (st' := .done) (pd' := some none) g3.rel hl2 hg2'
                  obtain rfl := (g2.set hg2').uniq hH'
                  exact ⟨_, _, run_endRound (some .ret) t2, γ2, F2, _, rfl, n12.trans t7, t6, by simp [Rep]⟩
                | exit id =>
                  simp only [Option.some.injEq, Prod.mk.injEq] at hx
                  obtain ⟨rfl, rfl⟩ := hx
                  obtain ⟨rec2, t1, t2, t3, t4, t5, t6, t7⟩ := loop_upd (st' := .done) (pd' := some (some id)) g3.rel hl2 hg2'
                  obtain rfl := (g2.set hg2').uniq hH'
                  exact ⟨_, _, run_endRound (some (.exit id)) t2, γ2, F2, _, rfl, n12.trans t7, t6, by simp [Rep]⟩
              · cases hx
            · cases hx
          · cases hx
        · cases hx
      · cases hx
    · cases hx
  · cases hx

/-- What is evaluated is what the machine does. -/
theorem exN_sound (hm : P.follows .mixedOrders = true) (hT : TabOk P T) : ∀ n, CallOk P (exN T n)
  | 0 => ⟨fun _ _ _ _ _ h => by simp [exN] at h, fun _ _ _ _ _ h => by simp [exN] at h, fun _ _ _ _ _ h => by simp [exN] at h⟩
  | n + 1 => by
    have ih := exN_sound hm hT n
    refine ⟨fun f args hp v hp' h H hh => ?_, fun f args hp v hp' h H hh => ?_, fun r args hp v hp' h H hh => ?_⟩
    · simp only [exN] at h
      split at h
      · rename_i k hk
        obtain ⟨fn, h1, h2, h3, h4, h5⟩ := hT.fn _ _ hk
        exact ext_out k h1 h2 h3 hh h4 (by
          obtain ⟨s, h5, h6⟩ := h5
          refine ⟨s, h5, ?_⟩
          rw [h6]
          rcases k with _ | _ | k <;> rfl) h
      · rename_i g hk
        exact hT.fn _ _ hk _ _ _ _ h H hh
      · rename_i m body res hk
        obtain ⟨H', h1, h2⟩ := code_sound hm ih (hT.fn _ _ hk) h hh
        exact ⟨H', h1, h2.c⟩
      · cases h
    · simp only [exN] at h
      split at h
      · rename_i m body res hk
        exact code_sound hm ih (hT.fn _ _ hk) h hh
      · cases h
    · simp only [exN] at h
      exact round_sound hm ih hT h hh
end
end Go.Ab
namespace Go.Ab

def beqM : List (V × V) → List (V × V) → Bool
  | [], [] => true
  | (a, b) :: l, (c, d) :: m => beqV a c && beqV b d && beqM l m
  | _, _ => false

def beqS : LoopState → LoopState → Bool
  | .ready, .ready => true
  | .busy, .busy => true
  | .done, .done => true
  | .exhausted, .exhausted => true
  | _, _ => false

def beqP : Option (Option Nat) → Option (Option Nat) → Bool
  | none, none => true
  | some none, some none => true
  | some (some a), some (some b) => Nat.beq a b
  | _, _ => false

/-- Are two objects one? -/
def beqOb : Ob → Ob → Bool
  | .cells t cs, .cells u ds => Nat.beq t u && beqL cs ds
  | .arr t k xs, .arr u j ys => Nat.beq t u && Nat.beq k j && beqL xs ys
  | .mp es, .mp fs => beqM es fs
  | .loop k e s p, .loop j f t q => Nat.beq k j && beqL e f && beqS s t && beqP p q
  | .dead, .dead => true
  | _, _ => false

def eqL (hp : HP) : Nat → List Ob → Bool
  | _, [] => true
  | i, o :: l => (match hp.get i with | some x => beqOb x o | none => false) && eqL hp (i + 1) l
def eqHP (hp : HP) (L : List Ob) : Bool := Nat.beq hp.n L.length && eqL hp 0 L

def ofL (L : List Ob) : HP := L.foldl HP.push ⟨.nil, 0⟩

def chkL (f : Nat → Option Nat) (hp : HP) : List Nat → List Ob → Bool
  | [], [] => true
  | k :: ks, o :: l => (match hp.get k with | some x => beqOb (renO f x) o | none => false) && chkL f hp ks l
  | _, _ => false

def incr : Nat → List Nat → Bool
  | _, [] => true
  | n, k :: ks => Nat.ble n k && incr (k + 1) ks

/-- A call's answer, if it is the call that is known. -/
def cutG (args0 : List V) (L0 : List Ob) (v : V) (L : List Ob) (args : List V) (hp : HP) : RB := match beqL args args0 && eqHP hp L0 with
  | true => some (v, ofL L)
  | false => none

/-- Is this what is answered? -/
def chkR (L0 : List Ob) (ks : List Nat) (v : V) (L : List Ob) : RB → Bool
  | some (u, hp) => Nat.ble L0.length hp.n && incr L0.length ks && beqV (ren (newIx L0.length ks) u) v && chkL (newIx L0.length ks) hp (List.range L0.length ++ ks) L
  | none => false

variable [Env]
section
variable {P : Program} {γ γ' : List Loc} {F F' : Frz} {w w' : World} {H H' : Heap} {hp hp' : HP} {v : V} {call : Call}

theorem beqM_eq : ∀ (l m : List (V × V)), beqM l m = true → l = m
  | [], [], _ => rfl
  | (a, b) :: l, (c, d) :: m, h => by
    simp only [beqM, Bool.and_eq_true] at h
    rw [beqV_eq _ _ h.1.1, beqV_eq _ _ h.1.2, beqM_eq l m h.2]
  | [], _ :: _, h => by simp [beqM] at h
  | _ :: _, [], h => by simp [beqM] at h

theorem beqS_eq (a b : LoopState) (h : beqS a b = true) : a = b := by
  cases a <;> cases b <;> first | rfl | cases h

theorem beqP_eq (a b : Option (Option Nat)) (h : beqP a b = true) : a = b := by
  unfold beqP at h
  split at h
  · rfl
  · rfl
  · rw [nbeq_iff.1 h]
  · cases h

theorem beqOb_eq (x y : Ob) (h : beqOb x y = true) : x = y := by
  unfold beqOb at h
  split at h
  · simp only [Bool.and_eq_true, nbeq_iff] at h
    obtain ⟨rfl, h⟩ := h
    rw [beqL_eq _ _ h]
  · simp only [Bool.and_eq_true, nbeq_iff] at h
    obtain ⟨⟨rfl, rfl⟩, h⟩ := h
    rw [beqL_eq _ _ h]
  · rw [beqM_eq _ _ h]
  · simp only [Bool.and_eq_true, nbeq_iff] at h
    obtain ⟨⟨⟨rfl, h1⟩, h2⟩, h3⟩ := h
    rw [beqL_eq _ _ h1, beqS_eq _ _ h2, beqP_eq _ _ h3]
  · rfl
  · cases h

theorem eqL_spec (hh : HAbs hp H) : ∀ (L : List Ob) (i : Nat), eqL hp i L = true → i + L.length = H.length → H.drop i = L
  | [], i, _, hl => by
    apply List.drop_eq_nil_of_le
    simp at hl; omega
  | o :: L, i, h, hl => by
    simp only [eqL, Bool.and_eq_true] at h
    obtain ⟨h1, h2⟩ := h
    split at h1
    · rename_i x hx
      rw [hh.get] at hx
      have := eqL_spec hh L (i + 1) h2 (by simp at hl; omega)
      have hlt := getElem?_lt hx
      rw [List.drop_eq_getElem_cons hlt, this]
      rw [List.getElem?_eq_getElem hlt] at hx
      cases hx
      rw [beqOb_eq _ _ h1]
    · cases h1

theorem eqHP_spec {L : List Ob} (hh : HAbs hp H) (h : eqHP hp L = true) : H = L := by
  simp only [eqHP, Bool.and_eq_true, nbeq_iff] at h
  have := eqL_spec hh L 0 h.2 (by rw [← hh.n, h.1]; simp)
  simpa using this

theorem ofL_abs (L : List Ob) : HAbs (ofL L) L := by
  have key : ∀ (L : List Ob) (hp : HP) (H : Heap), HAbs hp H → HAbs (L.foldl HP.push hp) (H ++ L) := by
    intro L
    induction L with
    | nil => intro hp H h; simpa using h
    | cons o L ih => intro hp H h; simpa using ih _ _ (h.push o)
  have h0 : HAbs ⟨.nil, 0⟩ [] := ⟨rfl, fun r => by simp [HP.get, HT.get]⟩
  simpa [ofL] using key L _ _ h0

theorem chkL_spec (hh : HAbs hp H) {f : Nat → Option Nat} : ∀ (ks : List Nat) (L : List Ob), chkL f hp ks L = true → ks.map (fun k => renO f (H.getD k .dead)) = L ∧ ∀ k ∈ ks, k < H.length
  | [], [], _ => ⟨rfl, by simp⟩
  | k :: ks, o :: L, h => by
    simp only [chkL, Bool.and_eq_true] at h
    obtain ⟨h1, h2⟩ := h
    split at h1
    · rename_i x hx
      rw [hh.get] at hx
      obtain ⟨q1, q2⟩ := chkL_spec hh ks L h2
      have hlt := getElem?_lt hx
      refine ⟨?_, fun j hj => ?_⟩
      · rw [List.map_cons, q1]
        congr 1
        rw [← beqOb_eq _ _ h1]
        simp [List.getD, hx]
      · rcases List.mem_cons.1 hj with rfl | hj
        · exact hlt
        · exact q2 j hj
    · cases h1
  | [], _ :: _, h => by simp [chkL] at h
  | _ :: _, [], h => by simp [chkL] at h

theorem incr_spec : ∀ (ks : List Nat) (n : Nat), incr n ks = true → ks.Nodup ∧ ∀ k ∈ ks, n ≤ k
  | [], n, _ => by simp
  | k :: ks, n, h => by
    simp only [incr, Bool.and_eq_true, nble_iff] at h
    obtain ⟨h1, h2⟩ := incr_spec ks (k + 1) h.2
    refine ⟨List.nodup_cons.2 ⟨fun hm => ?_, h1⟩, fun j hj => ?_⟩
    · have := h2 k hm; omega
    · rcases List.mem_cons.1 hj with rfl | hj
      · exact h.1
      · have := h2 j hj; have := h.1; omega

theorem Spec.trim {f : FuncId} {args : List V} (h : Spec P f args H v H') {ks : List Nat} (hk : KsOk H.length ks H'.length) : Spec P f args H (ren (newIx H.length ks) v) (trimH H.length ks H') := by
  refine ⟨h.1, fun γ F w vs hrel hargs => (h.2 γ F w vs hrel hargs).mono ?_⟩
  rintro e w' ⟨γ', F', u, rfl, n1, r1, v1⟩
  have hkg : KsOk H.length ks γ'.length := by rw [r1.len]; exact hk
  exact ⟨_, F', u, rfl, n1.trim hkg (by rw [hrel.len]; exact Nat.le_refl _), r1.trim hk, Rep.trim hkg v1⟩

theorem trimH_range {n : Nat} {ks : List Nat} (hn : n ≤ H.length) : trimH n ks H = (List.range n ++ ks).map fun k => renO (newIx n ks) (H.getD k .dead) := by
  unfold trimH
  have h1 : H.take n = (List.range n).map fun k => H.getD k .dead := by
    apply List.ext_getElem?
    intro i
    rcases Nat.lt_or_ge i n with h | h
    · rw [List.getElem?_take, if_pos h, List.getElem?_map, List.getElem?_range h]
      simp [List.getD, show i < H.length by omega]
    · rw [List.getElem?_eq_none (by simp; omega), List.getElem?_eq_none (by simpa using h)]
  rw [h1, List.map_append, List.map_append, List.map_map, List.map_map]
  rfl

/-- What is known of one call is so. -/
theorem cut_ok {T : Tab} {n : Nat} (hm : P.follows .mixedOrders = true) (hT : TabOk P T) {f : FuncId} {args0 : List V} {L0 L : List Ob} {ks : List Nat} {v : V} (h : chkR L0 ks v L (exN T n (.g f) args0 (ofL L0)) = true) : FnOk P f (.spec (cutG args0 L0 v L)) := by
  intro args hp v1 hp' hx H hh
  unfold cutG at hx
  split at hx
  · rename_i hb
    simp only [Bool.and_eq_true] at hb
    simp only [Option.some.injEq, Prod.mk.injEq] at hx
    obtain ⟨rfl, rfl⟩ := hx
    obtain rfl := beqL_eq _ _ hb.1
    obtain rfl := eqHP_spec hh hb.2
    refine ⟨L, ofL_abs L, ?_⟩
    unfold chkR at h
    split at h
    · rename_i u hp2 hr
      simp only [Bool.and_eq_true, nble_iff] at h
      obtain ⟨⟨⟨h1, h2⟩, h3⟩, h4⟩ := h
      obtain ⟨H2, hH2, hs⟩ := (exN_sound hm hT n).g _ _ _ _ _ hr _ (ofL_abs H)
      obtain ⟨q1, q2⟩ := chkL_spec hH2 _ _ h4
      obtain ⟨i1, i2⟩ := incr_spec _ _ h2
      have hle : H.length ≤ H2.length := by rw [← hH2.n]; exact h1
      have hk : KsOk H.length ks H2.length := ⟨hle, i1, fun k hm => ⟨i2 k hm, q2 k (by simp [hm])⟩⟩
      have := hs.trim hk
      rw [trimH_range hle, q1, beqV_eq _ _ h3] at this
      exact this.c
    · cases h
  · cases hx
end
end Go.Ab
