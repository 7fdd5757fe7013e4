/- utf.Check of plain texts: no fault. -/
import Derived.Test.YteemapgpedcbkaaGreatDoorTab
import Derived.Test.YteemapgpedcbkaaGreatDoorFast
set_option maxRecDepth 1000000
set_option linter.unusedVariables false
set_option linter.unusedSectionVars false
set_option linter.unusedSimpArgs false
noncomputable section
namespace Go.Ab
open Go.Proofs

def cl (n : Nat) : Call := exS tb.get lpT n
theorem exS_f (T : FuncId → Option FS) (lp : Nat → Option (List Nat × CC × CC)) (n f : Nat) : exS T lp (n + 1) (.f f) = fsF (T f) (exS T lp n) := rfl
theorem exS_g (T : FuncId → Option FS) (lp : Nat → Option (List Nat × CC × CC)) (n f : Nat) : exS T lp (n + 1) (.g f) = fsG (T f) (exS T lp n) := rfl
theorem g75 : tb.get 75 = some (.shal s75) := by kernel_rfl
theorem g115 : tb.get 115 = some (.shal s115) := by kernel_rfl
theorem g101 : tb.get 101 = some (.shal s101) := by kernel_rfl
theorem g76 : tb.get 76 = some (.shal s76) := by kernel_rfl
theorem g74 : tb.get 74 = some (.shal s74) := by kernel_rfl
theorem g42 : tb.get 42 = some (.shal s42) := by kernel_rfl
theorem fsF_shal (s : Call → List V → HP → RB) : fsF (some (.shal s)) = s := rfl
theorem fsG_shal (s : Call → List V → HP → RB) : fsG (some (.shal s)) = s := rfl
theorem cl75 (n : Nat) (args : List V) (H : HP) : cl (n + 1) (.f 75) args H = s75 (cl n) args H := by unfold cl; rw [exS_f, g75, fsF_shal]
theorem cl115 (n : Nat) (args : List V) (H : HP) : cl (n + 1) (.f 115) args H = s115 (cl n) args H := by unfold cl; rw [exS_f, g115, fsF_shal]
theorem cl101 (n : Nat) (args : List V) (H : HP) : cl (n + 1) (.f 101) args H = s101 (cl n) args H := by unfold cl; rw [exS_f, g101, fsF_shal]
theorem cl76 (n : Nat) (args : List V) (H : HP) : cl (n + 1) (.f 76) args H = s76 (cl n) args H := by unfold cl; rw [exS_f, g76, fsF_shal]
theorem cl74 (n : Nat) (args : List V) (H : HP) : cl (n + 1) (.f 74) args H = s74 (cl n) args H := by unfold cl; rw [exS_f, g74, fsF_shal]
theorem cl42 (n : Nat) (args : List V) (H : HP) : cl (n + 1) (.g 42) args H = s42 (cl n) args H := by unfold cl; rw [exS_g, g42, fsG_shal]

section
variable {H : HP} {K : V → HP → RB} {a b : Int} {A B : RB} {x y : V} {k q : IntKind} {l : List UInt8} {c : UInt8}
theorem r_unc (t : List V) (K : V → List V → RB) : unc (x :: t) K = K x t := rfl
theorem r_nil : nilK [] A = A := rfl
theorem r_bnd : bnd (some (x, H)) K = K x H := rfl
theorem r_cnd (t : Bool) : cnd (.bool t) A B = bif2 t A B := rfl
theorem r_gdT (t : Bool) : gdT (.bool t) A B = bif2 t A B := rfl
theorem r_gdN (t : Bool) : gdN (.bool t) A B = bif2 t B A := rfl
theorem r_eqK (k : IntKind) : eqK k k = true := by cases k <;> rfl
theorem r_ifB : ifB true A = A := rfl
theorem r_lt : ltF (.int k a) (.int k b) H = some (.bool (ltJ a b), H) := by
  show ifB (eqK k k) _ = _; rw [r_eqK]; rfl
theorem r_eq : eqF (.int k a) (.int k b) H = some (.bool (eqJ a b), H) := by
  show ifB (eqK k k) _ = _; rw [r_eqK]; rfl
theorem r_add : addF (.int k a) (.int k b) H = some (.int k (wrK k (addI a b)), H) := by
  show ifB (eqK k k) _ = _; rw [r_eqK]; rfl
theorem r_ix0 : ixF (.str (c :: l)) (.int q 0) H = some (.int .u8 (.ofNat (b8 c)), H) := rfl
theorem r_ne : neT (.str (c :: l)) (.str []) H = some (.bool true, H) := rfl
theorem r_cv : cvF k (.int q a) H = some (.int k (wrK k a), H) := rfl
theorem r_pk (t : Bool) : pkF (.bool t) x y H = some (@Bool.rec (fun _ => V) y x t, H) := rfl
theorem r_ex0 : exF (.tup [x, y]) 0 H = some (x, H) := rfl
theorem r_ex1 : exF (.tup [x, y]) 1 H = some (y, H) := rfl
theorem r_nt (t : Bool) : ntF (.bool t) H = some (.bool (notJ t), H) := rfl
theorem r_len : lenT (.str l) H = some (.int .i64 (.ofNat (lenF l)), H) := rfl
theorem r_cv76 (call : Call) : cvK call (.fn 76 [] []) [x] H K = bnd (call (.f 76) [x] H) K := rfl
end

/-- A plain byte: printable, below 127. -/
noncomputable def okb (n : Nat) : Bool := @Bool.rec (fun _ => Bool) (@Bool.rec (fun _ => Bool) (@Bool.rec (fun _ => Bool) (Nat.beq n 13) true (Nat.beq n 10)) true (Nat.beq n 9)) (@Bool.rec (fun _ => Bool) false true (Nat.blt n 127)) (Nat.ble 32 n)
theorem okb_spec {n : Nat} (h : okb n = true) : n < 127 ∧ (32 ≤ n ∨ n = 9 ∨ n = 10 ∨ n = 13) := by
  unfold okb at h
  cases h1 : Nat.ble 32 n with
  | true =>
    rw [h1] at h
    have h1 := nble_iff.1 h1
    cases h2 : Nat.blt n 127 with
    | true => exact ⟨nblt_iff.1 h2, .inl h1⟩
    | false => rw [h2] at h; cases h
  | false =>
    rw [h1] at h
    cases h2 : Nat.beq n 9 with
    | true => have := nbeq_iff.1 h2; subst this; exact ⟨by omega, by simp⟩
    | false =>
      rw [h2] at h
      cases h3 : Nat.beq n 10 with
      | true => have := nbeq_iff.1 h3; subst this; exact ⟨by omega, by simp⟩
      | false =>
        rw [h3] at h
        have := nbeq_iff.1 h
        subst this
        exact ⟨by omega, by simp⟩

theorem lt_nat (n m : Nat) : ltJ (.ofNat n) (.ofNat m) = Nat.blt n m := rfl
theorem wr_nat (k : IntKind) (n : Nat) (h : n < 128) : wrK k (.ofNat n) = .ofNat n := by
  show @Bool.rec (fun _ => Int) (k.wrap (.ofNat n)) (.ofNat n) (Nat.blt n (upK k)) = _
  have : Nat.blt n (upK k) = true := by rw [nblt_iff]; cases k <;> simp only [upK] <;> omega
  rw [this]

/-- The first sign of a plain text. -/
theorem first_ok (n : Nat) (c : UInt8) (l : List UInt8) (H : HP) (h : b8 c < 127) : cl (n + 2) (.f 115) [.str (c :: l)] H = some (.tup [.int .i64 (.ofNat (b8 c)), .int .i64 1], H) := by
  have h128 : Nat.blt (b8 c) 128 = true := by rw [nblt_iff]; omega
  have hne : Nat.beq (b8 c) 65533 = false := by rw [nbeq_false]; omega
  have d1 : cl (n + 1) (.f 101) [.str (c :: l)] H = some (.tup [.int .i32 (.ofNat (b8 c)), .int .i64 1], H) := by
    rw [cl101]
    simp only [s101, jn, jv, r_unc, r_nil, r_ne, r_bnd, r_gdT, bif2_true, r_ix0, r_lt]
    rw [show ltJ (Int.ofNat (b8 c)) 128 = true from h128]
    simp only [r_bnd, r_pk, r_cnd, bif2_true, r_ix0, r_cv, wr_nat _ _ (show b8 c < 128 by omega)]
  rw [cl115]
  simp only [s115, jn, jv, r_unc, r_nil, d1, r_bnd, r_ex0, r_ex1, r_eq]
  rw [show eqJ (Int.ofNat (b8 c)) 65533 = false from hne]
  simp only [r_bnd, r_gdT, bif2_false, r_pk, r_cnd, r_cv, wr_nat _ _ (show b8 c < 128 by omega)]

theorem print_ok (n : Nat) (m : Nat) (H : HP) (h : okb m = true) : cl (n + 1) (.f 76) [.int .i64 (.ofNat m)] H = some (.bool true, H) := by
  obtain ⟨h1, h2⟩ := okb_spec h
  rw [cl76]
  simp only [s76, jn, jv, r_unc, r_nil, r_lt, r_bnd, r_cnd]
  rcases h2 with h2 | rfl | rfl | rfl
  · have e1 : ltJ (Int.ofNat m) 32 = false := by
      show Nat.blt m 32 = false
      rw [← Bool.not_eq_true, nblt_iff]; omega
    have e2 : ltJ (Int.ofNat m) 127 = true := by
      show Nat.blt m 127 = true
      rw [nblt_iff]; exact h1
    rw [e1, e2]
    simp only [bif2_true, bif2_false]
  · rfl
  · rfl
  · rfl

theorem jn_out (M : (List V → HP → RB) → RB) (N : List V → HP → RB) : jn M N = M N := rfl
theorem lpK_out (body : (List V → HP → RB) → List V → HP → RB) (cs : List V) (H : HP) : lpK body cs H = lpN 1000000 body cs H := rfl
theorem lpN_succ (N : Nat) (body : (List V → HP → RB) → List V → HP → RB) (cs : List V) (H : HP) : lpN (N + 1) body cs H = body (lpN N body) cs H := rfl
def wbody (n : Nat) (s : List UInt8) (J0 : List V → HP → RB) (n1 : List V → HP → RB) (c2 : List V) (h3 : HP) : RB :=
 jn (fun J4 =>
 bnd (lenT (.str s) h3) fun x5 h6 =>
 bnd (ltF (nthV c2 20) x5 h6) fun x7 h8 =>
 cnd x7
 (J4 [(nthV c2 20), (.str s), x5, x7] h8)
 (J0 [(nthV c2 20), (.str s), x5, x7, (nthV c2 4), (nthV c2 5), (nthV c2 6), (nthV c2 7), (nthV c2 8), (nthV c2 9), (nthV c2 10), (nthV c2 11), (nthV c2 12), (nthV c2 13), (nthV c2 14), (nthV c2 15), (nthV c2 16), (nthV c2 17), (nthV c2 18), (nthV c2 19), (nthV c2 20)] h8)) fun c9 h10 =>
 bnd (slT1 (.str s) (nthV c2 20) h10) fun x11 h12 =>
 bnd (cl (n + 2) (.f 115) [x11] h12) fun x13 h14 =>
 bnd (exF x13 0 h14) fun x15 h16 =>
 bnd (exF x13 1 h16) fun x17 h18 =>
 jn (fun J19 =>
 cvK (cl (n + 2)) (.fn 76 [] []) [x15] h18 fun x20 h21 =>
 bnd (ntF x20 h21) fun x22 h23 =>
 cnd x22
 (J0 [(nthV c9 0), (nthV c9 1), (nthV c9 2), (nthV c9 3), (.str s), (nthV c2 20), x11, x13, x13, x15, x17, x15, x17, (.fn 76 [] []), x15, x20, x22, (nthV c2 17), (nthV c2 18), (nthV c2 19), (nthV c2 20)] h23)
 (J19 [(.fn 76 [] []), x15, x20, x22] h23)) fun c24 h25 =>
 bnd (addF (nthV c2 20) x17 h25) fun x26 h27 =>
 n1 [(nthV c9 0), (nthV c9 1), (nthV c9 2), (nthV c9 3), (.str s), (nthV c2 20), x11, x13, x13, x15, x17, x15, x17, (nthV c24 0), (nthV c24 1), (nthV c24 2), (nthV c24 3), (nthV c2 20), x17, x26, x26] h27
/-- What the loop of walk does in one round. -/
theorem walk_loop (n : Nat) (s : List UInt8) (hs : s.length < 2 ^ 40) (H : HP) : ∀ (rest : List UInt8) (N : Nat) (i : Nat) (cs : List V), rest.length < N → nthV cs 20 = .int .i64 (.ofNat i) → dropF i s = rest → i + rest.length = s.length → (∀ c ∈ rest, okb (b8 c) = true) →
    ∀ (J0 : List V → HP → RB), (∀ cs, nthV cs 20 = .int .i64 (.ofNat s.length) → J0 cs H = some (.int .i64 (.ofNat s.length), H)) →
    lpN N (wbody n s J0) cs H = some (.int .i64 (.ofNat s.length), H) := by
  intro rest
  induction rest with
  | nil =>
    intro N i cs hN hi hd hl hok J0 hJ
    obtain ⟨N, rfl⟩ : ∃ M, N = M + 1 := ⟨N - 1, by simp at hN; omega⟩
    rw [lpN_succ]
    have e1 : ltJ (Int.ofNat i) (Int.ofNat (lenF s)) = false := by
      rw [lenF_eq, lt_nat, ← Bool.not_eq_true, nblt_iff]; simp at hl; omega
    simp only [wbody, jn, r_len, r_bnd, hi, r_lt, r_cnd, e1, bif2_false]
    refine hJ _ ?_
    show V.int .i64 (Int.ofNat i) = _
    simp at hl
    rw [hl]
  | cons c rest ih =>
    intro N i cs hN hi hd hl hok J0 hJ
    obtain ⟨N, rfl⟩ : ∃ M, N = M + 1 := ⟨N - 1, by simp at hN; omega⟩
    rw [lpN_succ]
    simp only [List.length_cons] at hl hN
    have e1 : ltJ (Int.ofNat i) (Int.ofNat (lenF s)) = true := by
      rw [lenF_eq, lt_nat, nblt_iff]; omega
    have e2 : slT1 (.str s) (.int .i64 (.ofNat i)) H = some (.str (c :: rest), H) := by
      show ifB (Nat.ble i (lenF s)) (some (.str (dropF i s), H)) = _
      have : Nat.ble i (lenF s) = true := by rw [lenF_eq, nble_iff]; omega
      rw [this, hd]; rfl
    have hc := hok c (by simp)
    have e3 := first_ok n c rest H (okb_spec hc).1
    have e4 := print_ok (n + 1) (b8 c) H hc
    have e5 : wrK .i64 (addI (Int.ofNat i) 1) = Int.ofNat (i + 1) := by
      show wrK .i64 (Int.ofNat (i + 1)) = _
      show @Bool.rec (fun _ => Int) (IntKind.i64.wrap (.ofNat (i + 1))) (.ofNat (i + 1)) (Nat.blt (i + 1) (upK .i64)) = _
      have : Nat.blt (i + 1) (upK .i64) = true := by rw [nblt_iff]; simp only [upK]; omega
      rw [this]
    simp only [wbody, jn, r_len, r_bnd, hi, r_lt, r_cnd, e1, bif2_true, e2, e3, r_ex0, r_ex1, r_cv76, e4, r_nt, show notJ true = false from rfl, bif2_false, r_add, e5]
    refine ih N (i + 1) _ (by omega) rfl ?_ (by omega) (fun d hd => hok d (by simp [hd])) J0 hJ
    rw [dropF_eq] at hd ⊢
    rw [← List.drop_drop, hd]; rfl

theorem walk_ok (n : Nat) (s : List UInt8) (hs : s.length < 1000000) (H : HP) (hok : ∀ c ∈ s, okb (b8 c) = true) : cl (n + 3) (.f 75) [.str s, .fn 76 [] []] H = some (.int .i64 (.ofNat s.length), H) := by
  rw [cl75]
  simp only [s75, r_unc, r_nil]
  rw [jn_out, lpK_out]
  show lpN 1000000 (wbody n s (fun c28 h29 => some (nthV c28 20, h29))) _ H = _
  refine walk_loop n s (by omega) H s 1000000 0 _ hs rfl rfl (by simp) hok (fun c28 h29 => some (nthV c28 20, h29)) ?_
  intro cs h
  show some (nthV cs 20, H) = _
  rw [h]

def noF : V := .agg [.int .i64 0, .int .i64 0]

theorem check_ev (s : List UInt8) (hs : s.length < 1000000) (hok : ∀ c ∈ s, okb (b8 c) = true) : ∃ hp, cl 10 (.g 42) [.str s] hp0 = some (noF, hp) := by
  rw [cl42]
  have e1 : ltJ (Int.ofNat s.length) (Int.ofNat (lenF s)) = false := by
    rw [lenF_eq, lt_nat, ← Bool.not_eq_true, nblt_iff]; omega
  simp only [s42, r_unc, r_nil]
  obtain ⟨h1, e2⟩ : ∃ h1, alF 29 true 2 (.agg [(.int .i64 0), (.int .i64 0)]) hp0 = some (.ptr 0 0, h1) ∧ h1 = (⟨.node (some (.cells 29 [(.int .i64 0), (.int .i64 0)])) .nil .nil, 1⟩ : HP) := ⟨_, by kernel_rfl, rfl⟩
  obtain ⟨e2, rfl⟩ := e2
  rw [e2, r_bnd, walk_ok 6 s hs _ hok, r_bnd]
  have e3 : cl 9 (.f 74) [.str s, .int .i64 (.ofNat s.length)] ⟨.node (some (.cells 29 [(.int .i64 0), (.int .i64 0)])) .nil .nil, 1⟩ = some (noF, ⟨.node (some (.cells 29 [(.int .i64 0), (.int .i64 0)])) (.node (some (.cells 29 [(.int .i64 0), (.int .i64 0)])) .nil .nil) .nil, 2⟩) := by
    rw [cl74]
    simp only [s74, r_unc, r_nil]
    have e4 : alF 29 true 2 (.agg [(.int .i64 0), (.int .i64 0)]) ⟨.node (some (.cells 29 [(.int .i64 0), (.int .i64 0)])) .nil .nil, 1⟩ = some (.ptr 1 0, ⟨.node (some (.cells 29 [(.int .i64 0), (.int .i64 0)])) (.node (some (.cells 29 [(.int .i64 0), (.int .i64 0)])) .nil .nil) .nil, 2⟩) := by kernel_rfl
    rw [e4, r_bnd]
    simp only [jn, r_len, r_bnd, r_lt, e1, r_cnd, bif2_false]
    rfl
  rw [e3, r_bnd]
  exact ⟨⟨.node (some (.cells 29 [(.int .i64 0), (.int .i64 0)])) (.node (some (.cells 29 [(.int .i64 0), (.int .i64 0)])) .nil .nil) .nil, 2⟩, by kernel_rfl⟩

theorem check_spec (s : List UInt8) (hs : s.length < 1000000) (hok : ∀ c ∈ s, okb (b8 c) = true) (H : Heap) : Spec Tryz.prog 42 [.str s] H noF H := by
  obtain ⟨hp, he⟩ := check_ev s hs hok
  refine memQ_spec (T := tb.get) (lp := lpT) (n := 10) mixed tabS_ok (args := [.str s]) (v := noF) ?_ H
  show memQ [.str s] noF (cl 10 (.g 42) [.str s] hp0) = true
  rw [he]
  rfl

/-- Are all bytes plain? -/
noncomputable def okS : List UInt8 → Bool := @List.rec UInt8 (fun _ => Bool) true (fun c _ ih => @Bool.rec (fun _ => Bool) false ih (okb (b8 c)))
theorem okS_spec : ∀ {s : List UInt8}, okS s = true → ∀ c ∈ s, okb (b8 c) = true
  | [], _, c, hc => by cases hc
  | d :: s, h, c, hc => by
    replace h : @Bool.rec (fun _ => Bool) false (okS s) (okb (b8 d)) = true := h
    cases hb : okb (b8 d) with
    | false => rw [hb] at h; cases h
    | true =>
      rw [hb] at h
      rcases List.mem_cons.1 hc with rfl | hc
      · exact hb
      · exact okS_spec (show okS s = true from h) c hc
noncomputable def chkG (args : List V) (hp : HP) : RB := unc args fun a t => nilK t (vStr a fun s => ifB (Nat.blt (lenF s) 1000000) (ifB (okS s) (some (noF, hp))))
theorem chk_ok : FnOk Tryz.prog 42 (.spec chkG) := by
  intro args hp v hp' hx H hh
  unfold chkG at hx
  replace hx := unc_some hx
  obtain ⟨a, t, rfl, hx⟩ := hx
  replace hx := nilK_some hx
  obtain ⟨rfl, hx⟩ := hx
  replace hx := vStr_some hx
  obtain ⟨s, rfl, hx⟩ := hx
  replace hx := ifB_some hx
  obtain ⟨h1, hx⟩ := hx
  replace hx := ifB_some hx
  obtain ⟨h2, hx⟩ := hx
  cases hx
  rw [lenF_eq, nblt_iff] at h1
  exact ⟨H, hh, (check_spec s h1 (okS_spec h2) H).c⟩
end Go.Ab
end
