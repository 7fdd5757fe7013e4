/- What is known of the program's variables and loops over functions. -/
import Derived.Test.YteemapgpedcbkaaGreatDoorChecked
import Derived.Test.YteemapgpedcbkaaGreatDoorFast
import Derived.KernelRfl
set_option maxRecDepth 1000000
set_option linter.unusedVariables false
set_option linter.unusedSectionVars false
set_option linter.unusedSimpArgs false
noncomputable section
namespace Go.Ab
open Go.Proofs

def gtabOf : Nat → List V
  | 3 => [.iface 259 .junk]
  | _ => []

noncomputable instance seatEnv : Env where
  codeOf k := match k with
    | 10 => (rngs (Tryz.f10.body.getD .skip)).head?
    | 41 => (rngs (Tryz.f41.body.getD .skip)).head?
    | _ => none
  gtab := gtabOf

noncomputable def gv (g : Nat) : V := match Env.gtab g with
  | [] => .junk
  | c :: cs => .cptr (c :: cs)
def u0 : V := .tup []
def orR (a b : RB) : RB := match a with
  | some r => some r
  | none => b

theorem keyOk {k : Nat} {c : Code} {x : Array Tmp × Code × Code} (h : rngs c = [x]) (hk : Env.codeOf k = (rngs c).head?) : ∀ j, some k = some j → ∀ y ∈ rngs c, Env.codeOf j = some y := by
  intro j hj y hy
  cases hj
  rw [h] at hy hk
  simp only [List.mem_cons, List.not_mem_nil, or_false] at hy
  rw [hk, hy]
  rfl

theorem mixed : Tryz.prog.follows .mixedOrders = true := by kernel_rfl

theorem fs0 (p m : Nat) (res : List RV) {f : FuncId} {fn : Func} {c : Code} {s : Call → List V → HP → RB} (h1 : Tryz.prog.funcs[f]? = some fn) (h2 : fn.body = some c) (h3 : (fn.name == "runtime.NumGoroutine") = false) (h4 : fn.ntmps = m)
    (h5 : resX Tryz.prog fn.results.toList = some res) (h6 : (fun call l H => stgF call p m (csX Tryz.prog c) res l H) = s) : FsOk Tryz.prog f (.shal s) :=
  ⟨m, ccX Tryz.prog m none c, res, ⟨fn, c, none, h1, h2, h3, h4, rfl, fun _ h => (by cases h), h5⟩, fun call l H r h => by rw [← h6] at h; exact stgF_ok h⟩

theorem fe1 (k : Nat) {f : FuncId} {fn : Func} {c : Code} {m : Nat} {body : CC} {res : List RV} {x : Array Tmp × Code × Code} (h1 : Tryz.prog.funcs[f]? = some fn) (h2 : fn.body = some c) (h3 : (fn.name == "runtime.NumGoroutine") = false) (h4 : fn.ntmps = m) (h5 : ccX Tryz.prog m (some k) c = body) (h7 : resX Tryz.prog fn.results.toList = some res)
    (h8 : rngs c = [x]) (h9 : Env.codeOf k = (rngs c).head?) : FnOk Tryz.prog f (.code m body res) := ⟨fn, c, some k, h1, h2, h3, h4, h5, keyOk h8 h9, h7⟩

def ity : List (TypeId × IntKind) := [(2, .i64), (3, .i64), (5, .u8), (6, .u8), (12, .u64), (21, .i32), (25, .i64), (91, .u64), (132, .u32), (135, .u64), (243, .i64), (274, .u8), (275, .u8), (277, .i32), (278, .i32)]
end Go.Ab
end
