/- What is known of the program's variables and loops over functions. -/
import Derived.Test.YtgpopggboiphoaaGreatDoorChecked
import Derived.Test.YtgpopggboiphoaaGreatDoorEvl
import Derived.KernelRfl
set_option maxRecDepth 100000
set_option linter.unusedVariables false
set_option linter.unusedSectionVars false
set_option linter.unusedSimpArgs false
namespace Go.Ab
open Go.Proofs

def gtabOf (t : Nat) : Nat → List V
  | 0 => [.iface t .junk]
  | _ => []

noncomputable instance seatEnv : Env where
  codeOf k := match k with
    | 129 => (rngs (Tryz.f129.body.getD .skip)).head?
    | 235 => (rngs (Tryz.f235.body.getD .skip)).head?
    | _ => none
  gtab := gtabOf 471

noncomputable def gv (g : Nat) : V := match Env.gtab g with
  | [] => .junk
  | c :: cs => .cptr (c :: cs)

theorem keyOk {k : Nat} {c : Code} {x : Array Tmp × Code × Code} (h : rngs c = [x]) (hk : Env.codeOf k = (rngs c).head?) : ∀ j, some k = some j → ∀ y ∈ rngs c, Env.codeOf j = some y := by
  intro j hj y hy
  cases hj
  rw [h] at hy hk
  simp only [List.mem_cons, List.not_mem_nil, or_false] at hy
  rw [hk, hy]
  rfl

theorem mixed : Tryz.prog.follows .mixedOrders = true := by kernel_rfl

theorem fe0 {f : FuncId} {fn : Func} {c : Code} {m : Nat} {body : CC} {res : List RV} (h1 : Tryz.prog.funcs[f]? = some fn) (h2 : fn.body = some c) (h3 : (fn.name == "runtime.NumGoroutine") = false) (h4 : fn.ntmps = m) (h5 : ccX Tryz.prog m none c = body) (h7 : resX Tryz.prog fn.results.toList = some res) :
    FnOk Tryz.prog f (.code m body res) := ⟨fn, c, none, h1, h2, h3, h4, h5, fun _ h => (by cases h), h7⟩

theorem fe1 (k : Nat) {f : FuncId} {fn : Func} {c : Code} {m : Nat} {body : CC} {res : List RV} {x : Array Tmp × Code × Code} (h1 : Tryz.prog.funcs[f]? = some fn) (h2 : fn.body = some c) (h3 : (fn.name == "runtime.NumGoroutine") = false) (h4 : fn.ntmps = m) (h5 : ccX Tryz.prog m (some k) c = body) (h7 : resX Tryz.prog fn.results.toList = some res)
    (h8 : rngs c = [x]) (h9 : Env.codeOf k = (rngs c).head?) : FnOk Tryz.prog f (.code m body res) := ⟨fn, c, some k, h1, h2, h3, h4, h5, keyOk h8 h9, h7⟩

def ity : List (TypeId × IntKind) := [(2, .i64), (3, .i64), (5, .u8), (6, .u8), (12, .u64), (21, .i32), (39, .i64), (213, .u64), (215, .u32), (277, .u64), (382, .i64), (526, .u8), (527, .u8), (529, .i32), (530, .i32)]
end Go.Ab
