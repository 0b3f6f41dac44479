/- The law's look at itself, run by the kernel. -/
import Derived.Test.YtmgbbajgajmdjaaDoorIb
import Derived.KernelRfl

set_option linter.unusedSimpArgs false
set_option linter.unusedVariables false

open Go Go.AI
namespace Go.AI.Sl
set_option maxRecDepth 100000
def m0 : Mem := { objs := [.cells [.int .i64 0, .int .i64 1] true], next := 1, lo := 1, wmin := 1, dmin := 1 }
theorem awake_run : exec (call tabR 200 60) 200 ir24.body ⟨initA (List.replicate 15 .dead) ir24.vars, [], enter m0⟩ (fun e s => match e with
      | .exit _ => none
      | _ => match resultV s ir24.results with
        | some v => if V.under s.m.next v then some (settle m0 s.m v) else none
        | none => none) = some (.bool true, m0) := by kernel_rfl
end Go.AI.Sl
