/- Contracts of functions of the seat, proved over the engine. No condition. -/
import Derived.Test.YtohakobkclkniaaDoorEnH
set_option linter.unusedSimpArgs false
set_option linter.unusedVariables false
set_option linter.unnecessarySimpa false
namespace Go.Ax

def opOth : ROp → List Oper
 | .other o => [o]
 | _ => []
def RC.oths : RC → List Oper
 | .reg _ ops => ops.flatMap fun r => opOth r.op
 | .seq a b => a.oths ++ b.oths
 | .cond _ a b => a.oths ++ b.oths
 | .blk _ c => c.oths
 | .loop c => c.oths
 | _ => []
def othF (P : Program) (i k : Nat) : Oper := match resF P i with
 | some (_, c, _) => c.oths.getD k default
 | none => default
end Go.Ax
