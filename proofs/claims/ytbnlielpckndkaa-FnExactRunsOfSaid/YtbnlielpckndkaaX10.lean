/- Contracts of functions of the seat, proved over the engine. No condition. -/
import Derived.Test.YtbnlielpckndkaaX9
set_option linter.unusedSimpArgs false
set_option linter.unusedVariables false
set_option linter.unnecessarySimpa false
namespace Go.Ax
set_option linter.unusedSimpArgs false
set_option maxRecDepth 20000
set_option maxHeartbeats 4000000
abbrev Eq2 := Ex × Ex
def eQ (q : Eq2) : D := .ag [.sc (.int .i64 q.1.k), .sc (.int .i64 q.1.n), .ls q.1.nn 3 (q.1.ks.map eE), .sc (.int .i64 q.2.k), .sc (.int .i64 q.2.n), .ls q.2.nn 3 (q.2.ks.map eE)]
end Go.Ax
