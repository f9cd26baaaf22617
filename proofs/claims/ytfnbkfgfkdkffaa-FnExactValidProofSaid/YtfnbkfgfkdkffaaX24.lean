/- Contracts of functions of the seat, proved over the engine. No condition. -/
import Derived.Test.YtfnbkfgfkdkffaaX2
set_option linter.unusedSimpArgs false
set_option linter.unusedVariables false
set_option linter.unnecessarySimpa false
namespace Go.Ax
set_option linter.unusedSimpArgs false
set_option maxRecDepth 20000
set_option maxHeartbeats 4000000
abbrev Stp := Int × Bool × SL Int × SL Ex × SL Ex
def eSt (p : Stp) : D := .ag [eI p.1, eB p.2.1, .ls p.2.2.1.1 1 (p.2.2.1.2.map eI), .ls p.2.2.2.1.1 3 (p.2.2.2.1.2.map eE), .ls p.2.2.2.2.1 3 (p.2.2.2.2.2.map eE)]
theorem encSt : Enc eSt 5 true := ⟨by omega, fun _ => rfl, fun _ => rfl, fun _ => rfl⟩
abbrev Cl := Ex × Ex × Int × Int × SL Stp
def eCl (c : Cl) : D := .ag [.sc (.int .i64 c.1.k), .sc (.int .i64 c.1.n), .ls c.1.nn 3 (c.1.ks.map eE), .sc (.int .i64 c.2.1.k), .sc (.int .i64 c.2.1.n), .ls c.2.1.nn 3 (c.2.1.ks.map eE), eI c.2.2.1, eI c.2.2.2.1, .ls c.2.2.2.2.1 5 (c.2.2.2.2.2.map eSt)]
theorem encCl : Enc eCl 9 true := ⟨by omega, fun _ => rfl, fun _ => rfl, fun _ => rfl⟩
abbrev Pf := (Int × Int) × SL Cl
def ePf (p : Pf) : D := .ag [eI p.1.1, eI p.1.2, .ls p.2.1 9 (p.2.2.map eCl)]
theorem eSt_size (p : Stp) : (eSt p).size = 5 := rfl
theorem eCl_size (p : Cl) : (eCl p).size = 9 := rfl

end Go.Ax
