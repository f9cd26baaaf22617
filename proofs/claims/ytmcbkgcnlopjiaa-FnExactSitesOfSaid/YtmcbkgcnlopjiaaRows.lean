/-
  NARROWER THAN 'FOR EVERY INPUT', by the rows' own cells (each row's printed sentence says how): FnExactSitesOf: loops · FnExactFlowAutomaton: loops · FnExactFitExpr: loops.
  DERIVED. THE GIVEN ROWS OF THIS SEAT. 3 by the template 'for every input the law returns true; each argument reads behind the call as it read before'; 0 by the template 'total and deterministic' (their statements: YtmcbkgcnlopjiaaTotals.lean).
  GIVEN WITH THE SEED: the statements are not yours to turn. If you find one false, say at which input.
  Laid BY PROGRAM, IN A SANDBOX (cutbox-rows.mjs): the forced cells as the released guide's own fill.sh prints them over the translation 5588f9ce57a2fc94… (all of the seat's roots in one cut). By AI agents, Wed Nov 11 2026. No macro, syntax, notation, axiom, sorry.
-/
import Derived.Test.YtmcbkgcnlopjiaaChecked
import GoSem.Claim
import GoSem.ClaimJoined
import GoSem.ClaimMapViews
import Derived.JoinedTies
import Derived.KernelRfl
namespace Go.Proofs.Ytmcbkgcnlopjiaa
/- THE CELL 'sum', in the pinned program and in every row, IS THE sha256 OF THE DUMP (.gsa) THAT YtmcbkgcnlopjiaaProg.lean LOADS. Nothing in Lean hashes anything: it is a label: what it is worth is what the hold of that sum in a sandbox is worth. -/
noncomputable def Try.pinned : Pinned := { name := "ytmcbkgcnlopjiaa", sum := "5588f9ce57a2fc949c3f4cbc74cfd3328b7a7121fd19108d0225d72ea1360fea", checked := Try.checked }
namespace Rows
def none {H : Type} : Left H := { results := [], args := [] }

/-- 'laws.FnExactSitesOf': WHATEVER THE INPUT: true; the input reads as it did. -/
def fnExactSitesOfSpec : ChangeSpec := { name := "fnExactSitesOf", fn := fun _ => fun
  | [d1, d2, d3] => { results := [.lit (.bool true)], args := [d1, d2, d3] }
  | _ => none }
def fnExactSitesOfRow : OpenClaim := { program := "ytmcbkgcnlopjiaa", sum := "5588f9ce57a2fc949c3f4cbc74cfd3328b7a7121fd19108d0225d72ea1360fea", func := "loop.example/g01101/laws.FnExactSitesOf", spec := "fnExactSitesOf", unfollowed := true, recurses := true, loops := true, apart := false }
def FnExactSitesOfSaid : Prop := fnExactSitesOfRow.holds Try.pinned (OpenSpec.ofChange fnExactSitesOfSpec)

/-- ITS FALSE NEIGHBOUR: 'it returns false'. Refute it at one input. -/
def fnExactSitesOfWrong : ChangeSpec := { name := "fnExactSitesOf", fn := fun _ => fun
  | [d1, d2, d3] => { results := [.lit (.bool false)], args := [d1, d2, d3] }
  | _ => none }
def FnExactSitesOfWrongFalsely : Prop := fnExactSitesOfRow.holds Try.pinned (OpenSpec.ofChange fnExactSitesOfWrong)

/-- 'laws.FnExactFlowAutomaton': WHATEVER THE INPUT: true; the input reads as it did. -/
def fnExactFlowAutomatonSpec : ChangeSpec := { name := "fnExactFlowAutomaton", fn := fun _ => fun
  | [d1, d2] => { results := [.lit (.bool true)], args := [d1, d2] }
  | _ => none }
def fnExactFlowAutomatonRow : OpenClaim := { program := "ytmcbkgcnlopjiaa", sum := "5588f9ce57a2fc949c3f4cbc74cfd3328b7a7121fd19108d0225d72ea1360fea", func := "loop.example/g01101/laws.FnExactFlowAutomaton", spec := "fnExactFlowAutomaton", recurses := true, loops := true, apart := false }
def FnExactFlowAutomatonSaid : Prop := fnExactFlowAutomatonRow.holds Try.pinned (OpenSpec.ofChange fnExactFlowAutomatonSpec)

/-- ITS FALSE NEIGHBOUR: 'it returns false'. Refute it at one input. -/
def fnExactFlowAutomatonWrong : ChangeSpec := { name := "fnExactFlowAutomaton", fn := fun _ => fun
  | [d1, d2] => { results := [.lit (.bool false)], args := [d1, d2] }
  | _ => none }
def FnExactFlowAutomatonWrongFalsely : Prop := fnExactFlowAutomatonRow.holds Try.pinned (OpenSpec.ofChange fnExactFlowAutomatonWrong)

/-- 'laws.FnExactFitExpr': WHATEVER THE INPUT: true; the input reads as it did. -/
def fnExactFitExprSpec : ChangeSpec := { name := "fnExactFitExpr", fn := fun _ => fun
  | [d1, d2, d3] => { results := [.lit (.bool true)], args := [d1, d2, d3] }
  | _ => none }
def fnExactFitExprRow : OpenClaim := { program := "ytmcbkgcnlopjiaa", sum := "5588f9ce57a2fc949c3f4cbc74cfd3328b7a7121fd19108d0225d72ea1360fea", func := "loop.example/g01101/laws.FnExactFitExpr", spec := "fnExactFitExpr", unfollowed := true, recurses := true, loops := true, apart := false }
def FnExactFitExprSaid : Prop := fnExactFitExprRow.holds Try.pinned (OpenSpec.ofChange fnExactFitExprSpec)

/-- ITS FALSE NEIGHBOUR: 'it returns false'. Refute it at one input. -/
def fnExactFitExprWrong : ChangeSpec := { name := "fnExactFitExpr", fn := fun _ => fun
  | [d1, d2, d3] => { results := [.lit (.bool false)], args := [d1, d2, d3] }
  | _ => none }
def FnExactFitExprWrongFalsely : Prop := fnExactFitExprRow.holds Try.pinned (OpenSpec.ofChange fnExactFitExprWrong)

/- THE SECOND FORM. 'bulk': how many values and letters a reading holds, each counted each time it is reached (what is shared counts as often as it is met; a slice's spare places count too). A statement '..UptoSaid' is the law's where the arguments, and the package variables that the reading takes, are together of bulk at most 1048576: NARROWER than '..Said'. Prove '..Said' where nothing that the law and all that it calls make is longer than what came in: it says more and counts as full. Else prove '..UptoSaid'. A law counts once. -/
mutual
def uptoBulk {H : Type} : DataW H → Nat
  | .lit (.string bytes) => bytes.length + 1
  | .lit _ => 1
  | .nil => 1
  | .ptr d => uptoBulk d + 1
  | .slice elems spare => uptoBulkAll elems + uptoBulkAll spare + 1
  | .agg parts => uptoBulkAll parts + 1
  | .iface _ d => uptoBulk d + 1
  | .map entries => uptoBulkEntries entries + 1
  | .held _ => 1
def uptoBulkAll {H : Type} : List (DataW H) → Nat
  | [] => 0
  | d :: r => uptoBulk d + uptoBulkAll r
def uptoBulkEntries {H : Type} : List (Lit × DataW H) → Nat
  | [] => 0
  | x :: r => uptoBulkEntry x + uptoBulkEntries r
def uptoBulkEntry {H : Type} : Lit × DataW H → Nat
  | (.string bytes, d) => bytes.length + uptoBulk d + 1
  | (_, d) => uptoBulk d + 1
 end
def uptoSmall : (H : Type) → List (DataW H) → Bool := fun _ ds => decide (uptoBulkAll ds ≤ 1048576)
def OpenSpec.upto (s : _root_.Go.ChangeSpec) : _root_.Go.OpenSpec := { _root_.Go.OpenSpec.ofChange s with cond := some uptoSmall }

/-- 'laws.FnExactSitesOf', WHERE WHAT IT READS IS OF BULK AT MOST 1048576: true; the input reads as it did. -/
def fnExactSitesOfUptoRow : OpenClaim := { program := "ytmcbkgcnlopjiaa", sum := "5588f9ce57a2fc949c3f4cbc74cfd3328b7a7121fd19108d0225d72ea1360fea", func := "loop.example/g01101/laws.FnExactSitesOf", spec := "fnExactSitesOf", unfollowed := true, recurses := true, loops := true, apart := false, narrowed := true }
def FnExactSitesOfUptoSaid : Prop := fnExactSitesOfUptoRow.holds Try.pinned (OpenSpec.upto fnExactSitesOfSpec)

/-- 'laws.FnExactFlowAutomaton', WHERE WHAT IT READS IS OF BULK AT MOST 1048576: true; the input reads as it did. -/
def fnExactFlowAutomatonUptoRow : OpenClaim := { program := "ytmcbkgcnlopjiaa", sum := "5588f9ce57a2fc949c3f4cbc74cfd3328b7a7121fd19108d0225d72ea1360fea", func := "loop.example/g01101/laws.FnExactFlowAutomaton", spec := "fnExactFlowAutomaton", recurses := true, loops := true, apart := false, narrowed := true }
def FnExactFlowAutomatonUptoSaid : Prop := fnExactFlowAutomatonUptoRow.holds Try.pinned (OpenSpec.upto fnExactFlowAutomatonSpec)

/-- 'laws.FnExactFitExpr', WHERE WHAT IT READS IS OF BULK AT MOST 1048576: true; the input reads as it did. -/
def fnExactFitExprUptoRow : OpenClaim := { program := "ytmcbkgcnlopjiaa", sum := "5588f9ce57a2fc949c3f4cbc74cfd3328b7a7121fd19108d0225d72ea1360fea", func := "loop.example/g01101/laws.FnExactFitExpr", spec := "fnExactFitExpr", unfollowed := true, recurses := true, loops := true, apart := false, narrowed := true }
def FnExactFitExprUptoSaid : Prop := fnExactFitExprUptoRow.holds Try.pinned (OpenSpec.upto fnExactFitExprSpec)

end Rows
end Go.Proofs.Ytmcbkgcnlopjiaa
