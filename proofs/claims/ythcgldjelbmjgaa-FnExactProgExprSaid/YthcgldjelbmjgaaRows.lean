/-
  NARROWER THAN 'FOR EVERY INPUT', by the rows' own cells (each row's printed sentence says how): FnExactImageOf: loops · FnExactSafeBefore: loops · FnExactCostsOf: loops · FnExactHoldsInCosts: loops · FnExactProgExpr: loops · FnExactFirstModelAgainst: loops.
  DERIVED. THE GIVEN ROWS OF THIS SEAT. 12 by the template 'for every input the law returns true; each argument reads behind the call as it read before'; 0 by the template 'total and deterministic' (their statements: YthcgldjelbmjgaaTotals.lean).
  GIVEN WITH THE SEED: the statements are not yours to turn. If you find one false, say at which input.
  Laid BY PROGRAM, IN A SANDBOX (cutbox-rows.mjs): the forced cells as the released guide's own fill.sh prints them over the translation 124c3104ed889317… (all of the seat's roots in one cut). By AI agents, Wed Nov 11 2026. No macro, syntax, notation, axiom, sorry.
-/
import Derived.Test.YthcgldjelbmjgaaChecked
import GoSem.Claim
import GoSem.ClaimJoined
import GoSem.ClaimMapViews
import Derived.JoinedTies
import Derived.KernelRfl
namespace Go.Proofs.Ythcgldjelbmjgaa
/- THE CELL 'sum', in the pinned program and in every row, IS THE sha256 OF THE DUMP (.gsa) THAT YthcgldjelbmjgaaProg.lean LOADS. Nothing in Lean hashes anything: it is a label: what it is worth is what the hold of that sum in a sandbox is worth. -/
noncomputable def Try.pinned : Pinned := { name := "ythcgldjelbmjgaa", sum := "124c3104ed8893171d395504af52ad6ea4b635e160f3a87a26132dd790850495", checked := Try.checked }
namespace Rows
def none {H : Type} : Left H := { results := [], args := [] }

/-- 'laws.FnExactImageOf': WHATEVER THE INPUT: true; the input reads as it did. -/
def fnExactImageOfSpec : ChangeSpec := { name := "fnExactImageOf", fn := fun _ => fun
  | [d1, d2, d3] => { results := [.lit (.bool true)], args := [d1, d2, d3] }
  | _ => none }
def fnExactImageOfRow : OpenClaim := { program := "ythcgldjelbmjgaa", sum := "124c3104ed8893171d395504af52ad6ea4b635e160f3a87a26132dd790850495", func := "loop.example/g01101/laws.FnExactImageOf", spec := "fnExactImageOf", unfollowed := true, recurses := true, loops := true, apart := false }
def FnExactImageOfSaid : Prop := fnExactImageOfRow.holds Try.pinned (OpenSpec.ofChange fnExactImageOfSpec)

/-- ITS FALSE NEIGHBOUR: 'it returns false'. Refute it at one input. -/
def fnExactImageOfWrong : ChangeSpec := { name := "fnExactImageOf", fn := fun _ => fun
  | [d1, d2, d3] => { results := [.lit (.bool false)], args := [d1, d2, d3] }
  | _ => none }
def FnExactImageOfWrongFalsely : Prop := fnExactImageOfRow.holds Try.pinned (OpenSpec.ofChange fnExactImageOfWrong)

/-- 'laws.FnExactSafeBefore': WHATEVER THE INPUT: true; the input reads as it did. -/
def fnExactSafeBeforeSpec : ChangeSpec := { name := "fnExactSafeBefore", fn := fun _ => fun
  | [d1, d2, d3] => { results := [.lit (.bool true)], args := [d1, d2, d3] }
  | _ => none }
def fnExactSafeBeforeRow : OpenClaim := { program := "ythcgldjelbmjgaa", sum := "124c3104ed8893171d395504af52ad6ea4b635e160f3a87a26132dd790850495", func := "loop.example/g01101/laws.FnExactSafeBefore", spec := "fnExactSafeBefore", unfollowed := true, recurses := true, loops := true, apart := false }
def FnExactSafeBeforeSaid : Prop := fnExactSafeBeforeRow.holds Try.pinned (OpenSpec.ofChange fnExactSafeBeforeSpec)

/-- ITS FALSE NEIGHBOUR: 'it returns false'. Refute it at one input. -/
def fnExactSafeBeforeWrong : ChangeSpec := { name := "fnExactSafeBefore", fn := fun _ => fun
  | [d1, d2, d3] => { results := [.lit (.bool false)], args := [d1, d2, d3] }
  | _ => none }
def FnExactSafeBeforeWrongFalsely : Prop := fnExactSafeBeforeRow.holds Try.pinned (OpenSpec.ofChange fnExactSafeBeforeWrong)

/-- 'laws.FnExactCostsOf': WHATEVER THE INPUT: true; the input reads as it did. -/
def fnExactCostsOfSpec : ChangeSpec := { name := "fnExactCostsOf", fn := fun _ => fun
  | [d1, d2] => { results := [.lit (.bool true)], args := [d1, d2] }
  | _ => none }
def fnExactCostsOfRow : OpenClaim := { program := "ythcgldjelbmjgaa", sum := "124c3104ed8893171d395504af52ad6ea4b635e160f3a87a26132dd790850495", func := "loop.example/g01101/laws.FnExactCostsOf", spec := "fnExactCostsOf", unfollowed := true, recurses := true, loops := true, apart := false }
def FnExactCostsOfSaid : Prop := fnExactCostsOfRow.holds Try.pinned (OpenSpec.ofChange fnExactCostsOfSpec)

/-- ITS FALSE NEIGHBOUR: 'it returns false'. Refute it at one input. -/
def fnExactCostsOfWrong : ChangeSpec := { name := "fnExactCostsOf", fn := fun _ => fun
  | [d1, d2] => { results := [.lit (.bool false)], args := [d1, d2] }
  | _ => none }
def FnExactCostsOfWrongFalsely : Prop := fnExactCostsOfRow.holds Try.pinned (OpenSpec.ofChange fnExactCostsOfWrong)

/-- 'laws.FnExactHoldsInCosts': WHATEVER THE INPUT: true; the input reads as it did. -/
def fnExactHoldsInCostsSpec : ChangeSpec := { name := "fnExactHoldsInCosts", fn := fun _ => fun
  | [d1, d2] => { results := [.lit (.bool true)], args := [d1, d2] }
  | _ => none }
def fnExactHoldsInCostsRow : OpenClaim := { program := "ythcgldjelbmjgaa", sum := "124c3104ed8893171d395504af52ad6ea4b635e160f3a87a26132dd790850495", func := "loop.example/g01101/laws.FnExactHoldsInCosts", spec := "fnExactHoldsInCosts", unfollowed := true, recurses := true, loops := true, apart := false }
def FnExactHoldsInCostsSaid : Prop := fnExactHoldsInCostsRow.holds Try.pinned (OpenSpec.ofChange fnExactHoldsInCostsSpec)

/-- ITS FALSE NEIGHBOUR: 'it returns false'. Refute it at one input. -/
def fnExactHoldsInCostsWrong : ChangeSpec := { name := "fnExactHoldsInCosts", fn := fun _ => fun
  | [d1, d2] => { results := [.lit (.bool false)], args := [d1, d2] }
  | _ => none }
def FnExactHoldsInCostsWrongFalsely : Prop := fnExactHoldsInCostsRow.holds Try.pinned (OpenSpec.ofChange fnExactHoldsInCostsWrong)

/-- 'laws.FnExactJoinModels': WHATEVER THE INPUT: true; the input reads as it did. -/
def fnExactJoinModelsSpec : ChangeSpec := { name := "fnExactJoinModels", fn := fun _ => fun
  | [d1, d2] => { results := [.lit (.bool true)], args := [d1, d2] }
  | _ => none }
def fnExactJoinModelsRow : OpenClaim := { program := "ythcgldjelbmjgaa", sum := "124c3104ed8893171d395504af52ad6ea4b635e160f3a87a26132dd790850495", func := "loop.example/g01101/laws.FnExactJoinModels", spec := "fnExactJoinModels", unfollowed := true, recurses := true, apart := false }
def FnExactJoinModelsSaid : Prop := fnExactJoinModelsRow.holds Try.pinned (OpenSpec.ofChange fnExactJoinModelsSpec)

/-- ITS FALSE NEIGHBOUR: 'it returns false'. Refute it at one input. -/
def fnExactJoinModelsWrong : ChangeSpec := { name := "fnExactJoinModels", fn := fun _ => fun
  | [d1, d2] => { results := [.lit (.bool false)], args := [d1, d2] }
  | _ => none }
def FnExactJoinModelsWrongFalsely : Prop := fnExactJoinModelsRow.holds Try.pinned (OpenSpec.ofChange fnExactJoinModelsWrong)

/-- 'laws.FnExactWordModel': WHATEVER THE INPUT: true; the input reads as it did. -/
def fnExactWordModelSpec : ChangeSpec := { name := "fnExactWordModel", fn := fun _ => fun
  | [d1, d2] => { results := [.lit (.bool true)], args := [d1, d2] }
  | _ => none }
def fnExactWordModelRow : OpenClaim := { program := "ythcgldjelbmjgaa", sum := "124c3104ed8893171d395504af52ad6ea4b635e160f3a87a26132dd790850495", func := "loop.example/g01101/laws.FnExactWordModel", spec := "fnExactWordModel", unfollowed := true, recurses := true, apart := false }
def FnExactWordModelSaid : Prop := fnExactWordModelRow.holds Try.pinned (OpenSpec.ofChange fnExactWordModelSpec)

/-- ITS FALSE NEIGHBOUR: 'it returns false'. Refute it at one input. -/
def fnExactWordModelWrong : ChangeSpec := { name := "fnExactWordModel", fn := fun _ => fun
  | [d1, d2] => { results := [.lit (.bool false)], args := [d1, d2] }
  | _ => none }
def FnExactWordModelWrongFalsely : Prop := fnExactWordModelRow.holds Try.pinned (OpenSpec.ofChange fnExactWordModelWrong)

/-- 'laws.FnExactSupportOf': WHATEVER THE INPUT: true; the input reads as it did. -/
def fnExactSupportOfSpec : ChangeSpec := { name := "fnExactSupportOf", fn := fun _ => fun
  | [d] => { results := [.lit (.bool true)], args := [d] }
  | _ => none }
def fnExactSupportOfRow : OpenClaim := { program := "ythcgldjelbmjgaa", sum := "124c3104ed8893171d395504af52ad6ea4b635e160f3a87a26132dd790850495", func := "loop.example/g01101/laws.FnExactSupportOf", spec := "fnExactSupportOf", unfollowed := true, recurses := true, apart := false }
def FnExactSupportOfSaid : Prop := fnExactSupportOfRow.holds Try.pinned (OpenSpec.ofChange fnExactSupportOfSpec)

/-- ITS FALSE NEIGHBOUR: 'it returns false'. Refute it at one input. -/
def fnExactSupportOfWrong : ChangeSpec := { name := "fnExactSupportOf", fn := fun _ => fun
  | [d] => { results := [.lit (.bool false)], args := [d] }
  | _ => none }
def FnExactSupportOfWrongFalsely : Prop := fnExactSupportOfRow.holds Try.pinned (OpenSpec.ofChange fnExactSupportOfWrong)

/-- 'laws.FnExactProgExpr': WHATEVER THE INPUT: true; the input reads as it did. -/
def fnExactProgExprSpec : ChangeSpec := { name := "fnExactProgExpr", fn := fun _ => fun
  | [d1, d2] => { results := [.lit (.bool true)], args := [d1, d2] }
  | _ => none }
def fnExactProgExprRow : OpenClaim := { program := "ythcgldjelbmjgaa", sum := "124c3104ed8893171d395504af52ad6ea4b635e160f3a87a26132dd790850495", func := "loop.example/g01101/laws.FnExactProgExpr", spec := "fnExactProgExpr", recurses := true, loops := true, apart := false }
def FnExactProgExprSaid : Prop := fnExactProgExprRow.holds Try.pinned (OpenSpec.ofChange fnExactProgExprSpec)

/-- ITS FALSE NEIGHBOUR: 'it returns false'. Refute it at one input. -/
def fnExactProgExprWrong : ChangeSpec := { name := "fnExactProgExpr", fn := fun _ => fun
  | [d1, d2] => { results := [.lit (.bool false)], args := [d1, d2] }
  | _ => none }
def FnExactProgExprWrongFalsely : Prop := fnExactProgExprRow.holds Try.pinned (OpenSpec.ofChange fnExactProgExprWrong)

/-- 'laws.FnImages': WHATEVER THE INPUT: true; the input reads as it did. -/
def fnImagesSpec : ChangeSpec := { name := "fnImages", fn := fun _ => fun
  | [d1, d2] => { results := [.lit (.bool true)], args := [d1, d2] }
  | _ => none }
def fnImagesRow : OpenClaim := { program := "ythcgldjelbmjgaa", sum := "124c3104ed8893171d395504af52ad6ea4b635e160f3a87a26132dd790850495", func := "loop.example/g01101/laws.FnImages", spec := "fnImages", unfollowed := true, recurses := true, apart := false }
def FnImagesSaid : Prop := fnImagesRow.holds Try.pinned (OpenSpec.ofChange fnImagesSpec)

/-- ITS FALSE NEIGHBOUR: 'it returns false'. Refute it at one input. -/
def fnImagesWrong : ChangeSpec := { name := "fnImages", fn := fun _ => fun
  | [d1, d2] => { results := [.lit (.bool false)], args := [d1, d2] }
  | _ => none }
def FnImagesWrongFalsely : Prop := fnImagesRow.holds Try.pinned (OpenSpec.ofChange fnImagesWrong)

/-- 'laws.FnRestricted': WHATEVER THE INPUT: true; the input reads as it did. -/
def fnRestrictedSpec : ChangeSpec := { name := "fnRestricted", fn := fun _ => fun
  | [d1, d2] => { results := [.lit (.bool true)], args := [d1, d2] }
  | _ => none }
def fnRestrictedRow : OpenClaim := { program := "ythcgldjelbmjgaa", sum := "124c3104ed8893171d395504af52ad6ea4b635e160f3a87a26132dd790850495", func := "loop.example/g01101/laws.FnRestricted", spec := "fnRestricted", unfollowed := true, recurses := true, apart := false }
def FnRestrictedSaid : Prop := fnRestrictedRow.holds Try.pinned (OpenSpec.ofChange fnRestrictedSpec)

/-- ITS FALSE NEIGHBOUR: 'it returns false'. Refute it at one input. -/
def fnRestrictedWrong : ChangeSpec := { name := "fnRestricted", fn := fun _ => fun
  | [d1, d2] => { results := [.lit (.bool false)], args := [d1, d2] }
  | _ => none }
def FnRestrictedWrongFalsely : Prop := fnRestrictedRow.holds Try.pinned (OpenSpec.ofChange fnRestrictedWrong)

/-- 'laws.FnCosts': WHATEVER THE INPUT: true; the input reads as it did. -/
def fnCostsSpec : ChangeSpec := { name := "fnCosts", fn := fun _ => fun
  | [d1, d2] => { results := [.lit (.bool true)], args := [d1, d2] }
  | _ => none }
def fnCostsRow : OpenClaim := { program := "ythcgldjelbmjgaa", sum := "124c3104ed8893171d395504af52ad6ea4b635e160f3a87a26132dd790850495", func := "loop.example/g01101/laws.FnCosts", spec := "fnCosts", unfollowed := true, recurses := true, apart := false }
def FnCostsSaid : Prop := fnCostsRow.holds Try.pinned (OpenSpec.ofChange fnCostsSpec)

/-- ITS FALSE NEIGHBOUR: 'it returns false'. Refute it at one input. -/
def fnCostsWrong : ChangeSpec := { name := "fnCosts", fn := fun _ => fun
  | [d1, d2] => { results := [.lit (.bool false)], args := [d1, d2] }
  | _ => none }
def FnCostsWrongFalsely : Prop := fnCostsRow.holds Try.pinned (OpenSpec.ofChange fnCostsWrong)

/-- 'laws.FnExactFirstModelAgainst': WHATEVER THE INPUT: true; the input reads as it did. -/
def fnExactFirstModelAgainstSpec : ChangeSpec := { name := "fnExactFirstModelAgainst", fn := fun _ => fun
  | [d1, d2, d3] => { results := [.lit (.bool true)], args := [d1, d2, d3] }
  | _ => none }
def fnExactFirstModelAgainstRow : OpenClaim := { program := "ythcgldjelbmjgaa", sum := "124c3104ed8893171d395504af52ad6ea4b635e160f3a87a26132dd790850495", func := "loop.example/g01101/laws.FnExactFirstModelAgainst", spec := "fnExactFirstModelAgainst", unfollowed := true, recurses := true, loops := true, apart := false }
def FnExactFirstModelAgainstSaid : Prop := fnExactFirstModelAgainstRow.holds Try.pinned (OpenSpec.ofChange fnExactFirstModelAgainstSpec)

/-- ITS FALSE NEIGHBOUR: 'it returns false'. Refute it at one input. -/
def fnExactFirstModelAgainstWrong : ChangeSpec := { name := "fnExactFirstModelAgainst", fn := fun _ => fun
  | [d1, d2, d3] => { results := [.lit (.bool false)], args := [d1, d2, d3] }
  | _ => none }
def FnExactFirstModelAgainstWrongFalsely : Prop := fnExactFirstModelAgainstRow.holds Try.pinned (OpenSpec.ofChange fnExactFirstModelAgainstWrong)

/- THE SECOND FORM. 'bulk': how many values and letters a reading holds, each counted each time it is reached (what is shared counts as often as it is met; a slice's spare places count too). A statement '..UptoSaid' is the law's where the arguments, and the package variables that the reading takes, are together of bulk at most 1048576: NARROWER than '..Said'. Prove '..Said' where nothing that the law and all that it calls make is longer than what came in: it says more and counts as full. Else prove '..UptoSaid'. A law counts once. -/
mutual
def uptoBulk {H : Type} : DataW H → Nat
  | .lit (.string bytes) => bytes.length + 1
  | .lit _ => 1
  | .nil => 1
  | .ptr d => uptoBulk d + 1
  | .slice elems spare => uptoBulkAll elems + uptoBulkAll spare + 1
  | .agg parts => uptoBulkAll parts + 1
  | .iface _ d => uptoBulk d + 1
  | .map entries => uptoBulkEntries entries + 1
  | .held _ => 1
def uptoBulkAll {H : Type} : List (DataW H) → Nat
  | [] => 0
  | d :: r => uptoBulk d + uptoBulkAll r
def uptoBulkEntries {H : Type} : List (Lit × DataW H) → Nat
  | [] => 0
  | x :: r => uptoBulkEntry x + uptoBulkEntries r
def uptoBulkEntry {H : Type} : Lit × DataW H → Nat
  | (.string bytes, d) => bytes.length + uptoBulk d + 1
  | (_, d) => uptoBulk d + 1
 end
def uptoSmall : (H : Type) → List (DataW H) → Bool := fun _ ds => decide (uptoBulkAll ds ≤ 1048576)
def OpenSpec.upto (s : _root_.Go.ChangeSpec) : _root_.Go.OpenSpec := { _root_.Go.OpenSpec.ofChange s with cond := some uptoSmall }

/-- 'laws.FnExactImageOf', WHERE WHAT IT READS IS OF BULK AT MOST 1048576: true; the input reads as it did. -/
def fnExactImageOfUptoRow : OpenClaim := { program := "ythcgldjelbmjgaa", sum := "124c3104ed8893171d395504af52ad6ea4b635e160f3a87a26132dd790850495", func := "loop.example/g01101/laws.FnExactImageOf", spec := "fnExactImageOf", unfollowed := true, recurses := true, loops := true, apart := false, narrowed := true }
def FnExactImageOfUptoSaid : Prop := fnExactImageOfUptoRow.holds Try.pinned (OpenSpec.upto fnExactImageOfSpec)

/-- 'laws.FnExactSafeBefore', WHERE WHAT IT READS IS OF BULK AT MOST 1048576: true; the input reads as it did. -/
def fnExactSafeBeforeUptoRow : OpenClaim := { program := "ythcgldjelbmjgaa", sum := "124c3104ed8893171d395504af52ad6ea4b635e160f3a87a26132dd790850495", func := "loop.example/g01101/laws.FnExactSafeBefore", spec := "fnExactSafeBefore", unfollowed := true, recurses := true, loops := true, apart := false, narrowed := true }
def FnExactSafeBeforeUptoSaid : Prop := fnExactSafeBeforeUptoRow.holds Try.pinned (OpenSpec.upto fnExactSafeBeforeSpec)

/-- 'laws.FnExactCostsOf', WHERE WHAT IT READS IS OF BULK AT MOST 1048576: true; the input reads as it did. -/
def fnExactCostsOfUptoRow : OpenClaim := { program := "ythcgldjelbmjgaa", sum := "124c3104ed8893171d395504af52ad6ea4b635e160f3a87a26132dd790850495", func := "loop.example/g01101/laws.FnExactCostsOf", spec := "fnExactCostsOf", unfollowed := true, recurses := true, loops := true, apart := false, narrowed := true }
def FnExactCostsOfUptoSaid : Prop := fnExactCostsOfUptoRow.holds Try.pinned (OpenSpec.upto fnExactCostsOfSpec)

/-- 'laws.FnExactHoldsInCosts', WHERE WHAT IT READS IS OF BULK AT MOST 1048576: true; the input reads as it did. -/
def fnExactHoldsInCostsUptoRow : OpenClaim := { program := "ythcgldjelbmjgaa", sum := "124c3104ed8893171d395504af52ad6ea4b635e160f3a87a26132dd790850495", func := "loop.example/g01101/laws.FnExactHoldsInCosts", spec := "fnExactHoldsInCosts", unfollowed := true, recurses := true, loops := true, apart := false, narrowed := true }
def FnExactHoldsInCostsUptoSaid : Prop := fnExactHoldsInCostsUptoRow.holds Try.pinned (OpenSpec.upto fnExactHoldsInCostsSpec)

/-- 'laws.FnExactJoinModels', WHERE WHAT IT READS IS OF BULK AT MOST 1048576: true; the input reads as it did. -/
def fnExactJoinModelsUptoRow : OpenClaim := { program := "ythcgldjelbmjgaa", sum := "124c3104ed8893171d395504af52ad6ea4b635e160f3a87a26132dd790850495", func := "loop.example/g01101/laws.FnExactJoinModels", spec := "fnExactJoinModels", unfollowed := true, recurses := true, apart := false, narrowed := true }
def FnExactJoinModelsUptoSaid : Prop := fnExactJoinModelsUptoRow.holds Try.pinned (OpenSpec.upto fnExactJoinModelsSpec)

/-- 'laws.FnExactWordModel', WHERE WHAT IT READS IS OF BULK AT MOST 1048576: true; the input reads as it did. -/
def fnExactWordModelUptoRow : OpenClaim := { program := "ythcgldjelbmjgaa", sum := "124c3104ed8893171d395504af52ad6ea4b635e160f3a87a26132dd790850495", func := "loop.example/g01101/laws.FnExactWordModel", spec := "fnExactWordModel", unfollowed := true, recurses := true, apart := false, narrowed := true }
def FnExactWordModelUptoSaid : Prop := fnExactWordModelUptoRow.holds Try.pinned (OpenSpec.upto fnExactWordModelSpec)

/-- 'laws.FnExactSupportOf', WHERE WHAT IT READS IS OF BULK AT MOST 1048576: true; the input reads as it did. -/
def fnExactSupportOfUptoRow : OpenClaim := { program := "ythcgldjelbmjgaa", sum := "124c3104ed8893171d395504af52ad6ea4b635e160f3a87a26132dd790850495", func := "loop.example/g01101/laws.FnExactSupportOf", spec := "fnExactSupportOf", unfollowed := true, recurses := true, apart := false, narrowed := true }
def FnExactSupportOfUptoSaid : Prop := fnExactSupportOfUptoRow.holds Try.pinned (OpenSpec.upto fnExactSupportOfSpec)

/-- 'laws.FnExactProgExpr', WHERE WHAT IT READS IS OF BULK AT MOST 1048576: true; the input reads as it did. -/
def fnExactProgExprUptoRow : OpenClaim := { program := "ythcgldjelbmjgaa", sum := "124c3104ed8893171d395504af52ad6ea4b635e160f3a87a26132dd790850495", func := "loop.example/g01101/laws.FnExactProgExpr", spec := "fnExactProgExpr", recurses := true, loops := true, apart := false, narrowed := true }
def FnExactProgExprUptoSaid : Prop := fnExactProgExprUptoRow.holds Try.pinned (OpenSpec.upto fnExactProgExprSpec)

/-- 'laws.FnImages', WHERE WHAT IT READS IS OF BULK AT MOST 1048576: true; the input reads as it did. -/
def fnImagesUptoRow : OpenClaim := { program := "ythcgldjelbmjgaa", sum := "124c3104ed8893171d395504af52ad6ea4b635e160f3a87a26132dd790850495", func := "loop.example/g01101/laws.FnImages", spec := "fnImages", unfollowed := true, recurses := true, apart := false, narrowed := true }
def FnImagesUptoSaid : Prop := fnImagesUptoRow.holds Try.pinned (OpenSpec.upto fnImagesSpec)

/-- 'laws.FnRestricted', WHERE WHAT IT READS IS OF BULK AT MOST 1048576: true; the input reads as it did. -/
def fnRestrictedUptoRow : OpenClaim := { program := "ythcgldjelbmjgaa", sum := "124c3104ed8893171d395504af52ad6ea4b635e160f3a87a26132dd790850495", func := "loop.example/g01101/laws.FnRestricted", spec := "fnRestricted", unfollowed := true, recurses := true, apart := false, narrowed := true }
def FnRestrictedUptoSaid : Prop := fnRestrictedUptoRow.holds Try.pinned (OpenSpec.upto fnRestrictedSpec)

/-- 'laws.FnCosts', WHERE WHAT IT READS IS OF BULK AT MOST 1048576: true; the input reads as it did. -/
def fnCostsUptoRow : OpenClaim := { program := "ythcgldjelbmjgaa", sum := "124c3104ed8893171d395504af52ad6ea4b635e160f3a87a26132dd790850495", func := "loop.example/g01101/laws.FnCosts", spec := "fnCosts", unfollowed := true, recurses := true, apart := false, narrowed := true }
def FnCostsUptoSaid : Prop := fnCostsUptoRow.holds Try.pinned (OpenSpec.upto fnCostsSpec)

/-- 'laws.FnExactFirstModelAgainst', WHERE WHAT IT READS IS OF BULK AT MOST 1048576: true; the input reads as it did. -/
def fnExactFirstModelAgainstUptoRow : OpenClaim := { program := "ythcgldjelbmjgaa", sum := "124c3104ed8893171d395504af52ad6ea4b635e160f3a87a26132dd790850495", func := "loop.example/g01101/laws.FnExactFirstModelAgainst", spec := "fnExactFirstModelAgainst", unfollowed := true, recurses := true, loops := true, apart := false, narrowed := true }
def FnExactFirstModelAgainstUptoSaid : Prop := fnExactFirstModelAgainstUptoRow.holds Try.pinned (OpenSpec.upto fnExactFirstModelAgainstSpec)

end Rows
end Go.Proofs.Ythcgldjelbmjgaa
