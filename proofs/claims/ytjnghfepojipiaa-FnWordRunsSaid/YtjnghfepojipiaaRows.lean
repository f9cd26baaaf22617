/-
  NARROWER THAN 'FOR EVERY INPUT', by the rows' own cells (each row's printed sentence says how): FnExactFirstModelAgainst: loops · FnExactFlowOf: loops · FnExactSubstitute: loops · FnExactReplaceAt: loops.
  DERIVED. THE GIVEN ROWS OF THIS SEAT. 11 by the template 'for every input the law returns true; each argument reads behind the call as it read before'; 0 by the template 'total and deterministic' (their statements: YtjnghfepojipiaaTotals.lean).
  GIVEN WITH THE SEED: the statements are not yours to turn. If you find one false, say at which input.
  Laid BY PROGRAM, IN A SANDBOX (cutbox-rows.mjs): the forced cells as the released guide's own fill.sh prints them over the translation 98a6de4412505375… (all of the seat's roots in one cut). By AI agents, Wed Nov 11 2026. No macro, syntax, notation, axiom, sorry.
-/
import Derived.Test.YtjnghfepojipiaaChecked
import GoSem.Claim
import GoSem.ClaimJoined
import GoSem.ClaimMapViews
import Derived.JoinedTies
import Derived.KernelRfl
namespace Go.Proofs.Ytjnghfepojipiaa
/- THE CELL 'sum', in the pinned program and in every row, IS THE sha256 OF THE DUMP (.gsa) THAT YtjnghfepojipiaaProg.lean LOADS. Nothing in Lean hashes anything: it is a label: what it is worth is what the hold of that sum in a sandbox is worth. -/
noncomputable def Try.pinned : Pinned := { name := "ytjnghfepojipiaa", sum := "98a6de4412505375e398e89bf88096b72a78a5e916c5b032552ef53572f04a0f", checked := Try.checked }
namespace Rows
def none {H : Type} : Left H := { results := [], args := [] }

/-- 'laws.FnExactRenumberModel': WHATEVER THE INPUT: true; the input reads as it did. -/
def fnExactRenumberModelSpec : ChangeSpec := { name := "fnExactRenumberModel", fn := fun _ => fun
  | [d1, d2] => { results := [.lit (.bool true)], args := [d1, d2] }
  | _ => none }
def fnExactRenumberModelRow : OpenClaim := { program := "ytjnghfepojipiaa", sum := "98a6de4412505375e398e89bf88096b72a78a5e916c5b032552ef53572f04a0f", func := "loop.example/g01101/laws.FnExactRenumberModel", spec := "fnExactRenumberModel", unfollowed := true, recurses := true, apart := false }
def FnExactRenumberModelSaid : Prop := fnExactRenumberModelRow.holds Try.pinned (OpenSpec.ofChange fnExactRenumberModelSpec)

/-- ITS FALSE NEIGHBOUR: 'it returns false'. Refute it at one input. -/
def fnExactRenumberModelWrong : ChangeSpec := { name := "fnExactRenumberModel", fn := fun _ => fun
  | [d1, d2] => { results := [.lit (.bool false)], args := [d1, d2] }
  | _ => none }
def FnExactRenumberModelWrongFalsely : Prop := fnExactRenumberModelRow.holds Try.pinned (OpenSpec.ofChange fnExactRenumberModelWrong)

/-- 'laws.FnExactFirstModelAgainst': WHATEVER THE INPUT: true; the input reads as it did. -/
def fnExactFirstModelAgainstSpec : ChangeSpec := { name := "fnExactFirstModelAgainst", fn := fun _ => fun
  | [d1, d2, d3] => { results := [.lit (.bool true)], args := [d1, d2, d3] }
  | _ => none }
def fnExactFirstModelAgainstRow : OpenClaim := { program := "ytjnghfepojipiaa", sum := "98a6de4412505375e398e89bf88096b72a78a5e916c5b032552ef53572f04a0f", func := "loop.example/g01101/laws.FnExactFirstModelAgainst", spec := "fnExactFirstModelAgainst", unfollowed := true, recurses := true, loops := true, apart := false }
def FnExactFirstModelAgainstSaid : Prop := fnExactFirstModelAgainstRow.holds Try.pinned (OpenSpec.ofChange fnExactFirstModelAgainstSpec)

/-- ITS FALSE NEIGHBOUR: 'it returns false'. Refute it at one input. -/
def fnExactFirstModelAgainstWrong : ChangeSpec := { name := "fnExactFirstModelAgainst", fn := fun _ => fun
  | [d1, d2, d3] => { results := [.lit (.bool false)], args := [d1, d2, d3] }
  | _ => none }
def FnExactFirstModelAgainstWrongFalsely : Prop := fnExactFirstModelAgainstRow.holds Try.pinned (OpenSpec.ofChange fnExactFirstModelAgainstWrong)

/-- 'laws.FnExactFlowOf': WHATEVER THE INPUT: true; the input reads as it did. -/
def fnExactFlowOfSpec : ChangeSpec := { name := "fnExactFlowOf", fn := fun _ => fun
  | [d1, d2] => { results := [.lit (.bool true)], args := [d1, d2] }
  | _ => none }
def fnExactFlowOfRow : OpenClaim := { program := "ytjnghfepojipiaa", sum := "98a6de4412505375e398e89bf88096b72a78a5e916c5b032552ef53572f04a0f", func := "loop.example/g01101/laws.FnExactFlowOf", spec := "fnExactFlowOf", recurses := true, loops := true, apart := false }
def FnExactFlowOfSaid : Prop := fnExactFlowOfRow.holds Try.pinned (OpenSpec.ofChange fnExactFlowOfSpec)

/-- ITS FALSE NEIGHBOUR: 'it returns false'. Refute it at one input. -/
def fnExactFlowOfWrong : ChangeSpec := { name := "fnExactFlowOf", fn := fun _ => fun
  | [d1, d2] => { results := [.lit (.bool false)], args := [d1, d2] }
  | _ => none }
def FnExactFlowOfWrongFalsely : Prop := fnExactFlowOfRow.holds Try.pinned (OpenSpec.ofChange fnExactFlowOfWrong)

/-- 'laws.FnExactSubstitute': WHATEVER THE INPUT: true; the input reads as it did. -/
def fnExactSubstituteSpec : ChangeSpec := { name := "fnExactSubstitute", fn := fun _ => fun
  | [d1, d2, d3, d4] => { results := [.lit (.bool true)], args := [d1, d2, d3, d4] }
  | _ => none }
def fnExactSubstituteRow : OpenClaim := { program := "ytjnghfepojipiaa", sum := "98a6de4412505375e398e89bf88096b72a78a5e916c5b032552ef53572f04a0f", func := "loop.example/g01101/laws.FnExactSubstitute", spec := "fnExactSubstitute", recurses := true, loops := true, apart := false }
def FnExactSubstituteSaid : Prop := fnExactSubstituteRow.holds Try.pinned (OpenSpec.ofChange fnExactSubstituteSpec)

/-- ITS FALSE NEIGHBOUR: 'it returns false'. Refute it at one input. -/
def fnExactSubstituteWrong : ChangeSpec := { name := "fnExactSubstitute", fn := fun _ => fun
  | [d1, d2, d3, d4] => { results := [.lit (.bool false)], args := [d1, d2, d3, d4] }
  | _ => none }
def FnExactSubstituteWrongFalsely : Prop := fnExactSubstituteRow.holds Try.pinned (OpenSpec.ofChange fnExactSubstituteWrong)

/-- 'laws.FnExactReplaceAt': WHATEVER THE INPUT: true; the input reads as it did. -/
def fnExactReplaceAtSpec : ChangeSpec := { name := "fnExactReplaceAt", fn := fun _ => fun
  | [d1, d2, d3, d4] => { results := [.lit (.bool true)], args := [d1, d2, d3, d4] }
  | _ => none }
def fnExactReplaceAtRow : OpenClaim := { program := "ytjnghfepojipiaa", sum := "98a6de4412505375e398e89bf88096b72a78a5e916c5b032552ef53572f04a0f", func := "loop.example/g01101/laws.FnExactReplaceAt", spec := "fnExactReplaceAt", recurses := true, loops := true, apart := false }
def FnExactReplaceAtSaid : Prop := fnExactReplaceAtRow.holds Try.pinned (OpenSpec.ofChange fnExactReplaceAtSpec)

/-- ITS FALSE NEIGHBOUR: 'it returns false'. Refute it at one input. -/
def fnExactReplaceAtWrong : ChangeSpec := { name := "fnExactReplaceAt", fn := fun _ => fun
  | [d1, d2, d3, d4] => { results := [.lit (.bool false)], args := [d1, d2, d3, d4] }
  | _ => none }
def FnExactReplaceAtWrongFalsely : Prop := fnExactReplaceAtRow.holds Try.pinned (OpenSpec.ofChange fnExactReplaceAtWrong)

/-- 'laws.FnReplaced': WHATEVER THE INPUT: true; the input reads as it did. -/
def fnReplacedSpec : ChangeSpec := { name := "fnReplaced", fn := fun _ => fun
  | [d1, d2] => { results := [.lit (.bool true)], args := [d1, d2] }
  | _ => none }
def fnReplacedRow : OpenClaim := { program := "ytjnghfepojipiaa", sum := "98a6de4412505375e398e89bf88096b72a78a5e916c5b032552ef53572f04a0f", func := "loop.example/g01101/laws.FnReplaced", spec := "fnReplaced", recurses := true, apart := false }
def FnReplacedSaid : Prop := fnReplacedRow.holds Try.pinned (OpenSpec.ofChange fnReplacedSpec)

/-- ITS FALSE NEIGHBOUR: 'it returns false'. Refute it at one input. -/
def fnReplacedWrong : ChangeSpec := { name := "fnReplaced", fn := fun _ => fun
  | [d1, d2] => { results := [.lit (.bool false)], args := [d1, d2] }
  | _ => none }
def FnReplacedWrongFalsely : Prop := fnReplacedRow.holds Try.pinned (OpenSpec.ofChange fnReplacedWrong)

/-- 'laws.FnImages': WHATEVER THE INPUT: true; the input reads as it did. -/
def fnImagesSpec : ChangeSpec := { name := "fnImages", fn := fun _ => fun
  | [d1, d2] => { results := [.lit (.bool true)], args := [d1, d2] }
  | _ => none }
def fnImagesRow : OpenClaim := { program := "ytjnghfepojipiaa", sum := "98a6de4412505375e398e89bf88096b72a78a5e916c5b032552ef53572f04a0f", func := "loop.example/g01101/laws.FnImages", spec := "fnImages", unfollowed := true, recurses := true, apart := false }
def FnImagesSaid : Prop := fnImagesRow.holds Try.pinned (OpenSpec.ofChange fnImagesSpec)

/-- ITS FALSE NEIGHBOUR: 'it returns false'. Refute it at one input. -/
def fnImagesWrong : ChangeSpec := { name := "fnImages", fn := fun _ => fun
  | [d1, d2] => { results := [.lit (.bool false)], args := [d1, d2] }
  | _ => none }
def FnImagesWrongFalsely : Prop := fnImagesRow.holds Try.pinned (OpenSpec.ofChange fnImagesWrong)

/-- 'laws.FnRestricted': WHATEVER THE INPUT: true; the input reads as it did. -/
def fnRestrictedSpec : ChangeSpec := { name := "fnRestricted", fn := fun _ => fun
  | [d1, d2] => { results := [.lit (.bool true)], args := [d1, d2] }
  | _ => none }
def fnRestrictedRow : OpenClaim := { program := "ytjnghfepojipiaa", sum := "98a6de4412505375e398e89bf88096b72a78a5e916c5b032552ef53572f04a0f", func := "loop.example/g01101/laws.FnRestricted", spec := "fnRestricted", unfollowed := true, recurses := true, apart := false }
def FnRestrictedSaid : Prop := fnRestrictedRow.holds Try.pinned (OpenSpec.ofChange fnRestrictedSpec)

/-- ITS FALSE NEIGHBOUR: 'it returns false'. Refute it at one input. -/
def fnRestrictedWrong : ChangeSpec := { name := "fnRestricted", fn := fun _ => fun
  | [d1, d2] => { results := [.lit (.bool false)], args := [d1, d2] }
  | _ => none }
def FnRestrictedWrongFalsely : Prop := fnRestrictedRow.holds Try.pinned (OpenSpec.ofChange fnRestrictedWrong)

/-- 'laws.FnCosts': WHATEVER THE INPUT: true; the input reads as it did. -/
def fnCostsSpec : ChangeSpec := { name := "fnCosts", fn := fun _ => fun
  | [d1, d2] => { results := [.lit (.bool true)], args := [d1, d2] }
  | _ => none }
def fnCostsRow : OpenClaim := { program := "ytjnghfepojipiaa", sum := "98a6de4412505375e398e89bf88096b72a78a5e916c5b032552ef53572f04a0f", func := "loop.example/g01101/laws.FnCosts", spec := "fnCosts", unfollowed := true, recurses := true, apart := false }
def FnCostsSaid : Prop := fnCostsRow.holds Try.pinned (OpenSpec.ofChange fnCostsSpec)

/-- ITS FALSE NEIGHBOUR: 'it returns false'. Refute it at one input. -/
def fnCostsWrong : ChangeSpec := { name := "fnCosts", fn := fun _ => fun
  | [d1, d2] => { results := [.lit (.bool false)], args := [d1, d2] }
  | _ => none }
def FnCostsWrongFalsely : Prop := fnCostsRow.holds Try.pinned (OpenSpec.ofChange fnCostsWrong)

/-- 'laws.FnMadeModels': WHATEVER THE INPUT: true; the input reads as it did. -/
def fnMadeModelsSpec : ChangeSpec := { name := "fnMadeModels", fn := fun _ => fun
  | [d1, d2] => { results := [.lit (.bool true)], args := [d1, d2] }
  | _ => none }
def fnMadeModelsRow : OpenClaim := { program := "ytjnghfepojipiaa", sum := "98a6de4412505375e398e89bf88096b72a78a5e916c5b032552ef53572f04a0f", func := "loop.example/g01101/laws.FnMadeModels", spec := "fnMadeModels", unfollowed := true, recurses := true, apart := false }
def FnMadeModelsSaid : Prop := fnMadeModelsRow.holds Try.pinned (OpenSpec.ofChange fnMadeModelsSpec)

/-- ITS FALSE NEIGHBOUR: 'it returns false'. Refute it at one input. -/
def fnMadeModelsWrong : ChangeSpec := { name := "fnMadeModels", fn := fun _ => fun
  | [d1, d2] => { results := [.lit (.bool false)], args := [d1, d2] }
  | _ => none }
def FnMadeModelsWrongFalsely : Prop := fnMadeModelsRow.holds Try.pinned (OpenSpec.ofChange fnMadeModelsWrong)

/-- 'laws.FnWordRuns': WHATEVER THE INPUT: true; the input reads as it did. -/
def fnWordRunsSpec : ChangeSpec := { name := "fnWordRuns", fn := fun _ => fun
  | [d1, d2] => { results := [.lit (.bool true)], args := [d1, d2] }
  | _ => none }
def fnWordRunsRow : OpenClaim := { program := "ytjnghfepojipiaa", sum := "98a6de4412505375e398e89bf88096b72a78a5e916c5b032552ef53572f04a0f", func := "loop.example/g01101/laws.FnWordRuns", spec := "fnWordRuns", unfollowed := true, recurses := true, apart := false }
def FnWordRunsSaid : Prop := fnWordRunsRow.holds Try.pinned (OpenSpec.ofChange fnWordRunsSpec)

/-- ITS FALSE NEIGHBOUR: 'it returns false'. Refute it at one input. -/
def fnWordRunsWrong : ChangeSpec := { name := "fnWordRuns", fn := fun _ => fun
  | [d1, d2] => { results := [.lit (.bool false)], args := [d1, d2] }
  | _ => none }
def FnWordRunsWrongFalsely : Prop := fnWordRunsRow.holds Try.pinned (OpenSpec.ofChange fnWordRunsWrong)

/- THE SECOND FORM. 'bulk': how many values and letters a reading holds, each counted each time it is reached (what is shared counts as often as it is met; a slice's spare places count too). A statement '..UptoSaid' is the law's where the arguments, and the package variables that the reading takes, are together of bulk at most 1048576: NARROWER than '..Said'. Prove '..Said' where nothing that the law and all that it calls make is longer than what came in: it says more and counts as full. Else prove '..UptoSaid'. A law counts once. -/
mutual
def uptoBulk {H : Type} : DataW H → Nat
  | .lit (.string bytes) => bytes.length + 1
  | .lit _ => 1
  | .nil => 1
  | .ptr d => uptoBulk d + 1
  | .slice elems spare => uptoBulkAll elems + uptoBulkAll spare + 1
  | .agg parts => uptoBulkAll parts + 1
  | .iface _ d => uptoBulk d + 1
  | .map entries => uptoBulkEntries entries + 1
  | .held _ => 1
def uptoBulkAll {H : Type} : List (DataW H) → Nat
  | [] => 0
  | d :: r => uptoBulk d + uptoBulkAll r
def uptoBulkEntries {H : Type} : List (Lit × DataW H) → Nat
  | [] => 0
  | x :: r => uptoBulkEntry x + uptoBulkEntries r
def uptoBulkEntry {H : Type} : Lit × DataW H → Nat
  | (.string bytes, d) => bytes.length + uptoBulk d + 1
  | (_, d) => uptoBulk d + 1
 end
def uptoSmall : (H : Type) → List (DataW H) → Bool := fun _ ds => decide (uptoBulkAll ds ≤ 1048576)
def OpenSpec.upto (s : _root_.Go.ChangeSpec) : _root_.Go.OpenSpec := { _root_.Go.OpenSpec.ofChange s with cond := some uptoSmall }

/-- 'laws.FnExactRenumberModel', WHERE WHAT IT READS IS OF BULK AT MOST 1048576: true; the input reads as it did. -/
def fnExactRenumberModelUptoRow : OpenClaim := { program := "ytjnghfepojipiaa", sum := "98a6de4412505375e398e89bf88096b72a78a5e916c5b032552ef53572f04a0f", func := "loop.example/g01101/laws.FnExactRenumberModel", spec := "fnExactRenumberModel", unfollowed := true, recurses := true, apart := false, narrowed := true }
def FnExactRenumberModelUptoSaid : Prop := fnExactRenumberModelUptoRow.holds Try.pinned (OpenSpec.upto fnExactRenumberModelSpec)

/-- 'laws.FnExactFirstModelAgainst', WHERE WHAT IT READS IS OF BULK AT MOST 1048576: true; the input reads as it did. -/
def fnExactFirstModelAgainstUptoRow : OpenClaim := { program := "ytjnghfepojipiaa", sum := "98a6de4412505375e398e89bf88096b72a78a5e916c5b032552ef53572f04a0f", func := "loop.example/g01101/laws.FnExactFirstModelAgainst", spec := "fnExactFirstModelAgainst", unfollowed := true, recurses := true, loops := true, apart := false, narrowed := true }
def FnExactFirstModelAgainstUptoSaid : Prop := fnExactFirstModelAgainstUptoRow.holds Try.pinned (OpenSpec.upto fnExactFirstModelAgainstSpec)

/-- 'laws.FnExactFlowOf', WHERE WHAT IT READS IS OF BULK AT MOST 1048576: true; the input reads as it did. -/
def fnExactFlowOfUptoRow : OpenClaim := { program := "ytjnghfepojipiaa", sum := "98a6de4412505375e398e89bf88096b72a78a5e916c5b032552ef53572f04a0f", func := "loop.example/g01101/laws.FnExactFlowOf", spec := "fnExactFlowOf", recurses := true, loops := true, apart := false, narrowed := true }
def FnExactFlowOfUptoSaid : Prop := fnExactFlowOfUptoRow.holds Try.pinned (OpenSpec.upto fnExactFlowOfSpec)

/-- 'laws.FnExactSubstitute', WHERE WHAT IT READS IS OF BULK AT MOST 1048576: true; the input reads as it did. -/
def fnExactSubstituteUptoRow : OpenClaim := { program := "ytjnghfepojipiaa", sum := "98a6de4412505375e398e89bf88096b72a78a5e916c5b032552ef53572f04a0f", func := "loop.example/g01101/laws.FnExactSubstitute", spec := "fnExactSubstitute", recurses := true, loops := true, apart := false, narrowed := true }
def FnExactSubstituteUptoSaid : Prop := fnExactSubstituteUptoRow.holds Try.pinned (OpenSpec.upto fnExactSubstituteSpec)

/-- 'laws.FnExactReplaceAt', WHERE WHAT IT READS IS OF BULK AT MOST 1048576: true; the input reads as it did. -/
def fnExactReplaceAtUptoRow : OpenClaim := { program := "ytjnghfepojipiaa", sum := "98a6de4412505375e398e89bf88096b72a78a5e916c5b032552ef53572f04a0f", func := "loop.example/g01101/laws.FnExactReplaceAt", spec := "fnExactReplaceAt", recurses := true, loops := true, apart := false, narrowed := true }
def FnExactReplaceAtUptoSaid : Prop := fnExactReplaceAtUptoRow.holds Try.pinned (OpenSpec.upto fnExactReplaceAtSpec)

/-- 'laws.FnReplaced', WHERE WHAT IT READS IS OF BULK AT MOST 1048576: true; the input reads as it did. -/
def fnReplacedUptoRow : OpenClaim := { program := "ytjnghfepojipiaa", sum := "98a6de4412505375e398e89bf88096b72a78a5e916c5b032552ef53572f04a0f", func := "loop.example/g01101/laws.FnReplaced", spec := "fnReplaced", recurses := true, apart := false, narrowed := true }
def FnReplacedUptoSaid : Prop := fnReplacedUptoRow.holds Try.pinned (OpenSpec.upto fnReplacedSpec)

/-- 'laws.FnImages', WHERE WHAT IT READS IS OF BULK AT MOST 1048576: true; the input reads as it did. -/
def fnImagesUptoRow : OpenClaim := { program := "ytjnghfepojipiaa", sum := "98a6de4412505375e398e89bf88096b72a78a5e916c5b032552ef53572f04a0f", func := "loop.example/g01101/laws.FnImages", spec := "fnImages", unfollowed := true, recurses := true, apart := false, narrowed := true }
def FnImagesUptoSaid : Prop := fnImagesUptoRow.holds Try.pinned (OpenSpec.upto fnImagesSpec)

/-- 'laws.FnRestricted', WHERE WHAT IT READS IS OF BULK AT MOST 1048576: true; the input reads as it did. -/
def fnRestrictedUptoRow : OpenClaim := { program := "ytjnghfepojipiaa", sum := "98a6de4412505375e398e89bf88096b72a78a5e916c5b032552ef53572f04a0f", func := "loop.example/g01101/laws.FnRestricted", spec := "fnRestricted", unfollowed := true, recurses := true, apart := false, narrowed := true }
def FnRestrictedUptoSaid : Prop := fnRestrictedUptoRow.holds Try.pinned (OpenSpec.upto fnRestrictedSpec)

/-- 'laws.FnCosts', WHERE WHAT IT READS IS OF BULK AT MOST 1048576: true; the input reads as it did. -/
def fnCostsUptoRow : OpenClaim := { program := "ytjnghfepojipiaa", sum := "98a6de4412505375e398e89bf88096b72a78a5e916c5b032552ef53572f04a0f", func := "loop.example/g01101/laws.FnCosts", spec := "fnCosts", unfollowed := true, recurses := true, apart := false, narrowed := true }
def FnCostsUptoSaid : Prop := fnCostsUptoRow.holds Try.pinned (OpenSpec.upto fnCostsSpec)

/-- 'laws.FnMadeModels', WHERE WHAT IT READS IS OF BULK AT MOST 1048576: true; the input reads as it did. -/
def fnMadeModelsUptoRow : OpenClaim := { program := "ytjnghfepojipiaa", sum := "98a6de4412505375e398e89bf88096b72a78a5e916c5b032552ef53572f04a0f", func := "loop.example/g01101/laws.FnMadeModels", spec := "fnMadeModels", unfollowed := true, recurses := true, apart := false, narrowed := true }
def FnMadeModelsUptoSaid : Prop := fnMadeModelsUptoRow.holds Try.pinned (OpenSpec.upto fnMadeModelsSpec)

/-- 'laws.FnWordRuns', WHERE WHAT IT READS IS OF BULK AT MOST 1048576: true; the input reads as it did. -/
def fnWordRunsUptoRow : OpenClaim := { program := "ytjnghfepojipiaa", sum := "98a6de4412505375e398e89bf88096b72a78a5e916c5b032552ef53572f04a0f", func := "loop.example/g01101/laws.FnWordRuns", spec := "fnWordRuns", unfollowed := true, recurses := true, apart := false, narrowed := true }
def FnWordRunsUptoSaid : Prop := fnWordRunsUptoRow.holds Try.pinned (OpenSpec.upto fnWordRunsSpec)

end Rows
end Go.Proofs.Ytjnghfepojipiaa
