/-
  NARROWER THAN 'FOR EVERY INPUT', by the rows' own cells (each row's printed sentence says how): FnExactValidEquation: loops · FnExactSubtermAt: loops · FnExactValidFlow: loops · FnExactValidProg: loops · FnExactReplaceAt: loops · FnExactSameProof: loops.
  DERIVED. THE GIVEN ROWS OF THIS SEAT. 12 by the template 'for every input the law returns true; each argument reads behind the call as it read before'; 0 by the template 'total and deterministic' (their statements: YtcklakmblpkbnaaTotals.lean).
  GIVEN WITH THE SEED: the statements are not yours to turn. If you find one false, say at which input.
  Laid BY PROGRAM, IN A SANDBOX (cutbox-rows.mjs): the forced cells as the released guide's own fill.sh prints them over the translation b2e323cac1285e4d… (all of the seat's roots in one cut). By AI agents, Wed Nov 11 2026. No macro, syntax, notation, axiom, sorry.
-/
import Derived.Test.YtcklakmblpkbnaaChecked
import GoSem.Claim
import GoSem.ClaimJoined
import GoSem.ClaimMapViews
import Derived.JoinedTies
import Derived.KernelRfl
namespace Go.Proofs.Ytcklakmblpkbnaa
/- THE CELL 'sum', in the pinned program and in every row, IS THE sha256 OF THE DUMP (.gsa) THAT YtcklakmblpkbnaaProg.lean LOADS. Nothing in Lean hashes anything: it is a label: what it is worth is what the hold of that sum in a sandbox is worth. -/
noncomputable def Try.pinned : Pinned := { name := "ytcklakmblpkbnaa", sum := "b2e323cac1285e4df56f067dc16cbfdd41c2874860f5185b69886d81818647ad", checked := Try.checked }
namespace Rows
def none {H : Type} : Left H := { results := [], args := [] }

/-- 'laws.FnExactAtomOf': WHATEVER THE INPUT: true; the input reads as it did. -/
def fnExactAtomOfSpec : ChangeSpec := { name := "fnExactAtomOf", fn := fun _ => fun
  | [d1, d2] => { results := [.lit (.bool true)], args := [d1, d2] }
  | _ => none }
def fnExactAtomOfRow : OpenClaim := { program := "ytcklakmblpkbnaa", sum := "b2e323cac1285e4df56f067dc16cbfdd41c2874860f5185b69886d81818647ad", func := "loop.example/g01101/laws.FnExactAtomOf", spec := "fnExactAtomOf", apart := false }
def FnExactAtomOfSaid : Prop := fnExactAtomOfRow.holds Try.pinned (OpenSpec.ofChange fnExactAtomOfSpec)

/-- ITS FALSE NEIGHBOUR: 'it returns false'. Refute it at one input. -/
def fnExactAtomOfWrong : ChangeSpec := { name := "fnExactAtomOf", fn := fun _ => fun
  | [d1, d2] => { results := [.lit (.bool false)], args := [d1, d2] }
  | _ => none }
def FnExactAtomOfWrongFalsely : Prop := fnExactAtomOfRow.holds Try.pinned (OpenSpec.ofChange fnExactAtomOfWrong)

/-- 'laws.FnExactFollowWord': WHATEVER THE INPUT: true; the input reads as it did. -/
def fnExactFollowWordSpec : ChangeSpec := { name := "fnExactFollowWord", fn := fun _ => fun
  | [d1, d2, d3, d4] => { results := [.lit (.bool true)], args := [d1, d2, d3, d4] }
  | _ => none }
def fnExactFollowWordRow : OpenClaim := { program := "ytcklakmblpkbnaa", sum := "b2e323cac1285e4df56f067dc16cbfdd41c2874860f5185b69886d81818647ad", func := "loop.example/g01101/laws.FnExactFollowWord", spec := "fnExactFollowWord", apart := false }
def FnExactFollowWordSaid : Prop := fnExactFollowWordRow.holds Try.pinned (OpenSpec.ofChange fnExactFollowWordSpec)

/-- ITS FALSE NEIGHBOUR: 'it returns false'. Refute it at one input. -/
def fnExactFollowWordWrong : ChangeSpec := { name := "fnExactFollowWord", fn := fun _ => fun
  | [d1, d2, d3, d4] => { results := [.lit (.bool false)], args := [d1, d2, d3, d4] }
  | _ => none }
def FnExactFollowWordWrongFalsely : Prop := fnExactFollowWordRow.holds Try.pinned (OpenSpec.ofChange fnExactFollowWordWrong)

/-- 'laws.FnExactValidEquation': WHATEVER THE INPUT: true; the input reads as it did. -/
def fnExactValidEquationSpec : ChangeSpec := { name := "fnExactValidEquation", fn := fun _ => fun
  | [d1, d2] => { results := [.lit (.bool true)], args := [d1, d2] }
  | _ => none }
def fnExactValidEquationRow : OpenClaim := { program := "ytcklakmblpkbnaa", sum := "b2e323cac1285e4df56f067dc16cbfdd41c2874860f5185b69886d81818647ad", func := "loop.example/g01101/laws.FnExactValidEquation", spec := "fnExactValidEquation", recurses := true, loops := true, apart := false }
def FnExactValidEquationSaid : Prop := fnExactValidEquationRow.holds Try.pinned (OpenSpec.ofChange fnExactValidEquationSpec)

/-- ITS FALSE NEIGHBOUR: 'it returns false'. Refute it at one input. -/
def fnExactValidEquationWrong : ChangeSpec := { name := "fnExactValidEquation", fn := fun _ => fun
  | [d1, d2] => { results := [.lit (.bool false)], args := [d1, d2] }
  | _ => none }
def FnExactValidEquationWrongFalsely : Prop := fnExactValidEquationRow.holds Try.pinned (OpenSpec.ofChange fnExactValidEquationWrong)

/-- 'laws.FnExactValidCosts': WHATEVER THE INPUT: true; the input reads as it did. -/
def fnExactValidCostsSpec : ChangeSpec := { name := "fnExactValidCosts", fn := fun _ => fun
  | [d] => { results := [.lit (.bool true)], args := [d] }
  | _ => none }
def fnExactValidCostsRow : OpenClaim := { program := "ytcklakmblpkbnaa", sum := "b2e323cac1285e4df56f067dc16cbfdd41c2874860f5185b69886d81818647ad", func := "loop.example/g01101/laws.FnExactValidCosts", spec := "fnExactValidCosts", apart := false }
def FnExactValidCostsSaid : Prop := fnExactValidCostsRow.holds Try.pinned (OpenSpec.ofChange fnExactValidCostsSpec)

/-- ITS FALSE NEIGHBOUR: 'it returns false'. Refute it at one input. -/
def fnExactValidCostsWrong : ChangeSpec := { name := "fnExactValidCosts", fn := fun _ => fun
  | [d] => { results := [.lit (.bool false)], args := [d] }
  | _ => none }
def FnExactValidCostsWrongFalsely : Prop := fnExactValidCostsRow.holds Try.pinned (OpenSpec.ofChange fnExactValidCostsWrong)

/-- 'laws.FnExactWordModel': WHATEVER THE INPUT: true; the input reads as it did. -/
def fnExactWordModelSpec : ChangeSpec := { name := "fnExactWordModel", fn := fun _ => fun
  | [d1, d2] => { results := [.lit (.bool true)], args := [d1, d2] }
  | _ => none }
def fnExactWordModelRow : OpenClaim := { program := "ytcklakmblpkbnaa", sum := "b2e323cac1285e4df56f067dc16cbfdd41c2874860f5185b69886d81818647ad", func := "loop.example/g01101/laws.FnExactWordModel", spec := "fnExactWordModel", unfollowed := true, recurses := true, apart := false }
def FnExactWordModelSaid : Prop := fnExactWordModelRow.holds Try.pinned (OpenSpec.ofChange fnExactWordModelSpec)

/-- ITS FALSE NEIGHBOUR: 'it returns false'. Refute it at one input. -/
def fnExactWordModelWrong : ChangeSpec := { name := "fnExactWordModel", fn := fun _ => fun
  | [d1, d2] => { results := [.lit (.bool false)], args := [d1, d2] }
  | _ => none }
def FnExactWordModelWrongFalsely : Prop := fnExactWordModelRow.holds Try.pinned (OpenSpec.ofChange fnExactWordModelWrong)

/-- 'laws.FnExactSubtermAt': WHATEVER THE INPUT: true; the input reads as it did. -/
def fnExactSubtermAtSpec : ChangeSpec := { name := "fnExactSubtermAt", fn := fun _ => fun
  | [d1, d2, d3] => { results := [.lit (.bool true)], args := [d1, d2, d3] }
  | _ => none }
def fnExactSubtermAtRow : OpenClaim := { program := "ytcklakmblpkbnaa", sum := "b2e323cac1285e4df56f067dc16cbfdd41c2874860f5185b69886d81818647ad", func := "loop.example/g01101/laws.FnExactSubtermAt", spec := "fnExactSubtermAt", recurses := true, loops := true, apart := false }
def FnExactSubtermAtSaid : Prop := fnExactSubtermAtRow.holds Try.pinned (OpenSpec.ofChange fnExactSubtermAtSpec)

/-- ITS FALSE NEIGHBOUR: 'it returns false'. Refute it at one input. -/
def fnExactSubtermAtWrong : ChangeSpec := { name := "fnExactSubtermAt", fn := fun _ => fun
  | [d1, d2, d3] => { results := [.lit (.bool false)], args := [d1, d2, d3] }
  | _ => none }
def FnExactSubtermAtWrongFalsely : Prop := fnExactSubtermAtRow.holds Try.pinned (OpenSpec.ofChange fnExactSubtermAtWrong)

/-- 'laws.FnExactValidFlow': WHATEVER THE INPUT: true; the input reads as it did. -/
def fnExactValidFlowSpec : ChangeSpec := { name := "fnExactValidFlow", fn := fun _ => fun
  | [d1, d2] => { results := [.lit (.bool true)], args := [d1, d2] }
  | _ => none }
def fnExactValidFlowRow : OpenClaim := { program := "ytcklakmblpkbnaa", sum := "b2e323cac1285e4df56f067dc16cbfdd41c2874860f5185b69886d81818647ad", func := "loop.example/g01101/laws.FnExactValidFlow", spec := "fnExactValidFlow", recurses := true, loops := true, apart := false }
def FnExactValidFlowSaid : Prop := fnExactValidFlowRow.holds Try.pinned (OpenSpec.ofChange fnExactValidFlowSpec)

/-- ITS FALSE NEIGHBOUR: 'it returns false'. Refute it at one input. -/
def fnExactValidFlowWrong : ChangeSpec := { name := "fnExactValidFlow", fn := fun _ => fun
  | [d1, d2] => { results := [.lit (.bool false)], args := [d1, d2] }
  | _ => none }
def FnExactValidFlowWrongFalsely : Prop := fnExactValidFlowRow.holds Try.pinned (OpenSpec.ofChange fnExactValidFlowWrong)

/-- 'laws.FnReplaced': WHATEVER THE INPUT: true; the input reads as it did. -/
def fnReplacedSpec : ChangeSpec := { name := "fnReplaced", fn := fun _ => fun
  | [d1, d2] => { results := [.lit (.bool true)], args := [d1, d2] }
  | _ => none }
def fnReplacedRow : OpenClaim := { program := "ytcklakmblpkbnaa", sum := "b2e323cac1285e4df56f067dc16cbfdd41c2874860f5185b69886d81818647ad", func := "loop.example/g01101/laws.FnReplaced", spec := "fnReplaced", recurses := true, apart := false }
def FnReplacedSaid : Prop := fnReplacedRow.holds Try.pinned (OpenSpec.ofChange fnReplacedSpec)

/-- ITS FALSE NEIGHBOUR: 'it returns false'. Refute it at one input. -/
def fnReplacedWrong : ChangeSpec := { name := "fnReplaced", fn := fun _ => fun
  | [d1, d2] => { results := [.lit (.bool false)], args := [d1, d2] }
  | _ => none }
def FnReplacedWrongFalsely : Prop := fnReplacedRow.holds Try.pinned (OpenSpec.ofChange fnReplacedWrong)

/-- 'laws.FnExactJoinModels': WHATEVER THE INPUT: true; the input reads as it did. -/
def fnExactJoinModelsSpec : ChangeSpec := { name := "fnExactJoinModels", fn := fun _ => fun
  | [d1, d2] => { results := [.lit (.bool true)], args := [d1, d2] }
  | _ => none }
def fnExactJoinModelsRow : OpenClaim := { program := "ytcklakmblpkbnaa", sum := "b2e323cac1285e4df56f067dc16cbfdd41c2874860f5185b69886d81818647ad", func := "loop.example/g01101/laws.FnExactJoinModels", spec := "fnExactJoinModels", unfollowed := true, recurses := true, apart := false }
def FnExactJoinModelsSaid : Prop := fnExactJoinModelsRow.holds Try.pinned (OpenSpec.ofChange fnExactJoinModelsSpec)

/-- ITS FALSE NEIGHBOUR: 'it returns false'. Refute it at one input. -/
def fnExactJoinModelsWrong : ChangeSpec := { name := "fnExactJoinModels", fn := fun _ => fun
  | [d1, d2] => { results := [.lit (.bool false)], args := [d1, d2] }
  | _ => none }
def FnExactJoinModelsWrongFalsely : Prop := fnExactJoinModelsRow.holds Try.pinned (OpenSpec.ofChange fnExactJoinModelsWrong)

/-- 'laws.FnExactValidProg': WHATEVER THE INPUT: true; the input reads as it did. -/
def fnExactValidProgSpec : ChangeSpec := { name := "fnExactValidProg", fn := fun _ => fun
  | [d1, d2] => { results := [.lit (.bool true)], args := [d1, d2] }
  | _ => none }
def fnExactValidProgRow : OpenClaim := { program := "ytcklakmblpkbnaa", sum := "b2e323cac1285e4df56f067dc16cbfdd41c2874860f5185b69886d81818647ad", func := "loop.example/g01101/laws.FnExactValidProg", spec := "fnExactValidProg", recurses := true, loops := true, apart := false }
def FnExactValidProgSaid : Prop := fnExactValidProgRow.holds Try.pinned (OpenSpec.ofChange fnExactValidProgSpec)

/-- ITS FALSE NEIGHBOUR: 'it returns false'. Refute it at one input. -/
def fnExactValidProgWrong : ChangeSpec := { name := "fnExactValidProg", fn := fun _ => fun
  | [d1, d2] => { results := [.lit (.bool false)], args := [d1, d2] }
  | _ => none }
def FnExactValidProgWrongFalsely : Prop := fnExactValidProgRow.holds Try.pinned (OpenSpec.ofChange fnExactValidProgWrong)

/-- 'laws.FnExactReplaceAt': WHATEVER THE INPUT: true; the input reads as it did. -/
def fnExactReplaceAtSpec : ChangeSpec := { name := "fnExactReplaceAt", fn := fun _ => fun
  | [d1, d2, d3, d4] => { results := [.lit (.bool true)], args := [d1, d2, d3, d4] }
  | _ => none }
def fnExactReplaceAtRow : OpenClaim := { program := "ytcklakmblpkbnaa", sum := "b2e323cac1285e4df56f067dc16cbfdd41c2874860f5185b69886d81818647ad", func := "loop.example/g01101/laws.FnExactReplaceAt", spec := "fnExactReplaceAt", recurses := true, loops := true, apart := false }
def FnExactReplaceAtSaid : Prop := fnExactReplaceAtRow.holds Try.pinned (OpenSpec.ofChange fnExactReplaceAtSpec)

/-- ITS FALSE NEIGHBOUR: 'it returns false'. Refute it at one input. -/
def fnExactReplaceAtWrong : ChangeSpec := { name := "fnExactReplaceAt", fn := fun _ => fun
  | [d1, d2, d3, d4] => { results := [.lit (.bool false)], args := [d1, d2, d3, d4] }
  | _ => none }
def FnExactReplaceAtWrongFalsely : Prop := fnExactReplaceAtRow.holds Try.pinned (OpenSpec.ofChange fnExactReplaceAtWrong)

/-- 'laws.FnExactSameProof': WHATEVER THE INPUT: true; the input reads as it did. -/
def fnExactSameProofSpec : ChangeSpec := { name := "fnExactSameProof", fn := fun _ => fun
  | [d1, d2] => { results := [.lit (.bool true)], args := [d1, d2] }
  | _ => none }
def fnExactSameProofRow : OpenClaim := { program := "ytcklakmblpkbnaa", sum := "b2e323cac1285e4df56f067dc16cbfdd41c2874860f5185b69886d81818647ad", func := "loop.example/g01101/laws.FnExactSameProof", spec := "fnExactSameProof", unfollowed := true, recurses := true, loops := true, apart := false }
def FnExactSameProofSaid : Prop := fnExactSameProofRow.holds Try.pinned (OpenSpec.ofChange fnExactSameProofSpec)

/-- ITS FALSE NEIGHBOUR: 'it returns false'. Refute it at one input. -/
def fnExactSameProofWrong : ChangeSpec := { name := "fnExactSameProof", fn := fun _ => fun
  | [d1, d2] => { results := [.lit (.bool false)], args := [d1, d2] }
  | _ => none }
def FnExactSameProofWrongFalsely : Prop := fnExactSameProofRow.holds Try.pinned (OpenSpec.ofChange fnExactSameProofWrong)

/- THE SECOND FORM. 'bulk': how many values and letters a reading holds, each counted each time it is reached (what is shared counts as often as it is met; a slice's spare places count too). A statement '..UptoSaid' is the law's where the arguments, and the package variables that the reading takes, are together of bulk at most 1048576: NARROWER than '..Said'. Prove '..Said' where nothing that the law and all that it calls make is longer than what came in: it says more and counts as full. Else prove '..UptoSaid'. A law counts once. -/
mutual
def uptoBulk {H : Type} : DataW H → Nat
  | .lit (.string bytes) => bytes.length + 1
  | .lit _ => 1
  | .nil => 1
  | .ptr d => uptoBulk d + 1
  | .slice elems spare => uptoBulkAll elems + uptoBulkAll spare + 1
  | .agg parts => uptoBulkAll parts + 1
  | .iface _ d => uptoBulk d + 1
  | .map entries => uptoBulkEntries entries + 1
  | .held _ => 1
def uptoBulkAll {H : Type} : List (DataW H) → Nat
  | [] => 0
  | d :: r => uptoBulk d + uptoBulkAll r
def uptoBulkEntries {H : Type} : List (Lit × DataW H) → Nat
  | [] => 0
  | x :: r => uptoBulkEntry x + uptoBulkEntries r
def uptoBulkEntry {H : Type} : Lit × DataW H → Nat
  | (.string bytes, d) => bytes.length + uptoBulk d + 1
  | (_, d) => uptoBulk d + 1
 end
def uptoSmall : (H : Type) → List (DataW H) → Bool := fun _ ds => decide (uptoBulkAll ds ≤ 1048576)
def OpenSpec.upto (s : _root_.Go.ChangeSpec) : _root_.Go.OpenSpec := { _root_.Go.OpenSpec.ofChange s with cond := some uptoSmall }

/-- 'laws.FnExactAtomOf', WHERE WHAT IT READS IS OF BULK AT MOST 1048576: true; the input reads as it did. -/
def fnExactAtomOfUptoRow : OpenClaim := { program := "ytcklakmblpkbnaa", sum := "b2e323cac1285e4df56f067dc16cbfdd41c2874860f5185b69886d81818647ad", func := "loop.example/g01101/laws.FnExactAtomOf", spec := "fnExactAtomOf", apart := false, narrowed := true }
def FnExactAtomOfUptoSaid : Prop := fnExactAtomOfUptoRow.holds Try.pinned (OpenSpec.upto fnExactAtomOfSpec)

/-- 'laws.FnExactFollowWord', WHERE WHAT IT READS IS OF BULK AT MOST 1048576: true; the input reads as it did. -/
def fnExactFollowWordUptoRow : OpenClaim := { program := "ytcklakmblpkbnaa", sum := "b2e323cac1285e4df56f067dc16cbfdd41c2874860f5185b69886d81818647ad", func := "loop.example/g01101/laws.FnExactFollowWord", spec := "fnExactFollowWord", apart := false, narrowed := true }
def FnExactFollowWordUptoSaid : Prop := fnExactFollowWordUptoRow.holds Try.pinned (OpenSpec.upto fnExactFollowWordSpec)

/-- 'laws.FnExactValidEquation', WHERE WHAT IT READS IS OF BULK AT MOST 1048576: true; the input reads as it did. -/
def fnExactValidEquationUptoRow : OpenClaim := { program := "ytcklakmblpkbnaa", sum := "b2e323cac1285e4df56f067dc16cbfdd41c2874860f5185b69886d81818647ad", func := "loop.example/g01101/laws.FnExactValidEquation", spec := "fnExactValidEquation", recurses := true, loops := true, apart := false, narrowed := true }
def FnExactValidEquationUptoSaid : Prop := fnExactValidEquationUptoRow.holds Try.pinned (OpenSpec.upto fnExactValidEquationSpec)

/-- 'laws.FnExactValidCosts', WHERE WHAT IT READS IS OF BULK AT MOST 1048576: true; the input reads as it did. -/
def fnExactValidCostsUptoRow : OpenClaim := { program := "ytcklakmblpkbnaa", sum := "b2e323cac1285e4df56f067dc16cbfdd41c2874860f5185b69886d81818647ad", func := "loop.example/g01101/laws.FnExactValidCosts", spec := "fnExactValidCosts", apart := false, narrowed := true }
def FnExactValidCostsUptoSaid : Prop := fnExactValidCostsUptoRow.holds Try.pinned (OpenSpec.upto fnExactValidCostsSpec)

/-- 'laws.FnExactWordModel', WHERE WHAT IT READS IS OF BULK AT MOST 1048576: true; the input reads as it did. -/
def fnExactWordModelUptoRow : OpenClaim := { program := "ytcklakmblpkbnaa", sum := "b2e323cac1285e4df56f067dc16cbfdd41c2874860f5185b69886d81818647ad", func := "loop.example/g01101/laws.FnExactWordModel", spec := "fnExactWordModel", unfollowed := true, recurses := true, apart := false, narrowed := true }
def FnExactWordModelUptoSaid : Prop := fnExactWordModelUptoRow.holds Try.pinned (OpenSpec.upto fnExactWordModelSpec)

/-- 'laws.FnExactSubtermAt', WHERE WHAT IT READS IS OF BULK AT MOST 1048576: true; the input reads as it did. -/
def fnExactSubtermAtUptoRow : OpenClaim := { program := "ytcklakmblpkbnaa", sum := "b2e323cac1285e4df56f067dc16cbfdd41c2874860f5185b69886d81818647ad", func := "loop.example/g01101/laws.FnExactSubtermAt", spec := "fnExactSubtermAt", recurses := true, loops := true, apart := false, narrowed := true }
def FnExactSubtermAtUptoSaid : Prop := fnExactSubtermAtUptoRow.holds Try.pinned (OpenSpec.upto fnExactSubtermAtSpec)

/-- 'laws.FnExactValidFlow', WHERE WHAT IT READS IS OF BULK AT MOST 1048576: true; the input reads as it did. -/
def fnExactValidFlowUptoRow : OpenClaim := { program := "ytcklakmblpkbnaa", sum := "b2e323cac1285e4df56f067dc16cbfdd41c2874860f5185b69886d81818647ad", func := "loop.example/g01101/laws.FnExactValidFlow", spec := "fnExactValidFlow", recurses := true, loops := true, apart := false, narrowed := true }
def FnExactValidFlowUptoSaid : Prop := fnExactValidFlowUptoRow.holds Try.pinned (OpenSpec.upto fnExactValidFlowSpec)

/-- 'laws.FnReplaced', WHERE WHAT IT READS IS OF BULK AT MOST 1048576: true; the input reads as it did. -/
def fnReplacedUptoRow : OpenClaim := { program := "ytcklakmblpkbnaa", sum := "b2e323cac1285e4df56f067dc16cbfdd41c2874860f5185b69886d81818647ad", func := "loop.example/g01101/laws.FnReplaced", spec := "fnReplaced", recurses := true, apart := false, narrowed := true }
def FnReplacedUptoSaid : Prop := fnReplacedUptoRow.holds Try.pinned (OpenSpec.upto fnReplacedSpec)

/-- 'laws.FnExactJoinModels', WHERE WHAT IT READS IS OF BULK AT MOST 1048576: true; the input reads as it did. -/
def fnExactJoinModelsUptoRow : OpenClaim := { program := "ytcklakmblpkbnaa", sum := "b2e323cac1285e4df56f067dc16cbfdd41c2874860f5185b69886d81818647ad", func := "loop.example/g01101/laws.FnExactJoinModels", spec := "fnExactJoinModels", unfollowed := true, recurses := true, apart := false, narrowed := true }
def FnExactJoinModelsUptoSaid : Prop := fnExactJoinModelsUptoRow.holds Try.pinned (OpenSpec.upto fnExactJoinModelsSpec)

/-- 'laws.FnExactValidProg', WHERE WHAT IT READS IS OF BULK AT MOST 1048576: true; the input reads as it did. -/
def fnExactValidProgUptoRow : OpenClaim := { program := "ytcklakmblpkbnaa", sum := "b2e323cac1285e4df56f067dc16cbfdd41c2874860f5185b69886d81818647ad", func := "loop.example/g01101/laws.FnExactValidProg", spec := "fnExactValidProg", recurses := true, loops := true, apart := false, narrowed := true }
def FnExactValidProgUptoSaid : Prop := fnExactValidProgUptoRow.holds Try.pinned (OpenSpec.upto fnExactValidProgSpec)

/-- 'laws.FnExactReplaceAt', WHERE WHAT IT READS IS OF BULK AT MOST 1048576: true; the input reads as it did. -/
def fnExactReplaceAtUptoRow : OpenClaim := { program := "ytcklakmblpkbnaa", sum := "b2e323cac1285e4df56f067dc16cbfdd41c2874860f5185b69886d81818647ad", func := "loop.example/g01101/laws.FnExactReplaceAt", spec := "fnExactReplaceAt", recurses := true, loops := true, apart := false, narrowed := true }
def FnExactReplaceAtUptoSaid : Prop := fnExactReplaceAtUptoRow.holds Try.pinned (OpenSpec.upto fnExactReplaceAtSpec)

/-- 'laws.FnExactSameProof', WHERE WHAT IT READS IS OF BULK AT MOST 1048576: true; the input reads as it did. -/
def fnExactSameProofUptoRow : OpenClaim := { program := "ytcklakmblpkbnaa", sum := "b2e323cac1285e4df56f067dc16cbfdd41c2874860f5185b69886d81818647ad", func := "loop.example/g01101/laws.FnExactSameProof", spec := "fnExactSameProof", unfollowed := true, recurses := true, loops := true, apart := false, narrowed := true }
def FnExactSameProofUptoSaid : Prop := fnExactSameProofUptoRow.holds Try.pinned (OpenSpec.upto fnExactSameProofSpec)

end Rows
end Go.Proofs.Ytcklakmblpkbnaa
