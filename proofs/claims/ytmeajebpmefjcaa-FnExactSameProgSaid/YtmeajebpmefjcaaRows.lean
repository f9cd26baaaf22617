/-
  NARROWER THAN 'FOR EVERY INPUT', by the rows' own cells (each row's printed sentence says how): FnExactSameProg: loops.
  DERIVED. THE GIVEN ROWS OF THIS SEAT. 4 by the template 'for every input the law returns true; each argument reads behind the call as it read before'; 0 by the template 'total and deterministic' (their statements: YtmeajebpmefjcaaTotals.lean).
  GIVEN WITH THE SEED: the statements are not yours to turn. If you find one false, say at which input.
  Laid BY PROGRAM, IN A SANDBOX (cutbox-rows.mjs): the forced cells as the released guide's own fill.sh prints them over the translation 664bbd494e02c56a… (all of the seat's roots in one cut). By AI agents, Wed Nov 11 2026. No macro, syntax, notation, axiom, sorry.
-/
import Derived.Test.YtmeajebpmefjcaaChecked
import GoSem.Claim
import GoSem.ClaimJoined
import GoSem.ClaimMapViews
import Derived.JoinedTies
import Derived.KernelRfl
namespace Go.Proofs.Ytmeajebpmefjcaa
/- THE CELL 'sum', in the pinned program and in every row, IS THE sha256 OF THE DUMP (.gsa) THAT YtmeajebpmefjcaaProg.lean LOADS. Nothing in Lean hashes anything: it is a label: what it is worth is what the hold of that sum in a sandbox is worth. -/
noncomputable def Try.pinned : Pinned := { name := "ytmeajebpmefjcaa", sum := "664bbd494e02c56af3d545f7c4eebc0a95758d837530a81f6c8f8c471caf4be9", checked := Try.checked }
namespace Rows
def none {H : Type} : Left H := { results := [], args := [] }

/-- 'laws.FnExactValidWorld': WHATEVER THE INPUT: true; the input reads as it did. -/
def fnExactValidWorldSpec : ChangeSpec := { name := "fnExactValidWorld", fn := fun _ => fun
  | [d1, d2] => { results := [.lit (.bool true)], args := [d1, d2] }
  | _ => none }
def fnExactValidWorldRow : OpenClaim := { program := "ytmeajebpmefjcaa", sum := "664bbd494e02c56af3d545f7c4eebc0a95758d837530a81f6c8f8c471caf4be9", func := "loop.example/g01101/laws.FnExactValidWorld", spec := "fnExactValidWorld", apart := false }
def FnExactValidWorldSaid : Prop := fnExactValidWorldRow.holds Try.pinned (OpenSpec.ofChange fnExactValidWorldSpec)

/-- ITS FALSE NEIGHBOUR: 'it returns false'. Refute it at one input. -/
def fnExactValidWorldWrong : ChangeSpec := { name := "fnExactValidWorld", fn := fun _ => fun
  | [d1, d2] => { results := [.lit (.bool false)], args := [d1, d2] }
  | _ => none }
def FnExactValidWorldWrongFalsely : Prop := fnExactValidWorldRow.holds Try.pinned (OpenSpec.ofChange fnExactValidWorldWrong)

/-- 'laws.FnExactSameProg': WHATEVER THE INPUT: true; the input reads as it did. -/
def fnExactSameProgSpec : ChangeSpec := { name := "fnExactSameProg", fn := fun _ => fun
  | [d1, d2] => { results := [.lit (.bool true)], args := [d1, d2] }
  | _ => none }
def fnExactSameProgRow : OpenClaim := { program := "ytmeajebpmefjcaa", sum := "664bbd494e02c56af3d545f7c4eebc0a95758d837530a81f6c8f8c471caf4be9", func := "loop.example/g01101/laws.FnExactSameProg", spec := "fnExactSameProg", unfollowed := true, recurses := true, loops := true, apart := false }
def FnExactSameProgSaid : Prop := fnExactSameProgRow.holds Try.pinned (OpenSpec.ofChange fnExactSameProgSpec)

/-- ITS FALSE NEIGHBOUR: 'it returns false'. Refute it at one input. -/
def fnExactSameProgWrong : ChangeSpec := { name := "fnExactSameProg", fn := fun _ => fun
  | [d1, d2] => { results := [.lit (.bool false)], args := [d1, d2] }
  | _ => none }
def FnExactSameProgWrongFalsely : Prop := fnExactSameProgRow.holds Try.pinned (OpenSpec.ofChange fnExactSameProgWrong)

/-- 'laws.FnExactValidModel': WHATEVER THE INPUT: true; the input reads as it did. -/
def fnExactValidModelSpec : ChangeSpec := { name := "fnExactValidModel", fn := fun _ => fun
  | [d] => { results := [.lit (.bool true)], args := [d] }
  | _ => none }
def fnExactValidModelRow : OpenClaim := { program := "ytmeajebpmefjcaa", sum := "664bbd494e02c56af3d545f7c4eebc0a95758d837530a81f6c8f8c471caf4be9", func := "loop.example/g01101/laws.FnExactValidModel", spec := "fnExactValidModel", apart := false }
def FnExactValidModelSaid : Prop := fnExactValidModelRow.holds Try.pinned (OpenSpec.ofChange fnExactValidModelSpec)

/-- ITS FALSE NEIGHBOUR: 'it returns false'. Refute it at one input. -/
def fnExactValidModelWrong : ChangeSpec := { name := "fnExactValidModel", fn := fun _ => fun
  | [d] => { results := [.lit (.bool false)], args := [d] }
  | _ => none }
def FnExactValidModelWrongFalsely : Prop := fnExactValidModelRow.holds Try.pinned (OpenSpec.ofChange fnExactValidModelWrong)

/-- 'laws.FnExactSameModel': WHATEVER THE INPUT: true; the input reads as it did. -/
def fnExactSameModelSpec : ChangeSpec := { name := "fnExactSameModel", fn := fun _ => fun
  | [d1, d2] => { results := [.lit (.bool true)], args := [d1, d2] }
  | _ => none }
def fnExactSameModelRow : OpenClaim := { program := "ytmeajebpmefjcaa", sum := "664bbd494e02c56af3d545f7c4eebc0a95758d837530a81f6c8f8c471caf4be9", func := "loop.example/g01101/laws.FnExactSameModel", spec := "fnExactSameModel", unfollowed := true, recurses := true, apart := false }
def FnExactSameModelSaid : Prop := fnExactSameModelRow.holds Try.pinned (OpenSpec.ofChange fnExactSameModelSpec)

/-- ITS FALSE NEIGHBOUR: 'it returns false'. Refute it at one input. -/
def fnExactSameModelWrong : ChangeSpec := { name := "fnExactSameModel", fn := fun _ => fun
  | [d1, d2] => { results := [.lit (.bool false)], args := [d1, d2] }
  | _ => none }
def FnExactSameModelWrongFalsely : Prop := fnExactSameModelRow.holds Try.pinned (OpenSpec.ofChange fnExactSameModelWrong)

/- THE SECOND FORM. 'bulk': how many values and letters a reading holds, each counted each time it is reached (what is shared counts as often as it is met; a slice's spare places count too). A statement '..UptoSaid' is the law's where the arguments, and the package variables that the reading takes, are together of bulk at most 1048576: NARROWER than '..Said'. Prove '..Said' where nothing that the law and all that it calls make is longer than what came in: it says more and counts as full. Else prove '..UptoSaid'. A law counts once. -/
mutual
def uptoBulk {H : Type} : DataW H → Nat
  | .lit (.string bytes) => bytes.length + 1
  | .lit _ => 1
  | .nil => 1
  | .ptr d => uptoBulk d + 1
  | .slice elems spare => uptoBulkAll elems + uptoBulkAll spare + 1
  | .agg parts => uptoBulkAll parts + 1
  | .iface _ d => uptoBulk d + 1
  | .map entries => uptoBulkEntries entries + 1
  | .held _ => 1
def uptoBulkAll {H : Type} : List (DataW H) → Nat
  | [] => 0
  | d :: r => uptoBulk d + uptoBulkAll r
def uptoBulkEntries {H : Type} : List (Lit × DataW H) → Nat
  | [] => 0
  | x :: r => uptoBulkEntry x + uptoBulkEntries r
def uptoBulkEntry {H : Type} : Lit × DataW H → Nat
  | (.string bytes, d) => bytes.length + uptoBulk d + 1
  | (_, d) => uptoBulk d + 1
 end
def uptoSmall : (H : Type) → List (DataW H) → Bool := fun _ ds => decide (uptoBulkAll ds ≤ 1048576)
def OpenSpec.upto (s : _root_.Go.ChangeSpec) : _root_.Go.OpenSpec := { _root_.Go.OpenSpec.ofChange s with cond := some uptoSmall }

/-- 'laws.FnExactValidWorld', WHERE WHAT IT READS IS OF BULK AT MOST 1048576: true; the input reads as it did. -/
def fnExactValidWorldUptoRow : OpenClaim := { program := "ytmeajebpmefjcaa", sum := "664bbd494e02c56af3d545f7c4eebc0a95758d837530a81f6c8f8c471caf4be9", func := "loop.example/g01101/laws.FnExactValidWorld", spec := "fnExactValidWorld", apart := false, narrowed := true }
def FnExactValidWorldUptoSaid : Prop := fnExactValidWorldUptoRow.holds Try.pinned (OpenSpec.upto fnExactValidWorldSpec)

/-- 'laws.FnExactSameProg', WHERE WHAT IT READS IS OF BULK AT MOST 1048576: true; the input reads as it did. -/
def fnExactSameProgUptoRow : OpenClaim := { program := "ytmeajebpmefjcaa", sum := "664bbd494e02c56af3d545f7c4eebc0a95758d837530a81f6c8f8c471caf4be9", func := "loop.example/g01101/laws.FnExactSameProg", spec := "fnExactSameProg", unfollowed := true, recurses := true, loops := true, apart := false, narrowed := true }
def FnExactSameProgUptoSaid : Prop := fnExactSameProgUptoRow.holds Try.pinned (OpenSpec.upto fnExactSameProgSpec)

/-- 'laws.FnExactValidModel', WHERE WHAT IT READS IS OF BULK AT MOST 1048576: true; the input reads as it did. -/
def fnExactValidModelUptoRow : OpenClaim := { program := "ytmeajebpmefjcaa", sum := "664bbd494e02c56af3d545f7c4eebc0a95758d837530a81f6c8f8c471caf4be9", func := "loop.example/g01101/laws.FnExactValidModel", spec := "fnExactValidModel", apart := false, narrowed := true }
def FnExactValidModelUptoSaid : Prop := fnExactValidModelUptoRow.holds Try.pinned (OpenSpec.upto fnExactValidModelSpec)

/-- 'laws.FnExactSameModel', WHERE WHAT IT READS IS OF BULK AT MOST 1048576: true; the input reads as it did. -/
def fnExactSameModelUptoRow : OpenClaim := { program := "ytmeajebpmefjcaa", sum := "664bbd494e02c56af3d545f7c4eebc0a95758d837530a81f6c8f8c471caf4be9", func := "loop.example/g01101/laws.FnExactSameModel", spec := "fnExactSameModel", unfollowed := true, recurses := true, apart := false, narrowed := true }
def FnExactSameModelUptoSaid : Prop := fnExactSameModelUptoRow.holds Try.pinned (OpenSpec.upto fnExactSameModelSpec)

end Rows
end Go.Proofs.Ytmeajebpmefjcaa
