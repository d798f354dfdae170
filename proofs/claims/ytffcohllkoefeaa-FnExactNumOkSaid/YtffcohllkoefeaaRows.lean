/-
  No cell of these rows narrows 'for every input' (looked for: loops, veiled, ifaces, maps, wideKeys, modest, calm, conditions, laid).
  DERIVED. THE GIVEN ROWS OF THIS SEAT. 12 by the template 'for every input the law returns true; each argument reads behind the call as it read before'; 0 by the template 'total and deterministic' (their statements: YtffcohllkoefeaaTotals.lean).
  GIVEN WITH THE SEED: the statements are not yours to turn. If you find one false, say at which input.
  Laid BY PROGRAM, IN A SANDBOX (cutbox-rows.mjs): the forced cells as the released guide's own fill.sh prints them over the translation 44bf18a5ee07c694… (all of the seat's roots in one cut). By AI agents, Wed Nov 11 2026. No macro, syntax, notation, axiom, sorry.
-/
import Derived.Test.YtffcohllkoefeaaChecked
import GoSem.Claim
import GoSem.ClaimJoined
import GoSem.ClaimMapViews
import Derived.JoinedTies
import Derived.KernelRfl
namespace Go.Proofs.Ytffcohllkoefeaa
/- THE CELL 'sum', in the pinned program and in every row, IS THE sha256 OF THE DUMP (.gsa) THAT YtffcohllkoefeaaProg.lean LOADS. Nothing in Lean hashes anything: it is a label: what it is worth is what the hold of that sum in a sandbox is worth. -/
noncomputable def Try.pinned : Pinned := { name := "ytffcohllkoefeaa", sum := "44bf18a5ee07c694bd9c684102efd12967aa74fa866c9baf78980c12da60e1f0", checked := Try.checked }
namespace Rows
def none {H : Type} : Left H := { results := [], args := [] }

/-- 'laws.FnExactFloatOf': WHATEVER THE INPUT: true; the input reads as it did. -/
def fnExactFloatOfSpec : ChangeSpec := { name := "fnExactFloatOf", fn := fun _ => fun
  | [d] => { results := [.lit (.bool true)], args := [d] }
  | _ => none }
def fnExactFloatOfRow : OpenClaim := { program := "ytffcohllkoefeaa", sum := "44bf18a5ee07c694bd9c684102efd12967aa74fa866c9baf78980c12da60e1f0", func := "loop.example/g00108/laws.FnExactFloatOf", spec := "fnExactFloatOf", apart := false }
def FnExactFloatOfSaid : Prop := fnExactFloatOfRow.holds Try.pinned (OpenSpec.ofChange fnExactFloatOfSpec)

/-- ITS FALSE NEIGHBOUR: 'it returns false'. Refute it at one input. -/
def fnExactFloatOfWrong : ChangeSpec := { name := "fnExactFloatOf", fn := fun _ => fun
  | [d] => { results := [.lit (.bool false)], args := [d] }
  | _ => none }
def FnExactFloatOfWrongFalsely : Prop := fnExactFloatOfRow.holds Try.pinned (OpenSpec.ofChange fnExactFloatOfWrong)

/-- 'laws.FnExactNumOk': WHATEVER THE INPUT: true; the input reads as it did. -/
def fnExactNumOkSpec : ChangeSpec := { name := "fnExactNumOk", fn := fun _ => fun
  | [d] => { results := [.lit (.bool true)], args := [d] }
  | _ => none }
def fnExactNumOkRow : OpenClaim := { program := "ytffcohllkoefeaa", sum := "44bf18a5ee07c694bd9c684102efd12967aa74fa866c9baf78980c12da60e1f0", func := "loop.example/g00108/laws.FnExactNumOk", spec := "fnExactNumOk", apart := false }
def FnExactNumOkSaid : Prop := fnExactNumOkRow.holds Try.pinned (OpenSpec.ofChange fnExactNumOkSpec)

/-- ITS FALSE NEIGHBOUR: 'it returns false'. Refute it at one input. -/
def fnExactNumOkWrong : ChangeSpec := { name := "fnExactNumOk", fn := fun _ => fun
  | [d] => { results := [.lit (.bool false)], args := [d] }
  | _ => none }
def FnExactNumOkWrongFalsely : Prop := fnExactNumOkRow.holds Try.pinned (OpenSpec.ofChange fnExactNumOkWrong)

/-- 'laws.FnExactBoxGap': WHATEVER THE INPUT: true; the input reads as it did. -/
def fnExactBoxGapSpec : ChangeSpec := { name := "fnExactBoxGap", fn := fun _ => fun
  | [d1, d2] => { results := [.lit (.bool true)], args := [d1, d2] }
  | _ => none }
def fnExactBoxGapRow : OpenClaim := { program := "ytffcohllkoefeaa", sum := "44bf18a5ee07c694bd9c684102efd12967aa74fa866c9baf78980c12da60e1f0", func := "loop.example/g00108/laws.FnExactBoxGap", spec := "fnExactBoxGap", apart := false }
def FnExactBoxGapSaid : Prop := fnExactBoxGapRow.holds Try.pinned (OpenSpec.ofChange fnExactBoxGapSpec)

/-- ITS FALSE NEIGHBOUR: 'it returns false'. Refute it at one input. -/
def fnExactBoxGapWrong : ChangeSpec := { name := "fnExactBoxGap", fn := fun _ => fun
  | [d1, d2] => { results := [.lit (.bool false)], args := [d1, d2] }
  | _ => none }
def FnExactBoxGapWrongFalsely : Prop := fnExactBoxGapRow.holds Try.pinned (OpenSpec.ofChange fnExactBoxGapWrong)

/-- 'laws.FnExactTurn': WHATEVER THE INPUT: true; the input reads as it did. -/
def fnExactTurnSpec : ChangeSpec := { name := "fnExactTurn", fn := fun _ => fun
  | [d1, d2, d3] => { results := [.lit (.bool true)], args := [d1, d2, d3] }
  | _ => none }
def fnExactTurnRow : OpenClaim := { program := "ytffcohllkoefeaa", sum := "44bf18a5ee07c694bd9c684102efd12967aa74fa866c9baf78980c12da60e1f0", func := "loop.example/g00108/laws.FnExactTurn", spec := "fnExactTurn", apart := false }
def FnExactTurnSaid : Prop := fnExactTurnRow.holds Try.pinned (OpenSpec.ofChange fnExactTurnSpec)

/-- ITS FALSE NEIGHBOUR: 'it returns false'. Refute it at one input. -/
def fnExactTurnWrong : ChangeSpec := { name := "fnExactTurn", fn := fun _ => fun
  | [d1, d2, d3] => { results := [.lit (.bool false)], args := [d1, d2, d3] }
  | _ => none }
def FnExactTurnWrongFalsely : Prop := fnExactTurnRow.holds Try.pinned (OpenSpec.ofChange fnExactTurnWrong)

/-- 'laws.FnExactOnSeg': WHATEVER THE INPUT: true; the input reads as it did. -/
def fnExactOnSegSpec : ChangeSpec := { name := "fnExactOnSeg", fn := fun _ => fun
  | [d1, d2, d3] => { results := [.lit (.bool true)], args := [d1, d2, d3] }
  | _ => none }
def fnExactOnSegRow : OpenClaim := { program := "ytffcohllkoefeaa", sum := "44bf18a5ee07c694bd9c684102efd12967aa74fa866c9baf78980c12da60e1f0", func := "loop.example/g00108/laws.FnExactOnSeg", spec := "fnExactOnSeg", apart := false }
def FnExactOnSegSaid : Prop := fnExactOnSegRow.holds Try.pinned (OpenSpec.ofChange fnExactOnSegSpec)

/-- ITS FALSE NEIGHBOUR: 'it returns false'. Refute it at one input. -/
def fnExactOnSegWrong : ChangeSpec := { name := "fnExactOnSeg", fn := fun _ => fun
  | [d1, d2, d3] => { results := [.lit (.bool false)], args := [d1, d2, d3] }
  | _ => none }
def FnExactOnSegWrongFalsely : Prop := fnExactOnSegRow.holds Try.pinned (OpenSpec.ofChange fnExactOnSegWrong)

/-- 'laws.FnExactCurvePt': WHATEVER THE INPUT: true; the input reads as it did. -/
def fnExactCurvePtSpec : ChangeSpec := { name := "fnExactCurvePt", fn := fun _ => fun
  | [d] => { results := [.lit (.bool true)], args := [d] }
  | _ => none }
def fnExactCurvePtRow : OpenClaim := { program := "ytffcohllkoefeaa", sum := "44bf18a5ee07c694bd9c684102efd12967aa74fa866c9baf78980c12da60e1f0", func := "loop.example/g00108/laws.FnExactCurvePt", spec := "fnExactCurvePt", apart := false }
def FnExactCurvePtSaid : Prop := fnExactCurvePtRow.holds Try.pinned (OpenSpec.ofChange fnExactCurvePtSpec)

/-- ITS FALSE NEIGHBOUR: 'it returns false'. Refute it at one input. -/
def fnExactCurvePtWrong : ChangeSpec := { name := "fnExactCurvePt", fn := fun _ => fun
  | [d] => { results := [.lit (.bool false)], args := [d] }
  | _ => none }
def FnExactCurvePtWrongFalsely : Prop := fnExactCurvePtRow.holds Try.pinned (OpenSpec.ofChange fnExactCurvePtWrong)

/-- 'laws.FnExactCurveOf': WHATEVER THE INPUT: true; the input reads as it did. -/
def fnExactCurveOfSpec : ChangeSpec := { name := "fnExactCurveOf", fn := fun _ => fun
  | [d] => { results := [.lit (.bool true)], args := [d] }
  | _ => none }
def fnExactCurveOfRow : OpenClaim := { program := "ytffcohllkoefeaa", sum := "44bf18a5ee07c694bd9c684102efd12967aa74fa866c9baf78980c12da60e1f0", func := "loop.example/g00108/laws.FnExactCurveOf", spec := "fnExactCurveOf", apart := false }
def FnExactCurveOfSaid : Prop := fnExactCurveOfRow.holds Try.pinned (OpenSpec.ofChange fnExactCurveOfSpec)

/-- ITS FALSE NEIGHBOUR: 'it returns false'. Refute it at one input. -/
def fnExactCurveOfWrong : ChangeSpec := { name := "fnExactCurveOf", fn := fun _ => fun
  | [d] => { results := [.lit (.bool false)], args := [d] }
  | _ => none }
def FnExactCurveOfWrongFalsely : Prop := fnExactCurveOfRow.holds Try.pinned (OpenSpec.ofChange fnExactCurveOfWrong)

/-- 'laws.FnFloats': WHATEVER THE INPUT: true; the input reads as it did. -/
def fnFloatsSpec : ChangeSpec := { name := "fnFloats", fn := fun _ => fun
  | [d] => { results := [.lit (.bool true)], args := [d] }
  | _ => none }
def fnFloatsRow : OpenClaim := { program := "ytffcohllkoefeaa", sum := "44bf18a5ee07c694bd9c684102efd12967aa74fa866c9baf78980c12da60e1f0", func := "loop.example/g00108/laws.FnFloats", spec := "fnFloats", apart := false }
def FnFloatsSaid : Prop := fnFloatsRow.holds Try.pinned (OpenSpec.ofChange fnFloatsSpec)

/-- ITS FALSE NEIGHBOUR: 'it returns false'. Refute it at one input. -/
def fnFloatsWrong : ChangeSpec := { name := "fnFloats", fn := fun _ => fun
  | [d] => { results := [.lit (.bool false)], args := [d] }
  | _ => none }
def FnFloatsWrongFalsely : Prop := fnFloatsRow.holds Try.pinned (OpenSpec.ofChange fnFloatsWrong)

/-- 'laws.FnExactTileDown': WHATEVER THE INPUT: true; the input reads as it did. -/
def fnExactTileDownSpec : ChangeSpec := { name := "fnExactTileDown", fn := fun _ => fun
  | [d] => { results := [.lit (.bool true)], args := [d] }
  | _ => none }
def fnExactTileDownRow : OpenClaim := { program := "ytffcohllkoefeaa", sum := "44bf18a5ee07c694bd9c684102efd12967aa74fa866c9baf78980c12da60e1f0", func := "loop.example/g00108/laws.FnExactTileDown", spec := "fnExactTileDown", apart := false }
def FnExactTileDownSaid : Prop := fnExactTileDownRow.holds Try.pinned (OpenSpec.ofChange fnExactTileDownSpec)

/-- ITS FALSE NEIGHBOUR: 'it returns false'. Refute it at one input. -/
def fnExactTileDownWrong : ChangeSpec := { name := "fnExactTileDown", fn := fun _ => fun
  | [d] => { results := [.lit (.bool false)], args := [d] }
  | _ => none }
def FnExactTileDownWrongFalsely : Prop := fnExactTileDownRow.holds Try.pinned (OpenSpec.ofChange fnExactTileDownWrong)

/-- 'laws.FnExactIntOf': WHATEVER THE INPUT: true; the input reads as it did. -/
def fnExactIntOfSpec : ChangeSpec := { name := "fnExactIntOf", fn := fun _ => fun
  | [d] => { results := [.lit (.bool true)], args := [d] }
  | _ => none }
def fnExactIntOfRow : OpenClaim := { program := "ytffcohllkoefeaa", sum := "44bf18a5ee07c694bd9c684102efd12967aa74fa866c9baf78980c12da60e1f0", func := "loop.example/g00108/laws.FnExactIntOf", spec := "fnExactIntOf", apart := false }
def FnExactIntOfSaid : Prop := fnExactIntOfRow.holds Try.pinned (OpenSpec.ofChange fnExactIntOfSpec)

/-- ITS FALSE NEIGHBOUR: 'it returns false'. Refute it at one input. -/
def fnExactIntOfWrong : ChangeSpec := { name := "fnExactIntOf", fn := fun _ => fun
  | [d] => { results := [.lit (.bool false)], args := [d] }
  | _ => none }
def FnExactIntOfWrongFalsely : Prop := fnExactIntOfRow.holds Try.pinned (OpenSpec.ofChange fnExactIntOfWrong)

/-- 'laws.FnExactGrown': WHATEVER THE INPUT: true; the input reads as it did. -/
def fnExactGrownSpec : ChangeSpec := { name := "fnExactGrown", fn := fun _ => fun
  | [d1, d2] => { results := [.lit (.bool true)], args := [d1, d2] }
  | _ => none }
def fnExactGrownRow : OpenClaim := { program := "ytffcohllkoefeaa", sum := "44bf18a5ee07c694bd9c684102efd12967aa74fa866c9baf78980c12da60e1f0", func := "loop.example/g00108/laws.FnExactGrown", spec := "fnExactGrown", apart := false }
def FnExactGrownSaid : Prop := fnExactGrownRow.holds Try.pinned (OpenSpec.ofChange fnExactGrownSpec)

/-- ITS FALSE NEIGHBOUR: 'it returns false'. Refute it at one input. -/
def fnExactGrownWrong : ChangeSpec := { name := "fnExactGrown", fn := fun _ => fun
  | [d1, d2] => { results := [.lit (.bool false)], args := [d1, d2] }
  | _ => none }
def FnExactGrownWrongFalsely : Prop := fnExactGrownRow.holds Try.pinned (OpenSpec.ofChange fnExactGrownWrong)

/-- 'laws.FnExactTileBox': WHATEVER THE INPUT: true; the input reads as it did. -/
def fnExactTileBoxSpec : ChangeSpec := { name := "fnExactTileBox", fn := fun _ => fun
  | [d] => { results := [.lit (.bool true)], args := [d] }
  | _ => none }
def fnExactTileBoxRow : OpenClaim := { program := "ytffcohllkoefeaa", sum := "44bf18a5ee07c694bd9c684102efd12967aa74fa866c9baf78980c12da60e1f0", func := "loop.example/g00108/laws.FnExactTileBox", spec := "fnExactTileBox", apart := false }
def FnExactTileBoxSaid : Prop := fnExactTileBoxRow.holds Try.pinned (OpenSpec.ofChange fnExactTileBoxSpec)

/-- ITS FALSE NEIGHBOUR: 'it returns false'. Refute it at one input. -/
def fnExactTileBoxWrong : ChangeSpec := { name := "fnExactTileBox", fn := fun _ => fun
  | [d] => { results := [.lit (.bool false)], args := [d] }
  | _ => none }
def FnExactTileBoxWrongFalsely : Prop := fnExactTileBoxRow.holds Try.pinned (OpenSpec.ofChange fnExactTileBoxWrong)

/- THE SECOND FORM. 'bulk': how many values and letters a reading holds, each counted each time it is reached (what is shared counts as often as it is met; a slice's spare places count too). A statement '..UptoSaid' is the law's where the arguments, and the package variables that the reading takes, are together of bulk at most 1048576: NARROWER than '..Said'. Prove '..Said' where nothing that the law and all that it calls make is longer than what came in: it says more and counts as full. Else prove '..UptoSaid'. A law counts once. -/
mutual
def uptoBulk {H : Type} : DataW H → Nat
  | .lit (.string bytes) => bytes.length + 1
  | .lit _ => 1
  | .nil => 1
  | .ptr d => uptoBulk d + 1
  | .slice elems spare => uptoBulkAll elems + uptoBulkAll spare + 1
  | .agg parts => uptoBulkAll parts + 1
  | .iface _ d => uptoBulk d + 1
  | .map entries => uptoBulkEntries entries + 1
  | .held _ => 1
def uptoBulkAll {H : Type} : List (DataW H) → Nat
  | [] => 0
  | d :: r => uptoBulk d + uptoBulkAll r
def uptoBulkEntries {H : Type} : List (Lit × DataW H) → Nat
  | [] => 0
  | x :: r => uptoBulkEntry x + uptoBulkEntries r
def uptoBulkEntry {H : Type} : Lit × DataW H → Nat
  | (.string bytes, d) => bytes.length + uptoBulk d + 1
  | (_, d) => uptoBulk d + 1
 end
def uptoSmall : (H : Type) → List (DataW H) → Bool := fun _ ds => decide (uptoBulkAll ds ≤ 1048576)
def OpenSpec.upto (s : _root_.Go.ChangeSpec) : _root_.Go.OpenSpec := { _root_.Go.OpenSpec.ofChange s with cond := some uptoSmall }

/-- 'laws.FnExactFloatOf', WHERE WHAT IT READS IS OF BULK AT MOST 1048576: true; the input reads as it did. -/
def fnExactFloatOfUptoRow : OpenClaim := { program := "ytffcohllkoefeaa", sum := "44bf18a5ee07c694bd9c684102efd12967aa74fa866c9baf78980c12da60e1f0", func := "loop.example/g00108/laws.FnExactFloatOf", spec := "fnExactFloatOf", apart := false, narrowed := true }
def FnExactFloatOfUptoSaid : Prop := fnExactFloatOfUptoRow.holds Try.pinned (OpenSpec.upto fnExactFloatOfSpec)

/-- 'laws.FnExactNumOk', WHERE WHAT IT READS IS OF BULK AT MOST 1048576: true; the input reads as it did. -/
def fnExactNumOkUptoRow : OpenClaim := { program := "ytffcohllkoefeaa", sum := "44bf18a5ee07c694bd9c684102efd12967aa74fa866c9baf78980c12da60e1f0", func := "loop.example/g00108/laws.FnExactNumOk", spec := "fnExactNumOk", apart := false, narrowed := true }
def FnExactNumOkUptoSaid : Prop := fnExactNumOkUptoRow.holds Try.pinned (OpenSpec.upto fnExactNumOkSpec)

/-- 'laws.FnExactBoxGap', WHERE WHAT IT READS IS OF BULK AT MOST 1048576: true; the input reads as it did. -/
def fnExactBoxGapUptoRow : OpenClaim := { program := "ytffcohllkoefeaa", sum := "44bf18a5ee07c694bd9c684102efd12967aa74fa866c9baf78980c12da60e1f0", func := "loop.example/g00108/laws.FnExactBoxGap", spec := "fnExactBoxGap", apart := false, narrowed := true }
def FnExactBoxGapUptoSaid : Prop := fnExactBoxGapUptoRow.holds Try.pinned (OpenSpec.upto fnExactBoxGapSpec)

/-- 'laws.FnExactTurn', WHERE WHAT IT READS IS OF BULK AT MOST 1048576: true; the input reads as it did. -/
def fnExactTurnUptoRow : OpenClaim := { program := "ytffcohllkoefeaa", sum := "44bf18a5ee07c694bd9c684102efd12967aa74fa866c9baf78980c12da60e1f0", func := "loop.example/g00108/laws.FnExactTurn", spec := "fnExactTurn", apart := false, narrowed := true }
def FnExactTurnUptoSaid : Prop := fnExactTurnUptoRow.holds Try.pinned (OpenSpec.upto fnExactTurnSpec)

/-- 'laws.FnExactOnSeg', WHERE WHAT IT READS IS OF BULK AT MOST 1048576: true; the input reads as it did. -/
def fnExactOnSegUptoRow : OpenClaim := { program := "ytffcohllkoefeaa", sum := "44bf18a5ee07c694bd9c684102efd12967aa74fa866c9baf78980c12da60e1f0", func := "loop.example/g00108/laws.FnExactOnSeg", spec := "fnExactOnSeg", apart := false, narrowed := true }
def FnExactOnSegUptoSaid : Prop := fnExactOnSegUptoRow.holds Try.pinned (OpenSpec.upto fnExactOnSegSpec)

/-- 'laws.FnExactCurvePt', WHERE WHAT IT READS IS OF BULK AT MOST 1048576: true; the input reads as it did. -/
def fnExactCurvePtUptoRow : OpenClaim := { program := "ytffcohllkoefeaa", sum := "44bf18a5ee07c694bd9c684102efd12967aa74fa866c9baf78980c12da60e1f0", func := "loop.example/g00108/laws.FnExactCurvePt", spec := "fnExactCurvePt", apart := false, narrowed := true }
def FnExactCurvePtUptoSaid : Prop := fnExactCurvePtUptoRow.holds Try.pinned (OpenSpec.upto fnExactCurvePtSpec)

/-- 'laws.FnExactCurveOf', WHERE WHAT IT READS IS OF BULK AT MOST 1048576: true; the input reads as it did. -/
def fnExactCurveOfUptoRow : OpenClaim := { program := "ytffcohllkoefeaa", sum := "44bf18a5ee07c694bd9c684102efd12967aa74fa866c9baf78980c12da60e1f0", func := "loop.example/g00108/laws.FnExactCurveOf", spec := "fnExactCurveOf", apart := false, narrowed := true }
def FnExactCurveOfUptoSaid : Prop := fnExactCurveOfUptoRow.holds Try.pinned (OpenSpec.upto fnExactCurveOfSpec)

/-- 'laws.FnFloats', WHERE WHAT IT READS IS OF BULK AT MOST 1048576: true; the input reads as it did. -/
def fnFloatsUptoRow : OpenClaim := { program := "ytffcohllkoefeaa", sum := "44bf18a5ee07c694bd9c684102efd12967aa74fa866c9baf78980c12da60e1f0", func := "loop.example/g00108/laws.FnFloats", spec := "fnFloats", apart := false, narrowed := true }
def FnFloatsUptoSaid : Prop := fnFloatsUptoRow.holds Try.pinned (OpenSpec.upto fnFloatsSpec)

/-- 'laws.FnExactTileDown', WHERE WHAT IT READS IS OF BULK AT MOST 1048576: true; the input reads as it did. -/
def fnExactTileDownUptoRow : OpenClaim := { program := "ytffcohllkoefeaa", sum := "44bf18a5ee07c694bd9c684102efd12967aa74fa866c9baf78980c12da60e1f0", func := "loop.example/g00108/laws.FnExactTileDown", spec := "fnExactTileDown", apart := false, narrowed := true }
def FnExactTileDownUptoSaid : Prop := fnExactTileDownUptoRow.holds Try.pinned (OpenSpec.upto fnExactTileDownSpec)

/-- 'laws.FnExactIntOf', WHERE WHAT IT READS IS OF BULK AT MOST 1048576: true; the input reads as it did. -/
def fnExactIntOfUptoRow : OpenClaim := { program := "ytffcohllkoefeaa", sum := "44bf18a5ee07c694bd9c684102efd12967aa74fa866c9baf78980c12da60e1f0", func := "loop.example/g00108/laws.FnExactIntOf", spec := "fnExactIntOf", apart := false, narrowed := true }
def FnExactIntOfUptoSaid : Prop := fnExactIntOfUptoRow.holds Try.pinned (OpenSpec.upto fnExactIntOfSpec)

/-- 'laws.FnExactGrown', WHERE WHAT IT READS IS OF BULK AT MOST 1048576: true; the input reads as it did. -/
def fnExactGrownUptoRow : OpenClaim := { program := "ytffcohllkoefeaa", sum := "44bf18a5ee07c694bd9c684102efd12967aa74fa866c9baf78980c12da60e1f0", func := "loop.example/g00108/laws.FnExactGrown", spec := "fnExactGrown", apart := false, narrowed := true }
def FnExactGrownUptoSaid : Prop := fnExactGrownUptoRow.holds Try.pinned (OpenSpec.upto fnExactGrownSpec)

/-- 'laws.FnExactTileBox', WHERE WHAT IT READS IS OF BULK AT MOST 1048576: true; the input reads as it did. -/
def fnExactTileBoxUptoRow : OpenClaim := { program := "ytffcohllkoefeaa", sum := "44bf18a5ee07c694bd9c684102efd12967aa74fa866c9baf78980c12da60e1f0", func := "loop.example/g00108/laws.FnExactTileBox", spec := "fnExactTileBox", apart := false, narrowed := true }
def FnExactTileBoxUptoSaid : Prop := fnExactTileBoxUptoRow.holds Try.pinned (OpenSpec.upto fnExactTileBoxSpec)

end Rows
end Go.Proofs.Ytffcohllkoefeaa
