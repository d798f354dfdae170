/-
  No cell of these rows narrows 'for every input' (looked for: loops, veiled, ifaces, maps, wideKeys, modest, calm, conditions, laid).
  DERIVED. THE GIVEN ROWS OF THIS SEAT. 12 by the template 'for every input the law returns true; each argument reads behind the call as it read before'; 0 by the template 'total and deterministic' (their statements: YtglefkldomabdaaTotals.lean).
  GIVEN WITH THE SEED: the statements are not yours to turn. If you find one false, say at which input.
  Laid BY PROGRAM, IN A SANDBOX (cutbox-rows.mjs): the forced cells as the released guide's own fill.sh prints them over the translation 11458340e5dead7b… (all of the seat's roots in one cut). By AI agents, Wed Nov 11 2026. No macro, syntax, notation, axiom, sorry.
-/
import Derived.Test.YtglefkldomabdaaChecked
import GoSem.Claim
import GoSem.ClaimJoined
import GoSem.ClaimMapViews
import Derived.JoinedTies
import Derived.KernelRfl
namespace Go.Proofs.Ytglefkldomabdaa
/- THE CELL 'sum', in the pinned program and in every row, IS THE sha256 OF THE DUMP (.gsa) THAT YtglefkldomabdaaProg.lean LOADS. Nothing in Lean hashes anything: it is a label: what it is worth is what the hold of that sum in a sandbox is worth. -/
noncomputable def Try.pinned : Pinned := { name := "ytglefkldomabdaa", sum := "11458340e5dead7be7b1bb056b06f32da7c192d59159cd51e4904b9a724de924", checked := Try.checked }
namespace Rows
def none {H : Type} : Left H := { results := [], args := [] }

/-- 'laws.FnExactConstants': WHATEVER THE INPUT: true; the input reads as it did. -/
def fnExactConstantsSpec : ChangeSpec := { name := "fnExactConstants", fn := fun _ => fun
  | [] => { results := [.lit (.bool true)], args := [] }
  | _ => none }
def fnExactConstantsRow : OpenClaim := { program := "ytglefkldomabdaa", sum := "11458340e5dead7be7b1bb056b06f32da7c192d59159cd51e4904b9a724de924", func := "loop.example/g00108/laws.FnExactConstants", spec := "fnExactConstants", apart := false }
def FnExactConstantsSaid : Prop := fnExactConstantsRow.holds Try.pinned (OpenSpec.ofChange fnExactConstantsSpec)

/-- ITS FALSE NEIGHBOUR: 'it returns false'. Refute it at one input. -/
def fnExactConstantsWrong : ChangeSpec := { name := "fnExactConstants", fn := fun _ => fun
  | [] => { results := [.lit (.bool false)], args := [] }
  | _ => none }
def FnExactConstantsWrongFalsely : Prop := fnExactConstantsRow.holds Try.pinned (OpenSpec.ofChange fnExactConstantsWrong)

/-- 'laws.FnExactLogRoom': WHATEVER THE INPUT: true; the input reads as it did. -/
def fnExactLogRoomSpec : ChangeSpec := { name := "fnExactLogRoom", fn := fun _ => fun
  | [d] => { results := [.lit (.bool true)], args := [d] }
  | _ => none }
def fnExactLogRoomRow : OpenClaim := { program := "ytglefkldomabdaa", sum := "11458340e5dead7be7b1bb056b06f32da7c192d59159cd51e4904b9a724de924", func := "loop.example/g00108/laws.FnExactLogRoom", spec := "fnExactLogRoom", apart := false }
def FnExactLogRoomSaid : Prop := fnExactLogRoomRow.holds Try.pinned (OpenSpec.ofChange fnExactLogRoomSpec)

/-- ITS FALSE NEIGHBOUR: 'it returns false'. Refute it at one input. -/
def fnExactLogRoomWrong : ChangeSpec := { name := "fnExactLogRoom", fn := fun _ => fun
  | [d] => { results := [.lit (.bool false)], args := [d] }
  | _ => none }
def FnExactLogRoomWrongFalsely : Prop := fnExactLogRoomRow.holds Try.pinned (OpenSpec.ofChange fnExactLogRoomWrong)

/-- 'laws.FnExactPtOk': WHATEVER THE INPUT: true; the input reads as it did. -/
def fnExactPtOkSpec : ChangeSpec := { name := "fnExactPtOk", fn := fun _ => fun
  | [d] => { results := [.lit (.bool true)], args := [d] }
  | _ => none }
def fnExactPtOkRow : OpenClaim := { program := "ytglefkldomabdaa", sum := "11458340e5dead7be7b1bb056b06f32da7c192d59159cd51e4904b9a724de924", func := "loop.example/g00108/laws.FnExactPtOk", spec := "fnExactPtOk", apart := false }
def FnExactPtOkSaid : Prop := fnExactPtOkRow.holds Try.pinned (OpenSpec.ofChange fnExactPtOkSpec)

/-- ITS FALSE NEIGHBOUR: 'it returns false'. Refute it at one input. -/
def fnExactPtOkWrong : ChangeSpec := { name := "fnExactPtOk", fn := fun _ => fun
  | [d] => { results := [.lit (.bool false)], args := [d] }
  | _ => none }
def FnExactPtOkWrongFalsely : Prop := fnExactPtOkRow.holds Try.pinned (OpenSpec.ofChange fnExactPtOkWrong)

/-- 'laws.FnExactTileOk': WHATEVER THE INPUT: true; the input reads as it did. -/
def fnExactTileOkSpec : ChangeSpec := { name := "fnExactTileOk", fn := fun _ => fun
  | [d] => { results := [.lit (.bool true)], args := [d] }
  | _ => none }
def fnExactTileOkRow : OpenClaim := { program := "ytglefkldomabdaa", sum := "11458340e5dead7be7b1bb056b06f32da7c192d59159cd51e4904b9a724de924", func := "loop.example/g00108/laws.FnExactTileOk", spec := "fnExactTileOk", apart := false }
def FnExactTileOkSaid : Prop := fnExactTileOkRow.holds Try.pinned (OpenSpec.ofChange fnExactTileOkSpec)

/-- ITS FALSE NEIGHBOUR: 'it returns false'. Refute it at one input. -/
def fnExactTileOkWrong : ChangeSpec := { name := "fnExactTileOk", fn := fun _ => fun
  | [d] => { results := [.lit (.bool false)], args := [d] }
  | _ => none }
def FnExactTileOkWrongFalsely : Prop := fnExactTileOkRow.holds Try.pinned (OpenSpec.ofChange fnExactTileOkWrong)

/-- 'laws.FnExactBoxOk': WHATEVER THE INPUT: true; the input reads as it did. -/
def fnExactBoxOkSpec : ChangeSpec := { name := "fnExactBoxOk", fn := fun _ => fun
  | [d] => { results := [.lit (.bool true)], args := [d] }
  | _ => none }
def fnExactBoxOkRow : OpenClaim := { program := "ytglefkldomabdaa", sum := "11458340e5dead7be7b1bb056b06f32da7c192d59159cd51e4904b9a724de924", func := "loop.example/g00108/laws.FnExactBoxOk", spec := "fnExactBoxOk", apart := false }
def FnExactBoxOkSaid : Prop := fnExactBoxOkRow.holds Try.pinned (OpenSpec.ofChange fnExactBoxOkSpec)

/-- ITS FALSE NEIGHBOUR: 'it returns false'. Refute it at one input. -/
def fnExactBoxOkWrong : ChangeSpec := { name := "fnExactBoxOk", fn := fun _ => fun
  | [d] => { results := [.lit (.bool false)], args := [d] }
  | _ => none }
def FnExactBoxOkWrongFalsely : Prop := fnExactBoxOkRow.holds Try.pinned (OpenSpec.ofChange fnExactBoxOkWrong)

/-- 'laws.FnExactInBox': WHATEVER THE INPUT: true; the input reads as it did. -/
def fnExactInBoxSpec : ChangeSpec := { name := "fnExactInBox", fn := fun _ => fun
  | [d1, d2] => { results := [.lit (.bool true)], args := [d1, d2] }
  | _ => none }
def fnExactInBoxRow : OpenClaim := { program := "ytglefkldomabdaa", sum := "11458340e5dead7be7b1bb056b06f32da7c192d59159cd51e4904b9a724de924", func := "loop.example/g00108/laws.FnExactInBox", spec := "fnExactInBox", apart := false }
def FnExactInBoxSaid : Prop := fnExactInBoxRow.holds Try.pinned (OpenSpec.ofChange fnExactInBoxSpec)

/-- ITS FALSE NEIGHBOUR: 'it returns false'. Refute it at one input. -/
def fnExactInBoxWrong : ChangeSpec := { name := "fnExactInBox", fn := fun _ => fun
  | [d1, d2] => { results := [.lit (.bool false)], args := [d1, d2] }
  | _ => none }
def FnExactInBoxWrongFalsely : Prop := fnExactInBoxRow.holds Try.pinned (OpenSpec.ofChange fnExactInBoxWrong)

/-- 'laws.FnExactOverlap': WHATEVER THE INPUT: true; the input reads as it did. -/
def fnExactOverlapSpec : ChangeSpec := { name := "fnExactOverlap", fn := fun _ => fun
  | [d1, d2] => { results := [.lit (.bool true)], args := [d1, d2] }
  | _ => none }
def fnExactOverlapRow : OpenClaim := { program := "ytglefkldomabdaa", sum := "11458340e5dead7be7b1bb056b06f32da7c192d59159cd51e4904b9a724de924", func := "loop.example/g00108/laws.FnExactOverlap", spec := "fnExactOverlap", apart := false }
def FnExactOverlapSaid : Prop := fnExactOverlapRow.holds Try.pinned (OpenSpec.ofChange fnExactOverlapSpec)

/-- ITS FALSE NEIGHBOUR: 'it returns false'. Refute it at one input. -/
def fnExactOverlapWrong : ChangeSpec := { name := "fnExactOverlap", fn := fun _ => fun
  | [d1, d2] => { results := [.lit (.bool false)], args := [d1, d2] }
  | _ => none }
def FnExactOverlapWrongFalsely : Prop := fnExactOverlapRow.holds Try.pinned (OpenSpec.ofChange fnExactOverlapWrong)

/-- 'laws.FnExactInside': WHATEVER THE INPUT: true; the input reads as it did. -/
def fnExactInsideSpec : ChangeSpec := { name := "fnExactInside", fn := fun _ => fun
  | [d1, d2] => { results := [.lit (.bool true)], args := [d1, d2] }
  | _ => none }
def fnExactInsideRow : OpenClaim := { program := "ytglefkldomabdaa", sum := "11458340e5dead7be7b1bb056b06f32da7c192d59159cd51e4904b9a724de924", func := "loop.example/g00108/laws.FnExactInside", spec := "fnExactInside", apart := false }
def FnExactInsideSaid : Prop := fnExactInsideRow.holds Try.pinned (OpenSpec.ofChange fnExactInsideSpec)

/-- ITS FALSE NEIGHBOUR: 'it returns false'. Refute it at one input. -/
def fnExactInsideWrong : ChangeSpec := { name := "fnExactInside", fn := fun _ => fun
  | [d1, d2] => { results := [.lit (.bool false)], args := [d1, d2] }
  | _ => none }
def FnExactInsideWrongFalsely : Prop := fnExactInsideRow.holds Try.pinned (OpenSpec.ofChange fnExactInsideWrong)

/-- 'laws.FnExactBoxArea': WHATEVER THE INPUT: true; the input reads as it did. -/
def fnExactBoxAreaSpec : ChangeSpec := { name := "fnExactBoxArea", fn := fun _ => fun
  | [d] => { results := [.lit (.bool true)], args := [d] }
  | _ => none }
def fnExactBoxAreaRow : OpenClaim := { program := "ytglefkldomabdaa", sum := "11458340e5dead7be7b1bb056b06f32da7c192d59159cd51e4904b9a724de924", func := "loop.example/g00108/laws.FnExactBoxArea", spec := "fnExactBoxArea", apart := false }
def FnExactBoxAreaSaid : Prop := fnExactBoxAreaRow.holds Try.pinned (OpenSpec.ofChange fnExactBoxAreaSpec)

/-- ITS FALSE NEIGHBOUR: 'it returns false'. Refute it at one input. -/
def fnExactBoxAreaWrong : ChangeSpec := { name := "fnExactBoxArea", fn := fun _ => fun
  | [d] => { results := [.lit (.bool false)], args := [d] }
  | _ => none }
def FnExactBoxAreaWrongFalsely : Prop := fnExactBoxAreaRow.holds Try.pinned (OpenSpec.ofChange fnExactBoxAreaWrong)

/-- 'laws.FnExactMargin': WHATEVER THE INPUT: true; the input reads as it did. -/
def fnExactMarginSpec : ChangeSpec := { name := "fnExactMargin", fn := fun _ => fun
  | [d] => { results := [.lit (.bool true)], args := [d] }
  | _ => none }
def fnExactMarginRow : OpenClaim := { program := "ytglefkldomabdaa", sum := "11458340e5dead7be7b1bb056b06f32da7c192d59159cd51e4904b9a724de924", func := "loop.example/g00108/laws.FnExactMargin", spec := "fnExactMargin", apart := false }
def FnExactMarginSaid : Prop := fnExactMarginRow.holds Try.pinned (OpenSpec.ofChange fnExactMarginSpec)

/-- ITS FALSE NEIGHBOUR: 'it returns false'. Refute it at one input. -/
def fnExactMarginWrong : ChangeSpec := { name := "fnExactMargin", fn := fun _ => fun
  | [d] => { results := [.lit (.bool false)], args := [d] }
  | _ => none }
def FnExactMarginWrongFalsely : Prop := fnExactMarginRow.holds Try.pinned (OpenSpec.ofChange fnExactMarginWrong)

/-- 'laws.FnExactTileUp': WHATEVER THE INPUT: true; the input reads as it did. -/
def fnExactTileUpSpec : ChangeSpec := { name := "fnExactTileUp", fn := fun _ => fun
  | [d] => { results := [.lit (.bool true)], args := [d] }
  | _ => none }
def fnExactTileUpRow : OpenClaim := { program := "ytglefkldomabdaa", sum := "11458340e5dead7be7b1bb056b06f32da7c192d59159cd51e4904b9a724de924", func := "loop.example/g00108/laws.FnExactTileUp", spec := "fnExactTileUp", apart := false }
def FnExactTileUpSaid : Prop := fnExactTileUpRow.holds Try.pinned (OpenSpec.ofChange fnExactTileUpSpec)

/-- ITS FALSE NEIGHBOUR: 'it returns false'. Refute it at one input. -/
def fnExactTileUpWrong : ChangeSpec := { name := "fnExactTileUp", fn := fun _ => fun
  | [d] => { results := [.lit (.bool false)], args := [d] }
  | _ => none }
def FnExactTileUpWrongFalsely : Prop := fnExactTileUpRow.holds Try.pinned (OpenSpec.ofChange fnExactTileUpWrong)

/-- 'laws.FnExactTileOf': WHATEVER THE INPUT: true; the input reads as it did. -/
def fnExactTileOfSpec : ChangeSpec := { name := "fnExactTileOf", fn := fun _ => fun
  | [d1, d2] => { results := [.lit (.bool true)], args := [d1, d2] }
  | _ => none }
def fnExactTileOfRow : OpenClaim := { program := "ytglefkldomabdaa", sum := "11458340e5dead7be7b1bb056b06f32da7c192d59159cd51e4904b9a724de924", func := "loop.example/g00108/laws.FnExactTileOf", spec := "fnExactTileOf", apart := false }
def FnExactTileOfSaid : Prop := fnExactTileOfRow.holds Try.pinned (OpenSpec.ofChange fnExactTileOfSpec)

/-- ITS FALSE NEIGHBOUR: 'it returns false'. Refute it at one input. -/
def fnExactTileOfWrong : ChangeSpec := { name := "fnExactTileOf", fn := fun _ => fun
  | [d1, d2] => { results := [.lit (.bool false)], args := [d1, d2] }
  | _ => none }
def FnExactTileOfWrongFalsely : Prop := fnExactTileOfRow.holds Try.pinned (OpenSpec.ofChange fnExactTileOfWrong)

/- THE SECOND FORM. 'bulk': how many values and letters a reading holds, each counted each time it is reached (what is shared counts as often as it is met; a slice's spare places count too). A statement '..UptoSaid' is the law's where the arguments, and the package variables that the reading takes, are together of bulk at most 1048576: NARROWER than '..Said'. Prove '..Said' where nothing that the law and all that it calls make is longer than what came in: it says more and counts as full. Else prove '..UptoSaid'. A law counts once. -/
mutual
def uptoBulk {H : Type} : DataW H → Nat
  | .lit (.string bytes) => bytes.length + 1
  | .lit _ => 1
  | .nil => 1
  | .ptr d => uptoBulk d + 1
  | .slice elems spare => uptoBulkAll elems + uptoBulkAll spare + 1
  | .agg parts => uptoBulkAll parts + 1
  | .iface _ d => uptoBulk d + 1
  | .map entries => uptoBulkEntries entries + 1
  | .held _ => 1
def uptoBulkAll {H : Type} : List (DataW H) → Nat
  | [] => 0
  | d :: r => uptoBulk d + uptoBulkAll r
def uptoBulkEntries {H : Type} : List (Lit × DataW H) → Nat
  | [] => 0
  | x :: r => uptoBulkEntry x + uptoBulkEntries r
def uptoBulkEntry {H : Type} : Lit × DataW H → Nat
  | (.string bytes, d) => bytes.length + uptoBulk d + 1
  | (_, d) => uptoBulk d + 1
 end
def uptoSmall : (H : Type) → List (DataW H) → Bool := fun _ ds => decide (uptoBulkAll ds ≤ 1048576)
def OpenSpec.upto (s : _root_.Go.ChangeSpec) : _root_.Go.OpenSpec := { _root_.Go.OpenSpec.ofChange s with cond := some uptoSmall }

/-- 'laws.FnExactConstants', WHERE WHAT IT READS IS OF BULK AT MOST 1048576: true; the input reads as it did. -/
def fnExactConstantsUptoRow : OpenClaim := { program := "ytglefkldomabdaa", sum := "11458340e5dead7be7b1bb056b06f32da7c192d59159cd51e4904b9a724de924", func := "loop.example/g00108/laws.FnExactConstants", spec := "fnExactConstants", apart := false, narrowed := true }
def FnExactConstantsUptoSaid : Prop := fnExactConstantsUptoRow.holds Try.pinned (OpenSpec.upto fnExactConstantsSpec)

/-- 'laws.FnExactLogRoom', WHERE WHAT IT READS IS OF BULK AT MOST 1048576: true; the input reads as it did. -/
def fnExactLogRoomUptoRow : OpenClaim := { program := "ytglefkldomabdaa", sum := "11458340e5dead7be7b1bb056b06f32da7c192d59159cd51e4904b9a724de924", func := "loop.example/g00108/laws.FnExactLogRoom", spec := "fnExactLogRoom", apart := false, narrowed := true }
def FnExactLogRoomUptoSaid : Prop := fnExactLogRoomUptoRow.holds Try.pinned (OpenSpec.upto fnExactLogRoomSpec)

/-- 'laws.FnExactPtOk', WHERE WHAT IT READS IS OF BULK AT MOST 1048576: true; the input reads as it did. -/
def fnExactPtOkUptoRow : OpenClaim := { program := "ytglefkldomabdaa", sum := "11458340e5dead7be7b1bb056b06f32da7c192d59159cd51e4904b9a724de924", func := "loop.example/g00108/laws.FnExactPtOk", spec := "fnExactPtOk", apart := false, narrowed := true }
def FnExactPtOkUptoSaid : Prop := fnExactPtOkUptoRow.holds Try.pinned (OpenSpec.upto fnExactPtOkSpec)

/-- 'laws.FnExactTileOk', WHERE WHAT IT READS IS OF BULK AT MOST 1048576: true; the input reads as it did. -/
def fnExactTileOkUptoRow : OpenClaim := { program := "ytglefkldomabdaa", sum := "11458340e5dead7be7b1bb056b06f32da7c192d59159cd51e4904b9a724de924", func := "loop.example/g00108/laws.FnExactTileOk", spec := "fnExactTileOk", apart := false, narrowed := true }
def FnExactTileOkUptoSaid : Prop := fnExactTileOkUptoRow.holds Try.pinned (OpenSpec.upto fnExactTileOkSpec)

/-- 'laws.FnExactBoxOk', WHERE WHAT IT READS IS OF BULK AT MOST 1048576: true; the input reads as it did. -/
def fnExactBoxOkUptoRow : OpenClaim := { program := "ytglefkldomabdaa", sum := "11458340e5dead7be7b1bb056b06f32da7c192d59159cd51e4904b9a724de924", func := "loop.example/g00108/laws.FnExactBoxOk", spec := "fnExactBoxOk", apart := false, narrowed := true }
def FnExactBoxOkUptoSaid : Prop := fnExactBoxOkUptoRow.holds Try.pinned (OpenSpec.upto fnExactBoxOkSpec)

/-- 'laws.FnExactInBox', WHERE WHAT IT READS IS OF BULK AT MOST 1048576: true; the input reads as it did. -/
def fnExactInBoxUptoRow : OpenClaim := { program := "ytglefkldomabdaa", sum := "11458340e5dead7be7b1bb056b06f32da7c192d59159cd51e4904b9a724de924", func := "loop.example/g00108/laws.FnExactInBox", spec := "fnExactInBox", apart := false, narrowed := true }
def FnExactInBoxUptoSaid : Prop := fnExactInBoxUptoRow.holds Try.pinned (OpenSpec.upto fnExactInBoxSpec)

/-- 'laws.FnExactOverlap', WHERE WHAT IT READS IS OF BULK AT MOST 1048576: true; the input reads as it did. -/
def fnExactOverlapUptoRow : OpenClaim := { program := "ytglefkldomabdaa", sum := "11458340e5dead7be7b1bb056b06f32da7c192d59159cd51e4904b9a724de924", func := "loop.example/g00108/laws.FnExactOverlap", spec := "fnExactOverlap", apart := false, narrowed := true }
def FnExactOverlapUptoSaid : Prop := fnExactOverlapUptoRow.holds Try.pinned (OpenSpec.upto fnExactOverlapSpec)

/-- 'laws.FnExactInside', WHERE WHAT IT READS IS OF BULK AT MOST 1048576: true; the input reads as it did. -/
def fnExactInsideUptoRow : OpenClaim := { program := "ytglefkldomabdaa", sum := "11458340e5dead7be7b1bb056b06f32da7c192d59159cd51e4904b9a724de924", func := "loop.example/g00108/laws.FnExactInside", spec := "fnExactInside", apart := false, narrowed := true }
def FnExactInsideUptoSaid : Prop := fnExactInsideUptoRow.holds Try.pinned (OpenSpec.upto fnExactInsideSpec)

/-- 'laws.FnExactBoxArea', WHERE WHAT IT READS IS OF BULK AT MOST 1048576: true; the input reads as it did. -/
def fnExactBoxAreaUptoRow : OpenClaim := { program := "ytglefkldomabdaa", sum := "11458340e5dead7be7b1bb056b06f32da7c192d59159cd51e4904b9a724de924", func := "loop.example/g00108/laws.FnExactBoxArea", spec := "fnExactBoxArea", apart := false, narrowed := true }
def FnExactBoxAreaUptoSaid : Prop := fnExactBoxAreaUptoRow.holds Try.pinned (OpenSpec.upto fnExactBoxAreaSpec)

/-- 'laws.FnExactMargin', WHERE WHAT IT READS IS OF BULK AT MOST 1048576: true; the input reads as it did. -/
def fnExactMarginUptoRow : OpenClaim := { program := "ytglefkldomabdaa", sum := "11458340e5dead7be7b1bb056b06f32da7c192d59159cd51e4904b9a724de924", func := "loop.example/g00108/laws.FnExactMargin", spec := "fnExactMargin", apart := false, narrowed := true }
def FnExactMarginUptoSaid : Prop := fnExactMarginUptoRow.holds Try.pinned (OpenSpec.upto fnExactMarginSpec)

/-- 'laws.FnExactTileUp', WHERE WHAT IT READS IS OF BULK AT MOST 1048576: true; the input reads as it did. -/
def fnExactTileUpUptoRow : OpenClaim := { program := "ytglefkldomabdaa", sum := "11458340e5dead7be7b1bb056b06f32da7c192d59159cd51e4904b9a724de924", func := "loop.example/g00108/laws.FnExactTileUp", spec := "fnExactTileUp", apart := false, narrowed := true }
def FnExactTileUpUptoSaid : Prop := fnExactTileUpUptoRow.holds Try.pinned (OpenSpec.upto fnExactTileUpSpec)

/-- 'laws.FnExactTileOf', WHERE WHAT IT READS IS OF BULK AT MOST 1048576: true; the input reads as it did. -/
def fnExactTileOfUptoRow : OpenClaim := { program := "ytglefkldomabdaa", sum := "11458340e5dead7be7b1bb056b06f32da7c192d59159cd51e4904b9a724de924", func := "loop.example/g00108/laws.FnExactTileOf", spec := "fnExactTileOf", apart := false, narrowed := true }
def FnExactTileOfUptoSaid : Prop := fnExactTileOfUptoRow.holds Try.pinned (OpenSpec.upto fnExactTileOfSpec)

end Rows
end Go.Proofs.Ytglefkldomabdaa
