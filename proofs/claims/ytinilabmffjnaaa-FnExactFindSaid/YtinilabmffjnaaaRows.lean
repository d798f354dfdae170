/-
  No cell of these rows narrows 'for every input' (looked for: loops, veiled, ifaces, maps, wideKeys, modest, calm, conditions, laid).
  DERIVED. THE GIVEN ROWS OF THIS SEAT. 8 by the template 'for every input the law returns true; each argument reads behind the call as it read before'; 0 by the template 'total and deterministic' (their statements: YtinilabmffjnaaaTotals.lean).
  GIVEN WITH THE SEED: the statements are not yours to turn. If you find one false, say at which input.
  Laid BY PROGRAM, IN A SANDBOX (cutbox-rows.mjs): the forced cells as the released guide's own fill.sh prints them over the translation 328561a4b3860b84… (all of the seat's roots in one cut). By AI agents, Wed Nov 11 2026. No macro, syntax, notation, axiom, sorry.
-/
import Derived.Test.YtinilabmffjnaaaChecked
import GoSem.Claim
import GoSem.ClaimJoined
import GoSem.ClaimMapViews
import Derived.JoinedTies
import Derived.KernelRfl
namespace Go.Proofs.Ytinilabmffjnaaa
/- THE CELL 'sum', in the pinned program and in every row, IS THE sha256 OF THE DUMP (.gsa) THAT YtinilabmffjnaaaProg.lean LOADS. Nothing in Lean hashes anything: it is a label: what it is worth is what the hold of that sum in a sandbox is worth. -/
noncomputable def Try.pinned : Pinned := { name := "ytinilabmffjnaaa", sum := "328561a4b3860b84ecb767f5d538a9c392109d2e28cebec39a3a517df08e5e5f", checked := Try.checked }
namespace Rows
def none {H : Type} : Left H := { results := [], args := [] }

/-- 'laws.FnDisk': WHATEVER THE INPUT: true; the input reads as it did. -/
def fnDiskSpec : ChangeSpec := { name := "fnDisk", fn := fun _ => fun
  | [d] => { results := [.lit (.bool true)], args := [d] }
  | _ => none }
def fnDiskRow : OpenClaim := { program := "ytinilabmffjnaaa", sum := "328561a4b3860b84ecb767f5d538a9c392109d2e28cebec39a3a517df08e5e5f", func := "loop.example/g00108/laws.FnDisk", spec := "fnDisk", unfollowed := true, recurses := true, apart := false }
def FnDiskSaid : Prop := fnDiskRow.holds Try.pinned (OpenSpec.ofChange fnDiskSpec)

/-- ITS FALSE NEIGHBOUR: 'it returns false'. Refute it at one input. -/
def fnDiskWrong : ChangeSpec := { name := "fnDisk", fn := fun _ => fun
  | [d] => { results := [.lit (.bool false)], args := [d] }
  | _ => none }
def FnDiskWrongFalsely : Prop := fnDiskRow.holds Try.pinned (OpenSpec.ofChange fnDiskWrong)

/-- 'laws.FnExactReadSector': WHATEVER THE INPUT: true; the input reads as it did. -/
def fnExactReadSectorSpec : ChangeSpec := { name := "fnExactReadSector", fn := fun _ => fun
  | [d1, d2] => { results := [.lit (.bool true)], args := [d1, d2] }
  | _ => none }
def fnExactReadSectorRow : OpenClaim := { program := "ytinilabmffjnaaa", sum := "328561a4b3860b84ecb767f5d538a9c392109d2e28cebec39a3a517df08e5e5f", func := "loop.example/g00108/laws.FnExactReadSector", spec := "fnExactReadSector", apart := false }
def FnExactReadSectorSaid : Prop := fnExactReadSectorRow.holds Try.pinned (OpenSpec.ofChange fnExactReadSectorSpec)

/-- ITS FALSE NEIGHBOUR: 'it returns false'. Refute it at one input. -/
def fnExactReadSectorWrong : ChangeSpec := { name := "fnExactReadSector", fn := fun _ => fun
  | [d1, d2] => { results := [.lit (.bool false)], args := [d1, d2] }
  | _ => none }
def FnExactReadSectorWrongFalsely : Prop := fnExactReadSectorRow.holds Try.pinned (OpenSpec.ofChange fnExactReadSectorWrong)

/-- 'laws.FnExactWriteSector': WHATEVER THE INPUT: true; the input reads as it did. -/
def fnExactWriteSectorSpec : ChangeSpec := { name := "fnExactWriteSector", fn := fun _ => fun
  | [d1, d2, d3] => { results := [.lit (.bool true)], args := [d1, d2, d3] }
  | _ => none }
def fnExactWriteSectorRow : OpenClaim := { program := "ytinilabmffjnaaa", sum := "328561a4b3860b84ecb767f5d538a9c392109d2e28cebec39a3a517df08e5e5f", func := "loop.example/g00108/laws.FnExactWriteSector", spec := "fnExactWriteSector", apart := false }
def FnExactWriteSectorSaid : Prop := fnExactWriteSectorRow.holds Try.pinned (OpenSpec.ofChange fnExactWriteSectorSpec)

/-- ITS FALSE NEIGHBOUR: 'it returns false'. Refute it at one input. -/
def fnExactWriteSectorWrong : ChangeSpec := { name := "fnExactWriteSector", fn := fun _ => fun
  | [d1, d2, d3] => { results := [.lit (.bool false)], args := [d1, d2, d3] }
  | _ => none }
def FnExactWriteSectorWrongFalsely : Prop := fnExactWriteSectorRow.holds Try.pinned (OpenSpec.ofChange fnExactWriteSectorWrong)

/-- 'laws.FnExactSync': WHATEVER THE INPUT: true; the input reads as it did. -/
def fnExactSyncSpec : ChangeSpec := { name := "fnExactSync", fn := fun _ => fun
  | [d] => { results := [.lit (.bool true)], args := [d] }
  | _ => none }
def fnExactSyncRow : OpenClaim := { program := "ytinilabmffjnaaa", sum := "328561a4b3860b84ecb767f5d538a9c392109d2e28cebec39a3a517df08e5e5f", func := "loop.example/g00108/laws.FnExactSync", spec := "fnExactSync", unfollowed := true, recurses := true, apart := false }
def FnExactSyncSaid : Prop := fnExactSyncRow.holds Try.pinned (OpenSpec.ofChange fnExactSyncSpec)

/-- ITS FALSE NEIGHBOUR: 'it returns false'. Refute it at one input. -/
def fnExactSyncWrong : ChangeSpec := { name := "fnExactSync", fn := fun _ => fun
  | [d] => { results := [.lit (.bool false)], args := [d] }
  | _ => none }
def FnExactSyncWrongFalsely : Prop := fnExactSyncRow.holds Try.pinned (OpenSpec.ofChange fnExactSyncWrong)

/-- 'laws.FnExactFind': WHATEVER THE INPUT: true; the input reads as it did. -/
def fnExactFindSpec : ChangeSpec := { name := "fnExactFind", fn := fun _ => fun
  | [d1, d2] => { results := [.lit (.bool true)], args := [d1, d2] }
  | _ => none }
def fnExactFindRow : OpenClaim := { program := "ytinilabmffjnaaa", sum := "328561a4b3860b84ecb767f5d538a9c392109d2e28cebec39a3a517df08e5e5f", func := "loop.example/g00108/laws.FnExactFind", spec := "fnExactFind", unfollowed := true, recurses := true, apart := false }
def FnExactFindSaid : Prop := fnExactFindRow.holds Try.pinned (OpenSpec.ofChange fnExactFindSpec)

/-- ITS FALSE NEIGHBOUR: 'it returns false'. Refute it at one input. -/
def fnExactFindWrong : ChangeSpec := { name := "fnExactFind", fn := fun _ => fun
  | [d1, d2] => { results := [.lit (.bool false)], args := [d1, d2] }
  | _ => none }
def FnExactFindWrongFalsely : Prop := fnExactFindRow.holds Try.pinned (OpenSpec.ofChange fnExactFindWrong)

/-- 'laws.FnExactCrash': WHATEVER THE INPUT: true; the input reads as it did. -/
def fnExactCrashSpec : ChangeSpec := { name := "fnExactCrash", fn := fun _ => fun
  | [d1, d2] => { results := [.lit (.bool true)], args := [d1, d2] }
  | _ => none }
def fnExactCrashRow : OpenClaim := { program := "ytinilabmffjnaaa", sum := "328561a4b3860b84ecb767f5d538a9c392109d2e28cebec39a3a517df08e5e5f", func := "loop.example/g00108/laws.FnExactCrash", spec := "fnExactCrash", unfollowed := true, recurses := true, apart := false }
def FnExactCrashSaid : Prop := fnExactCrashRow.holds Try.pinned (OpenSpec.ofChange fnExactCrashSpec)

/-- ITS FALSE NEIGHBOUR: 'it returns false'. Refute it at one input. -/
def fnExactCrashWrong : ChangeSpec := { name := "fnExactCrash", fn := fun _ => fun
  | [d1, d2] => { results := [.lit (.bool false)], args := [d1, d2] }
  | _ => none }
def FnExactCrashWrongFalsely : Prop := fnExactCrashRow.holds Try.pinned (OpenSpec.ofChange fnExactCrashWrong)

/-- 'laws.FnSorted': WHATEVER THE INPUT: true; the input reads as it did. -/
def fnSortedSpec : ChangeSpec := { name := "fnSorted", fn := fun _ => fun
  | [d] => { results := [.lit (.bool true)], args := [d] }
  | _ => none }
def fnSortedRow : OpenClaim := { program := "ytinilabmffjnaaa", sum := "328561a4b3860b84ecb767f5d538a9c392109d2e28cebec39a3a517df08e5e5f", func := "loop.example/g00108/laws.FnSorted", spec := "fnSorted", unfollowed := true, recurses := true, apart := false }
def FnSortedSaid : Prop := fnSortedRow.holds Try.pinned (OpenSpec.ofChange fnSortedSpec)

/-- ITS FALSE NEIGHBOUR: 'it returns false'. Refute it at one input. -/
def fnSortedWrong : ChangeSpec := { name := "fnSorted", fn := fun _ => fun
  | [d] => { results := [.lit (.bool false)], args := [d] }
  | _ => none }
def FnSortedWrongFalsely : Prop := fnSortedRow.holds Try.pinned (OpenSpec.ofChange fnSortedWrong)

/-- 'laws.FnExactCurveSort': WHATEVER THE INPUT: true; the input reads as it did. -/
def fnExactCurveSortSpec : ChangeSpec := { name := "fnExactCurveSort", fn := fun _ => fun
  | [d] => { results := [.lit (.bool true)], args := [d] }
  | _ => none }
def fnExactCurveSortRow : OpenClaim := { program := "ytinilabmffjnaaa", sum := "328561a4b3860b84ecb767f5d538a9c392109d2e28cebec39a3a517df08e5e5f", func := "loop.example/g00108/laws.FnExactCurveSort", spec := "fnExactCurveSort", unfollowed := true, recurses := true, apart := false }
def FnExactCurveSortSaid : Prop := fnExactCurveSortRow.holds Try.pinned (OpenSpec.ofChange fnExactCurveSortSpec)

/-- ITS FALSE NEIGHBOUR: 'it returns false'. Refute it at one input. -/
def fnExactCurveSortWrong : ChangeSpec := { name := "fnExactCurveSort", fn := fun _ => fun
  | [d] => { results := [.lit (.bool false)], args := [d] }
  | _ => none }
def FnExactCurveSortWrongFalsely : Prop := fnExactCurveSortRow.holds Try.pinned (OpenSpec.ofChange fnExactCurveSortWrong)

/- THE SECOND FORM. 'bulk': how many values and letters a reading holds, each counted each time it is reached (what is shared counts as often as it is met; a slice's spare places count too). A statement '..UptoSaid' is the law's where the arguments, and the package variables that the reading takes, are together of bulk at most 1048576: NARROWER than '..Said'. Prove '..Said' where nothing that the law and all that it calls make is longer than what came in: it says more and counts as full. Else prove '..UptoSaid'. A law counts once. -/
mutual
def uptoBulk {H : Type} : DataW H → Nat
  | .lit (.string bytes) => bytes.length + 1
  | .lit _ => 1
  | .nil => 1
  | .ptr d => uptoBulk d + 1
  | .slice elems spare => uptoBulkAll elems + uptoBulkAll spare + 1
  | .agg parts => uptoBulkAll parts + 1
  | .iface _ d => uptoBulk d + 1
  | .map entries => uptoBulkEntries entries + 1
  | .held _ => 1
def uptoBulkAll {H : Type} : List (DataW H) → Nat
  | [] => 0
  | d :: r => uptoBulk d + uptoBulkAll r
def uptoBulkEntries {H : Type} : List (Lit × DataW H) → Nat
  | [] => 0
  | x :: r => uptoBulkEntry x + uptoBulkEntries r
def uptoBulkEntry {H : Type} : Lit × DataW H → Nat
  | (.string bytes, d) => bytes.length + uptoBulk d + 1
  | (_, d) => uptoBulk d + 1
 end
def uptoSmall : (H : Type) → List (DataW H) → Bool := fun _ ds => decide (uptoBulkAll ds ≤ 1048576)
def OpenSpec.upto (s : _root_.Go.ChangeSpec) : _root_.Go.OpenSpec := { _root_.Go.OpenSpec.ofChange s with cond := some uptoSmall }

/-- 'laws.FnDisk', WHERE WHAT IT READS IS OF BULK AT MOST 1048576: true; the input reads as it did. -/
def fnDiskUptoRow : OpenClaim := { program := "ytinilabmffjnaaa", sum := "328561a4b3860b84ecb767f5d538a9c392109d2e28cebec39a3a517df08e5e5f", func := "loop.example/g00108/laws.FnDisk", spec := "fnDisk", unfollowed := true, recurses := true, apart := false, narrowed := true }
def FnDiskUptoSaid : Prop := fnDiskUptoRow.holds Try.pinned (OpenSpec.upto fnDiskSpec)

/-- 'laws.FnExactReadSector', WHERE WHAT IT READS IS OF BULK AT MOST 1048576: true; the input reads as it did. -/
def fnExactReadSectorUptoRow : OpenClaim := { program := "ytinilabmffjnaaa", sum := "328561a4b3860b84ecb767f5d538a9c392109d2e28cebec39a3a517df08e5e5f", func := "loop.example/g00108/laws.FnExactReadSector", spec := "fnExactReadSector", apart := false, narrowed := true }
def FnExactReadSectorUptoSaid : Prop := fnExactReadSectorUptoRow.holds Try.pinned (OpenSpec.upto fnExactReadSectorSpec)

/-- 'laws.FnExactWriteSector', WHERE WHAT IT READS IS OF BULK AT MOST 1048576: true; the input reads as it did. -/
def fnExactWriteSectorUptoRow : OpenClaim := { program := "ytinilabmffjnaaa", sum := "328561a4b3860b84ecb767f5d538a9c392109d2e28cebec39a3a517df08e5e5f", func := "loop.example/g00108/laws.FnExactWriteSector", spec := "fnExactWriteSector", apart := false, narrowed := true }
def FnExactWriteSectorUptoSaid : Prop := fnExactWriteSectorUptoRow.holds Try.pinned (OpenSpec.upto fnExactWriteSectorSpec)

/-- 'laws.FnExactSync', WHERE WHAT IT READS IS OF BULK AT MOST 1048576: true; the input reads as it did. -/
def fnExactSyncUptoRow : OpenClaim := { program := "ytinilabmffjnaaa", sum := "328561a4b3860b84ecb767f5d538a9c392109d2e28cebec39a3a517df08e5e5f", func := "loop.example/g00108/laws.FnExactSync", spec := "fnExactSync", unfollowed := true, recurses := true, apart := false, narrowed := true }
def FnExactSyncUptoSaid : Prop := fnExactSyncUptoRow.holds Try.pinned (OpenSpec.upto fnExactSyncSpec)

/-- 'laws.FnExactFind', WHERE WHAT IT READS IS OF BULK AT MOST 1048576: true; the input reads as it did. -/
def fnExactFindUptoRow : OpenClaim := { program := "ytinilabmffjnaaa", sum := "328561a4b3860b84ecb767f5d538a9c392109d2e28cebec39a3a517df08e5e5f", func := "loop.example/g00108/laws.FnExactFind", spec := "fnExactFind", unfollowed := true, recurses := true, apart := false, narrowed := true }
def FnExactFindUptoSaid : Prop := fnExactFindUptoRow.holds Try.pinned (OpenSpec.upto fnExactFindSpec)

/-- 'laws.FnExactCrash', WHERE WHAT IT READS IS OF BULK AT MOST 1048576: true; the input reads as it did. -/
def fnExactCrashUptoRow : OpenClaim := { program := "ytinilabmffjnaaa", sum := "328561a4b3860b84ecb767f5d538a9c392109d2e28cebec39a3a517df08e5e5f", func := "loop.example/g00108/laws.FnExactCrash", spec := "fnExactCrash", unfollowed := true, recurses := true, apart := false, narrowed := true }
def FnExactCrashUptoSaid : Prop := fnExactCrashUptoRow.holds Try.pinned (OpenSpec.upto fnExactCrashSpec)

/-- 'laws.FnSorted', WHERE WHAT IT READS IS OF BULK AT MOST 1048576: true; the input reads as it did. -/
def fnSortedUptoRow : OpenClaim := { program := "ytinilabmffjnaaa", sum := "328561a4b3860b84ecb767f5d538a9c392109d2e28cebec39a3a517df08e5e5f", func := "loop.example/g00108/laws.FnSorted", spec := "fnSorted", unfollowed := true, recurses := true, apart := false, narrowed := true }
def FnSortedUptoSaid : Prop := fnSortedUptoRow.holds Try.pinned (OpenSpec.upto fnSortedSpec)

/-- 'laws.FnExactCurveSort', WHERE WHAT IT READS IS OF BULK AT MOST 1048576: true; the input reads as it did. -/
def fnExactCurveSortUptoRow : OpenClaim := { program := "ytinilabmffjnaaa", sum := "328561a4b3860b84ecb767f5d538a9c392109d2e28cebec39a3a517df08e5e5f", func := "loop.example/g00108/laws.FnExactCurveSort", spec := "fnExactCurveSort", unfollowed := true, recurses := true, apart := false, narrowed := true }
def FnExactCurveSortUptoSaid : Prop := fnExactCurveSortUptoRow.holds Try.pinned (OpenSpec.upto fnExactCurveSortSpec)

end Rows
end Go.Proofs.Ytinilabmffjnaaa
