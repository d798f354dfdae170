/- The functions that the law FnExactTileKey reaches, each with what it computes and its contract. -/
import Derived.Test.YtinilabmffjnaaaDoorQFnExactTileKeyx0
import Derived.Lib.AppendIntMem
import Derived.Test.YtinilabmffjnaaaDoorShelf
namespace Go.Proofs.YtinilabmffjnaaaDoor.PFnExactTileKey
open Go.RowKit Go.Proofs.YtinilabmffjnaaaDoorW.PrintWords Go.Proofs.YtinilabmffjnaaaDoorW.PrintLast Go.Proofs.YtinilabmffjnaaaDoorW.PrintMore
attribute [local go_sem] max2_int min2_int max_two min_two max_three min_three max_four min_four   -- for this text's walks alone
set_option linter.unusedVariables false
set_option linter.unusedSimpArgs false

/-! ### strconv_Itoa_20: function 20 (my own contract) -/
/-- strconv.Itoa, by the shelf's contract: the decimal digits. -/
def strconv_Itoa_20.f (a0 : Int) : Option (ByteArray) := if -9223372036854775808 ≤ a0 ∧ a0 ≤ 9223372036854775807 then some (⟨(Lib.itoa a0).toArray⟩ : ByteArray) else none
theorem strconv_Itoa_20.calls (a0 : Int) (r : ByteArray) (w : World) (hT0 : Lib.TabIs Tryd.prog w "internal/strconv.uint64pow10" .u64 Lib.pow10Tab) (h : strconv_Itoa_20.f a0 = some r) :
    Calls Tryd.prog 20 #[.int .i64 a0] w fun e w' => e = .returned (.string r) ∧ Below w.heap.size w w' := by
  unfold strconv_Itoa_20.f at h
  split at h
  · rename_i hb
    obtain rfl := Option.some.inj h
    refine (Tryd.strconv_Itoa a0 hb.1 hb.2 w hT0).mono ?_
    rintro e w' ⟨rfl, k, os, rfl⟩
    exact ⟨rfl, Lib.below_grow w.heap.size w (Nat.le_refl _) k os⟩
  · cases h


end Go.Proofs.YtinilabmffjnaaaDoor.PFnExactTileKey
