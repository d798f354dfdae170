/- The functions that the law FnExactCurveSort reaches, each with what it computes and its contract. -/
import Derived.Test.YtinilabmffjnaaaQFnExactCurveSortx0
import Derived.Test.YtinilabmffjnaaaQFnExactCurveSortx4
import Derived.Test.YtinilabmffjnaaaQFnExactCurveSortx7
import Derived.Test.YtinilabmffjnaaaQFnExactCurveSortx8a0
import Derived.Test.YtinilabmffjnaaaQFnExactCurveSortx8a
import Derived.Test.YtinilabmffjnaaaQFnExactCurveSortx8b
import Derived.Test.YtinilabmffjnaaaQFnExactCurveSortx8c
namespace Go.Proofs.Ytinilabmffjnaaa.PFnExactCurveSort
open Go.RowKit Go.Proofs.YtinilabmffjnaaaW.PrintWords Go.Proofs.YtinilabmffjnaaaW.PrintLast Go.Proofs.YtinilabmffjnaaaW.PrintMore
attribute [local go_sem] max2_int min2_int max_two min_two max_three min_three max_four min_four
set_option linter.unusedVariables false
set_option linter.unusedSimpArgs false
set_option maxHeartbeats 8000000 in
set_option maxRecDepth 100000 in
theorem slices_symMergeCmpFunc_int.calls (k : Nat) : ∀ (P0_ : Nat → Prop) (u9000_ : Value) (l0 : List Int) (a1 : Int) (a2 : Int) (a3 : Int) (A4 : Option Addr) (c4 : Nat) (l4 : List Int) (gx : Nat) (r : List Int) (w0 w : World) (hB : Below w0.heap.size w0 w) (ho0 : Kd.R (Kd.int .i64) 3 w w0.heap.size P0_ u9000_ l0) (hr4 : ∀ W_, Kept w W_ (fun k_ => P0_ k_) → Kd.C (Kd.int .i64) W_ A4 l4.length l4) (hc4 : l4.length ≤ c4) (hpx : ∀ W_, Kept w W_ (fun k_ => P0_ k_) → W_.cell? ⟨gx, 0, none⟩ = some (.slice A4 l4.length c4)) (h : slices_symMergeCmpFunc_int.f k l0 a1 a2 a3 l4 = some r),
  Calls Try.prog 126 #[u9000_, .int .i64 a1, .int .i64 a2, .int .i64 a3, .func (.func 87) #[] #[.pointer (some ⟨gx, 0, none⟩)]] w fun e w' => e = .returned (.tuple #[]) ∧ Kd.R (Kd.int .i64) 3 w' w0.heap.size (fun k_ => (P0_ k_ ∨ w.heap.size ≤ k_)) u9000_ r ∧ Below w0.heap.size w0 w' ∧ Kept w w' (fun k_ => P0_ k_) := by
 induction k using Nat.strongRecOn with
 | _ k ih =>
 intro P0_ u9000_ l0 a1 a2 a3 A4 c4 l4 gx r w0 w hB ho0 hr4 hc4 hpx h
 cases k with
 | zero => exact absurd h (by simp [slices_symMergeCmpFunc_int.f])
 | succ k =>
 by_cases c6 : (wrap64 (a2 - a1)) = 1
 ·exact slices_symMergeCmpFunc_int.case1 k P0_ u9000_ l0 a1 a2 a3 A4 c4 l4 gx r w0 w hB ho0 hr4 hc4 hpx h c6
 ·by_cases c31 : (wrap64 (a3 - a2)) = 1
  ·exact slices_symMergeCmpFunc_int.case2 k P0_ u9000_ l0 a1 a2 a3 A4 c4 l4 gx r w0 w hB ho0 hr4 hc4 hpx h c6 c31
  ·exact slices_symMergeCmpFunc_int.case3 k ih P0_ u9000_ l0 a1 a2 a3 A4 c4 l4 gx r w0 w hB ho0 hr4 hc4 hpx h c6 c31

end Go.Proofs.Ytinilabmffjnaaa.PFnExactCurveSort
