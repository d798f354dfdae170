/- The opening of flat structs: what reads as data at such a type is a row of whole numbers (or bools), each of its kind. No conditions. -/
import Derived.Test.YtinilabmffjnaaaDoorProg
import Derived.WalkKit
import Derived.ProofKit
import Derived.KernelRfl
import Derived.ChangeArms
import Derived.OpenShut
namespace Go.Proofs.YtinilabmffjnaaaDoor.Flat
open Go.ChangeShapes Go.WideShapes Go.ChangeAt Go.RowKit
theorem list_3 {α : Type} {l : List α} (h : l.length = 3) : ∃ c0 c1 c2, l = [c0, c1, c2] := by
  match l, h with
  | [c0, c1, c2], _ => exact ⟨c0, c1, c2, rfl⟩
section
variable {H : Type} {enc : TypeId × Value → H} {w : World} {base : Nat} {spare : Nat → Bool} {held : Bool}
theorem flat_23 {fuel : Nat} {cs : List Value} {x : DataW H × List MemPlace} (h : DataW.trod enc Tryd.prog w base spare held fuel 23 cs = some x) :
    ∃ (a0 : Int) (a1 : Int) (a2 : Int), cs = [.int .i64 a0, .int .i64 a1, .int .i64 a2] ∧ (Lit.int .i64 a0).wf = true ∧ (Lit.int .i64 a1).wf = true ∧ (Lit.int .i64 a2).wf = true := by
  obtain ⟨xs, n, _, _, hl, hlen, hf⟩ := DataW.trod_struct Tryd.underlying23 h
  have hl23 : cs.length = 3 := hl.trans (by kernel_rfl)
  obtain ⟨c0, c1, c2, rfl⟩ := list_3 hl23
  obtain ⟨y0, hy0⟩ : ∃ y, xs[0]? = some y := ⟨_, List.getElem?_eq_getElem (by rw [hlen]; decide)⟩
  have g0 : DataW.trod enc Tryd.prog w base spare held n 3 (([c0, c1, c2].drop 0).take (Tryd.prog.cellsOf 3)) = xs[0]? := hf 0 _ rfl
  rw [hy0, show Tryd.prog.cellsOf 3 = 1 from by kernel_rfl] at g0
  obtain ⟨y1, hy1⟩ : ∃ y, xs[1]? = some y := ⟨_, List.getElem?_eq_getElem (by rw [hlen]; decide)⟩
  have g1 : DataW.trod enc Tryd.prog w base spare held n 3 (([c0, c1, c2].drop 1).take (Tryd.prog.cellsOf 3)) = xs[1]? := hf 1 _ rfl
  rw [hy1, show Tryd.prog.cellsOf 3 = 1 from by kernel_rfl] at g1
  obtain ⟨y2, hy2⟩ : ∃ y, xs[2]? = some y := ⟨_, List.getElem?_eq_getElem (by rw [hlen]; decide)⟩
  have g2 : DataW.trod enc Tryd.prog w base spare held n 3 (([c0, c1, c2].drop 2).take (Tryd.prog.cellsOf 3)) = xs[2]? := hf 2 _ rfl
  rw [hy2, show Tryd.prog.cellsOf 3 = 1 from by kernel_rfl] at g2
  obtain ⟨a0, e0, _, wa0⟩ := DataW.trod_int Tryd.underlying3 g0
  simp at e0
  obtain ⟨a1, e1, _, wa1⟩ := DataW.trod_int Tryd.underlying3 g1
  simp at e1
  obtain ⟨a2, e2, _, wa2⟩ := DataW.trod_int Tryd.underlying3 g2
  simp at e2
  obtain rfl := e0
  obtain rfl := e1
  obtain rfl := e2
  exact ⟨a0, a1, a2, rfl, wa0, wa1, wa2⟩
end
end Go.Proofs.YtinilabmffjnaaaDoor.Flat
