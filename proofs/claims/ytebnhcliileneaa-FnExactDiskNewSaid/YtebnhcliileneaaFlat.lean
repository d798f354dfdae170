/- The opening of flat structs: what reads as data at such a type is a row of whole numbers (or bools), each of its kind. No conditions. -/
import Derived.Test.YtebnhcliileneaaProg
import Derived.WalkKit
import Derived.ProofKit
import Derived.KernelRfl
import Derived.ChangeArms
import Derived.OpenShut
namespace Go.Proofs.Ytebnhcliileneaa.Flat
open Go.ChangeShapes Go.WideShapes Go.ChangeAt Go.RowKit
theorem list_2 {α : Type} {l : List α} (h : l.length = 2) : ∃ c0 c1, l = [c0, c1] := by
  match l, h with
  | [c0, c1], _ => exact ⟨c0, c1, rfl⟩
theorem list_4 {α : Type} {l : List α} (h : l.length = 4) : ∃ c0 c1 c2 c3, l = [c0, c1, c2, c3] := by
  match l, h with
  | [c0, c1, c2, c3], _ => exact ⟨c0, c1, c2, c3, rfl⟩
section
variable {H : Type} {enc : TypeId × Value → H} {w : World} {base : Nat} {spare : Nat → Bool} {held : Bool}
theorem flat_30 {fuel : Nat} {cs : List Value} {x : DataW H × List MemPlace} (h : DataW.trod enc Try.prog w base spare held fuel 30 cs = some x) :
    ∃ (a0 : Int) (a1 : Int), cs = [.int .i64 a0, .int .i64 a1] ∧ (Lit.int .i64 a0).wf = true ∧ (Lit.int .i64 a1).wf = true := by
  obtain ⟨xs, n, _, _, hl, hlen, hf⟩ := DataW.trod_struct Try.underlying30 h
  have hl30 : cs.length = 2 := hl.trans (by kernel_rfl)
  obtain ⟨c0, c1, rfl⟩ := list_2 hl30
  obtain ⟨y0, hy0⟩ : ∃ y, xs[0]? = some y := ⟨_, List.getElem?_eq_getElem (by rw [hlen]; decide)⟩
  have g0 : DataW.trod enc Try.prog w base spare held n 3 (([c0, c1].drop 0).take (Try.prog.cellsOf 3)) = xs[0]? := hf 0 _ rfl
  rw [hy0, show Try.prog.cellsOf 3 = 1 from by kernel_rfl] at g0
  obtain ⟨y1, hy1⟩ : ∃ y, xs[1]? = some y := ⟨_, List.getElem?_eq_getElem (by rw [hlen]; decide)⟩
  have g1 : DataW.trod enc Try.prog w base spare held n 3 (([c0, c1].drop 1).take (Try.prog.cellsOf 3)) = xs[1]? := hf 1 _ rfl
  rw [hy1, show Try.prog.cellsOf 3 = 1 from by kernel_rfl] at g1
  obtain ⟨a0, e0, _, wa0⟩ := DataW.trod_int Try.underlying3 g0
  simp at e0
  obtain ⟨a1, e1, _, wa1⟩ := DataW.trod_int Try.underlying3 g1
  simp at e1
  obtain rfl := e0
  obtain rfl := e1
  exact ⟨a0, a1, rfl, wa0, wa1⟩
theorem flat_36 {fuel : Nat} {cs : List Value} {x : DataW H × List MemPlace} (h : DataW.trod enc Try.prog w base spare held fuel 36 cs = some x) :
    ∃ (a0 : Int) (a1 : Int) (a2 : Int) (a3 : Int), cs = [.int .i64 a0, .int .i64 a1, .int .i64 a2, .int .i64 a3] ∧ (Lit.int .i64 a0).wf = true ∧ (Lit.int .i64 a1).wf = true ∧ (Lit.int .i64 a2).wf = true ∧ (Lit.int .i64 a3).wf = true := by
  obtain ⟨xs, n, _, _, hl, hlen, hf⟩ := DataW.trod_struct Try.underlying36 h
  have hl36 : cs.length = 4 := hl.trans (by kernel_rfl)
  obtain ⟨c0, c1, c2, c3, rfl⟩ := list_4 hl36
  obtain ⟨y0, hy0⟩ : ∃ y, xs[0]? = some y := ⟨_, List.getElem?_eq_getElem (by rw [hlen]; decide)⟩
  have g0 : DataW.trod enc Try.prog w base spare held n 30 (([c0, c1, c2, c3].drop 0).take (Try.prog.cellsOf 30)) = xs[0]? := hf 0 _ rfl
  rw [hy0, show Try.prog.cellsOf 30 = 2 from by kernel_rfl] at g0
  obtain ⟨y1, hy1⟩ : ∃ y, xs[1]? = some y := ⟨_, List.getElem?_eq_getElem (by rw [hlen]; decide)⟩
  have g1 : DataW.trod enc Try.prog w base spare held n 30 (([c0, c1, c2, c3].drop 2).take (Try.prog.cellsOf 30)) = xs[1]? := hf 1 _ rfl
  rw [hy1, show Try.prog.cellsOf 30 = 2 from by kernel_rfl] at g1
  obtain ⟨a0, a1, e0, wa0, wa1⟩ := flat_30 g0
  simp at e0
  obtain ⟨a2, a3, e1, wa2, wa3⟩ := flat_30 g1
  simp at e1
  obtain ⟨rfl, rfl⟩ := e0
  obtain ⟨rfl, rfl⟩ := e1
  exact ⟨a0, a1, a2, a3, rfl, wa0, wa1, wa2, wa3⟩
end
end Go.Proofs.Ytebnhcliileneaa.Flat
