/- The kinds of the arguments of the law FnExactCrash: what reads as data there is such a value. No conditions. -/
import Derived.Test.YtinilabmffjnaaaQFnExactCrashx21
import Derived.Test.YtinilabmffjnaaaOpen
namespace Go.Proofs.Ytinilabmffjnaaa.PFnExactCrash
open Go.ChangeShapes Go.WideShapes Go.ChangeAt Go.RowKit Go.Proofs.YtinilabmffjnaaaW.PrintWords Go.Proofs.Ytinilabmffjnaaa.Open
def ok130 (x : S130) : Prop := (Lit.int .i64 x.f0).wf = true ∧ ((x.f1).length * 1 ≤ 140737488351232 ∧ ∀ u ∈ (x.f1), (fun x : Int => (Lit.int .u8 x).wf = true) u)
theorem op130 : Opens Try.prog 130 k130 ok130 := by
  intro H enc w fuel cs x h hw
  obtain ⟨xs, n, _, hx, hl, hlen, hf⟩ := DataW.trod_struct Try.underlying130 h
  have hl2 : cs.length = 2 := hl.trans (by kernel_rfl)
  obtain ⟨y0, hy0⟩ : ∃ y, xs[0]? = some y := ⟨_, List.getElem?_eq_getElem (by rw [hlen]; decide)⟩
  have g0 : DataW.trod enc Try.prog w 0 (fun _ => true) true n 3 ((cs.drop 0).take (Try.prog.cellsOf 3)) = xs[0]? := hf 0 _ rfl
  rw [hy0, show Try.prog.cellsOf 3 = 1 from by kernel_rfl] at g0
  obtain ⟨v0, K0, o0⟩ := (Opens.int Try.underlying3) H enc w n _ _ g0 (fun m hm => hw m (by rw [hx]; simp only [DataW.weights, Try.underlying130]; exact DataW.weights_mem_each (j := 0) rfl (by simp [hy0]) m hm))
  obtain ⟨y1, hy1⟩ : ∃ y, xs[1]? = some y := ⟨_, List.getElem?_eq_getElem (by rw [hlen]; decide)⟩
  have g1 : DataW.trod enc Try.prog w 0 (fun _ => true) true n 22 ((cs.drop 1).take (Try.prog.cellsOf 22)) = xs[1]? := hf 1 _ rfl
  rw [hy1, show Try.prog.cellsOf 22 = 1 from by kernel_rfl] at g1
  obtain ⟨v1, K1, o1⟩ := (Opens.slice 5 Try.underlying22 (Opens.int Try.underlying5) (by kernel_rfl) (by kernel_rfl)) H enc w n _ _ g1 (fun m hm => hw m (by rw [hx]; simp only [DataW.weights, Try.underlying130]; exact DataW.weights_mem_each (j := 1) rfl (by simp [hy1]) m hm))
  have eL : (cs.drop 1).take 1 = cs.drop 1 := List.take_of_length_le (by rw [List.length_drop]; omega)
  rw [eL] at K1
  have E0 : cs.drop 0 = (cs.drop 0).take 1 ++ cs.drop 1 := by rw [show cs.drop 1 = (cs.drop 0).drop 1 by rw [List.drop_drop]]; exact (List.take_append_drop 1 _).symm
  have e0 : cs = cs.drop 0 := rfl
  exact ⟨⟨v0, v1⟩, ⟨_, _, E0, K0, K1⟩, ⟨o0, o1⟩⟩
def ok39 (x : ((List Int) × (List S130))) : Prop := ((x.1).length * 1 ≤ 140737488351232 ∧ ∀ u ∈ (x.1), (fun x : Int => (Lit.int .u8 x).wf = true) u) ∧ ((x.2).length * 32 ≤ 140737488351232 ∧ ∀ u ∈ (x.2), (fun x : S130 => ok130 x) u)
theorem op39 : Opens Try.prog 39 (Kd.pair (Kd.slice 5 (Kd.int .u8)) (Kd.slice 130 k130)) ok39 := by
  intro H enc w fuel cs x h hw
  obtain ⟨xs, n, _, hx, hl, hlen, hf⟩ := DataW.trod_struct Try.underlying39 h
  have hl2 : cs.length = 2 := hl.trans (by kernel_rfl)
  obtain ⟨y0, hy0⟩ : ∃ y, xs[0]? = some y := ⟨_, List.getElem?_eq_getElem (by rw [hlen]; decide)⟩
  have g0 : DataW.trod enc Try.prog w 0 (fun _ => true) true n 22 ((cs.drop 0).take (Try.prog.cellsOf 22)) = xs[0]? := hf 0 _ rfl
  rw [hy0, show Try.prog.cellsOf 22 = 1 from by kernel_rfl] at g0
  obtain ⟨v0, K0, o0⟩ := (Opens.slice 5 Try.underlying22 (Opens.int Try.underlying5) (by kernel_rfl) (by kernel_rfl)) H enc w n _ _ g0 (fun m hm => hw m (by rw [hx]; simp only [DataW.weights, Try.underlying39]; exact DataW.weights_mem_each (j := 0) rfl (by simp [hy0]) m hm))
  obtain ⟨y1, hy1⟩ : ∃ y, xs[1]? = some y := ⟨_, List.getElem?_eq_getElem (by rw [hlen]; decide)⟩
  have g1 : DataW.trod enc Try.prog w 0 (fun _ => true) true n 37 ((cs.drop 1).take (Try.prog.cellsOf 37)) = xs[1]? := hf 1 _ rfl
  rw [hy1, show Try.prog.cellsOf 37 = 1 from by kernel_rfl] at g1
  obtain ⟨v1, K1, o1⟩ := (Opens.slice 130 Try.underlying37 op130 (by kernel_rfl) (by kernel_rfl)) H enc w n _ _ g1 (fun m hm => hw m (by rw [hx]; simp only [DataW.weights, Try.underlying39]; exact DataW.weights_mem_each (j := 1) rfl (by simp [hy1]) m hm))
  have eL : (cs.drop 1).take 1 = cs.drop 1 := List.take_of_length_le (by rw [List.length_drop]; omega)
  rw [eL] at K1
  have E0 : cs.drop 0 = (cs.drop 0).take 1 ++ cs.drop 1 := by rw [show cs.drop 1 = (cs.drop 0).drop 1 by rw [List.drop_drop]]; exact (List.take_append_drop 1 _).symm
  have e0 : cs = cs.drop 0 := rfl
  exact ⟨⟨v0, v1⟩, ⟨_, _, E0, K0, K1⟩, ⟨o0, o1⟩⟩
end Go.Proofs.Ytinilabmffjnaaa.PFnExactCrash
