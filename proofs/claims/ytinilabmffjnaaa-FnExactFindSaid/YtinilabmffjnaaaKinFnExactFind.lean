/- The kinds of the arguments of the law FnExactFind: what reads as data there is such a value. No conditions. -/
import Derived.Test.YtinilabmffjnaaaQFnExactFindx18
import Derived.Test.YtinilabmffjnaaaOpen
namespace Go.Proofs.Ytinilabmffjnaaa.PFnExactFind
open Go.ChangeShapes Go.WideShapes Go.ChangeAt Go.RowKit Go.Proofs.YtinilabmffjnaaaW.PrintWords Go.Proofs.Ytinilabmffjnaaa.Open
def ok119 (x : S119) : Prop := (Lit.int .i64 x.f0).wf = true ∧ (Lit.int .i64 x.f1).wf = true
theorem op119 : Opens Try.prog 119 k119 ok119 := by
  intro H enc w fuel cs x h hw
  obtain ⟨xs, n, _, hx, hl, hlen, hf⟩ := DataW.trod_struct Try.underlying119 h
  have hl2 : cs.length = 2 := hl.trans (by kernel_rfl)
  obtain ⟨y0, hy0⟩ : ∃ y, xs[0]? = some y := ⟨_, List.getElem?_eq_getElem (by rw [hlen]; decide)⟩
  have g0 : DataW.trod enc Try.prog w 0 (fun _ => true) true n 3 ((cs.drop 0).take (Try.prog.cellsOf 3)) = xs[0]? := hf 0 _ rfl
  rw [hy0, show Try.prog.cellsOf 3 = 1 from by kernel_rfl] at g0
  obtain ⟨v0, K0, o0⟩ := (Opens.int Try.underlying3) H enc w n _ _ g0 (fun m hm => hw m (by rw [hx]; simp only [DataW.weights, Try.underlying119]; exact DataW.weights_mem_each (j := 0) rfl (by simp [hy0]) m hm))
  obtain ⟨y1, hy1⟩ : ∃ y, xs[1]? = some y := ⟨_, List.getElem?_eq_getElem (by rw [hlen]; decide)⟩
  have g1 : DataW.trod enc Try.prog w 0 (fun _ => true) true n 3 ((cs.drop 1).take (Try.prog.cellsOf 3)) = xs[1]? := hf 1 _ rfl
  rw [hy1, show Try.prog.cellsOf 3 = 1 from by kernel_rfl] at g1
  obtain ⟨v1, K1, o1⟩ := (Opens.int Try.underlying3) H enc w n _ _ g1 (fun m hm => hw m (by rw [hx]; simp only [DataW.weights, Try.underlying119]; exact DataW.weights_mem_each (j := 1) rfl (by simp [hy1]) m hm))
  have eL : (cs.drop 1).take 1 = cs.drop 1 := List.take_of_length_le (by rw [List.length_drop]; omega)
  rw [eL] at K1
  have E0 : cs.drop 0 = (cs.drop 0).take 1 ++ cs.drop 1 := by rw [show cs.drop 1 = (cs.drop 0).drop 1 by rw [List.drop_drop]]; exact (List.take_append_drop 1 _).symm
  have e0 : cs = cs.drop 0 := rfl
  exact ⟨⟨v0, v1⟩, ⟨_, _, E0, K0, K1⟩, ⟨o0, o1⟩⟩
def ok102 (x : S102) : Prop := (Lit.int .i64 x.f0).wf = true ∧ ((x.f1).length * 24 ≤ 140737488351232 ∧ ∀ u ∈ (x.f1), (fun x : (List S119) => (x.length * 16 ≤ 140737488351232 ∧ ∀ u ∈ x, (fun x : S119 => ok119 x) u)) u)
theorem op102 : Opens Try.prog 102 k102 ok102 := by
  intro H enc w fuel cs x h hw
  obtain ⟨xs, n, _, hx, hl, hlen, hf⟩ := DataW.trod_struct Try.underlying102 h
  have hl2 : cs.length = 2 := hl.trans (by kernel_rfl)
  obtain ⟨y0, hy0⟩ : ∃ y, xs[0]? = some y := ⟨_, List.getElem?_eq_getElem (by rw [hlen]; decide)⟩
  have g0 : DataW.trod enc Try.prog w 0 (fun _ => true) true n 3 ((cs.drop 0).take (Try.prog.cellsOf 3)) = xs[0]? := hf 0 _ rfl
  rw [hy0, show Try.prog.cellsOf 3 = 1 from by kernel_rfl] at g0
  obtain ⟨v0, K0, o0⟩ := (Opens.int Try.underlying3) H enc w n _ _ g0 (fun m hm => hw m (by rw [hx]; simp only [DataW.weights, Try.underlying102]; exact DataW.weights_mem_each (j := 0) rfl (by simp [hy0]) m hm))
  obtain ⟨y1, hy1⟩ : ∃ y, xs[1]? = some y := ⟨_, List.getElem?_eq_getElem (by rw [hlen]; decide)⟩
  have g1 : DataW.trod enc Try.prog w 0 (fun _ => true) true n 100 ((cs.drop 1).take (Try.prog.cellsOf 100)) = xs[1]? := hf 1 _ rfl
  rw [hy1, show Try.prog.cellsOf 100 = 1 from by kernel_rfl] at g1
  obtain ⟨v1, K1, o1⟩ := (Opens.slice 156 Try.underlying100 (Opens.slice 119 Try.underlying156 op119 (by kernel_rfl) (by kernel_rfl)) (by kernel_rfl) (by kernel_rfl)) H enc w n _ _ g1 (fun m hm => hw m (by rw [hx]; simp only [DataW.weights, Try.underlying102]; exact DataW.weights_mem_each (j := 1) rfl (by simp [hy1]) m hm))
  have eL : (cs.drop 1).take 1 = cs.drop 1 := List.take_of_length_le (by rw [List.length_drop]; omega)
  rw [eL] at K1
  have E0 : cs.drop 0 = (cs.drop 0).take 1 ++ cs.drop 1 := by rw [show cs.drop 1 = (cs.drop 0).drop 1 by rw [List.drop_drop]]; exact (List.take_append_drop 1 _).symm
  have e0 : cs = cs.drop 0 := rfl
  exact ⟨⟨v0, v1⟩, ⟨_, _, E0, K0, K1⟩, ⟨o0, o1⟩⟩
def ok104 (x : S104) : Prop := (Lit.int .i64 x.f0).wf = true ∧ ok102 x.f1
theorem op104 : Opens Try.prog 104 k104 ok104 := by
  intro H enc w fuel cs x h hw
  obtain ⟨xs, n, _, hx, hl, hlen, hf⟩ := DataW.trod_struct Try.underlying104 h
  have hl2 : cs.length = 3 := hl.trans (by kernel_rfl)
  obtain ⟨y0, hy0⟩ : ∃ y, xs[0]? = some y := ⟨_, List.getElem?_eq_getElem (by rw [hlen]; decide)⟩
  have g0 : DataW.trod enc Try.prog w 0 (fun _ => true) true n 3 ((cs.drop 0).take (Try.prog.cellsOf 3)) = xs[0]? := hf 0 _ rfl
  rw [hy0, show Try.prog.cellsOf 3 = 1 from by kernel_rfl] at g0
  obtain ⟨v0, K0, o0⟩ := (Opens.int Try.underlying3) H enc w n _ _ g0 (fun m hm => hw m (by rw [hx]; simp only [DataW.weights, Try.underlying104]; exact DataW.weights_mem_each (j := 0) rfl (by simp [hy0]) m hm))
  obtain ⟨y1, hy1⟩ : ∃ y, xs[1]? = some y := ⟨_, List.getElem?_eq_getElem (by rw [hlen]; decide)⟩
  have g1 : DataW.trod enc Try.prog w 0 (fun _ => true) true n 102 ((cs.drop 1).take (Try.prog.cellsOf 102)) = xs[1]? := hf 1 _ rfl
  rw [hy1, show Try.prog.cellsOf 102 = 2 from by kernel_rfl] at g1
  obtain ⟨v1, K1, o1⟩ := op102 H enc w n _ _ g1 (fun m hm => hw m (by rw [hx]; simp only [DataW.weights, Try.underlying104]; exact DataW.weights_mem_each (j := 1) rfl (by simp [hy1]) m hm))
  have eL : (cs.drop 1).take 2 = cs.drop 1 := List.take_of_length_le (by rw [List.length_drop]; omega)
  rw [eL] at K1
  have E0 : cs.drop 0 = (cs.drop 0).take 1 ++ cs.drop 1 := by rw [show cs.drop 1 = (cs.drop 0).drop 1 by rw [List.drop_drop]]; exact (List.take_append_drop 1 _).symm
  have e0 : cs = cs.drop 0 := rfl
  exact ⟨⟨v0, v1⟩, ⟨_, _, E0, K0, K1⟩, ⟨o0, o1⟩⟩
end Go.Proofs.Ytinilabmffjnaaa.PFnExactFind
