/- The functions that the law FnHulls reaches, each with what it computes and its contract. -/
import Derived.Test.YtgmnphckgicadaaQFnHullsx0
import Derived.Test.YtgmnphckgicadaaQFnHullsx10
import Derived.Test.YtgmnphckgicadaaShelf
namespace Go.Proofs.Ytgmnphckgicadaa.PFnHulls
open Go.RowKit Go.Proofs.YtgmnphckgicadaaW.PrintWords Go.Proofs.YtgmnphckgicadaaW.PrintLast Go.Proofs.YtgmnphckgicadaaW.PrintMore
attribute [local go_sem] max2_int min2_int max_two min_two max_three min_three max_four min_four
set_option linter.unusedVariables false
set_option linter.unusedSimpArgs false

def lt67 (x y : S67) : Bool := decide (x.f0 < y.f0 ∨ x.f0 = y.f0 ∧ x.f1 < y.f1)
def impl_Pt_77.f (k : Nat) (l0 : List (S67)) : Option ((List (S67))) := if 3 ≤ k ∧ l0.length ≤ 4398046511104 then some (l0.mergeSort fun x y => !(lt67 y x)) else none
def cf67 (x y : S67) : Int := if x.f0 < y.f0 then -1 else if x.f0 > y.f0 then 1 else if x.f1 < y.f1 then -1 else if x.f1 > y.f1 then 1 else 0
def enc67 (x : S67) : List Value := [.int .i64 x.f0, .int .i64 x.f1]
instance : Inhabited S67 := ⟨z67⟩
theorem lt67_eq (x y : S67) : Go.Proofs.ltOf cf67 x y = lt67 x y := by
 unfold Go.Proofs.ltOf cf67 lt67
 (repeat' split) <;> simp <;> omega
theorem cmpf (a b : Int) : cmp_Compare_int.f a b = some (if a < b then -1 else if a > b then 1 else 0) := by
 unfold cmp_Compare_int.f cmp_isNaN_int.f
 simp only [Option.bind_some, bne_self_eq_false, Bool.false_eq_true, if_false]
 (repeat' split) <;> rfl
theorem cmpOr (a b : Int) : cmp_Or_int.f 3 [a, b] = some (if a = 0 then b else a) := by
 have w1 : wrap64 (0 + 1) = 1 := by unfold wrap64; decide
 have w2 : wrap64 (1 + 1) = 2 := by unfold wrap64; decide
 have r0 : rd [a, b] 0 = a := rfl
 have r1 : rd [a, b] 1 = b := rfl
 have hl : (([a, b] : List Int).length : Int) = 2 := rfl
 unfold cmp_Or_int.f
 rw [hl]
 rw [cmp_Or_int.l0, if_pos (by decide), if_pos (by decide), hl, if_pos (by decide), r0, w1]
 by_cases ha : a = 0
 ·rw [if_pos ha, if_pos ha, cmp_Or_int.l0, if_pos (by decide), if_pos (by decide), hl, if_pos (by decide), r1, w2]
  by_cases hb : b = 0
  ·rw [if_pos hb, cmp_Or_int.l0, if_neg (by decide), hb]
  ·rw [if_neg hb]
 ·rw [if_neg ha, if_neg ha]
theorem cmpPts_f (x y : S67) : impl_comparePts.f 3 x.f0 x.f1 y.f0 y.f1 = some (cf67 x y) := by
 unfold impl_comparePts.f
 rw [cmpf, cmpf, Option.bind_some, Option.bind_some, cmpOr, Option.bind_some]
 unfold cf67
 congr 1
 by_cases h1 : x.f0 < y.f0
 ·simp [h1]
 ·by_cases h2 : x.f0 > y.f0
  ·simp [h1, h2]
  ·simp [h1, h2]
theorem grown_of {w w' : World} (h : Below w.heap.size w w') (hd : w.drawn ≤ w'.drawn) : ∃ q os', w' = Go.Sort.grow (w.drewN q) os' := by
 refine ⟨w'.drawn - w.drawn, w'.heap.extract w.heap.size w'.heap.size, ?_⟩
 obtain ⟨h1, h2, h3, h4, h5⟩ := h
 have hh : w'.heap = w.heap ++ w'.heap.extract w.heap.size w'.heap.size := by
  apply Array.ext_getElem?
  intro i
  rcases Nat.lt_or_ge i w.heap.size with hi | hi
  ·rw [Array.getElem?_append_left hi]; exact h5 i hi
  ·rw [Array.getElem?_append_right hi]
   simp only [Array.getElem?_extract]
   split
   ·congr 1; omega
   ·apply Array.getElem?_eq_none; omega
 cases w with | mk a1 a2 a3 a4 a5 =>
 cases w' with | mk b1 b2 b3 b4 b5 =>
 simp only [Go.Sort.grow, World.drewN] at *
 subst h1; subst h2; subst h3
 rw [← hh]
 congr 1
 omega
theorem cmp67 (blk off size : Nat) (w : World) : Go.Proofs.CmpLays Try.prog 78 #[] enc67 2 cf67 blk off size w := by
 intro m os dk _ x y
 refine (impl_comparePts.calls 3 x.f0 x.f1 y.f0 y.f1 (cf67 x y) _ (cmpPts_f x y)).mono ?_
 rintro e w' ⟨he, hb, hd⟩
 exact ⟨he, grown_of hb hd⟩
theorem swo67 : Go.Sort.SWO (Go.Proofs.ltOf cf67) where
 irrefl x := by rw [lt67_eq]; simp [lt67]
 trans x y z h1 h2 := by rw [lt67_eq] at *; simp only [lt67, decide_eq_true_eq] at *; omega
 ntrans x y z h1 h2 := by rw [lt67_eq] at *; simp only [lt67, decide_eq_false_iff_not] at *; omega
theorem tot67 (x y : S67) (h1 : Go.Proofs.ltOf cf67 x y = false) (h2 : Go.Proofs.ltOf cf67 y x = false) : x = y := by
 rw [lt67_eq] at *
 cases x with | mk a b => cases y with | mk c d =>
 simp only [lt67, decide_eq_false_iff_not] at *
 have e1 : a = c := by omega
 have e2 : b = d := by omega
 rw [e1, e2]
theorem fm_get : ∀ (xs : List S67) (t : Nat) (p : S67), xs[t / 2]? = some p → (xs.flatMap enc67)[t]? = (enc67 p)[t % 2]?
 | [], t, p, h => by simp at h
 | x :: xs, 0, p, h => by
  have : x = p := by simpa using h
  subst this; rfl
 | x :: xs, 1, p, h => by
  have : x = p := by simpa using h
  subst this; rfl
 | x :: xs, t + 2, p, h => by
  have e1 : (t + 2) / 2 = t / 2 + 1 := by omega
  have e2 : (t + 2) % 2 = t % 2 := by omega
  rw [e1, List.getElem?_cons_succ] at h
  rw [e2, List.flatMap_cons, show enc67 x = [.int .i64 x.f0, .int .i64 x.f1] from rfl]
  exact fm_get xs t p h
theorem fm_len (xs : List S67) : (xs.flatMap enc67).length = xs.length * 2 := by
 induction xs with
 | nil => rfl
 | cons x xs ih => rw [List.flatMap_cons, List.length_append, ih, List.length_cons]; simp only [enc67, List.length_cons, List.length_nil]; omega
theorem flat67 (xs : List S67) : (Go.Sort.flatK enc67 2 xs.toArray).toList = xs.flatMap enc67 := by
 apply List.ext_getElem?
 intro t
 rcases Nat.lt_or_ge t (xs.length * 2) with ht | ht
 ·have h2 : t / 2 < xs.length := by omega
  have hp : xs[t / 2]? = some (xs[t / 2]) := List.getElem?_eq_getElem h2
  rw [fm_get xs t _ hp]
  have hm : t % 2 = 0 ∨ t % 2 = 1 := by omega
  rcases hm with e | e <;> simp [Go.Sort.flatK, ht, h2, e, enc67]
 ·rw [List.getElem?_eq_none (by simp [Go.Sort.flatK]; omega), List.getElem?_eq_none (by rw [fm_len]; omega)]
theorem reps_fm {w : World} {base : Nat} {ok : Nat → Prop} (xs : List S67) : Reps (k67.M w base ok) k67.sz xs (xs.flatMap enc67) := by
 induction xs with
 | nil => exact Reps.none _ _
 | cons x xs ih => exact Reps.front (k67_mkM _ _ _ x) rfl ih rfl
theorem fm_reps {w : World} {base : Nat} {ok : Nat → Prop} {xs : List S67} {cs : List Value} (h : Reps (k67.M w base ok) k67.sz xs cs) : cs = xs.flatMap enc67 := by
 have e2 : k67.sz = 2 := rfl
 obtain ⟨h1, h2⟩ := h
 rw [e2] at h1 h2
 apply List.ext_getElem?
 intro t
 rcases Nat.lt_or_ge t (xs.length * 2) with ht | ht
 ·have hl : t / 2 < xs.length := by omega
  have hp : xs[t / 2]? = some (xs[t / 2]) := List.getElem?_eq_getElem hl
  rw [fm_get xs t _ hp]
  have hM := h2 _ _ hp
  obtain ⟨c1, hc1⟩ : ∃ c, c = (cs.drop (t / 2 * 2)).take 2 := ⟨_, rfl⟩
  rw [← hc1] at hM
  obtain rfl := k67_openM hM
  have e : cs[t]? = ((cs.drop (t / 2 * 2)).take 2)[t % 2]? := by
   rw [List.getElem?_take_of_lt (by omega), List.getElem?_drop]
   congr 1; omega
  rw [e, ← hc1]; rfl
 ·rw [List.getElem?_eq_none (by omega), List.getElem?_eq_none (by rw [fm_len]; omega)]
theorem heap67 {w : World} {g n : Nat} {os : Array Obj} {cur : Array Value} {e : TypeId} {fr : Nat × Nat} (d : Array Value) (hb : w.heap[g]? = some (.cells cur e fr)) :
  (Go.Sort.grow (Go.Sort.putRow id (Go.Sort.ahead w n) g 0 d) os).heap[g]? = some (.cells (Go.Sort.putCells id 0 d cur) e fr) := by
 have hg : g < w.heap.size := (Array.getElem?_eq_some_iff.1 hb).1
 rw [Go.Sort.heap_grow_old _ _ (by simpa using hg)]
 simp [Go.Sort.putRow, Go.Sort.mapBlock, Go.Sort.ahead, Array.getElem?_modify, hb, Go.Sort.onCells]
theorem grown67 {w : World} {g n : Nat} {os : Array Obj} (d : Array Value) : w.grownBy (Go.Sort.grow (Go.Sort.putRow id (Go.Sort.ahead w n) g 0 d) os) (some g) := by
 refine ⟨rfl, rfl, rfl, by simp, fun k hk hne => ?_⟩
 rw [Go.Sort.heap_grow_old _ _ (by simpa using hk)]
 have : g ≠ k := fun e => hne (by rw [e])
 simp [Go.Sort.putRow, Go.Sort.mapBlock, Go.Sort.ahead, Array.getElem?_modify, this]
theorem take67 (cur : Array Value) (d : List Value) (h : d.length ≤ cur.size) : (Go.Sort.putCells id 0 d.toArray cur).toList.take d.length = d := by
 apply List.ext_getElem?
 intro j
 by_cases hj : j < d.length
 ·rw [List.getElem?_take_of_lt hj, Array.getElem?_toList]
  simp [Go.Sort.putCells, hj, show j < cur.size by omega]
 ·rw [List.getElem?_take_eq_none (by omega), List.getElem?_eq_none (by omega)]
set_option maxHeartbeats 8000000 in
set_option maxRecDepth 100000 in
theorem impl_Pt_77.calls (k : Nat) (P0_ : Nat → Prop) (u9000_ : Value) (l0 : List (S67)) (r : List (S67)) (w0 w : World) (hB : Below w0.heap.size w0 w) (ho0 : Kd.R k67 67 w w0.heap.size P0_ u9000_ l0) (h : impl_Pt_77.f k l0 = some r) :
  Calls Try.prog 77 #[u9000_, .func (.func 78) #[] #[]] w fun e w' => e = .returned (.tuple #[]) ∧ Kd.R k67 67 w' w0.heap.size (fun k_ => (P0_ k_ ∨ w.heap.size ≤ k_)) u9000_ r ∧ Below w0.heap.size w0 w' ∧ Kept w w' (fun k_ => P0_ k_) := by
 unfold impl_Pt_77.f at h
 by_cases hk : 3 ≤ k ∧ l0.length ≤ 4398046511104
 ·rw [if_pos hk] at h
  obtain rfl := Option.some.inj h
  have hsz := hk.2
  have hR0 := ho0
  obtain ⟨hok, inner, hown, hr⟩ := ho0
  rcases hown.2 with ⟨hv, h0⟩ | ⟨g, cap, cur, hv, hb, hh, hcap, hcm, hcs, htake⟩
  ·subst hv
   have hl0 : l0 = [] := List.length_eq_zero_iff.1 h0
   subst hl0
   refine (Go.Proofs.AnyF.slices_SortFunc_none { Try.sortPt with } none 0 (.func (.func 78) #[] #[]) w).mono ?_
   rintro e w' ⟨he, rfl⟩
   refine ⟨he, ?_, hB, Kept.refl _ _⟩
   simp only [List.mergeSort_nil]
   exact Kd.R_nil _ _ _ _ _
  ·subst hv
   have hin := fm_reps hr
   have e2 : k67.sz = 2 := rfl
   rw [e2] at htake hcs
   have hg : g < w.heap.size := (Array.getElem?_eq_some_iff.1 hh).1
   have hH : Go.Sort.HoldsK enc67 2 w g 0 l0.toArray := by
    intro j hj
    have hj2 : j < l0.length * 2 := by simpa using hj
    refine ⟨?_, by simp [World.frozen?, hh]⟩
    have hc : w.cell? ⟨g, 0 + j, none⟩ = cur[j]? := by simp [World.cell?, hh]
    rw [hc, ← Array.getElem?_toList]
    have e1 : cur.toList[j]? = inner[j]? := by
     rw [← htake, List.getElem?_take_of_lt hj2]
    rw [e1, hin, ← flat67, Array.getElem?_toList, Array.getElem?_eq_getElem hj]
    simp only [id]
    rw [getElem!_pos]
   have hO := swo67
   have eg : ∀ args w, (callFunc 78 args).run Try.prog w = .ok (.enter 78 args) w := enters_of Try.func78 (by kernel_rfl) rfl
   have hcon := Go.Proofs.AnyQ.slices_SortFunc_total Try.sortPt 2 Try.isAgg67 Try.sizeOf67 enc67 (fun _ => rfl) (fun x v hv => by simp [enc67] at hv; rcases hv with rfl | rfl <;> rfl) cf67 hO 78 #[] g 0 cap l0.toArray w eg (cmp67 g 0 _ w) hH hg (by simp; omega) tot67
   change Calls Try.prog 77 _ _ _ at hcon
   have hsz1 : l0.toArray.size = l0.length := by simp
   rw [hsz1] at hcon
   refine hcon.mono ?_
   rintro e w' ⟨he, n, os, hw⟩
   have hfn : (fun x y => !(Go.Proofs.ltOf cf67) y x) = (fun x y => !(lt67 y x)) := by
    funext x y; rw [lt67_eq]
   rw [hfn] at hw
   obtain ⟨r, hr1⟩ : ∃ r, r = l0.mergeSort fun x y => !(lt67 y x) := ⟨_, rfl⟩
   rw [← hr1]
   have hlr : r.length = l0.length := by rw [hr1, List.length_mergeSort]
   have hw2 : w' = Go.Sort.grow (Go.Sort.putRow id (Go.Sort.ahead w n) g 0 (r.flatMap enc67).toArray) os := by
    rw [hw, hr1]
    show Go.Sort.grow (Go.Sort.putRow id (Go.Sort.ahead w n) g 0 (Go.Sort.flatK enc67 2 _)) os = _
    congr 2
    rw [← flat67]
   clear hw hcon
   have hgr : w.grownBy w' (some g) := by rw [hw2]; exact grown67 _
   refine ⟨he, ⟨fun k hk => .inl (hok k hk), r.flatMap enc67, ⟨?_, .inr ⟨g, cap, Go.Sort.putCells id 0 (r.flatMap enc67).toArray cur, ?_, hb, ?_, ?_, hcm, ?_, ?_⟩⟩, reps_fm r⟩, Below.grown hB hgr hB.size (fun k hk => by injection hk with hk; subst hk; exact hb), ?_⟩
   ·rw [fm_len, e2]
   ·rw [hlr]
   ·rw [hw2]; exact heap67 _ hh
   ·rw [hlr]; exact hcap
   ·simp [Go.Sort.putCells, hcs, e2]
   ·rw [e2, ← fm_len]
    exact take67 cur _ (by rw [fm_len, hcs]; omega)
   ·exact ⟨hgr.size, fun i hi hn => hgr.block i hi (fun e => hn (by injection e with e; subst e; exact hok _ rfl))⟩
 ·rw [if_neg hk] at h
  exact absurd h (by simp)

end Go.Proofs.Ytgmnphckgicadaa.PFnHulls
