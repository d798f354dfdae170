/- Words of the print (those that this claim uses). -/
/- What reads as data at a type is a value of its kind: the opening of whole numbers, bools, slices, structs (pairs) for the printed kinds; sizes out of the datum's weights. Over any program. No conditions beyond those of each lemma. -/
import Derived.Test.YtgmnphckgicadaaWWords
import Derived.WalkKit
import Derived.ProofKit
import Derived.KernelRfl
import Derived.ChangeArms
import Derived.ChangeShapes
import Derived.DataReads
import Derived.OpenShut
import Derived.SizedLaws
namespace Go.Proofs.Ytgmnphckgicadaa.Open
open Go.ChangeShapes Go.WideShapes Go.ChangeAt Go.RowKit Go.Proofs.YtgmnphckgicadaaW.PrintWords
def Opens {α : Type} (P : Program) (t : TypeId) (d : Kd α) (ok : α → Prop) : Prop :=
  ∀ (H : Type) (enc : TypeId × Value → H) (w : World) (fuel : Nat) (cs : List Value) (x : DataW H × List MemPlace), DataW.trod enc P w 0 (fun _ => true) true fuel t cs = some x →
    (∀ n ∈ x.1.weights P t, n ≤ reachBytes) → ∃ v, d.K w v cs ∧ ok v
section
variable {P : Program}
theorem Opens.int {t : TypeId} {k : IntKind} (hu : P.underlying t = some (.int k)) : Opens P t (Kd.int k) (fun n => (Lit.int k n).wf = true) := by
  intro H enc w fuel cs x h _
  obtain ⟨n, rfl, _, hw⟩ := DataW.trod_int hu h
  exact ⟨n, rfl, hw⟩
theorem add_add (a : Addr) (m n : Nat) : (a.add m).add n = a.add (m + n) := by
  unfold Addr.add
  by_cases hm : m = 0 <;> by_cases hn : n = 0 <;> simp [hm, hn, Nat.add_assoc]
theorem pick {α : Type} {Q : Nat → α → Prop} : ∀ n, (∀ i, i < n → ∃ v, Q i v) → ∃ l : List α, l.length = n ∧ ∀ i v, l[i]? = some v → Q i v := by
  intro n
  induction n with
  | zero => intro _; exact ⟨[], rfl, fun i v h => by simp at h⟩
  | succ n ih =>
    intro h
    obtain ⟨l, hl, hq⟩ := ih (fun i hi => h i (by omega))
    obtain ⟨v, hv⟩ := h n (by omega)
    refine ⟨l ++ [v], by simp [hl], fun i u hu => ?_⟩
    by_cases hi : i < l.length
    · rw [List.getElem?_append_left hi] at hu; exact hq i u hu
    · rw [List.getElem?_append_right (by omega)] at hu
      have e : i - l.length = 0 := by
        by_cases h0 : i - l.length = 0
        · exact h0
        · rw [List.getElem?_eq_none (by simp; omega)] at hu; cases hu
      rw [e] at hu
      simp at hu
      obtain rfl := hu
      have : i = n := by omega
      subst this; exact hv
theorem weights_all {H : Type} {e : TypeId} : ∀ {l : List (DataW H)} {i : Nat} {d : DataW H}, l[i]? = some d → ∀ n ∈ d.weights P e, n ∈ DataW.weightsAll P e l
  | d0 :: l, 0, d, h, n, hn => by
    simp only [List.getElem?_cons_zero, Option.some.injEq] at h
    subst h
    simp only [DataW.weightsAll, List.mem_append]; exact Or.inl hn
  | d0 :: l, i + 1, d, h, n, hn => by
    simp only [List.getElem?_cons_succ] at h
    simp only [DataW.weightsAll, List.mem_append]; exact Or.inr (weights_all h n hn)
  | [], _, _, h, _, _ => by simp at h
theorem Opens.slice {α : Type} {t e : TypeId} {d : Kd α} {ok : α → Prop} (q : Nat) {B : Nat} (hu : P.underlying t = some (.slice e)) (he : Opens P e d ok) (hc : P.cellsOf e = d.sz) (hb : P.bytesOf e = B) :
    Opens P t (Kd.slice q d) (fun l => l.length * B ≤ 140737488351232 ∧ ∀ x ∈ l, ok x) := by
  intro H enc w fuel cs x h hw
  rcases DataW.trod_slice hu h with ⟨rfl, _⟩ | ⟨a, len, cap, elems, rest, n, _, rfl, hx, _, hlc, hcm, hel, hg, _⟩
  · refine ⟨[], ⟨none, 0, rfl, Nat.le_refl _, rfl, Nat.zero_le _, fun h => absurd h (by simp)⟩, by simp, fun x hx => by simp at hx⟩
  · have hwl : ∀ m, m ∈ ((elems.length + rest.length) * P.bytesOf e :: (DataW.weightsAll P e (elems.map (·.1)) ++ DataW.weightsAll P e (rest.map (·.1)))) → m ≤ reachBytes := by
      intro m hm
      apply hw m
      rw [hx]
      simp only [DataW.weights, hu, List.length_map]
      exact hm
    have each : ∀ i, i < len → ∃ v, (∃ c, w.cells? 0 (a.add (i * P.cellsOf e)) (P.cellsOf e) = some c ∧ d.K w v c) ∧ ok v := by
      intro i hi
      have hi' : i < elems.length := by omega
      have g := hg i hi
      rw [List.getElem?_eq_getElem hi'] at g
      obtain ⟨c, h1, h2⟩ := Option.bind_eq_some_iff.1 g
      obtain ⟨v, hv, ho⟩ := he H enc w n c _ h2 (fun m hm => hwl m (List.mem_cons_of_mem _ (List.mem_append_left _ (weights_all (i := i) (by simp [hi']) m hm))))
      exact ⟨v, ⟨c, h1, hv⟩, ho⟩
    obtain ⟨l, hl, hq⟩ := pick len each
    have hlen : len ≤ 9223372036854775807 := Nat.le_trans hlc hcm
    refine ⟨l, ⟨some a, cap, by rw [hl], by omega, rfl, by omega, fun _ => ⟨a, rfl, fun j p hj => ?_⟩⟩, ?_, fun x hx => ?_⟩
    · obtain ⟨⟨c, h1, h2⟩, _⟩ := hq j p hj
      refine ⟨c, d.K_len h2, h2, fun i u hi => ?_⟩
      obtain ⟨_, hcl, hcc⟩ := World.cells?_some h1
      have hlt : i < P.cellsOf e := by
        have := (List.getElem?_eq_some_iff.1 hi).1
        omega
      have := hcc i hlt
      rw [hi] at this
      rw [← hc, ← this, add_add]
    · have := hwl _ (List.mem_cons_self ..)
      rw [hb] at this
      have h2 : l.length * B ≤ (elems.length + rest.length) * B := Nat.mul_le_mul_right _ (by omega)
      exact Nat.le_trans h2 (Nat.le_trans this (by decide))
    · obtain ⟨i, hi, rfl⟩ := List.getElem_of_mem hx
      exact (hq i _ (List.getElem?_eq_getElem hi)).2
end
end Go.Proofs.Ytgmnphckgicadaa.Open
