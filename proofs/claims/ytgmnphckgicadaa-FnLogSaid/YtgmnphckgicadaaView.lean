/- Words of the print (those that this claim uses). -/
/- A piece of a row of bytes, cut out of the middle and handed on: where it lies, and a fact that carries the row along. -/
import Derived.Test.YtgmnphckgicadaaWMore
namespace Go.Proofs.Ytgmnphckgicadaa.View
open Go.RowKit Go.Proofs.YtgmnphckgicadaaW.PrintWords Go.Proofs.YtgmnphckgicadaaW.PrintLast
set_option linter.unusedVariables false

def cutAt (A : Option Addr) (c lo : Nat) : Option Addr := if c = lo then A else A.map (·.add lo)
theorem mid_run {P : Program} (t e : TypeId) {i : TypeInfo} (ht : P.underlying t = some (.slice e)) (hi : P.info? e = some i) (hsz : i.size = 1) (A : Option Addr) (c : Nat) (xs : List Int) (a b : Int) (h0 : 0 ≤ a) (h1 : a ≤ b) (hm : b ≤ xs.length) (hc : xs.length ≤ c) (W : World) :
    (Instr.slice t (.slice A xs.length c) (some (.int .i64 a)) (some (.int .i64 b)) none).run P W = .ok (.slice (cutAt A c a.toNat) ((xs.take b.toNat).drop a.toNat).length (c - a.toNat)) W := by
  have hlt : (xs.take b.toNat).length = b.toNat := by rw [List.length_take]; omega
  have hl : ((xs.take b.toNat).drop a.toNat).length = b.toNat - a.toNat := by rw [List.length_drop, hlt]
  have hel : P.elem t = e := by simp [Program.elem, ht]
  have hu : P.underlying t = some (.slice (P.elem t)) := by rw [hel]; exact ht
  rw [run_slice_lh W t A xs.length c hu .i64 .i64 a b h0 h1 (by omega), hel, hl]
  simp [sizeOf, typeInfo, hi, hsz, sliced, Result.andThen, cutAt]
theorem cutAt_own {A : Option Addr} {c lo n m c' k : Nat} (h : (Value.slice (cutAt A c lo) n c').ownBlock = some k) : (Value.slice A m c).ownBlock = some k := by
  unfold cutAt at h
  split at h
  · cases A <;> simp_all [Value.ownBlock]
  · cases A with
    | none => simp [Value.ownBlock] at h
    | some ad =>
      simp only [Option.map_some, Value.ownBlock, Option.some.injEq, Addr.add] at h ⊢
      split at h <;> exact h
theorem C_cut {w : World} {A : Option Addr} {c : Nat} {xs : List Int} (a b : Int) (h : Kd.C (Kd.int .u8) w A xs.length xs) (h1 : a.toNat ≤ b.toNat) (h2 : b.toNat ≤ xs.length) (hc : xs.length ≤ c) :
    Kd.C (Kd.int .u8) w (cutAt A c a.toNat) ((xs.take b.toNat).drop a.toNat).length ((xs.take b.toNat).drop a.toNat) := by
  have := Kd.C_mid (lo := a.toNat) (hi := b.toNat) h h1 h2 hc
  rw [show (Kd.int IntKind.u8).sz = 1 from rfl, Nat.mul_one] at this
  exact this
def SubOf (A : Option Addr) (c : Nat) (xs : List Int) (A' : Option Addr) (c' : Nat) (ys : List Int) : Prop :=
  (A' = none ∧ c' = 0 ∧ ys = []) ∨ ∃ a b : Int, a.toNat ≤ b.toNat ∧ b.toNat ≤ xs.length ∧ A' = cutAt A c a.toNat ∧ c' = c - a.toNat ∧ ys = (xs.take b.toNat).drop a.toNat
def W (w : World) (base : Nat) (ok : Nat → Prop) (v : Value) (xs : List Int) : Prop :=
  ∃ vb ys, Kd.R (Kd.int .u8) 5 w base ok vb ys ∧ (∀ k, v.ownBlock = some k → vb.ownBlock = some k) ∧ Kd.V (Kd.int .u8) 5 w 0 (fun k => some k = vb.ownBlock) v xs
section
variable {w w1 : World} {base base' : Nat} {ok ok' : Nat → Prop} {v : Value} {xs : List Int}
theorem W_of {A A' : Option Addr} {c c' : Nat} {ys : List Int} (h : Kd.R (Kd.int .u8) 5 w base ok (.slice A xs.length c) xs) (hs : SubOf A c xs A' c' ys) : W w base ok (.slice A' ys.length c') ys := by
  refine ⟨_, xs, h, ?_, ?_⟩
  · rcases hs with ⟨rfl, rfl, rfl⟩ | ⟨a, b, h1, h2, rfl, rfl, rfl⟩
    · intro k hk; simp [Value.ownBlock] at hk
    · intro k hk; exact cutAt_own hk
  · rcases hs with ⟨rfl, rfl, rfl⟩ | ⟨a, b, h1, h2, rfl, rfl, rfl⟩
    · exact Kd.V_nil _ _ _ _ _
    · have hr := Kd.R_reads' h
      have hF := Kd.R_F (Kd.R_tight rfl h)
      refine Kd.V_mk ?_ (Kd.F_imp hF (fun W' hC => C_cut a b hC h1 h2 hr.2.1))
      rw [List.length_drop, List.length_take]; have := hr.2.1; omega
theorem W_step (h : W w base ok v xs) (hm : ∀ k, ok k → k < w.heap.size → w1.heap[k]? = w.heap[k]?) : W w1 base ok v xs := by
  obtain ⟨vb, ys, hR, ho, hV⟩ := h
  exact ⟨vb, ys, Kd.R_step hR hm, ho, Kd.V_step hV (fun k hk hlt => hm k (hR.1 k hk.symm) hlt)⟩
theorem W_mono (h : W w base ok v xs) (hok : ∀ k, ok k → ok' k) : W w base ok' v xs := by
  obtain ⟨vb, ys, hR, ho, hV⟩ := h
  exact ⟨vb, ys, Kd.R_mono hR hok, ho, hV⟩
theorem W_below (h : W w base ok v xs) (hb : Below w.heap.size w w1) : W w1 base ok v xs := W_step h (fun k _ hk => hb.block k hk)
theorem W_far (h : W w base ok v xs) {p : Addr} (hok : ∀ k, ok k → k ≠ p.block) (u : Value) : W (w.setCell p u) base ok v xs := W_step h (fun k ho _ => Below.heap_setCell w p u k (hok k ho))
theorem W_types (h : W w base ok v xs) {g t : Nat} {cells : Array Value} (hb : w.heap[g]? = some (.cells cells t (0, 0))) (ht : ∀ q, q ∈ 5 :: (Kd.int .u8).E → q ≠ t) : W w base (fun k => ok k ∧ k ≠ g) v xs := by
  obtain ⟨vb, ys, hR, ho, hV⟩ := h
  exact ⟨vb, ys, Kd.R_types hR hb ht, ho, hV⟩
theorem W_reads' {A : Option Addr} {n c : Nat} (h : W w base ok (.slice A n c) xs) : n = xs.length ∧ n ≤ c ∧ Kd.C (Kd.int .u8) w A xs.length xs := by
  obtain ⟨vb, ys, hR, ho, hV⟩ := h
  exact Kd.V_reads' hV
theorem W_lt (h : W w base ok v xs) : ∀ k, v.ownBlock = some k → k < w.heap.size := by
  obtain ⟨vb, ys, hR, ho, hV⟩ := h
  exact fun k hk => Kd.R_lt hR k (ho k hk)
theorem W_elder' {u : Value} (h : W w base ok v xs) (hbase : ∀ k, u.ownBlock = some k → w.heap.size ≤ k) (hb : Below w.heap.size w w1) : W w1 base (fun k => ok k ∧ some k ≠ u.ownBlock) v xs := by
  obtain ⟨vb, ys, hR, ho, hV⟩ := h
  exact ⟨vb, ys, Kd.R_elder' hR hbase hb, ho, Kd.V_below hV hb⟩
theorem W_after {u v1 : Value} (h : W w base (fun k => ok k ∧ some k ≠ u.ownBlock) v xs) (hg : w.grownBy w1 u.ownBlock) (hat : v1.ownBlock = u.ownBlock ∨ ∃ b, v1.ownBlock = some b ∧ w.heap.size ≤ b) : W w1 base (fun k => ok k ∧ some k ≠ v1.ownBlock) v xs := by
  obtain ⟨vb, ys, hR, ho, hV⟩ := h
  exact ⟨vb, ys, Kd.R_after hR hg hat, ho, Kd.V_step hV (fun k hk hlt => hg.block k hlt (hR.1 k hk.symm).2)⟩
theorem W_over' {u : Value} {e' : Nat} (h : W w base ok v xs) (hty : ∀ k, u.ownBlock = some k → ∃ cells, w.heap[k]? = some (.cells cells e' (0, 0))) (ht : ∀ q, q ∈ 5 :: (Kd.int .u8).E → q ≠ e') (hg : w.grownBy w1 u.ownBlock) : W w1 base ok v xs := by
  obtain ⟨vb, ys, hR, ho, hV⟩ := h
  refine ⟨vb, ys, Kd.R_over' hR hty ht hg, ho, Kd.V_step hV (fun k hk hlt => hg.block k hlt (fun he => ?_))⟩
  obtain ⟨c1, h1⟩ := Kd.R_typed hR k hk.symm
  obtain ⟨c2, h2⟩ := hty k he.symm
  rw [h1] at h2
  simp only [Option.some.injEq, Obj.cells.injEq] at h2
  exact ht 5 List.mem_cons_self h2.2.1
theorem SubOf_ne {A A' : Option Addr} {c c' n m k : Nat} {xs ys : List Int} (hs : SubOf A c xs A' c' ys) (h : some k ≠ (Value.slice A n c).ownBlock) : some k ≠ (Value.slice A' m c').ownBlock := by
  intro he
  rcases hs with ⟨rfl, rfl, rfl⟩ | ⟨a, b, h1, h2, rfl, rfl, rfl⟩
  · simp [Value.ownBlock] at he
  · exact h (cutAt_own he.symm).symm
theorem S_sub {α : Type} {d : Kd α} {e n c c' : Nat} {A A' : Option Addr} {xs0 ys : List Int} {u : Value} {zs : List α} (h : Kd.S d e w base (fun k => ok k ∧ some k ≠ (Value.slice A n c).ownBlock) u zs) (hs : SubOf A c xs0 A' c' ys) :
    Kd.S d e w base (fun k => (ok k ∧ some k ≠ (Value.slice A n c).ownBlock) ∧ some k ≠ (Value.slice A' ys.length c').ownBlock) u zs := Kd.S_mono h (fun _ h_ => ⟨h_, SubOf_ne hs h_.2⟩)
theorem R_sub {α : Type} {d : Kd α} {e n c c' : Nat} {A A' : Option Addr} {xs0 ys : List Int} {u : Value} {zs : List α} (h : Kd.R d e w base (fun k => ok k ∧ some k ≠ (Value.slice A n c).ownBlock) u zs) (hs : SubOf A c xs0 A' c' ys) :
    Kd.R d e w base (fun k => (ok k ∧ some k ≠ (Value.slice A n c).ownBlock) ∧ some k ≠ (Value.slice A' ys.length c').ownBlock) u zs := Kd.R_mono h (fun _ h_ => ⟨h_, SubOf_ne hs h_.2⟩)
end
end Go.Proofs.Ytgmnphckgicadaa.View
