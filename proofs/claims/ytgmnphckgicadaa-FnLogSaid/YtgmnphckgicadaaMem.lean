/- Words of the print (those that this claim uses). -/
/- What a call has in memory, as one list: rows that are only read, rows of its own, boxes; moved all at once. -/
import Derived.Test.YtgmnphckgicadaaWMore
import Derived.Test.YtgmnphckgicadaaWGuard
namespace Go.Proofs.Ytgmnphckgicadaa.Mem
open Go.RowKit Go.Proofs.YtgmnphckgicadaaW.PrintWords Go.Proofs.YtgmnphckgicadaaW.PrintLast
set_option linter.unusedVariables false

abbrev Ent := World → (Nat → Prop) → (Nat → Prop) → Prop
def Loc (E : Ent) : Prop := ∀ (W W' : World) (S D D' : Nat → Prop), E W S D → (∀ k, S k ∨ D k → k < W.heap.size → W'.heap[k]? = W.heap[k]?) → (∀ k, D k → D' k) → E W' S D'
def row {α : Type} (d : Kd α) (e : Nat) (v : Value) (xs : List α) : Ent := fun W _ D => Kd.V d e W 0 D v xs
def blk (g : Nat) (t : Nat) (cs : List Value) : Ent := fun W S _ => S g ∧ W.heap[g]? = some (.cells cs.toArray t (0, 0))
def own {α : Type} (d : Kd α) (e : Nat) (v : Value) (xs : List α) : Ent := fun W S _ => d.R e W 0 S v xs ∧ d.E = []
def ownN {α : Type} (d : Kd α) (e : Nat) (v : Value) (xs : List α) : Ent := fun W S D => Kd.N d e W 0 (fun k => S k ∨ D k) v xs ∧ ∀ k, v.ownBlock = some k → S k
def stt (g : Nat) (P : World → Prop) : Ent := fun W S _ => S g ∧ g < W.heap.size ∧ P W ∧ ∀ W' : World, W'.heap[g]? = W.heap[g]? → P W'
theorem Loc.row {α : Type} (d : Kd α) (e : Nat) (v : Value) (xs : List α) : Loc (row d e v xs) := fun W W' S D D' h hm hD => Kd.V_mono (Kd.V_step h (fun k hk hl => hm k (.inr hk) hl)) hD
theorem Loc.blk (g t : Nat) (cs : List Value) : Loc (blk g t cs) := fun W W' S D D' h hm _ => ⟨h.1, (hm g (.inl h.1) (blk_lt h.2)).trans h.2⟩
theorem Loc.ownN {α : Type} (d : Kd α) (e : Nat) (v : Value) (xs : List α) : Loc (ownN d e v xs) := fun W W' S D D' h hm hD => ⟨Kd.N_mono (Kd.N_step h.1 hm) (fun k hk => hk.imp id (hD k)), h.2⟩
theorem Loc.stt (g : Nat) (P : World → Prop) : Loc (stt g P) := fun W W' S D D' h hm _ => by
  have he := hm g (.inl h.1) h.2.1
  refine ⟨h.1, ?_, h.2.2.2 W' he, fun W2 h2 => h.2.2.2 W2 (h2.trans he)⟩
  rw [Array.getElem?_eq_getElem h.2.1] at he
  exact (Array.getElem?_eq_some_iff.1 he).1
def SepA (W : World) (D : Nat → Prop) : List Ent → (Nat → Prop) → Prop
  | [], _ => True
  | E :: Γ, A => Loc E ∧ ∃ S : Nat → Prop, (∀ k, S k → A k) ∧ E W S D ∧ SepA W D Γ (fun k => A k ∧ ¬ S k)
def Mem (w W : World) (Γ : List Ent) : Prop :=
  Below w.heap.size w W ∧ ∃ D : Nat → Prop, (∀ k, D k → w.heap.size ≤ k ∧ k < W.heap.size) ∧ SepA W D Γ (fun k => (w.heap.size ≤ k ∧ k < W.heap.size) ∧ ¬ D k)
section
variable {w W W1 : World} {Γ : List Ent} {D D' A A' : Nat → Prop}
theorem SepA.mono : ∀ {Γ : List Ent} {A A' : Nat → Prop}, SepA W D Γ A → (∀ k, A k → A' k) → SepA W D Γ A'
  | [], _, _, _, _ => trivial
  | E :: Γ, A, A', ⟨hE, S, hS, h, hΓ⟩, hA => ⟨hE, S, fun k hk => hA k (hS k hk), h, SepA.mono hΓ (fun k hk => ⟨hA k hk.1, hk.2⟩)⟩
theorem SepA.move : ∀ {Γ : List Ent} {A : Nat → Prop}, SepA W D Γ A → (∀ k, A k ∨ D k → k < W.heap.size → W1.heap[k]? = W.heap[k]?) → (∀ k, D k → D' k) → SepA W1 D' Γ A
  | [], _, _, _, _ => trivial
  | E :: Γ, A, ⟨hE, S, hS, h, hΓ⟩, hm, hD => ⟨hE, S, hS, hE _ _ _ _ _ h (fun k hk => hm k (hk.imp (hS k) id)) hD, SepA.move hΓ (fun k hk => hm k (hk.imp (·.1) id)) hD⟩
theorem SepA.get : ∀ {Γ : List Ent} {A : Nat → Prop} {p : Nat} {E : Ent}, SepA W D Γ A → Γ[p]? = some E → ∃ S : Nat → Prop, (∀ k, S k → A k) ∧ E W S D
  | [], _, _, _, _, h => by simp at h
  | E :: Γ, A, 0, E', ⟨hE, S, hS, h, hΓ⟩, e => by
    obtain rfl : E = E' := by simpa using e
    exact ⟨S, hS, h⟩
  | E :: Γ, A, p + 1, E', ⟨hE, S, hS, h, hΓ⟩, e => by
    obtain ⟨S', h1, h2⟩ := SepA.get hΓ (by simpa using e)
    exact ⟨S', fun k hk => (h1 k hk).1, h2⟩
theorem SepA.two : ∀ {Γ : List Ent} {A : Nat → Prop} {p q : Nat} {E F : Ent}, SepA W D Γ A → Γ[p]? = some E → Γ[q]? = some F → p ≠ q → ∃ S T : Nat → Prop, E W S D ∧ F W T D ∧ ∀ k, S k → ¬ T k
  | [], _, _, _, _, _, _, h, _, _ => by simp at h
  | E :: Γ, A, 0, 0, _, _, _, _, _, h => absurd rfl h
  | E :: Γ, A, 0, q + 1, E', F, ⟨hE, S, hS, h, hΓ⟩, e, f, _ => by
    obtain rfl : E = E' := by simpa using e
    obtain ⟨T, h1, h2⟩ := SepA.get hΓ (by simpa using f)
    exact ⟨S, T, h, h2, fun k hs ht => (h1 k ht).2 hs⟩
  | E :: Γ, A, p + 1, 0, F, E', ⟨hE, S, hS, h, hΓ⟩, f, e, _ => by
    obtain rfl : E = E' := by simpa using e
    obtain ⟨T, h1, h2⟩ := SepA.get hΓ (by simpa using f)
    exact ⟨T, S, h2, h, fun k ht hs => (h1 k ht).2 hs⟩
  | E :: Γ, A, p + 1, q + 1, E', F, ⟨hE, S, hS, h, hΓ⟩, e, f, hne => SepA.two hΓ (by simpa using e) (by simpa using f) (fun x => hne (by omega))
theorem SepA.take : ∀ {Γ : List Ent} {A : Nat → Prop} {p : Nat} {E : Ent}, SepA W D Γ A → Γ[p]? = some E → ∃ S : Nat → Prop, (∀ k, S k → A k) ∧ E W S D ∧ SepA W D (Γ.eraseIdx p) (fun k => A k ∧ ¬ S k)
  | [], _, _, _, _, h => by simp at h
  | E :: Γ, A, 0, E', ⟨hE, S, hS, h, hΓ⟩, e => by
    obtain rfl : E = E' := by simpa using e
    exact ⟨S, hS, h, hΓ⟩
  | E :: Γ, A, p + 1, E', ⟨hE, S, hS, h, hΓ⟩, e => by
    obtain ⟨S', h1, h2, h3⟩ := SepA.take hΓ (by simpa using e)
    exact ⟨S', fun k hk => (h1 k hk).1, h2, hE, S, fun k hk => ⟨hS k hk, fun h' => (h1 k h').2 hk⟩, h, SepA.mono h3 (fun k hk => ⟨⟨hk.1.1, hk.2⟩, hk.1.2⟩)⟩
theorem SepA.put {E' : Ent} (hE' : Loc E') : ∀ {Γ : List Ent} {A S : Nat → Prop} {p : Nat}, p < Γ.length → (∀ k, S k → A k) → E' W S D → SepA W D (Γ.eraseIdx p) (fun k => A k ∧ ¬ S k) → SepA W D (Γ.set p E') A
  | [], _, _, _, h, _, _, _ => by simp at h
  | E :: Γ, A, S, 0, _, hS, h, hΓ => ⟨hE', S, hS, h, hΓ⟩
  | E :: Γ, A, S, p + 1, hp, hS, h, ⟨hE, S0, hS0, h0, hΓ⟩ =>
    ⟨hE, S0, fun k hk => (hS0 k hk).1, h0, SepA.put hE' (by simpa using hp) (fun k hk => ⟨hS k hk, fun h' => (hS0 k h').2 hk⟩) h (SepA.mono hΓ (fun k hk => ⟨⟨hk.1.1, hk.2⟩, hk.1.2⟩))⟩
theorem SepA.drop : ∀ {Γ : List Ent} {A : Nat → Prop} (p : Nat), SepA W D Γ A → SepA W D (Γ.eraseIdx p) A
  | [], _, _, _ => trivial
  | E :: Γ, A, 0, ⟨hE, S, hS, h, hΓ⟩ => SepA.mono hΓ (fun k hk => hk.1)
  | E :: Γ, A, p + 1, ⟨hE, S, hS, h, hΓ⟩ => ⟨hE, S, hS, h, SepA.drop p hΓ⟩
theorem set_erase {α : Type _} (E : α) : ∀ (Γ : List α) (p : Nat), p < Γ.length → (Γ.set p E)[p]? = some E
  | [], _, h => by simp at h
  | _ :: _, 0, _ => rfl
  | _ :: Γ, p + 1, h => set_erase E Γ p (by simpa using h)
theorem at_lt {α : Type _} {E : α} {Γ : List α} {p : Nat} (h : Γ[p]? = some E) : p < Γ.length := (List.getElem?_eq_some_iff.1 h).1
theorem Mem.start (w : World) : Mem w w [] := ⟨Below.refl _ _, fun _ => False, fun _ h => h.elim, trivial⟩
theorem Mem.below (M : Mem w W Γ) : Below w.heap.size w W := M.1
theorem Mem.drewN (M : Mem w W Γ) (m : Nat) : Mem w (W.drewN m) Γ := ⟨pw_below_drewN M.1 m, M.2.imp fun D h => ⟨h.1, SepA.move (W := W) (W1 := W.drewN m) h.2 (fun _ _ _ => rfl) (fun _ => id)⟩⟩
theorem Mem.drew (M : Mem w W Γ) : Mem w W.drew Γ := ⟨below_drew1 M.1, M.2.imp fun D h => ⟨h.1, SepA.move (W := W) (W1 := W.drew) h.2 (fun _ _ _ => rfl) (fun _ => id)⟩⟩
theorem Mem.call (M : Mem w W Γ) (hb : Below W.heap.size W W1) : Mem w W1 Γ := by
  obtain ⟨h0, D, hD, h⟩ := M
  refine ⟨below_step h0 hb, D, fun k hk => ⟨(hD k hk).1, Nat.lt_of_lt_of_le (hD k hk).2 hb.size⟩, SepA.mono (SepA.move h (fun k _ hl => hb.block k hl) (fun _ => id)) (fun k hk => ⟨⟨hk.1.1, Nat.lt_of_lt_of_le hk.1.2 hb.size⟩, hk.2⟩)⟩
theorem SepA.reads : ∀ {L Γ : List Ent} {A : Nat → Prop}, SepA W D Γ A → (∀ E, E ∈ L → Loc E ∧ E W (fun _ => False) D) → SepA W D (L ++ Γ) A
  | [], _, _, h, _ => h
  | E :: L, _, _, h, hL => ⟨(hL E (by simp)).1, fun _ => False, fun _ hk => hk.elim, (hL E (by simp)).2, SepA.mono (SepA.reads h (fun F hF => hL F (by simp [hF]))) (fun k hk => ⟨hk, id⟩)⟩
theorem Mem.rows (L : List Ent) (M : Mem w W Γ) (hb : Below W.heap.size W W1) (hL : ∀ E, E ∈ L → Loc E ∧ ∀ D : Nat → Prop, (∀ k, W.heap.size ≤ k → k < W1.heap.size → D k) → E W1 (fun _ => False) D) : Mem w W1 (L ++ Γ) := by
  obtain ⟨h0, D, hD, hs⟩ := M
  have hsz := below_size h0
  refine ⟨below_step h0 hb, fun k => D k ∨ (W.heap.size ≤ k ∧ k < W1.heap.size), fun k hk => ?_, SepA.reads (SepA.mono (SepA.move (W := W) hs (fun k _ hl => hb.block k hl) (fun _ => .inl)) (fun k hk => ⟨⟨hk.1.1, Nat.lt_of_lt_of_le hk.1.2 hb.size⟩, fun hd => hd.elim hk.2 (fun x => Nat.not_lt_of_le x.1 hk.1.2)⟩)) (fun E hE => ⟨(hL E hE).1, (hL E hE).2 _ (fun k h1 h2 => .inr ⟨h1, h2⟩)⟩)⟩
  rcases hk with hk | hk
  · exact ⟨(hD k hk).1, Nat.lt_of_lt_of_le (hD k hk).2 hb.size⟩
  · exact ⟨Nat.le_trans hsz hk.1, hk.2⟩
theorem Mem.mine {E : Ent} {S : Nat → Prop} (M : Mem w W Γ) (hb : Below W.heap.size W W1) (hE : Loc E) (h : ∀ D : Nat → Prop, E W1 S D) (hS : ∀ k, S k → W.heap.size ≤ k ∧ k < W1.heap.size) : Mem w W1 (E :: Γ) := by
  obtain ⟨h0, D, hD, hs⟩ := M
  have hsz := below_size h0
  refine ⟨below_step h0 hb, D, fun k hk => ⟨(hD k hk).1, Nat.lt_of_lt_of_le (hD k hk).2 hb.size⟩, hE, S, fun k hk => ⟨⟨Nat.le_trans hsz (hS k hk).1, (hS k hk).2⟩, fun hd => Nat.not_lt_of_le (hS k hk).1 (hD k hd).2⟩, h D, SepA.mono (SepA.move hs (fun k _ hl => hb.block k hl) (fun _ => id)) (fun k hk => ⟨⟨⟨hk.1.1, Nat.lt_of_lt_of_le hk.1.2 hb.size⟩, hk.2⟩, fun hs' => Nat.not_lt_of_le (hS k hs').1 hk.1.2⟩)⟩
section
variable {α β : Type} {d : Kd α} {e e' base base' g t : Nat} {d' : Kd β} {ok ok' : Nat → Prop} {v v' u : Value} {xs : List α} {ys : List β}
theorem V_fresh (h : Kd.V d e W1 base ok v xs) (hok : ∀ k, ok k → W.heap.size ≤ k) (D : Nat → Prop) (hD : ∀ k, W.heap.size ≤ k → k < W1.heap.size → D k) : Kd.V d e W1 0 D v xs := Kd.V_mono (Kd.V_bound h) (fun k hk => hD k (hok k hk.1) hk.2)
theorem Mem.V (M : Mem w W Γ) (hb : Below W.heap.size W W1) (h : Kd.V d e W1 base (fun k => W.heap.size ≤ k) v xs) : Mem w W1 (row d e v xs :: Γ) :=
  M.rows [row d e v xs] hb (fun E hE => by obtain rfl := List.mem_singleton.1 hE; exact ⟨Loc.row _ _ _ _, fun D hD => V_fresh h (fun _ => id) D hD⟩)
theorem Mem.V2 (M : Mem w W Γ) (hb : Below W.heap.size W W1) (h : Kd.V d e W1 base (fun k => W.heap.size ≤ k) v xs) (h' : Kd.V d' e' W1 base' (fun k => W.heap.size ≤ k) v' ys) : Mem w W1 (row d e v xs :: row d' e' v' ys :: Γ) :=
  M.rows [row d e v xs, row d' e' v' ys] hb (fun E hE => by
    rcases List.mem_cons.1 hE with rfl | hE
    · exact ⟨Loc.row _ _ _ _, fun D hD => V_fresh h (fun _ => id) D hD⟩
    · obtain rfl := List.mem_singleton.1 hE
      exact ⟨Loc.row _ _ _ _, fun D hD => V_fresh h' (fun _ => id) D hD⟩)
theorem Mem.R (M : Mem w W Γ) (hb : Below W.heap.size W W1) (h : d.R e W1 W.heap.size ok v xs) : Mem w W1 (row d e v xs :: Γ) := M.V hb (Kd.R_V (base' := 0) (Kd.R_mono (Kd.R_bound h) (fun _ hk => hk.2.1)))
theorem Mem.S (M : Mem w W Γ) (hb : Below W.heap.size W W1) (h : Kd.S d e W1 W.heap.size ok v xs) : Mem w W1 (row d e v xs :: Γ) := M.R hb (Kd.S_R h)
theorem Mem.box {cs : List Value} (M : Mem w W Γ) (hb : Below W.heap.size W W1) (hg : g = W.heap.size) (h : W1.heap[g]? = some (.cells cs.toArray t (0, 0))) : Mem w W1 (blk g t cs :: Γ) :=
  M.mine (S := fun k => k = g) hb (Loc.blk _ _ _) (fun D => ⟨rfl, h⟩) (fun k hk => by subst hk; exact ⟨Nat.le_of_eq hg.symm, blk_lt h⟩)
theorem Mem.drop (M : Mem w W Γ) (p : Nat) : Mem w W (Γ.eraseIdx p) := ⟨M.1, M.2.imp fun D h => ⟨h.1, SepA.drop p h.2⟩⟩
theorem Mem.at_row (M : Mem w W Γ) (p : Nat) (e0 : Γ[p]? = some (row d e v xs)) : Kd.V d e W 0 (fun k => w.heap.size ≤ k) v xs := by
  obtain ⟨_, D, hD, h⟩ := M
  obtain ⟨S, _, h1⟩ := SepA.get h e0
  exact Kd.V_mono h1 (fun k hk => (hD k hk).1)
theorem Mem.row_form (M : Mem w W Γ) (p : Nat) (e0 : Γ[p]? = some (row d e v xs)) : ∃ A c, v = .slice A xs.length c := Kd.V_slice (M.at_row p e0)
theorem Mem.C {A : Option Addr} {n c : Nat} (M : Mem w W Γ) (p : Nat) (e0 : Γ[p]? = some (row d e (.slice A n c) xs)) : Kd.C d W A xs.length xs := (Kd.V_reads' (M.at_row p e0)).2.2
theorem Mem.cap {A : Option Addr} {n c : Nat} (M : Mem w W Γ) (p : Nat) (e0 : Γ[p]? = some (row d e (.slice A n c) xs)) : n ≤ c := (Kd.V_reads' (M.at_row p e0)).2.1
theorem Mem.at_blk {cs : List Value} (M : Mem w W Γ) (p : Nat) (e0 : Γ[p]? = some (blk g t cs)) : W.heap[g]? = some (.cells cs.toArray t (0, 0)) := by
  obtain ⟨_, D, hD, h⟩ := M
  obtain ⟨S, _, h1⟩ := SepA.get h e0
  exact h1.2
theorem Mem.ge {cs : List Value} (M : Mem w W Γ) (p : Nat) (e0 : Γ[p]? = some (blk g t cs)) : w.heap.size ≤ g := by
  obtain ⟨_, D, hD, h⟩ := M
  obtain ⟨S, h2, h1⟩ := SepA.get h e0
  exact (h2 g h1.1).1.1
theorem Mem.cell {cs : List Value} (M : Mem w W Γ) (p i : Nat) (e0 : Γ[p]? = some (blk g t cs)) (e1 : cs[i]? = some u) : W.cell? ⟨g, i, none⟩ = some u := (blk_cell (M.at_blk p e0) i).trans (by simpa using e1)
theorem Mem.frozen {cs : List Value} (M : Mem w W Γ) (p i : Nat) (e0 : Γ[p]? = some (blk g t cs)) : W.frozen? ⟨g, i, none⟩ = false := blk_frozen (M.at_blk p e0) i
theorem Mem.look {cs : List Value} (M : Mem w W Γ) (p : Nat) (e0 : Γ[p]? = some (blk g t cs) := by exact rfl) : (∀ i, W.cell? ⟨g, i, none⟩ = cs[i]?) ∧ ∀ i, W.frozen? ⟨g, i, none⟩ = false :=
  ⟨fun i => (blk_cell (M.at_blk p e0) i).trans (by simp), fun i => blk_frozen (M.at_blk p e0) i⟩
theorem Mem.ne {g' t' : Nat} {cs cs' : List Value} (M : Mem w W Γ) (p q : Nat) (e0 : Γ[p]? = some (blk g t cs)) (e1 : Γ[q]? = some (blk g' t' cs')) (hpq : p ≠ q) : g ≠ g' := by
  obtain ⟨_, D, hD, h⟩ := M
  obtain ⟨S, T, h1, h2, h3⟩ := SepA.two h e0 e1 hpq
  intro he
  exact h3 g h1.1 (he ▸ h2.1)
theorem Mem.set {cs : List Value} (M : Mem w W Γ) (p i : Nat) (u : Value) (e0 : Γ[p]? = some (blk g t cs)) : Mem w (W.setCell ⟨g, i, none⟩ u) (Γ.set p (blk g t (cs.set i u))) := by
  have hge := M.ge p e0
  obtain ⟨h0, D, hD, h⟩ := M
  obtain ⟨S, hS, hE, hr⟩ := SepA.take h e0
  have hsz : (W.setCell ⟨g, i, none⟩ u).heap.size = W.heap.size := by simp [World.setCell]
  refine ⟨below_set h0 hge, D, fun k hk => by rw [hsz]; exact hD k hk, SepA.mono (SepA.put (Loc.blk _ _ _) (at_lt e0) hS ⟨hE.1, by have := blk_set hE.2 i u; simpa using this⟩ (SepA.move hr (fun k hk hl => Below.heap_setCell W ⟨g, i, none⟩ u k (fun he => ?_)) (fun _ => id))) (fun k hk => by rw [hsz]; exact hk)⟩
  have he : k = g := he
  subst he
  rcases hk with hk | hk
  · exact hk.2 hE.1
  · exact (hS k hE.1).2 hk
theorem frR (h : d.R e W1 W.heap.size ok v xs) : Kd.V d e W1 0 (fun k => W.heap.size ≤ k) v xs := Kd.R_V (base' := 0) (Kd.R_mono (Kd.R_bound h) (fun _ hk => hk.2.1))
theorem frS (h : Kd.S d e W1 W.heap.size ok v xs) : Kd.V d e W1 0 (fun k => W.heap.size ≤ k) v xs := frR (Kd.S_R h)
theorem Mem.rowMine {E F : Ent} {S T : Nat → Prop} (M : Mem w W Γ) (hb : Below W.heap.size W W1) (hE : Loc E) (hF : Loc F) (h1 : ∀ D : Nat → Prop, (∀ k, T k → D k) → E W1 (fun _ => False) D) (h2 : ∀ D : Nat → Prop, F W1 S D)
    (hT : ∀ k, T k → W.heap.size ≤ k ∧ k < W1.heap.size) (hS : ∀ k, S k → (W.heap.size ≤ k ∧ k < W1.heap.size) ∧ ¬ T k) : Mem w W1 (E :: F :: Γ) := by
  obtain ⟨h0, D, hD, hs⟩ := M
  have hsz := below_size h0
  refine ⟨below_step h0 hb, fun k => D k ∨ T k, fun k hk => ?_, hE, fun _ => False, fun _ hk => hk.elim, h1 _ (fun k => .inr), hF, S, fun k hk => ?_, h2 _, SepA.mono (SepA.move (W := W) hs (fun k _ hl => hb.block k hl) (fun _ => .inl)) (fun k hk => ?_)⟩
  · rcases hk with hk | hk
    · exact ⟨(hD k hk).1, Nat.lt_of_lt_of_le (hD k hk).2 hb.size⟩
    · exact ⟨Nat.le_trans hsz (hT k hk).1, (hT k hk).2⟩
  · have := hS k hk
    exact ⟨⟨⟨Nat.le_trans hsz this.1.1, this.1.2⟩, fun hd => hd.elim (fun x => Nat.not_lt_of_le this.1.1 (hD k x).2) this.2⟩, id⟩
  · exact ⟨⟨⟨⟨hk.1.1, Nat.lt_of_lt_of_le hk.1.2 hb.size⟩, fun hd => hd.elim hk.2 (fun x => Nat.not_lt_of_le (hT k x).1 hk.1.2)⟩, id⟩, fun hs' => Nat.not_lt_of_le (hS k hs').1.1 hk.1.2⟩
theorem Mem.RS (M : Mem w W Γ) (hb : Below W.heap.size W W1) (hE : d.E = []) (h0 : d.R e W1 W.heap.size ok v xs) (h1 : Kd.S d' e' W1 W.heap.size (fun k => some k ≠ v.ownBlock) v' ys) : Mem w W1 (row d e v xs :: ownN d' e' v' ys :: Γ) := by
  have h1' : Kd.N d' e' W1 0 (fun k => (W.heap.size ≤ k ∧ k < W1.heap.size) ∧ some k ≠ v.ownBlock) v' ys := Kd.N_lower (Kd.S_N (Kd.S_mono (Kd.S_bound h1) (fun k hk => ⟨⟨hk.2.1, hk.2.2.1⟩, hk.1⟩))) (Nat.zero_le _)
  exact M.rowMine (T := fun k => some k = v.ownBlock) (S := fun k => (W.heap.size ≤ k ∧ k < W1.heap.size) ∧ some k ≠ v.ownBlock) hb (Loc.row _ _ _ _) (Loc.ownN _ _ _ _) (fun D hD => Kd.R_V (Kd.R_mono (Kd.R_tight hE h0) hD)) (fun D => ⟨Kd.N_mono h1' (fun _ => .inl), h1'.1⟩)
    (fun k hk => ⟨Kd.R_base h0 k hk.symm, Kd.R_lt h0 k hk.symm⟩) (fun k hk => hk)
theorem Mem.CN {A : Option Addr} {n c : Nat} (M : Mem w W Γ) (p : Nat) (e0 : Γ[p]? = some (ownN d e (.slice A n c) xs)) : Kd.C d W A xs.length xs := by
  obtain ⟨_, D, hD, h⟩ := M
  obtain ⟨S, _, h1⟩ := SepA.get h e0
  exact (Kd.N_reads' h1.1).2.2
theorem Mem.capN {A : Option Addr} {n c : Nat} (M : Mem w W Γ) (p : Nat) (e0 : Γ[p]? = some (ownN d e (.slice A n c) xs)) : n ≤ c := by
  obtain ⟨_, D, hD, h⟩ := M
  obtain ⟨S, _, h1⟩ := SepA.get h e0
  exact (Kd.N_reads' h1.1).2.1
theorem Mem.formN (M : Mem w W Γ) (p : Nat) (e0 : Γ[p]? = some (ownN d e v xs)) : ∃ A c, v = .slice A xs.length c := by
  obtain ⟨_, D, hD, h⟩ := M
  obtain ⟨S, _, h1⟩ := SepA.get h e0
  exact Kd.N_slice h1.1
theorem Mem.at_N (M : Mem w W Γ) (p : Nat) (e0 : Γ[p]? = some (ownN d e v xs)) : Kd.V d e W 0 (fun k => w.heap.size ≤ k) v xs := by
  obtain ⟨_, D, hD, h⟩ := M
  obtain ⟨S, hS, h1⟩ := SepA.get h e0
  exact Kd.V_mono (Kd.N_V (base' := 0) h1.1) (fun k hk => hk.elim (fun x => (hS k x).1.1) (fun x => (hD k x).1))
theorem Mem.app (M : Mem w W Γ) (p : Nat) (e0 : Γ[p]? = some (ownN d e v xs)) :
    ∃ (ok okp A : Nat → Prop), Kd.N d e W 0 ok v xs ∧ SepA W okp Γ A ∧ (∀ k, okp k → ok k ∧ some k ≠ v.ownBlock) ∧ (∀ k, W.heap.size ≤ k → ok k) ∧ Below 0 w W ∧
      ∀ (v1 : Value) (w1 : World) (zs : List α), Kd.N d e w1 0 ok v1 zs → Below 0 w w1 → W.grownBy w1 v.ownBlock → (v1.ownBlock = v.ownBlock ∨ ∃ b, v1.ownBlock = some b ∧ W.heap.size ≤ b) → Mem w w1 (Γ.set p (ownN d e v1 zs)) := by
  obtain ⟨h0, D, hD, h⟩ := M
  obtain ⟨S, hS, hN, hr⟩ := SepA.take h e0
  have hsz := below_size h0
  refine ⟨fun k => S k ∨ D k ∨ W.heap.size ≤ k, D, _, Kd.N_mono hN.1 (fun k hk => hk.imp id .inl), h, fun k hk => ⟨.inr (.inl hk), fun he => (hS k (hN.2 k he.symm)).2 hk⟩, fun k hk => .inr (.inr hk), ⟨h0.os, h0.tape, h0.output, h0.size, fun k hk => absurd hk (Nat.not_lt_zero k)⟩, ?_⟩
  intro v1 w1 zs hN1 _ hg hat
  have hlt := Kd.N_lt hN1
  have hbw : Below w.heap.size w w1 := Below.grown h0 hg hsz (fun k hk => (hS k (hN.2 k hk)).1.1)
  refine ⟨hbw, D, fun k hk => ⟨(hD k hk).1, Nat.lt_of_lt_of_le (hD k hk).2 hg.size⟩, ?_⟩
  have hnS : ∀ k, v1.ownBlock = some k → S k ∨ (W.heap.size ≤ k ∧ k < w1.heap.size) := fun k hk => by
    rcases hat with hat | ⟨b, hb, hle⟩
    · exact .inl (hN.2 k (hat ▸ hk))
    · obtain rfl : b = k := by rw [hb] at hk; exact Option.some.inj hk
      exact .inr ⟨hle, hlt _ hk⟩
  refine SepA.put (S := fun k => S k ∨ (W.heap.size ≤ k ∧ k < w1.heap.size)) (Loc.ownN _ _ _ _) (at_lt e0) (fun k hk => ?_) ⟨Kd.N_mono (Kd.N_bound hN1) (fun k hk => ?_), hnS⟩ (SepA.mono (SepA.move hr (fun k hk hl => hg.block k hl (fun he => ?_)) (fun _ => id)) (fun k hk => ?_))
  · rcases hk with hk | hk
    · have := hS k hk
      exact ⟨⟨this.1.1, Nat.lt_of_lt_of_le this.1.2 hg.size⟩, this.2⟩
    · exact ⟨⟨Nat.le_trans hsz hk.1, hk.2⟩, fun hd => Nat.not_lt_of_le hk.1 (hD k hd).2⟩
  · rcases hk.1 with x | x | x
    · exact .inl (.inl x)
    · exact .inr x
    · exact .inl (.inr ⟨x, hk.2⟩)
  · rcases hk with hk | hk
    · exact hk.2 (hN.2 k he.symm)
    · exact (hS k (hN.2 k he.symm)).2 hk
  · exact ⟨⟨⟨hk.1.1.1, Nat.lt_of_lt_of_le hk.1.1.2 hg.size⟩, hk.1.2⟩, fun hs => hs.elim hk.2 (fun x => Nat.not_lt_of_le x.1 hk.1.1.2)⟩
theorem SepA.pick : ∀ (ps : List Nat) {Γ : List Ent} {A : Nat → Prop}, SepA W D Γ A → ∃ F : Nat → (Nat → Prop), (∀ p E, Γ[p]? = some E → Loc E ∧ E W (F p) D ∧ ∀ k, F p k → A k) ∧ ∀ p q E E', Γ[p]? = some E → Γ[q]? = some E' → p ≠ q → ∀ k, F p k → ¬ F q k := by
  intro _ Γ
  induction Γ with
  | nil => intro A _; exact ⟨fun _ _ => False, fun p E h => by simp at h, fun p q E E' h => by simp at h⟩
  | cons E0 Γ ih =>
    intro A ⟨hE, S, hS, h, hΓ⟩
    obtain ⟨F, h1, h2⟩ := ih hΓ
    refine ⟨fun p => match p with | 0 => S | p + 1 => F p, fun p E hp => ?_, fun p q E E' hp hq hne k hk hk' => ?_⟩
    · cases p with
      | zero => obtain rfl : E0 = E := by simpa using hp
                exact ⟨hE, h, hS⟩
      | succ p => have := h1 p E (by simpa using hp)
                  exact ⟨this.1, this.2.1, fun k hk => (this.2.2 k hk).1⟩
    · cases p with
      | zero =>
        cases q with
        | zero => exact hne rfl
        | succ q => exact ((h1 q E' (by simpa using hq)).2.2 k hk').2 hk
      | succ p =>
        cases q with
        | zero => exact ((h1 p E (by simpa using hp)).2.2 k hk).2 hk'
        | succ q => exact h2 p q E E' (by simpa using hp) (by simpa using hq) (fun h => hne (by omega)) k hk hk'
theorem SepA.build {F : Nat → (Nat → Prop)} {Γ : List Ent} (h1 : ∀ p E, Γ[p]? = some E → Loc E ∧ E W (F p) D ∧ ∀ k, F p k → A k) (h2 : ∀ p q E E', Γ[p]? = some E → Γ[q]? = some E' → p ≠ q → ∀ k, F p k → ¬ F q k) :
    ∀ (ps : List Nat) (Γ' : List Ent) (A' : Nat → Prop), ps.Nodup → (∀ k, A' k → A k) → (∀ p, p ∈ ps → ∀ k, F p k → A' k) → ps.map (Γ[·]?) = Γ'.map some → SepA W D Γ' A'
  | [], [], _, _, _, _, _ => trivial
  | [], _ :: _, _, _, _, _, h => by simp at h
  | _ :: _, [], _, _, _, _, h => by simp at h
  | p :: ps, E :: Γ', A', hn, hA, hF, h => by
    simp only [List.map_cons, List.cons.injEq] at h
    have hp := h1 p E h.1
    refine ⟨hp.1, F p, hF p (by simp), hp.2.1, SepA.build h1 h2 ps Γ' _ (List.nodup_cons.1 hn).2 (fun k hk => hA k hk.1) (fun q hq k hk => ⟨hF q (by simp [hq]) k hk, fun hk' => ?_⟩) h.2⟩
    have hne : p ≠ q := fun e => (List.nodup_cons.1 hn).1 (e ▸ hq)
    obtain ⟨E', hE'⟩ : ∃ E', Γ[q]? = some E' := by
      have : Γ[q]? ∈ ps.map (Γ[·]?) := List.mem_map.2 ⟨q, hq, rfl⟩
      rw [h.2] at this
      obtain ⟨E', _, hE'⟩ := List.mem_map.1 this
      exact ⟨E', hE'.symm⟩
    exact h2 p q E E' h.1 hE' hne k hk' hk
theorem Mem.pick {Γ' : List Ent} (M : Mem w W Γ) (ps : List Nat) (hn : ps.Nodup) (h : ps.map (Γ[·]?) = Γ'.map some) : Mem w W Γ' := by
  obtain ⟨h0, D, hD, hs⟩ := M
  obtain ⟨F, h1, h2⟩ := SepA.pick ps hs
  refine ⟨h0, D, hD, SepA.build h1 h2 ps Γ' _ hn (fun _ => id) (fun p hp k hk => ?_) h⟩
  obtain ⟨E', hE'⟩ : ∃ E', Γ[p]? = some E' := by
    have : Γ[p]? ∈ ps.map (Γ[·]?) := List.mem_map.2 ⟨p, hp, rfl⟩
    rw [h] at this
    obtain ⟨E', _, hE'⟩ := List.mem_map.1 this
    exact ⟨E', hE'.symm⟩
  exact (h1 p E' hE').2.2 k hk
end
section
variable {w0 w W W1 : World} {Γ : List Ent} {D S : Nat → Prop} {α : Type} {d : Kd α} {e base g p q r : Nat} {v : Value} {xs : List α} {P Q : World → Prop}
def kept (w0 w : World) (g : Nat) : Ent := fun W S _ => ∀ k, w0.heap.size ≤ k → k < w.heap.size → k ≠ g → S k ∧ W.heap[k]? = w.heap[k]?
theorem kept_lt (h : kept w0 w g W S D) (k : Nat) (h0 : w0.heap.size ≤ k) (h1 : k < w.heap.size) (h2 : k ≠ g) : k < W.heap.size := by
  have := (h k h0 h1 h2).2
  rw [Array.getElem?_eq_getElem h1] at this
  exact (Array.getElem?_eq_some_iff.1 this).1
theorem Loc.kept (w0 w : World) (g : Nat) : Loc (kept w0 w g) := fun W W' S D D' h hm _ k h0 h1 h2 => ⟨(h k h0 h1 h2).1, (hm k (.inl (h k h0 h1 h2).1) (kept_lt h k h0 h1 h2)).trans (h k h0 h1 h2).2⟩
def At (g : Nat) (P : World → Prop) : Prop := ∀ W W' : World, W'.heap[g]? = W.heap[g]? → P W → P W'
theorem Mem.startS (hB : Below w0.heap.size w0 w) (h0 : w0.heap.size ≤ g) (h1 : g < w.heap.size) (hP : At g P) (h : P w) : Mem w0 w [stt g P, kept w0 w g] :=
  ⟨hB, fun _ => False, fun _ hk => hk.elim, Loc.stt g P, fun k => k = g, fun k hk => by subst hk; exact ⟨⟨h0, h1⟩, id⟩, ⟨rfl, h1, h, fun W' hW => hP _ _ hW h⟩, Loc.kept w0 w g, fun k => w0.heap.size ≤ k ∧ k < w.heap.size ∧ k ≠ g, fun k hk => ⟨⟨⟨hk.1, hk.2.1⟩, id⟩, hk.2.2⟩, fun k a b c => ⟨⟨a, b, c⟩, rfl⟩, trivial⟩
theorem Mem.stateL (L : List Ent) (M : Mem w W Γ) (hk : KeepBut W W1 g none) (hb : Below w.heap.size w W1) (hQ : At g Q) (h : Q W1) (e0 : Γ[p]? = some (stt g P))
    (hL : ∀ E, E ∈ L → Loc E ∧ ∀ D : Nat → Prop, (∀ k, W.heap.size ≤ k → k < W1.heap.size → D k) → E W1 (fun _ => False) D) : Mem w W1 (L ++ Γ.set p (stt g Q)) := by
  obtain ⟨h0, D, hD, hs⟩ := M
  have hsz := below_size h0
  obtain ⟨S, hS, hE, hr⟩ := SepA.take hs e0
  have hr1 := SepA.move (W1 := W1) (D' := fun k => D k ∨ (W.heap.size ≤ k ∧ k < W1.heap.size)) hr (fun k hk' hl => hk.2 k hl (fun he => by
    subst he
    rcases hk' with hk' | hk'
    · exact hk'.2 hE.1
    · exact (hS k hE.1).2 hk') (by simp)) (fun _ => .inl)
  have hp := SepA.put (Loc.stt g Q) (at_lt e0) hS ⟨hE.1, Nat.lt_of_lt_of_le hE.2.1 hk.1, h, fun W' hW => hQ _ _ hW h⟩ hr1
  refine ⟨hb, fun k => D k ∨ (W.heap.size ≤ k ∧ k < W1.heap.size), fun k hk' => ?_, SepA.reads (SepA.mono hp (fun k hk' => ⟨⟨hk'.1.1, Nat.lt_of_lt_of_le hk'.1.2 hk.1⟩, fun hd => hd.elim hk'.2 (fun x => Nat.not_lt_of_le x.1 hk'.1.2)⟩)) (fun E hE => ⟨(hL E hE).1, (hL E hE).2 _ (fun k h1 h2 => .inr ⟨h1, h2⟩)⟩)⟩
  rcases hk' with hk' | hk'
  · exact ⟨(hD k hk').1, Nat.lt_of_lt_of_le (hD k hk').2 hk.1⟩
  · exact ⟨Nat.le_trans hsz hk'.1, hk'.2⟩
theorem Mem.state (M : Mem w W Γ) (p : Nat) (hk : KeepBut W W1 g none) (hb : Below w.heap.size w W1) (hQ : At g Q) (h : Q W1) (e0 : Γ[p]? = some (stt g P)) : Mem w W1 (Γ.set p (stt g Q)) := M.stateL [] hk hb hQ h e0 (fun _ h => by simp at h)
theorem Mem.stateV (M : Mem w W Γ) (p : Nat) (hk : KeepBut W W1 g none) (hb : Below w.heap.size w W1) (hQ : At g Q) (h : Q W1) (hv : Kd.V d e W1 base (fun k => W.heap.size ≤ k) v xs) (e0 : Γ[p]? = some (stt g P)) : Mem w W1 (row d e v xs :: Γ.set p (stt g Q)) :=
  M.stateL [row d e v xs] hk hb hQ h e0 (fun E hE => by obtain rfl := List.mem_singleton.1 hE; exact ⟨Loc.row _ _ _ _, fun D hD => V_fresh hv (fun _ => id) D hD⟩)
theorem Mem.at_stt (M : Mem w W Γ) (p : Nat) (e0 : Γ[p]? = some (stt g P)) : P W := by
  obtain ⟨_, D, hD, h⟩ := M
  obtain ⟨S, h2, h1⟩ := SepA.get h e0
  exact h1.2.2.1
theorem Mem.newS (M : Mem w W Γ) (hb : Below W.heap.size W W1) (hg : W.heap.size ≤ g) (hl : g < W1.heap.size) (hQ : At g Q) (h : Q W1) : Mem w W1 (stt g Q :: Γ) :=
  M.mine (S := fun k => k = g) hb (Loc.stt g Q) (fun D => ⟨rfl, hl, h, fun W' hW => hQ _ _ hW h⟩) (fun k hk => by subst hk; exact ⟨hg, hl⟩)
theorem Mem.keepOf (M : Mem w0 W Γ) (p q : Nat) (hB : Below w0.heap.size w0 w) (e0 : Γ[p]? = some (stt g P)) (e1 : Γ[q]? = some (kept w0 w g)) : KeepBut w W g none := by
  obtain ⟨h0, D, hD, h⟩ := M
  obtain ⟨S, _, h1⟩ := SepA.get h e0
  obtain ⟨T, _, h2⟩ := SepA.get h e1
  have key : ∀ k, k < w.heap.size → k < W.heap.size := fun k hk => by
    by_cases hl : k < w0.heap.size
    · exact Nat.lt_of_lt_of_le hl (below_size h0)
    · by_cases hg : k = g
      · exact hg ▸ h1.2.1
      · exact kept_lt h2 k (Nat.le_of_not_lt hl) hk hg
  refine ⟨?_, fun k hk hg _ => ?_⟩
  · by_cases hz : w.heap.size = 0
    · omega
    · have := key (w.heap.size - 1) (by omega)
      omega
  · by_cases hl : k < w0.heap.size
    · exact (h0.block k hl).trans (hB.block k hl).symm
    · exact (h2 k (Nat.le_of_not_lt hl) hk hg).2
theorem Mem.at_rowK (M : Mem w0 W Γ) (r p q : Nat) (e0 : Γ[p]? = some (stt g P)) (e1 : Γ[q]? = some (kept w0 w g)) (e2 : Γ[r]? = some (row d e v xs)) : Kd.V d e W 0 (fun k => w.heap.size ≤ k) v xs := by
  obtain ⟨h0, D, hD, h⟩ := M
  obtain ⟨S, hS, h1⟩ := SepA.get h e0
  obtain ⟨T, hT, h2⟩ := SepA.get h e1
  obtain ⟨U, _, h3⟩ := SepA.get h e2
  refine Kd.V_mono h3 (fun k hk => Nat.le_of_not_lt (fun hl => ?_))
  by_cases hg : k = g
  · exact (hS k (hg ▸ h1.1)).2 hk
  · exact (hT k (h2 k (hD k hk).1 hl hg).1).2 hk
end
section
variable {P : Program} {ops : Array Oper} {rest : List Oper} {o : Oper} {a : Act} {Q : Exit → Act → World → Prop} {Kc : Act → World → Prop} {α : Type}
theorem Mem.append_rows {w W : World} {Γ : List Ent} (M : Mem w W Γ) (p q : Nat) (d : Kd α) (hgd : o.guard = none) (s x : Operand) (t e : TypeId) (z : Value) (bytes : Nat)
    (ho : o.op = .call { callee := .builtin .append, args := #[s, x], argTypes := #[t, t] })
    (ht : P.underlying t = some (.slice e)) (hinfo : (P.info? e).map (fun i => (i.zero, i.size, i.bytes)) = some (some z, d.sz, bytes)) (hz : z.cells.size = d.sz) (hs0 : 0 < d.sz) (hb0 : 0 < bytes)
    (v : Value) (xs ys : List α) (A : Option Addr) (m c : Nat) (e0 : Γ[p]? = some (ownN d e v xs)) (e1 : Γ[q]? = some (row d e (.slice A m c) ys)) (hs : a.eval s = v) (hx : a.eval x = .slice A m c)
    (hl : (xs.length + m) * bytes ≤ 140737488355328)
    (h : ∀ v1 w1, Mem w w1 (Γ.set p (ownN d e v1 (xs ++ ys))) → wpList P ops Q rest (a.put o.dst v1) w1) : wpList P ops Q (o :: rest) a W := by
  obtain ⟨ok, okp, _, h1, hs2, h3, h4, h5, h6⟩ := M.app p e0
  obtain ⟨_, _, hV⟩ := SepA.get hs2 e1
  have h2 := Kd.V_F hV
  exact Kd.N_append_rows d 0 hgd s x t e z bytes ho ht hinfo hz hs0 hb0 v xs ys A m c ok okp hs hx h1 h2 h3 h4 h5 (Nat.zero_le _) hl (fun v1 w1 g1 g2 g3 g4 => h v1 w1 (h6 v1 w1 _ g1 g2 g3 g4))
theorem Mem.dr {w W W' : World} {Γ : List Ent} (s : Mem w W Γ → Mem w W' Γ := by intro h_; (with_reducible repeat (first | apply Go.Proofs.Ytgmnphckgicadaa.Mem.Mem.drewN | apply Go.Proofs.Ytgmnphckgicadaa.Mem.Mem.drew | apply Go.Proofs.Ytgmnphckgicadaa.Mem.Mem.alloc)); exact h_) (M : Mem w W Γ) : Mem w W' Γ := s M
theorem Mem.st {w W0 W : World} {Γ : List Ent} {g t : Nat} {cs : List Value} (p i : Nat) {u : Value} (s : Mem w W0 Γ → Mem w W Γ := by (intro h_; (with_reducible repeat (first | apply Go.Proofs.Ytgmnphckgicadaa.Mem.Mem.drewN | apply Go.Proofs.Ytgmnphckgicadaa.Mem.Mem.drew | apply Go.Proofs.Ytgmnphckgicadaa.Mem.Mem.alloc)); exact h_)) (e0 : Γ[p]? = some (blk g t cs) := by exact rfl) (M : Mem w W0 Γ) : Mem w (W.setCell ⟨g, i, none⟩ u) (Γ.set p (blk g t (cs.set i u))) := (s M).set p i u e0
theorem Mem.boxE {w W0 W : World} {Γ : List Ent} (N : Tmp) (t : TypeId) (cs : List Value) (hd : o.dst = some N := by with_reducible rfl) (s : Mem w W0 Γ → Mem w W Γ := by (intro h_; (with_reducible repeat (first | apply Go.Proofs.Ytgmnphckgicadaa.Mem.Mem.drewN | apply Go.Proofs.Ytgmnphckgicadaa.Mem.Mem.drew | apply Go.Proofs.Ytgmnphckgicadaa.Mem.Mem.alloc)); exact h_))
    (hw : Region.wanted o (yielded ops a.tmps) = true := by rfl)
    (hr : (execOp a.eval o).run P W = .ok (.value (.pointer (some ⟨W.heap.size, 0, none⟩))) (W.alloc (.cells cs.toArray t (0, 0))) := by (first | (go_simp; done) | (go_simp; rfl)))
    (M : Mem w W0 Γ)
    (h : ∀ g w1, Mem w w1 (blk g t cs :: Γ) → wpList P ops Q rest (a.put o.dst (.pointer (some ⟨g, 0, none⟩))) w1) : wpList P ops Q (o :: rest) a W :=
  gate_guard hw (box_event (o := { o with guard := none }) rfl hd hr (fun g hg w1 hb hB => h g w1 ((s M).box hB hg hb)))
theorem Mem.boxS {w W0 W : World} {Γ : List Ent} (N : Tmp) (t : TypeId) (cs : List Value) (hd : o.dst = some N := by with_reducible rfl) (s : Mem w W0 Γ → Mem w W Γ := by (intro h_; (with_reducible repeat (first | apply Go.Proofs.Ytgmnphckgicadaa.Mem.Mem.drewN | apply Go.Proofs.Ytgmnphckgicadaa.Mem.Mem.drew | apply Go.Proofs.Ytgmnphckgicadaa.Mem.Mem.alloc)); exact h_))
    (hw : Region.wanted o (yielded ops a.tmps) = true := by rfl)
    (hr : (execOp a.eval o).run P W = .ok (.value (.pointer (some ⟨W.heap.size, 0, none⟩))) (W.alloc (.cells cs.toArray t (0, 0))) := by (first | (go_simp; done) | (go_simp; rfl)))
    (M : Mem w W0 Γ)
    (h : ∀ g w1, Mem w w1 (blk g t cs :: Γ) → Kc (a.put o.dst (.pointer (some ⟨g, 0, none⟩))) w1) : if Region.wanted o (yielded ops a.tmps) = true then Oper.wp P o a W Kc Q else Kc (a.put o.dst undef) W :=
  box_step hw hd hr (fun g hg w1 hb hB => h g w1 ((s M).box hB hg hb))
theorem Mem.callE {w W0 W : World} {Γ : List Ent} {f : FuncId} {fn : Func} {as : Array Operand} {ts : Array TypeId} (N : Option Tmp) (hf : P.funcs[f]? = some fn) (args : Array Value)
    (hop : o.op = .call { callee := .value (.func f), args := as, argTypes := ts } := by with_reducible rfl) (hd : o.dst = N := by rfl) (hg : o.guard = none := by rfl) (hname : (fn.name == "runtime.NumGoroutine") = false := by kernel_rfl) (hb : fn.body.isSome = true := by rfl)
    (hargs : as.map a.eval = args := by ((try simp only [List.map_toArray, List.map_cons, List.map_nil]); first | done | rfl | (simp only [List.length_drop, List.length_take]; rfl))) (s : Mem w W0 Γ → Mem w W Γ := by (intro h_; (with_reducible repeat (first | apply Go.Proofs.Ytgmnphckgicadaa.Mem.Mem.drewN | apply Go.Proofs.Ytgmnphckgicadaa.Mem.Mem.drew | apply Go.Proofs.Ytgmnphckgicadaa.Mem.Mem.alloc)); exact h_))
    (M : Mem w W0 Γ)
    (h : Mem w W Γ → Calls P f args W fun e w' => ∃ v, e = .returned v ∧ wpList P ops Q rest (a.put N v) w') : wpList P ops Q (o :: rest) a W :=
  goesL_ N hd hg hf hname hb args hop hargs (h (s M))
theorem Mem.callS {w W0 W : World} {Γ : List Ent} {f : FuncId} {fn : Func} {as : Array Operand} {ts : Array TypeId} {N : Option Tmp} (hf : P.funcs[f]? = some fn) (args : Array Value)
    (hw : Region.wanted o (yielded ops a.tmps) = true := by rfl) (hd : o.dst = N := by rfl)
    (hop : o.op = .call { callee := .value (.func f), args := as, argTypes := ts } := by rfl) (hname : (fn.name == "runtime.NumGoroutine") = false := by kernel_rfl) (hb : fn.body.isSome = true := by rfl)
    (hargs : as.map a.eval = args := by ((try simp only [List.map_toArray, List.map_cons, List.map_nil]); first | done | rfl | (simp only [List.length_drop, List.length_take]; rfl))) (s : Mem w W0 Γ → Mem w W Γ := by (intro h_; (with_reducible repeat (first | apply Go.Proofs.Ytgmnphckgicadaa.Mem.Mem.drewN | apply Go.Proofs.Ytgmnphckgicadaa.Mem.Mem.drew | apply Go.Proofs.Ytgmnphckgicadaa.Mem.Mem.alloc)); exact h_))
    (M : Mem w W0 Γ)
    (h : Mem w W Γ → Calls P f args W fun e w' => ∃ v, e = .returned v ∧ Kc (a.put N v) w') : if Region.wanted o (yielded ops a.tmps) = true then Oper.wp P o a W Kc Q else Kc (a.put N undef) W :=
  goes_ hf hname hb args hw hd hop hargs (h (s M))
theorem Mem.appE {w W0 W : World} {Γ : List Ent} (p q : Nat) (d : Kd α) (s x : Operand) (t e : TypeId) (z : Value) (bytes : Nat)
    (ht : P.underlying t = some (.slice e)) (hinfo : (P.info? e).map (fun i => (i.zero, i.size, i.bytes)) = some (some z, d.sz, bytes)) {v : Value} {xs ys : List α} {A : Option Addr} {m c : Nat}
    (ho : o.op = .call { callee := .builtin .append, args := #[s, x], argTypes := #[t, t] } := by with_reducible rfl) (e0 : Γ[p]? = some (ownN d e v xs) := by exact rfl) (e1 : Γ[q]? = some (row d e (.slice A m c) ys) := by exact rfl)
    (hw : Region.wanted o (yielded ops a.tmps) = true := by rfl) (hz : z.cells.size = d.sz := by rfl) (hs0 : 0 < d.sz := by decide) (hb0 : 0 < bytes := by omega)
    (st : Mem w W0 Γ → Mem w W Γ := by (intro h_; (with_reducible repeat (first | apply Go.Proofs.Ytgmnphckgicadaa.Mem.Mem.drewN | apply Go.Proofs.Ytgmnphckgicadaa.Mem.Mem.drew | apply Go.Proofs.Ytgmnphckgicadaa.Mem.Mem.alloc)); exact h_)) (hs : a.eval s = v := by (first | rfl | (go_simp; done) | (go_simp; rfl))) (hx : a.eval x = .slice A m c := by (first | rfl | (go_simp; done) | (go_simp; rfl)))
    (hl : (xs.length + m) * bytes ≤ 140737488355328)
    (M : Mem w W0 Γ)
    (h : ∀ v1 w1, Mem w w1 (Γ.set p (ownN d e v1 (xs ++ ys))) → wpList P ops Q rest (a.put o.dst v1) w1) : wpList P ops Q (o :: rest) a W :=
  gate_guard hw ((st M).append_rows (o := { o with guard := none }) p q d rfl s x t e z bytes ho ht hinfo hz hs0 hb0 v xs ys A m c e0 e1 hs hx hl h)
def El {α : Type} (d : Kd α) (x : α) (cs : List Value) (Γ : List Ent) : Prop := ∀ (W : World) (D A : Nat → Prop), SepA W D Γ A → Kd.FK d W D x cs
def Els {α : Type} (d : Kd α) (xs : List α) (inner : List Value) (Γ : List Ent) : Prop := ∀ (W : World) (D A : Nat → Prop), SepA W D Γ A → Reps (Kd.FK d W D) d.sz xs inner
theorem El.F {α : Type} {d : Kd α} {e n c : Nat} {A : Option Addr} {xs : List α} {Γ : List Ent} (q : Nat) (e1 : Γ[q]? = some (row d e (.slice A n c) xs)) (W : World) (D B : Nat → Prop) (h : SepA W D Γ B) : xs.length ≤ c ∧ Kd.F d W D A xs.length xs := by
  obtain ⟨_, _, hV⟩ := SepA.get h e1
  have h1 := (Kd.V_reads' hV)
  have hl : n = xs.length := by obtain ⟨_, _, he⟩ := Kd.V_slice hV; injection he
  subst hl
  exact ⟨h1.2.1, Kd.V_F hV⟩
theorem El.slice {α : Type} {d : Kd α} {e n c : Nat} {A : Option Addr} {xs : List α} {Γ : List Ent} (q : Nat) (e1 : Γ[q]? = some (row d e (.slice A n c) xs) := by exact rfl) : El (Kd.slice e d) xs [.slice A xs.length c] Γ :=
  fun W D B h => Kd.FK_slice_mk (El.F q e1 W D B h).1 (El.F q e1 W D B h).2
theorem Els.nil {α : Type} {d : Kd α} {Γ : List Ent} : Els d ([] : List α) [] Γ := fun _ _ _ _ => ⟨by simp, fun j y hy => by simp at hy⟩
theorem made {α : Type} {w W w1 : World} {Γ : List Ent} {D : Nat → Prop} {d : Kd α} {e : Nat} {v : Value} {xs : List α} (h0 : Below w.heap.size w W) (hD : ∀ k, D k → w.heap.size ≤ k ∧ k < W.heap.size) (hs : SepA W D Γ (fun k => (w.heap.size ≤ k ∧ k < W.heap.size) ∧ ¬ D k))
    (hN : Kd.N d e w1 0 (fun k => D k ∨ W.heap.size ≤ k) v xs) (hB : Below 0 W w1) (hg : W.grownBy w1 none) (hat : ∃ b, v.ownBlock = some b ∧ W.heap.size ≤ b) : Mem w w1 (ownN d e v xs :: Γ) := by
  have hb : Below W.heap.size W w1 := ⟨hB.os, hB.tape, hB.output, hg.size, fun k hk => hg.block k hk (by simp)⟩
  have hsz := below_size h0
  obtain ⟨b, hb1, hb2⟩ := hat
  refine ⟨below_step h0 hb, D, fun k hk => ⟨(hD k hk).1, Nat.lt_of_lt_of_le (hD k hk).2 hb.size⟩, Loc.ownN _ _ _ _, fun k => W.heap.size ≤ k ∧ k < w1.heap.size, fun k hk => ⟨⟨Nat.le_trans hsz hk.1, hk.2⟩, fun hd => Nat.not_lt_of_le hk.1 (hD k hd).2⟩, ⟨Kd.N_mono (Kd.N_bound hN) (fun k hk => hk.1.elim .inr (fun x => .inl ⟨x, hk.2⟩)), fun k hk => ?_⟩, SepA.mono (SepA.move hs (fun k _ hl => hb.block k hl) (fun _ => id)) (fun k hk => ⟨⟨⟨hk.1.1, Nat.lt_of_lt_of_le hk.1.2 hb.size⟩, hk.2⟩, fun hs' => Nat.not_lt_of_le hs'.1 hk.1.2⟩)⟩
  rw [hb1] at hk
  obtain rfl := Option.some.inj hk
  exact ⟨hb2, Kd.N_lt hN _ hb1⟩
theorem Mem.litE {w W0 W : World} {Γ : List Ent} (N : Tmp) (d : Kd α) (e : Nat) (xs : List α) (inner : List Value) (hd : o.dst = some N := by with_reducible rfl) (st : Mem w W0 Γ → Mem w W Γ := by (intro h_; (with_reducible repeat (first | apply Go.Proofs.Ytgmnphckgicadaa.Mem.Mem.drewN | apply Go.Proofs.Ytgmnphckgicadaa.Mem.Mem.drew | apply Go.Proofs.Ytgmnphckgicadaa.Mem.Mem.alloc)); exact h_))
    (hw : Region.wanted o (yielded ops a.tmps) = true := by rfl) (hr : (execOp a.eval o).run P W = .ok (.value (.slice (some ⟨W.heap.size, 0, none⟩) xs.length xs.length)) (W.alloc (.cells inner.toArray e)) := by (first | (go_simp; done) | (go_simp; rfl))) (hp : Els d xs inner Γ := by exact Els.nil) (hm : xs.length ≤ 9223372036854775807 := by simp)
    (M : Mem w W0 Γ)
    (h : ∀ v w1, Mem w w1 (ownN d e v xs :: Γ) → wpList P ops Q rest (a.put o.dst v) w1) : wpList P ops Q (o :: rest) a W := by
  have M1 := st M
  obtain ⟨h0, D, hD, hs⟩ := M1
  exact gate_guard hw (Kd.N_lit (o := { o with guard := none }) d (w0 := W) 0 e rfl hd (ok := fun k => D k ∨ W.heap.size ≤ k) hr (hp W D _ hs) (fun _ => .inl) (.inr (Nat.le_refl _)) ⟨rfl, rfl, rfl, Nat.le_refl _, fun _ _ => rfl⟩ (Nat.zero_le _) hm (fun v w1 hN hB hg hat => h v w1 (made h0 hD hs hN hB hg hat)))
theorem Mem.litS {w W0 W : World} {Γ : List Ent} (N : Tmp) (d : Kd α) (e : Nat) (xs : List α) (inner : List Value) (hd : o.dst = some N := by with_reducible rfl) (st : Mem w W0 Γ → Mem w W Γ := by (intro h_; (with_reducible repeat (first | apply Go.Proofs.Ytgmnphckgicadaa.Mem.Mem.drewN | apply Go.Proofs.Ytgmnphckgicadaa.Mem.Mem.drew | apply Go.Proofs.Ytgmnphckgicadaa.Mem.Mem.alloc)); exact h_))
    (hw : Region.wanted o (yielded ops a.tmps) = true := by rfl) (hr : (execOp a.eval o).run P W = .ok (.value (.slice (some ⟨W.heap.size, 0, none⟩) xs.length xs.length)) (W.alloc (.cells inner.toArray e)) := by (first | (go_simp; done) | (go_simp; rfl))) (hp : Els d xs inner Γ := by exact Els.nil) (hm : xs.length ≤ 9223372036854775807 := by simp)
    (M : Mem w W0 Γ)
    (h : ∀ v w1, Mem w w1 (ownN d e v xs :: Γ) → Kc (a.put o.dst v) w1) : if Region.wanted o (yielded ops a.tmps) = true then Oper.wp P o a W Kc Q else Kc (a.put o.dst undef) W := by
  have M1 := st M
  obtain ⟨h0, D, hD, hs⟩ := M1
  exact Kd.N_lit_step d (w0 := W) 0 e hw hd (ok := fun k => D k ∨ W.heap.size ≤ k) hr (hp W D _ hs) (fun _ => .inl) (.inr (Nat.le_refl _)) ⟨rfl, rfl, rfl, Nat.le_refl _, fun _ _ => rfl⟩ (Nat.zero_le _) hm (fun v w1 hN hB hg hat => h v w1 (made h0 hD hs hN hB hg hat))
theorem Mem.appS {w W0 W : World} {Γ : List Ent} (p q : Nat) (d : Kd α) (s x : Operand) (t e : TypeId) (z : Value) (bytes : Nat)
    (ht : P.underlying t = some (.slice e)) (hinfo : (P.info? e).map (fun i => (i.zero, i.size, i.bytes)) = some (some z, d.sz, bytes)) {v : Value} {xs ys : List α} {A : Option Addr} {m c : Nat}
    (ho : o.op = .call { callee := .builtin .append, args := #[s, x], argTypes := #[t, t] } := by with_reducible rfl) (e0 : Γ[p]? = some (ownN d e v xs) := by exact rfl) (e1 : Γ[q]? = some (row d e (.slice A m c) ys) := by exact rfl)
    (hw : Region.wanted o (yielded ops a.tmps) = true := by rfl) (hz : z.cells.size = d.sz := by rfl) (hs0 : 0 < d.sz := by decide) (hb0 : 0 < bytes := by omega)
    (st : Mem w W0 Γ → Mem w W Γ := by (intro h_; (with_reducible repeat (first | apply Go.Proofs.Ytgmnphckgicadaa.Mem.Mem.drewN | apply Go.Proofs.Ytgmnphckgicadaa.Mem.Mem.drew | apply Go.Proofs.Ytgmnphckgicadaa.Mem.Mem.alloc)); exact h_)) (hs : a.eval s = v := by (first | rfl | (go_simp; done) | (go_simp; rfl))) (hx : a.eval x = .slice A m c := by (first | rfl | (go_simp; done) | (go_simp; rfl)))
    (hl : (xs.length + m) * bytes ≤ 140737488355328)
    (M : Mem w W0 Γ)
    (h : ∀ v1 w1, Mem w w1 (Γ.set p (ownN d e v1 (xs ++ ys))) → Kc (a.put o.dst v1) w1) : if Region.wanted o (yielded ops a.tmps) = true then Oper.wp P o a W Kc Q else Kc (a.put o.dst undef) W := by
  obtain ⟨ok, okp, _, h1, hs2, h3, h4, h5, h6⟩ := (st M).app p e0
  obtain ⟨_, _, hV⟩ := SepA.get hs2 e1
  exact Kd.N_append_rows_step d 0 hw s x t e z bytes ho ht hinfo hz hs0 hb0 v xs ys A m c ok okp hs hx h1 (Kd.V_F hV) h3 h4 h5 (Nat.zero_le _) hl (fun v1 w1 g1 g2 g3 g4 => h v1 w1 (h6 v1 w1 _ g1 g2 g3 g4))
theorem Mem.oneE {w W0 W : World} {Γ : List Ent} (p : Nat) (d : Kd α) (s x : Operand) (t e : TypeId) (z : Value) (bytes : Nat)
    (ht : P.underlying t = some (.slice e)) (hinfo : (P.info? e).map (fun i => (i.zero, i.size, i.bytes)) = some (some z, d.sz, bytes)) {v : Value} {xs : List α} (y : α) (cs : List Value)
    (ho : o.op = .call { callee := .builtin .append, args := #[s, x], argTypes := #[t, t] } := by with_reducible rfl) (e0 : Γ[p]? = some (ownN d e v xs) := by exact rfl)
    (hw : Region.wanted o (yielded ops a.tmps) = true := by rfl) (hz : z.cells.size = d.sz := by rfl) (hs0 : 0 < d.sz := by decide) (hb0 : 0 < bytes := by omega)
    (st : Mem w W0 Γ → Mem w W Γ := by (intro h_; (with_reducible repeat (first | apply Go.Proofs.Ytgmnphckgicadaa.Mem.Mem.drewN | apply Go.Proofs.Ytgmnphckgicadaa.Mem.Mem.drew | apply Go.Proofs.Ytgmnphckgicadaa.Mem.Mem.alloc)); exact h_)) (hs : a.eval s = v := by (first | rfl | (go_simp; done) | (go_simp; rfl))) (hx : a.eval x = .slice (some ⟨W.heap.size, 0, none⟩) 1 1 := by (first | rfl | (go_simp; done) | (go_simp; rfl)))
    (hl : (xs.length + 1) * bytes ≤ 140737488355328)
    (hp : El d y cs Γ)
    (M : Mem w W0 Γ)
    (h : ∀ v1 w1, Mem w w1 (Γ.set p (ownN d e v1 (xs ++ [y]))) → wpList P ops Q rest (a.put o.dst v1) w1) : wpList P ops Q (o :: rest) a (W.alloc (.cells cs.toArray e)) := by
  obtain ⟨ok, okp, _, h1, hs2, h3, h4, h5, h6⟩ := (st M).app p e0
  exact gate_guard hw (Kd.N_append (o := { o with guard := none }) d 0 rfl s x t e z bytes ho ht hinfo hz hs0 hb0 v xs y cs ok okp hs hx (hp _ _ _ hs2) h3 h4 h1 h5 (Nat.zero_le _) hl (fun v1 w1 g1 g2 g3 g4 => h v1 w1 (h6 v1 w1 _ g1 g2 g3 g4)))
end
end
end Go.Proofs.Ytgmnphckgicadaa.Mem
