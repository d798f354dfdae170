/- The pure statement of the law FnExactLogOpen. No conditions beyond that each number is one of its kind and that slices are no greater than memory. -/
import Derived.Test.YtgmnphckgicadaaKinFnExactLogOpen
namespace Go.Proofs.Ytgmnphckgicadaa.Pure
open Go.RowKit Go.Proofs.Ytgmnphckgicadaa.PFnExactLogOpen Go.Proofs.YtgmnphckgicadaaW.PrintWords Go.Proofs.YtgmnphckgicadaaW.PrintLast Go.Proofs.YtgmnphckgicadaaW.PrintMore
set_option linter.unusedVariables false
set_option linter.unusedSimpArgs false

/-- The points that are right. -/
def ptOk (x y : Int) : Bool := decide (-10000000 ≤ x) && decide (x ≤ 10000000) && decide (-10000000 ≤ y) && decide (y ≤ 10000000)
/-- The boxes that are right. -/
def boxOk (a b c d : Int) : Bool := ptOk a b && ptOk c d && decide (a ≤ c) && decide (b ≤ d)
theorem wrap_in {x : Int} (h1 : -9223372036854775808 ≤ x) (h2 : x ≤ 9223372036854775807) : wrap64 x = x := by unfold wrap64; omega
theorem spec_l1In_eq (a b c : Int) : spec_l1In.f a b c = some (decide (b ≤ a) && decide (a ≤ c)) := by
  unfold spec_l1In.f; by_cases h : b ≤ a <;> simp [h]
theorem impl_inRange_eq (a b c : Int) : impl_inRange.f a b c = some (decide (b ≤ a) && decide (a ≤ c)) := by
  unfold impl_inRange.f; by_cases h : b ≤ a <;> simp [h]
/-! Rows of bytes: marked, held, compared. -/
def mkB : Int → Nat → List Int
  | _, 0 => []
  | k, n + 1 => k % 256 :: mkB (k + 1) n
theorem set_mid (P : List Int) (v x : Int) (r : List Int) : (P ++ x :: r).set P.length v = (P ++ [v]) ++ r := by
  rw [List.set_append_right _ _ (Nat.le_refl _), Nat.sub_self, List.append_assoc]; rfl
theorem markB_loop : ∀ (r P : List Int) (k : Int) (f : Nat), P.length + r.length ≤ 140737488351232 → 0 ≤ k → k + (r.length : Int) ≤ 4611686018427387904 → r.length < f →
    laws_markByteS.l0 f (P ++ r) k (P.length : Int) = some (k + (r.length : Int), P ++ mkB k r.length)
  | [], P, k, f, _, _, _, hf => by
    obtain ⟨f, rfl⟩ : ∃ m, f = m + 1 := ⟨f - 1, by omega⟩
    simp only [laws_markByteS.l0, List.append_nil]
    rw [if_neg (by omega)]
    simp [mkB]
  | x :: r, P, k, f, hl, h0, h1, hf => by
    rw [List.length_cons] at hf hl h1
    obtain ⟨f, rfl⟩ : ∃ m, f = m + 1 := ⟨f - 1, by omega⟩
    simp only [laws_markByteS.l0]
    rw [if_pos (by rw [List.length_append, List.length_cons]; omega), if_pos (by omega), Int.toNat_natCast, set_mid,
      show wrap64 ((P.length : Int) + 1) = ((P ++ [k % 256]).length : Int) by rw [wrap_in (by omega) (by omega), List.length_append, List.length_singleton]; omega,
      show wrap64 (k + 1) = k + 1 from wrap_in (by omega) (by omega)]
    rw [markB_loop r (P ++ [k % 256]) (k + 1) f (by rw [List.length_append, List.length_singleton]; omega) (by omega) (by omega) (by omega)]
    simp only [mkB, List.length_cons, List.append_assoc, List.singleton_append, Option.some.injEq, Prod.mk.injEq, and_true]; omega
theorem markByteS_eq (l : List Int) (k : Int) (hl : l.length ≤ 140737488351232) (h0 : 0 ≤ k) (h1 : k ≤ 1152921504606846976) {f : Nat} (hf : l.length < f) :
    laws_markByteS.f f l k = some (k + (l.length : Int), mkB k l.length) := by
  unfold laws_markByteS.f
  have e := markB_loop l [] k f (by simpa using hl) h0 (by omega) hf
  simpa using e
theorem rd_mid (P : List Int) (v : Int) (r : List Int) : rd (P ++ v :: r) (P.length : Int) = v := by
  unfold rd; rw [Int.toNat_natCast, List.getD_eq_getElem?_getD, List.getElem?_append_right (Nat.le_refl _), Nat.sub_self]; rfl
theorem heldB_loop : ∀ (n : Nat) (P : List Int) (k : Int) (f : Nat), P.length + n ≤ 140737488351232 → 0 ≤ k → k + (n : Int) ≤ 4611686018427387904 → n < f →
    laws_heldByteS.l0 f (P ++ mkB k n) k (P.length : Int) = some (k + (n : Int))
  | 0, P, k, f, _, _, _, hf => by
    obtain ⟨f, rfl⟩ : ∃ m, f = m + 1 := ⟨f - 1, by omega⟩
    simp only [laws_heldByteS.l0, mkB, List.append_nil]
    rw [if_neg (by omega)]; simp
  | n + 1, P, k, f, hl, h0, h1, hf => by
    obtain ⟨f, rfl⟩ : ∃ m, f = m + 1 := ⟨f - 1, by omega⟩
    rw [show mkB k (n + 1) = k % 256 :: mkB (k + 1) n from rfl]
    simp only [laws_heldByteS.l0]
    rw [if_pos (show (P.length : Int) < ((P ++ k % 256 :: mkB (k + 1) n).length : Int) by rw [List.length_append, List.length_cons]; omega), if_pos (show (0 : Int) ≤ (P.length : Int) by omega), rd_mid, if_pos rfl,
      show wrap64 ((P.length : Int) + 1) = ((P ++ [k % 256]).length : Int) by rw [wrap_in (by omega) (by omega), List.length_append, List.length_singleton]; omega,
      show wrap64 (k + 1) = k + 1 from wrap_in (by omega) (by omega),
      show P ++ k % 256 :: mkB (k + 1) n = (P ++ [k % 256]) ++ mkB (k + 1) n by rw [List.append_assoc]; rfl]
    rw [heldB_loop n (P ++ [k % 256]) (k + 1) f (by rw [List.length_append, List.length_singleton]; omega) (by omega) (by omega) (by omega)]
    congr 1; omega
theorem heldByteS_eq (n : Nat) (k : Int) (hl : n ≤ 140737488351232) (h0 : 0 ≤ k) (h1 : k ≤ 1152921504606846976) {f : Nat} (hf : n < f) :
    laws_heldByteS.f f (mkB k n) k = some (k + (n : Int)) := by
  unfold laws_heldByteS.f
  have e := heldB_loop n [] k f (by simpa using hl) h0 (by omega) hf
  simpa using e
theorem dropAt {α : Type} (z : α) : ∀ (l : List α) (i : Nat), i < l.length → l.drop i = l.getD i z :: l.drop (i + 1)
  | [], i, h => by simp at h
  | x :: r, 0, _ => rfl
  | x :: r, i + 1, h => by
    have := dropAt z r i (by simpa using h)
    simpa using this
theorem getDin {α : Type} (z : α) {l : List α} {i : Nat} (h : i < l.length) : l.getD i z ∈ l := by
  rw [List.getD_eq_getElem?_getD, List.getElem?_eq_getElem h]; exact List.getElem_mem h
/-! Disks: rows of writes. -/
abbrev IW := S96
def vMax : List IW → Nat
  | [] => 0
  | r :: t => r.f1.length + 3 + vMax t
theorem vMax_le : ∀ (L : List IW) (i : Nat), (L.getD i z96).f1.length ≤ vMax L
  | [], i => by simp [z96]
  | r :: t, 0 => by simp [vMax]; omega
  | r :: t, i + 1 => by have := vMax_le t i; simp only [List.getD_cons_succ, vMax]; omega
theorem vMax_len : ∀ (L : List IW), L.length ≤ vMax L
  | [] => by simp [vMax]
  | r :: t => by have := vMax_len t; simp only [List.length_cons, vMax]; omega
theorem setRep {α β : Type} (f : α → β) (P : List α) (v z : β) (n : Nat) : (P.map f ++ List.replicate (n + 1) z).set P.length v = P.map f ++ v :: List.replicate n z := by
  rw [List.replicate_succ, ← List.length_map (f := f), List.set_append_right _ _ (Nat.le_refl _), Nat.sub_self]; rfl
theorem getDat {α : Type} (z : α) (P : List α) (r : α) (R : List α) : (P ++ r :: R).getD P.length z = r := by simp
abbrev LW := S115
def cvW (x : LW) : IW := ⟨x.f0, x.f1⟩
def wMax : List LW → Nat
  | [] => 0
  | r :: t => r.f1.length + 3 + wMax t
theorem vMax_cv : ∀ L : List LW, vMax (L.map cvW) = wMax L
  | [] => rfl
  | r :: t => by
    have := vMax_cv t
    simp only [List.map_cons, vMax, wMax, this, cvW]
theorem wMax_len : ∀ (L : List LW), L.length ≤ wMax L
  | [] => by simp [wMax]
  | r :: t => by have := wMax_len t; simp only [List.length_cons, wMax]; omega
theorem toB_loop : ∀ (R P : List Int) (k : Nat), (P.length + R.length) ≤ 140737488351232 → R.length < k →
    laws_toByteS.l0 k (P ++ R) (P.map id ++ List.replicate R.length 0) (P.length : Int) = some (P ++ R) := by
  intro R
  induction R with
  | nil =>
    intro P k hl hk
    obtain ⟨k, rfl⟩ : ∃ m, k = m + 1 := ⟨k - 1, by omega⟩
    simp only [laws_toByteS.l0]; rw [if_neg (by simp)]; simp
  | cons r R ih =>
    intro P k hl hk
    simp only [List.length_cons] at hl hk
    obtain ⟨k, rfl⟩ : ∃ m, k = m + 1 := ⟨k - 1, by omega⟩
    simp only [laws_toByteS.l0]
    rw [if_pos (by rw [List.length_append, List.length_cons]; omega), if_pos (by omega)]
    simp only [rd, Int.toNat_natCast, getDat]
    rw [if_pos (by rw [List.length_append, List.length_map, List.length_replicate, List.length_cons]; omega), List.length_cons, setRep]
    have := ih (P ++ [r]) k (by simp; omega) (by omega)
    rw [show wrap64 ((P.length : Int) + 1) = ((P ++ [r]).length : Int) by rw [wrap_in (by omega) (by omega)]; simp]
    simp only [List.map_append, List.append_assoc, List.map_cons, List.map_nil, List.cons_append, List.nil_append, id] at this ⊢
    exact this
theorem toByteS_eq (l : List Int) (hl : l.length ≤ 140737488351232) {k : Nat} (hk : l.length < k) : laws_toByteS.f k l = some l := by
  unfold laws_toByteS.f
  rw [if_pos (by omega), if_pos (by omega), Int.toNat_natCast]
  exact toB_loop l [] k (by simp; omega) hk
theorem toW_loop : ∀ (R P : List LW) (k : Nat), (P.length + R.length) * 32 ≤ 140737488351232 → (∀ r ∈ R, r.f1.length * 1 ≤ 140737488351232) → wMax R + R.length < k →
    laws_toWriteS.l0 k (P ++ R) (P.map cvW ++ List.replicate R.length z96) (P.length : Int) = some ((P ++ R).map cvW) := by
  intro R
  induction R with
  | nil =>
    intro P k hl hr hk
    obtain ⟨k, rfl⟩ : ∃ m, k = m + 1 := ⟨k - 1, by omega⟩
    simp only [laws_toWriteS.l0]; rw [if_neg (by simp)]; simp
  | cons r R ih =>
    intro P k hl hr hk
    simp only [List.length_cons, wMax] at hl hk
    obtain ⟨k, rfl⟩ : ∃ m, k = m + 1 := ⟨k - 1, by omega⟩
    simp only [laws_toWriteS.l0]
    rw [if_pos (by rw [List.length_append, List.length_cons]; omega), if_pos (by omega)]
    simp only [rd_T115, Int.toNat_natCast, getDat, laws_toWrite.f]
    have hm := hr r (by simp)
    rw [toByteS_eq _ (by omega) (by omega)]
    simp only [Option.bind_some]
    rw [if_pos (by rw [List.length_append, List.length_map, List.length_replicate, List.length_cons]; omega), List.length_cons, show (⟨r.f0, r.f1⟩ : IW) = cvW r from rfl, setRep]
    have := ih (P ++ [r]) k (by simp; omega) (fun x hx => hr x (by simp [hx])) (by omega)
    rw [show wrap64 ((P.length : Int) + 1) = ((P ++ [r]).length : Int) by rw [wrap_in (by omega) (by omega)]; simp]
    simp only [List.map_append, List.append_assoc, List.map_cons, List.map_nil, List.cons_append, List.nil_append] at this ⊢
    exact this
theorem toWriteS_eq (L : List LW) (hl : L.length * 32 ≤ 140737488351232) (hr : ∀ r ∈ L, r.f1.length * 1 ≤ 140737488351232) {k : Nat} (hk : wMax L + L.length < k) : laws_toWriteS.f k L = some (L.map cvW) := by
  unfold laws_toWriteS.f
  rw [if_pos (by omega), if_pos (by omega), Int.toNat_natCast]
  exact toW_loop L [] k (by simpa using hl) hr hk
theorem toDisk_eq (b : List Int) (L : List LW) (hb : b.length * 1 ≤ 140737488351232) (hl : L.length * 32 ≤ 140737488351232) (hr : ∀ r ∈ L, r.f1.length * 1 ≤ 140737488351232) {k : Nat} (hk : b.length + 2 * wMax L < k) :
    laws_toDisk.f k b L = some (b, L.map cvW) := by
  have := wMax_len L
  unfold laws_toDisk.f
  rw [toByteS_eq b (by omega) (by omega), toWriteS_eq L hl hr (by omega)]; rfl
theorem szByteS_eq (l : List Int) (hl : l.length * 1 ≤ 140737488351232) (a : Int) (ha : 0 ≤ a) (hb : a ≤ 1048576) : laws_szByteS.f l a = some (if (l.length : Int) ≤ a then a - l.length else -1) := by
  unfold laws_szByteS.f
  rw [wrap_in (by omega) (by omega)]
  by_cases h : (l.length : Int) ≤ a
  · rw [if_neg (by omega), if_pos h]
  · rw [if_pos (by omega), if_neg h]
theorem szW_loop (L : List LW) (hL : L.length * 32 ≤ 140737488351232) (hr : ∀ r ∈ L, r.f1.length * 1 ≤ 140737488351232) :
    ∀ (d i k : Nat) (a : Int), i + d = L.length → d < k → 0 ≤ a → a ≤ 1048576 → ∃ t, laws_szWriteS.l0 k L a (i : Int) = some t ∧ -1 ≤ t ∧ t ≤ 1048576 ∧ (0 ≤ t → ∀ x ∈ L.drop i, (x.f1.length : Int) ≤ 1048576) := by
  intro d
  induction d with
  | zero =>
    intro i k a hi hk a0 a1
    obtain ⟨k, rfl⟩ : ∃ m, k = m + 1 := ⟨k - 1, by omega⟩
    simp only [laws_szWriteS.l0]; rw [if_neg (by omega)]; refine ⟨_, rfl, by omega, a1, fun _ x hx => ?_⟩
    rw [List.drop_eq_nil_of_le (by omega)] at hx; cases hx
  | succ d ih =>
    intro i k a hi hk a0 a1
    obtain ⟨k, rfl⟩ : ∃ m, k = m + 1 := ⟨k - 1, by omega⟩
    simp only [laws_szWriteS.l0]
    have hm := hr _ (getDin (z := z115) (show i < L.length by omega))
    rw [if_pos (by omega), if_pos (by omega)]
    simp only [rd_T115, Int.toNat_natCast, laws_szWrite.f]
    rw [szByteS_eq _ hm a a0 a1]; simp only [Option.bind_some]
    by_cases h : ((L.getD i z115).f1.length : Int) ≤ a
    · rw [if_pos h, if_neg (by omega)]; simp only [Option.bind_some]; rw [if_neg (by omega), show wrap64 ((i : Int) + 1) = ((i + 1 : Nat) : Int) by rw [wrap_in (by omega) (by omega)]; omega]
      obtain ⟨t, e, t0, t1, hx⟩ := ih (i + 1) k _ (by omega) (by omega) (by omega) (by omega : (a - ((L.getD i z115).f1.length : Int)) ≤ 1048576)
      refine ⟨t, e, t0, t1, fun h0 x hxx => ?_⟩
      rw [dropAt z115 L i (by omega)] at hxx
      rcases List.mem_cons.1 hxx with rfl | h2
      · omega
      · exact hx h0 x h2
    · rw [if_neg h, if_pos (by decide)]; simp only [Option.bind_some]; rw [if_pos (by decide)]; exact ⟨_, rfl, by omega, by omega, fun h0 => absurd h0 (by decide)⟩
theorem szDisk_some (b : List Int) (L : List LW) (hb : b.length * 1 ≤ 140737488351232) (hL : L.length * 32 ≤ 140737488351232) (hr : ∀ r ∈ L, r.f1.length * 1 ≤ 140737488351232) (a : Int) (a0 : 0 ≤ a) (a1 : a ≤ 1048576) {k : Nat} (hk : L.length < k) :
    ∃ t, laws_szDisk.f k b L a = some t ∧ -1 ≤ t ∧ t ≤ 1048576 ∧ (0 ≤ t → (b.length : Int) ≤ 1048576 ∧ (L.length : Int) ≤ 1048576 ∧ ∀ x ∈ L, (x.f1.length : Int) ≤ 1048576) := by
  unfold laws_szDisk.f laws_szWriteS.f
  rw [szByteS_eq b hb a a0 a1]; simp only [Option.bind_some]
  by_cases h : (b.length : Int) ≤ a
  · rw [if_pos h, if_neg (by omega), wrap_in (by omega) (by omega)]
    by_cases h2 : a - (b.length : Int) - (L.length : Int) < 0
    · rw [if_pos h2]; simp only [Option.bind_some]; rw [if_pos (by decide)]; exact ⟨-1, rfl, by omega, by omega, fun h0 => absurd h0 (by decide)⟩
    · rw [if_neg h2]
      obtain ⟨t, e, t0, t1, hx⟩ := szW_loop L hL hr L.length 0 k (a - b.length - L.length) (by omega) hk (by omega) (by omega)
      rw [show ((0 : Nat) : Int) = 0 from rfl] at e
      rw [e]; simp only [Option.bind_some]
      split
      · exact ⟨-1, rfl, by omega, by omega, fun h0 => absurd h0 (by decide)⟩
      · exact ⟨t, rfl, t0, t1, fun h0 => ⟨by omega, by omega, by simpa using hx h0⟩⟩
  · rw [if_neg h, if_pos (by decide)]; exact ⟨-1, rfl, by omega, by omega, fun h0 => absurd h0 (by decide)⟩
theorem eqB2_loop (l m : List Int) (he : l.length = m.length) (hl : l.length ≤ 140737488351232) : ∀ (d i f : Nat), i + d = l.length → d < f → laws_eqByteS.l0 f l m (i : Int) = some (decide (l.drop i = m.drop i)) := by
  intro d
  induction d with
  | zero =>
    intro i f hi hf
    obtain ⟨f, rfl⟩ : ∃ m, f = m + 1 := ⟨f - 1, by omega⟩
    simp only [laws_eqByteS.l0]; rw [if_neg (by omega), List.drop_eq_nil_of_le (by omega), List.drop_eq_nil_of_le (by omega)]; simp
  | succ d ih =>
    intro i f hi hf
    obtain ⟨f, rfl⟩ : ∃ m, f = m + 1 := ⟨f - 1, by omega⟩
    simp only [laws_eqByteS.l0]
    have el : rd l (i : Int) = l.getD i 0 := by unfold rd; rw [Int.toNat_natCast]
    have em : rd m (i : Int) = m.getD i 0 := by unfold rd; rw [Int.toNat_natCast]
    rw [if_pos (by omega), if_pos (by omega), if_pos (by omega), dropAt 0 l i (by omega), dropAt 0 m i (by omega)]
    by_cases h : l.getD i 0 = m.getD i 0
    · rw [if_pos (show rd l (i : Int) = rd m (i : Int) by rw [el, em]; exact h), show wrap64 ((i : Int) + 1) = ((i + 1 : Nat) : Int) by rw [wrap_in (by omega) (by omega)]; omega, ih (i + 1) f (by omega) (by omega), h]; simp
    · rw [if_neg (show ¬ rd l (i : Int) = rd m (i : Int) by rw [el, em]; exact h), decide_eq_false (fun q => h (List.cons.inj q).1)]
theorem eqByteS_dec (l m : List Int) (hl : l.length ≤ 140737488351232) {f : Nat} (hf : l.length < f) : laws_eqByteS.f f l m = some (decide (l = m)) := by
  unfold laws_eqByteS.f
  by_cases h : l.length = m.length
  · rw [if_pos (by omega)]
    have e := eqB2_loop l m h hl l.length 0 f (by omega) hf
    simpa using e
  · rw [if_neg (by omega), decide_eq_false (fun q => h (by rw [q]))]
theorem eqW_loop (G : List IW) (hm : G.length ≤ 140737488351232) (hr : ∀ r ∈ G, r.f1.length ≤ 140737488351232) : ∀ (d i k : Nat), i + d = G.length → d + vMax G < k → laws_eqWriteS.l0 k G G (i : Int) = some true := by
  intro d
  induction d with
  | zero =>
    intro i k hi hk
    obtain ⟨k, rfl⟩ : ∃ m, k = m + 1 := ⟨k - 1, by omega⟩
    simp only [laws_eqWriteS.l0]; rw [if_neg (by omega)]
  | succ d ih =>
    intro i k hi hk
    obtain ⟨k, rfl⟩ : ∃ m, k = m + 1 := ⟨k - 1, by omega⟩
    have hb := vMax_le G i
    simp only [laws_eqWriteS.l0]
    have ex : rd_T96 G (i : Int) = G.getD i z96 := by unfold rd_T96; rw [Int.toNat_natCast]
    rw [if_pos (by omega), if_pos (by omega), if_pos (by omega), ex]
    unfold laws_eqWrite.f
    rw [if_pos rfl, eqByteS_dec _ _ (hr _ (getDin (z := z96) (show i < G.length by omega))) (by omega)]
    simp only [Option.bind_some, decide_true, if_true]
    rw [show wrap64 ((i : Int) + 1) = ((i + 1 : Nat) : Int) by rw [wrap_in (by omega) (by omega)]; omega]
    exact ih (i + 1) k (by omega) (by omega)
theorem eqDisk_refl (b : List Int) (G : List IW) (hb : b.length ≤ 140737488351232) (hm : G.length ≤ 140737488351232) (hr : ∀ r ∈ G, r.f1.length ≤ 140737488351232) {k : Nat} (hk : b.length + 2 * vMax G + 2 < k) : laws_eqDisk.f k b G b G = some true := by
  have := vMax_len G
  unfold laws_eqDisk.f laws_eqWriteS.f
  rw [eqByteS_dec b b hb (by omega)]; simp only [Option.bind_some, decide_true, if_true]
  have e := eqW_loop G hm hr G.length 0 k (by omega) (by omega)
  rw [show ((0 : Nat) : Int) = 0 from rfl] at e
  rw [e]; rfl
def wOk (n : Nat) (x : IW) : Bool := decide (0 ≤ x.f0 ∧ x.f0 < (n : Int)) && decide (x.f1.length = 64)
def dOk (b : List Int) (L : List IW) : Bool := decide (b.length % 64 = 0 ∧ 64 ≤ b.length ∧ b.length ≤ 25600) && L.all (wOk (b.length / 64))
theorem specOk_loop (b : List Int) (hb : b.length ≤ 25600) (hb1 : 64 ≤ b.length) (L : List IW) (hL : L.length ≤ 140737488351232) : ∀ (d i k : Nat), i + d = L.length → d < k →
    spec_DiskOk.l0 k (i : Int) b L = some ((L.drop i).all (wOk (b.length / 64))) := by
  intro d
  induction d with
  | zero =>
    intro i k hi hk
    obtain ⟨k, rfl⟩ : ∃ m, k = m + 1 := ⟨k - 1, by omega⟩
    simp only [spec_DiskOk.l0]; rw [if_neg (by omega), List.drop_eq_nil_of_le (by omega)]; rfl
  | succ d ih =>
    intro i k hi hk
    obtain ⟨k, rfl⟩ : ∃ m, k = m + 1 := ⟨k - 1, by omega⟩
    simp only [spec_DiskOk.l0, spec_l11Many.f, spec_l1In_eq, Option.bind_some]
    have ex : rd_T96 L (i : Int) = L.getD i z96 := by unfold rd_T96; rw [Int.toNat_natCast]
    rw [if_pos (by omega), if_pos (by omega), ex, dropAt z96 L i (by omega), List.all_cons, wrap_in (x := (b.length : Int) / 64) (by omega) (by omega), wrap_in (x := (b.length : Int) / 64 - 1) (by omega) (by omega),
      show wrap64 ((i : Int) + 1) = ((i + 1 : Nat) : Int) by rw [wrap_in (by omega) (by omega)]; omega, ih (i + 1) k (by omega) (by omega)]
    generalize L.getD i z96 = x
    by_cases h1 : 0 ≤ x.f0 ∧ x.f0 < ((b.length / 64 : Nat) : Int)
    · have : (decide (0 ≤ x.f0) && decide (x.f0 ≤ (b.length : Int) / 64 - 1)) = true := by rw [Bool.and_eq_true, decide_eq_true_eq, decide_eq_true_eq]; omega
      rw [if_pos this]
      by_cases h2 : x.f1.length = 64
      · rw [if_pos (by omega)]; unfold wOk; rw [decide_eq_true h1, decide_eq_true h2]; simp
      · rw [if_neg (by omega)]; unfold wOk; rw [decide_eq_false h2]; simp
    · have : ¬ (decide (0 ≤ x.f0) && decide (x.f0 ≤ (b.length : Int) / 64 - 1)) = true := by rw [Bool.and_eq_true, decide_eq_true_eq, decide_eq_true_eq]; omega
      rw [if_neg this]; unfold wOk; rw [decide_eq_false h1]; simp
theorem specOk_eq (b : List Int) (L : List IW) (hb : b.length ≤ 140737488351232) (hL : L.length ≤ 140737488351232) {k : Nat} (hk : L.length + 2 < k) : spec_DiskOk.f k b L = some (dOk b L) := by
  obtain ⟨k, rfl⟩ : ∃ m, k = m + 1 := ⟨k - 1, by omega⟩
  unfold spec_DiskOk.f
  by_cases h : b.length % 64 = 0 ∧ 64 ≤ b.length ∧ b.length ≤ 25600
  · have hd : dOk b L = L.all (wOk (b.length / 64)) := by unfold dOk; rw [decide_eq_true h, Bool.true_and]
    have e := specOk_loop b h.2.2 h.2.1 L hL L.length 0 k (by omega) (by omega)
    rw [show ((0 : Nat) : Int) = 0 from rfl, List.drop_zero] at e
    have ht : (decide ((1 : Int) ≤ (b.length : Int) / 64) && decide ((b.length : Int) / 64 ≤ 400)) = true := by rw [Bool.and_eq_true, decide_eq_true_eq, decide_eq_true_eq]; omega
    rw [hd, if_pos (show ((b.length : Int) % 64) = 0 by omega)]
    rw [show spec_l11Many.f b L = some ((b.length : Int) / 64) by unfold spec_l11Many.f; rw [wrap_in (by omega) (by omega)]]
    rw [Option.bind_some, spec_l1In_eq, Option.bind_some, ht]
    unfold spec_DiskOk.j0
    exact e
  · have hd : dOk b L = false := by unfold dOk; rw [decide_eq_false h, Bool.false_and]
    rw [hd]
    by_cases h1 : b.length % 64 = 0
    · have ht : (decide ((1 : Int) ≤ (b.length : Int) / 64) && decide ((b.length : Int) / 64 ≤ 400)) = false := by rw [Bool.and_eq_false_iff, decide_eq_false_iff_not, decide_eq_false_iff_not]; omega
      rw [if_pos (show ((b.length : Int) % 64) = 0 by omega)]
      rw [show spec_l11Many.f b L = some ((b.length : Int) / 64) by unfold spec_l11Many.f; rw [wrap_in (by omega) (by omega)]]
      rw [Option.bind_some, spec_l1In_eq, Option.bind_some, ht]
      unfold spec_DiskOk.j0
      rfl
    · rw [if_neg (by omega)]
      simp only [spec_DiskOk.j0, if_true]
theorem implOk_loop (b : List Int) (hb : b.length ≤ 25600) (hb1 : 64 ≤ b.length) (L : List IW) (hL : L.length ≤ 140737488351232) : ∀ (d i k : Nat), i + d = L.length → d < k →
    impl_DiskOk.l0 k b L (L.length : Int) (i : Int) = some ((L.drop i).all (wOk (b.length / 64))) := by
  intro d
  induction d with
  | zero =>
    intro i k hi hk
    obtain ⟨k, rfl⟩ : ∃ m, k = m + 1 := ⟨k - 1, by omega⟩
    simp only [impl_DiskOk.l0]; rw [if_neg (by omega), List.drop_eq_nil_of_le (by omega)]; rfl
  | succ d ih =>
    intro i k hi hk
    obtain ⟨k, rfl⟩ : ∃ m, k = m + 1 := ⟨k - 1, by omega⟩
    simp only [impl_DiskOk.l0, impl_Disk_isSector.f, impl_Disk_sectors.f, impl_inRange_eq, Option.bind_some]
    have ex : rd_T96 L (i : Int) = L.getD i z96 := by unfold rd_T96; rw [Int.toNat_natCast]
    rw [if_pos (by omega), if_pos (by omega), if_pos (by omega), ex, dropAt z96 L i (by omega), List.all_cons, wrap_in (x := (b.length : Int) / 64) (by omega) (by omega), wrap_in (x := (b.length : Int) / 64 - 1) (by omega) (by omega),
      show wrap64 ((i : Int) + 1) = ((i + 1 : Nat) : Int) by rw [wrap_in (by omega) (by omega)]; omega, ih (i + 1) k (by omega) (by omega)]
    generalize L.getD i z96 = x
    by_cases h1 : 0 ≤ x.f0 ∧ x.f0 < ((b.length / 64 : Nat) : Int)
    · have : (decide (0 ≤ x.f0) && decide (x.f0 ≤ (b.length : Int) / 64 - 1)) = true := by rw [Bool.and_eq_true, decide_eq_true_eq, decide_eq_true_eq]; omega
      rw [if_pos this]
      by_cases h2 : x.f1.length = 64
      · rw [if_pos (by omega)]; unfold wOk; rw [decide_eq_true h1, decide_eq_true h2]; simp
      · rw [if_neg (by omega)]; unfold wOk; rw [decide_eq_false h2]; simp
    · have : ¬ (decide (0 ≤ x.f0) && decide (x.f0 ≤ (b.length : Int) / 64 - 1)) = true := by rw [Bool.and_eq_true, decide_eq_true_eq, decide_eq_true_eq]; omega
      rw [if_neg this]; unfold wOk; rw [decide_eq_false h1]; simp
theorem implOk_eq (b : List Int) (L : List IW) (hb : b.length ≤ 140737488351232) (hL : L.length ≤ 140737488351232) {k : Nat} (hk : L.length + 2 < k) : impl_DiskOk.f k b L = some (dOk b L) := by
  obtain ⟨k, rfl⟩ : ∃ m, k = m + 1 := ⟨k - 1, by omega⟩
  unfold impl_DiskOk.f
  by_cases h : b.length % 64 = 0 ∧ 64 ≤ b.length ∧ b.length ≤ 25600
  · have hd : dOk b L = L.all (wOk (b.length / 64)) := by unfold dOk; rw [decide_eq_true h, Bool.true_and]
    have e := implOk_loop b h.2.2 h.2.1 L hL L.length 0 k (by omega) (by omega)
    rw [show ((0 : Nat) : Int) = 0 from rfl, List.drop_zero] at e
    have ht : (decide ((1 : Int) ≤ (b.length : Int) / 64) && decide ((b.length : Int) / 64 ≤ 400)) = true := by rw [Bool.and_eq_true, decide_eq_true_eq, decide_eq_true_eq]; omega
    rw [hd, if_pos (show ((b.length : Int) % 64) = 0 by omega)]
    rw [show impl_Disk_sectors.f b = some ((b.length : Int) / 64) by unfold impl_Disk_sectors.f; rw [wrap_in (by omega) (by omega)]]
    rw [Option.bind_some, impl_inRange_eq, Option.bind_some, ht]
    unfold impl_DiskOk.j0
    exact e
  · have hd : dOk b L = false := by unfold dOk; rw [decide_eq_false h, Bool.false_and]
    rw [hd]
    by_cases h1 : b.length % 64 = 0
    · have ht : (decide ((1 : Int) ≤ (b.length : Int) / 64) && decide ((b.length : Int) / 64 ≤ 400)) = false := by rw [Bool.and_eq_false_iff, decide_eq_false_iff_not, decide_eq_false_iff_not]; omega
      rw [if_pos (show ((b.length : Int) % 64) = 0 by omega)]
      rw [show impl_Disk_sectors.f b = some ((b.length : Int) / 64) by unfold impl_Disk_sectors.f; rw [wrap_in (by omega) (by omega)]]
      rw [Option.bind_some, impl_inRange_eq, Option.bind_some, ht]
      unfold impl_DiskOk.j0
      rfl
    · rw [if_neg (by omega)]
      simp only [impl_DiskOk.j0, if_true]
/-! Marks of disks. -/
def cntQ : List IW → Int
  | [] => 0
  | x :: t => 1 + (x.f1.length : Int) + cntQ t
theorem cntQ_nn : ∀ L, 0 ≤ cntQ L
  | [] => by simp [cntQ]
  | x :: t => by have := cntQ_nn t; simp only [cntQ]; omega
theorem cntQ_le (M : Nat) : ∀ L : List IW, (∀ x ∈ L, x.f1.length ≤ M) → cntQ L ≤ (L.length : Int) * ((M : Int) + 1)
  | [], _ => by simp [cntQ]
  | x :: t, h => by
    have := cntQ_le M t (fun y hy => h y (by simp [hy]))
    have hx := h x (by simp)
    simp only [cntQ, List.length_cons]
    have e : (((t.length + 1 : Nat) : Int)) * ((M : Int) + 1) = (t.length : Int) * ((M : Int) + 1) + ((M : Int) + 1) := by
      rw [show ((t.length + 1 : Nat) : Int) = (t.length : Int) + 1 by omega, Int.add_mul, Int.one_mul]
    omega
def markQ : Int → List IW → List IW
  | _, [] => []
  | k, x :: t => ⟨k, mkB (k + 1) x.f1.length⟩ :: markQ (k + 1 + (x.f1.length : Int)) t
theorem setMidW (P : List IW) (v x : IW) (r : List IW) : (P ++ x :: r).set P.length v = (P ++ [v]) ++ r := by
  rw [List.set_append_right _ _ (Nat.le_refl _), Nat.sub_self, List.append_assoc]; rfl
theorem markW_loop : ∀ (R P : List IW) (k : Int) (f : Nat), P.length + R.length ≤ 2097152 → (∀ x ∈ R, x.f1.length ≤ 1048576) → 0 ≤ k → k + cntQ R ≤ 1152921504606846976 → vMax R < f →
    laws_markWriteS.l0 f (P ++ R) k (P.length : Int) = some (k + cntQ R, P ++ markQ k R)
  | [], P, k, f, _, _, _, _, hf => by
    obtain ⟨f, rfl⟩ : ∃ m, f = m + 1 := ⟨f - 1, by omega⟩
    simp only [laws_markWriteS.l0, List.append_nil]
    rw [if_neg (by omega)]
    simp [markQ, cntQ]
  | x :: r, P, k, f, hl, hr, h0, h1, hf => by
    rw [List.length_cons] at hl
    simp only [vMax] at hf
    simp only [cntQ] at h1
    have hn := cntQ_nn r
    have hx := hr x (by simp)
    obtain ⟨f, rfl⟩ : ∃ m, f = m + 1 := ⟨f - 1, by omega⟩
    simp only [laws_markWriteS.l0]
    have ex : rd_T96 (P ++ x :: r) (P.length : Int) = x := by unfold rd_T96; rw [Int.toNat_natCast]; exact getDat _ P x r
    rw [if_pos (by rw [List.length_append, List.length_cons]; omega), if_pos (by omega), ex, show wrap64 (k + 1) = k + 1 from wrap_in (by omega) (by omega),
      markByteS_eq x.f1 (k + 1) (by omega) (by omega) (by omega) (by omega), Option.bind_some, Int.toNat_natCast, setMidW]
    show laws_markWriteS.l0 f ((P ++ [(⟨k, mkB (k + 1) x.f1.length⟩ : IW)]) ++ r) (k + 1 + (x.f1.length : Int)) (wrap64 ((P.length : Int) + 1)) = _
    rw [show wrap64 ((P.length : Int) + 1) = ((P ++ [(⟨k, mkB (k + 1) x.f1.length⟩ : IW)]).length : Int) by rw [wrap_in (by omega) (by omega), List.length_append, List.length_singleton]; omega]
    rw [markW_loop r (P ++ [(⟨k, mkB (k + 1) x.f1.length⟩ : IW)]) (k + 1 + (x.f1.length : Int)) f (by rw [List.length_append, List.length_singleton]; omega) (fun y hy => hr y (by simp [hy])) (by omega) (by omega) (by omega)]
    simp only [markQ, cntQ, List.append_assoc, List.singleton_append, Option.some.injEq, Prod.mk.injEq, and_true]; omega
theorem markDisk_eq (b : List Int) (L : List IW) (k : Int) (hb : b.length ≤ 1048576) (hL : L.length ≤ 2097152) (hr : ∀ x ∈ L, x.f1.length ≤ 1048576) (h0 : 0 ≤ k) (h1 : k ≤ 1048576) {f : Nat} (hf : b.length + vMax L < f) :
    laws_markDisk.f f b L k = some (k + (b.length : Int) + cntQ L, mkB k b.length, markQ (k + (b.length : Int)) L) := by
  have hc := cntQ_le 1048576 L hr
  have hm : (L.length : Int) * ((1048576 : Nat) + 1 : Int) ≤ 2097152 * 1048577 := Int.mul_le_mul_of_nonneg_right (by omega) (by omega)
  unfold laws_markDisk.f
  rw [markByteS_eq b k (by omega) h0 (by omega) (by omega), Option.bind_some]
  have e := markW_loop L [] (k + (b.length : Int)) f (by simpa using hL) hr (by omega) (by omega) (by omega)
  rw [List.nil_append, List.nil_append] at e
  unfold laws_markWriteS.f
  show (laws_markWriteS.l0 f L (k + (b.length : Int)) 0).bind _ = _
  rw [show laws_markWriteS.l0 f L (k + (b.length : Int)) 0 = _ from e]; rfl
theorem clone_eq (l : List Int) (h : l.length ≤ 140737488351232) : slices_Clone_byte_byte.f l = some l := by
  unfold slices_Clone_byte_byte.f
  rw [Option.bind_some, if_pos (by simp; omega), List.nil_append]
/-- What is read last of the writes to a sector; d without one. -/
def lastW (at_ : Int) (d : List Int) (L : List IW) : List Int := L.foldl (fun acc x => if x.f0 = at_ then x.f1 else acc) d
def secB (b : List Int) (at_ : Int) : List Int := (b.take ((at_ + 1) * 64).toNat).drop (at_ * 64).toNat
def rdOk (b : List Int) (L : List IW) (at_ : Int) : Bool := dOk b L && decide (0 ≤ at_ ∧ at_ < ((b.length / 64 : Nat) : Int))
def readM (b : List Int) (L : List IW) (at_ : Int) : List Int := if rdOk b L at_ = true then lastW at_ (secB b at_) L else []
theorem lastW_len (at_ : Int) (n : Nat) : ∀ (L : List IW) (d : List Int), d.length = 64 → L.all (wOk n) = true → (lastW at_ d L).length = 64
  | [], d, h, _ => h
  | x :: t, d, h, ha => by
    rw [List.all_cons, Bool.and_eq_true] at ha
    have hx : x.f1.length = 64 := by have := ha.1; unfold wOk at this; rw [Bool.and_eq_true, decide_eq_true_eq, decide_eq_true_eq] at this; exact this.2
    show (lastW at_ (if x.f0 = at_ then x.f1 else d) t).length = 64
    exact lastW_len at_ n t _ (by split <;> assumption) ha.2
theorem dOk_iff {b : List Int} {L : List IW} (h : dOk b L = true) : (b.length % 64 = 0 ∧ 64 ≤ b.length ∧ b.length ≤ 25600) ∧ L.all (wOk (b.length / 64)) = true := by
  unfold dOk at h
  rw [Bool.and_eq_true, decide_eq_true_eq] at h
  exact h
theorem rdOk_iff {b : List Int} {L : List IW} {at_ : Int} (h : rdOk b L at_ = true) : dOk b L = true ∧ 0 ≤ at_ ∧ at_ < ((b.length / 64 : Nat) : Int) := by
  unfold rdOk at h
  rw [Bool.and_eq_true, decide_eq_true_eq] at h
  exact h
theorem secB_len {b : List Int} {L : List IW} {at_ : Int} (h : rdOk b L at_ = true) : (secB b at_).length = 64 := by
  obtain ⟨h1, h2, h3⟩ := rdOk_iff h
  obtain ⟨⟨h4, h5, h6⟩, _⟩ := dOk_iff h1
  unfold secB
  rw [List.length_drop, List.length_take]
  omega
theorem wAll_len {n : Nat} {L : List IW} (h : L.all (wOk n) = true) : ∀ x ∈ L, x.f1.length = 64 := fun x hx => by
  have := List.all_eq_true.1 h x hx
  unfold wOk at this
  rw [Bool.and_eq_true, decide_eq_true_eq, decide_eq_true_eq] at this
  exact this.2
theorem specRead_loop (b : List Int) (at_ : Int) (L : List IW) (hL : L.length ≤ 140737488351232) (hr : ∀ x ∈ L, x.f1.length = 64) : ∀ (d i : Nat) (k : Nat) (acc : List Int), i + d = L.length → d < k →
    spec_ReadSector.l0 k at_ acc (i : Int) b L = some (lastW at_ acc (L.drop i), true) := by
  intro d
  induction d with
  | zero =>
    intro i k acc hi hk
    obtain ⟨k, rfl⟩ : ∃ m, k = m + 1 := ⟨k - 1, by omega⟩
    simp only [spec_ReadSector.l0]; rw [if_neg (by omega), List.drop_eq_nil_of_le (by omega)]; rfl
  | succ d ih =>
    intro i k acc hi hk
    obtain ⟨k, rfl⟩ : ∃ m, k = m + 1 := ⟨k - 1, by omega⟩
    simp only [spec_ReadSector.l0]
    have ex : rd_T96 L (i : Int) = L.getD i z96 := by unfold rd_T96; rw [Int.toNat_natCast]
    have h64 := hr _ (getDin (z := z96) (show i < L.length by omega))
    rw [if_pos (by omega), if_pos (by omega), ex, dropAt z96 L i (by omega), show wrap64 ((i : Int) + 1) = ((i + 1 : Nat) : Int) by rw [wrap_in (by omega) (by omega)]; omega]
    by_cases h : (L.getD i z96).f0 = at_
    · rw [if_pos h, Option.bind_some, if_pos (show ([] : List Int).length + (L.getD i z96).f1.length < 140737488355328 from by rw [h64]; decide), List.nil_append, ih (i + 1) k _ (by omega) (by omega)]
      show _ = some (lastW at_ (if (L.getD i z96).f0 = at_ then _ else _) _, true)
      rw [if_pos h]
    · rw [if_neg h, ih (i + 1) k _ (by omega) (by omega)]
      show _ = some (lastW at_ (if (L.getD i z96).f0 = at_ then _ else _) _, true)
      rw [if_neg h]
theorem specRead_eq (b : List Int) (L : List IW) (at_ : Int) (hb : b.length ≤ 140737488351232) (hL : L.length ≤ 140737488351232) {k : Nat} (hk : L.length + 3 < k) :
    spec_ReadSector.f k b L at_ = some (readM b L at_, rdOk b L at_) := by
  obtain ⟨k, rfl⟩ : ∃ m, k = m + 1 := ⟨k - 1, by omega⟩
  unfold spec_ReadSector.f
  rw [specOk_eq b L hb hL (by omega), Option.bind_some]
  by_cases h1 : dOk b L = true
  · obtain ⟨⟨h4, h5, h6⟩, h7⟩ := dOk_iff h1
    rw [if_pos h1, show spec_l11Many.f b L = some ((b.length : Int) / 64) by unfold spec_l11Many.f; rw [wrap_in (by omega) (by omega)], Option.bind_some, spec_l1In_eq, Option.bind_some,
      show wrap64 ((b.length : Int) / 64 - 1) = (b.length : Int) / 64 - 1 from wrap_in (by omega) (by omega)]
    by_cases h2 : 0 ≤ at_ ∧ at_ < ((b.length / 64 : Nat) : Int)
    · have hr : rdOk b L at_ = true := by unfold rdOk; rw [h1, decide_eq_true h2]; rfl
      have ht : (decide (0 ≤ at_) && decide (at_ ≤ (b.length : Int) / 64 - 1)) = true := by rw [Bool.and_eq_true, decide_eq_true_eq, decide_eq_true_eq]; omega
      rw [ht, show readM b L at_ = lastW at_ (secB b at_) L from by unfold readM; rw [if_pos hr], hr]
      have hs := secB_len hr
      rw [spec_ReadSector.j0]
      rw [if_neg (by decide), Option.bind_some, show wrap64 (at_ * 64) = at_ * 64 from wrap_in (by omega) (by omega), show wrap64 (at_ + 1) = at_ + 1 from wrap_in (by omega) (by omega), show wrap64 ((at_ + 1) * 64) = (at_ + 1) * 64 from wrap_in (by omega) (by omega),
        if_pos (by omega), if_pos (by omega), if_pos (by omega)]
      rw [if_pos (show ([] : List Int).length + (List.drop (at_ * 64).toNat (List.take ((at_ + 1) * 64).toNat b)).length < 140737488355328 from by rw [show List.drop (at_ * 64).toNat (List.take ((at_ + 1) * 64).toNat b) = secB b at_ from rfl, hs]; decide), List.nil_append]
      have e := specRead_loop b at_ L hL (wAll_len h7) L.length 0 k (secB b at_) (by omega) (by omega)
      rw [show ((0 : Nat) : Int) = 0 from rfl, List.drop_zero] at e
      exact e
    · have hr : rdOk b L at_ = false := by unfold rdOk; rw [decide_eq_false h2, Bool.and_false]
      have ht : (decide (0 ≤ at_) && decide (at_ ≤ (b.length : Int) / 64 - 1)) = false := by rw [Bool.and_eq_false_iff, decide_eq_false_iff_not, decide_eq_false_iff_not]; omega
      rw [ht, show readM b L at_ = [] from by unfold readM; rw [if_neg (by rw [hr]; decide)], hr]
      rw [spec_ReadSector.j0]
      rw [if_pos (by decide)]
  · have hr : rdOk b L at_ = false := by unfold rdOk; rw [Bool.eq_false_iff.2 h1, Bool.false_and]
    rw [if_neg h1, show readM b L at_ = [] from by unfold readM; rw [if_neg (by rw [hr]; decide)], hr]
    rw [spec_ReadSector.j0]
    rw [if_pos rfl]
theorem lastW_snoc (at_ : Int) (d : List Int) (L : List IW) (x : IW) : lastW at_ d (L ++ [x]) = if x.f0 = at_ then x.f1 else lastW at_ d L := by
  unfold lastW; rw [List.foldl_append]; rfl
theorem implRead_loop (b : List Int) (at_ : Int) (L : List IW) (hL : L.length ≤ 140737488351232) (hr : ∀ x ∈ L, x.f1.length = 64) (h0 : 0 ≤ at_) (h1 : at_ < ((b.length / 64 : Nat) : Int)) (hb : b.length ≤ 25600) : ∀ (n : Nat) (k : Nat), n ≤ L.length → n < k →
    impl_ReadSector.l0 k at_ ((n : Int) - 1) b L = some (lastW at_ (secB b at_) (L.take n), true) := by
  intro n
  induction n with
  | zero =>
    intro k hn hk
    obtain ⟨k, rfl⟩ : ∃ m, k = m + 1 := ⟨k - 1, by omega⟩
    simp only [impl_ReadSector.l0]
    have hs : (secB b at_).length ≤ 140737488351232 := by unfold secB; rw [List.length_drop, List.length_take]; omega
    rw [if_neg (by omega), show wrap64 (at_ * 64) = at_ * 64 from wrap_in (by omega) (by omega), show wrap64 (at_ + 1) = at_ + 1 from wrap_in (by omega) (by omega), show wrap64 ((at_ + 1) * 64) = (at_ + 1) * 64 from wrap_in (by omega) (by omega),
      if_pos (by omega), if_pos (by omega), if_pos (by omega)]
    rw [show slices_Clone_byte_byte.f (List.drop (at_ * 64).toNat (List.take ((at_ + 1) * 64).toNat b)) = some (secB b at_) from clone_eq _ hs]
    rfl
  | succ n ih =>
    intro k hn hk
    obtain ⟨k, rfl⟩ : ∃ m, k = m + 1 := ⟨k - 1, by omega⟩
    simp only [impl_ReadSector.l0]
    have ei : (((n + 1 : Nat) : Int) - 1) = (n : Int) := by omega
    have ex : rd_T96 L (n : Int) = L.getD n z96 := by unfold rd_T96; rw [Int.toNat_natCast]
    have h64 := hr _ (getDin (z := z96) (show n < L.length by omega))
    have et : L.take (n + 1) = L.take n ++ [L.getD n z96] := by
      rw [List.take_add_one, List.getD_eq_getElem?_getD, List.getElem?_eq_getElem (show n < L.length by omega)]; rfl
    rw [ei, if_pos (by omega), if_pos (by omega), if_pos (by omega), ex, et, lastW_snoc]
    by_cases h : (L.getD n z96).f0 = at_
    · rw [if_pos h, if_pos h, clone_eq _ (by omega)]; rfl
    · rw [if_neg h, if_neg h, show wrap64 ((n : Int) - 1) = (n : Int) - 1 from wrap_in (by omega) (by omega), ih k (by omega) (by omega)]
theorem implRead_eq (b : List Int) (L : List IW) (at_ : Int) (hb : b.length ≤ 140737488351232) (hL : L.length ≤ 140737488351232) {k : Nat} (hk : L.length + 3 < k) :
    impl_ReadSector.f k b L at_ = some (readM b L at_, rdOk b L at_) := by
  obtain ⟨k, rfl⟩ : ∃ m, k = m + 1 := ⟨k - 1, by omega⟩
  unfold impl_ReadSector.f
  have hi : impl_Disk_isSector.f b at_ = some (decide (0 ≤ at_) && decide (at_ ≤ (b.length : Int) / 64 - 1)) := by
    unfold impl_Disk_isSector.f
    rw [show impl_Disk_sectors.f b = some ((b.length : Int) / 64) by unfold impl_Disk_sectors.f; rw [wrap_in (by omega) (by omega)], Option.bind_some, impl_inRange_eq, Option.bind_some, show wrap64 ((b.length : Int) / 64 - 1) = (b.length : Int) / 64 - 1 from wrap_in (by omega) (by omega)]
  rw [hi, Option.bind_some]
  by_cases h2 : 0 ≤ at_ ∧ at_ < ((b.length / 64 : Nat) : Int)
  · have ht : (decide (0 ≤ at_) && decide (at_ ≤ (b.length : Int) / 64 - 1)) = true := by rw [Bool.and_eq_true, decide_eq_true_eq, decide_eq_true_eq]; omega
    rw [ht, if_pos rfl, implOk_eq b L hb hL (by omega), Option.bind_some]
    by_cases h1 : dOk b L = true
    · obtain ⟨⟨h4, h5, h6⟩, h7⟩ := dOk_iff h1
      have hr : rdOk b L at_ = true := by unfold rdOk; rw [h1, decide_eq_true h2]; rfl
      rw [h1, show readM b L at_ = lastW at_ (secB b at_) L from by unfold readM; rw [if_pos hr], hr]
      rw [impl_ReadSector.j0]
      rw [if_neg (by decide), show wrap64 ((L.length : Int) - 1) = (L.length : Int) - 1 from wrap_in (by omega) (by omega)]
      have e := implRead_loop b at_ L hL (wAll_len h7) h2.1 h2.2 h6 L.length k (Nat.le_refl _) (by omega)
      rw [List.take_length] at e
      exact e
    · have hr : rdOk b L at_ = false := by unfold rdOk; rw [Bool.eq_false_iff.2 h1, Bool.false_and]
      rw [Bool.eq_false_iff.2 h1, show readM b L at_ = [] from by unfold readM; rw [if_neg (by rw [hr]; decide)], hr]
      rw [impl_ReadSector.j0]
      rw [if_pos (by decide)]
  · have hr : rdOk b L at_ = false := by unfold rdOk; rw [decide_eq_false h2, Bool.and_false]
    have ht : (decide (0 ≤ at_) && decide (at_ ≤ (b.length : Int) / 64 - 1)) = false := by rw [Bool.and_eq_false_iff, decide_eq_false_iff_not, decide_eq_false_iff_not]; omega
    rw [ht, if_neg (by decide), show readM b L at_ = [] from by unfold readM; rw [if_neg (by rw [hr]; decide)], hr]
    rw [impl_ReadSector.j0]
    rw [if_pos rfl]
theorem u64_mod' (x : Int) : IntKind.u64.wrap x = x % 18446744073709551616 := by simp [IntKind.wrap, IntKind.bits, IntKind.signed]
/-- the four low bytes -/
def lowB (x : Int) : List Int := [x % 256, x / 256 % 256, x / 65536 % 256, x / 16777216 % 256]
theorem l8Bytes_four (k : Nat) (x : Int) : spec_l8Bytes.f (k + 5) x 4 = some (lowB x) := by
  unfold spec_l8Bytes.f
  rw [u64_mod']
  have e1 : x % 18446744073709551616 % 256 = x % 256 := by omega
  have e2 : x % 18446744073709551616 / 256 % 256 = x / 256 % 256 := by omega
  have e3 : x % 18446744073709551616 / 256 / 256 % 256 = x / 65536 % 256 := by omega
  have e4 : x % 18446744073709551616 / 256 / 256 / 256 % 256 = x / 16777216 % 256 := by omega
  have w1 : wrap64 (0 + 1) = 1 := wrap_in (by decide) (by decide)
  have w2 : wrap64 (1 + 1) = 2 := wrap_in (by decide) (by decide)
  have w3 : wrap64 (2 + 1) = 3 := wrap_in (by decide) (by decide)
  have w4 : wrap64 (3 + 1) = 4 := wrap_in (by decide) (by decide)
  unfold spec_l8Bytes.l0; rw [if_pos (by decide), if_pos (by simp), w1]
  unfold spec_l8Bytes.l0; rw [if_pos (by decide), if_pos (by simp), w2]
  unfold spec_l8Bytes.l0; rw [if_pos (by decide), if_pos (by simp), w3]
  unfold spec_l8Bytes.l0; rw [if_pos (by decide), if_pos (by simp), w4]
  unfold spec_l8Bytes.l0; rw [if_neg (by decide)]
  rw [e1, e2, e3, e4]; rfl
theorem shr_i (x : Int) {j : Nat} (hj : j ≤ 32) : shr .i64 x (IntKind.u64.wrap (wrap64 (j : Int))) = x / 2 ^ j := by
  rw [wrap_in (by omega) (by omega), u64_mod', Int.emod_eq_of_lt (by omega) (by omega)]; unfold shr; rw [Int.toNat_natCast, Nat.min_eq_left (by simp [IntKind.bits]; omega)]
theorem putLow_four (k : Nat) (l : List Int) (x : Int) (hl : l.length + 4 < 140737488355328) : impl_putLow.f (k + 5) l x 4 = some (l ++ lowB x) := by
  unfold impl_putLow.f
  have w1 : wrap64 (0 + 1) = 1 := wrap_in (by decide) (by decide)
  have w2 : wrap64 (1 + 1) = 2 := wrap_in (by decide) (by decide)
  have w3 : wrap64 (2 + 1) = 3 := wrap_in (by decide) (by decide)
  have w4 : wrap64 (3 + 1) = 4 := wrap_in (by decide) (by decide)
  have s0 : shr .i64 x (IntKind.u64.wrap (wrap64 (8 * 0))) = x := by have := shr_i x (j := 0) (by omega); simpa using this
  have s1 : shr .i64 x (IntKind.u64.wrap (wrap64 (8 * 1))) = x / 256 := shr_i x (j := 8) (by omega)
  have s2 : shr .i64 x (IntKind.u64.wrap (wrap64 (8 * 2))) = x / 65536 := shr_i x (j := 16) (by omega)
  have s3 : shr .i64 x (IntKind.u64.wrap (wrap64 (8 * 3))) = x / 16777216 := shr_i x (j := 24) (by omega)
  unfold impl_putLow.l0; rw [if_pos (by decide), if_pos (by decide +kernel), if_pos (by omega), w1, s0]
  unfold impl_putLow.l0; rw [if_pos (by decide), if_pos (by decide +kernel), if_pos (by simp; omega), w2, s1]
  unfold impl_putLow.l0; rw [if_pos (by decide), if_pos (by decide +kernel), if_pos (by simp; omega), w3, s2]
  unfold impl_putLow.l0; rw [if_pos (by decide), if_pos (by decide +kernel), if_pos (by simp; omega), w4, s3]
  unfold impl_putLow.l0; rw [if_neg (by decide)]
  simp [lowB]
def sumStep (s b : Int) : Int := ((s.toNat ^^^ (b % 4294967296).toNat : Nat) : Int) * 16777619 % 4294967296
def sumF : Int → List Int → Int
  | s, [] => s
  | s, b :: l => sumF (sumStep s b) l
theorem sumStep_in (s b : Int) : 0 ≤ sumStep s b ∧ sumStep s b < 4294967296 := by unfold sumStep; omega
theorem ofInt_nat (w : Nat) (x : Int) : (BitVec.ofInt w x).toNat = (x % (2 ^ w : Nat)).toNat := BitVec.toNat_ofInt x
theorem xor32 (s b : Int) (h0 : 0 ≤ s) (h1 : s < 4294967296) : Go.bits .xor .u32 s (b % 4294967296) = ((s.toNat ^^^ (b % 4294967296).toNat : Nat) : Int) := by
  have hlt : s.toNat ^^^ (b % 4294967296).toNat < 2 ^ 32 := Nat.xor_lt_two_pow (by omega) (by omega)
  show IntKind.u32.wrap (((BitVec.ofInt 32 s ^^^ BitVec.ofInt 32 (b % 4294967296)).toNat : Nat) : Int) = _
  rw [BitVec.toNat_xor, ofInt_nat, ofInt_nat]
  rw [show s % ((2 ^ 32 : Nat) : Int) = s from Int.emod_eq_of_lt h0 (by omega), show b % 4294967296 % ((2 ^ 32 : Nat) : Int) = b % 4294967296 from by omega]
  simp only [IntKind.wrap, IntKind.bits, IntKind.signed]
  generalize (s.toNat ^^^ (b % 4294967296).toNat) = z at *
  simp; omega
theorem xor64 (s b : Int) (h0 : 0 ≤ s) (h1 : s < 4294967296) : Go.bits .xor .u64 s (IntKind.u64.wrap b) = ((s.toNat ^^^ (b % 18446744073709551616).toNat : Nat) : Int) := by
  have hlt : s.toNat ^^^ (b % 18446744073709551616).toNat < 2 ^ 64 := Nat.xor_lt_two_pow (by omega) (by omega)
  rw [u64_mod']
  show IntKind.u64.wrap (((BitVec.ofInt 64 s ^^^ BitVec.ofInt 64 (b % 18446744073709551616)).toNat : Nat) : Int) = _
  rw [BitVec.toNat_xor, ofInt_nat, ofInt_nat]
  rw [show s % ((2 ^ 64 : Nat) : Int) = s from Int.emod_eq_of_lt h0 (by omega), show b % 18446744073709551616 % ((2 ^ 64 : Nat) : Int) = b % 18446744073709551616 from by omega]
  simp only [IntKind.wrap, IntKind.bits, IntKind.signed]
  generalize (s.toNat ^^^ (b % 18446744073709551616).toNat) = z at *
  simp; omega
theorem step32 (s b : Int) (h0 : 0 ≤ s) (h1 : s < 4294967296) : (Go.bits .xor .u32 s (b % 4294967296) * 16777619) % 4294967296 = sumStep s b := by
  rw [xor32 s b h0 h1]; rfl
theorem step64 (s b : Int) (h0 : 0 ≤ s) (h1 : s < 4294967296) : Int.tmod (IntKind.u64.wrap (Go.bits .xor .u64 s (IntKind.u64.wrap b) * 16777619)) 4294967296 = sumStep s b := by
  rw [xor64 s b h0 h1, u64_mod']
  have hx : (s.toNat ^^^ (b % 18446744073709551616).toNat) % 4294967296 = s.toNat ^^^ (b % 4294967296).toNat := by
    have := Nat.xor_mod_two_pow (a := s.toNat) (b := (b % 18446744073709551616).toNat) (n := 32)
    rw [show (2 : Nat) ^ 32 = 4294967296 from rfl] at this
    rw [this, Nat.mod_eq_of_lt (show s.toNat < 4294967296 by omega)]
    congr 1
    omega
  unfold sumStep
  rw [← hx]
  generalize (s.toNat ^^^ (b % 18446744073709551616).toNat) = z
  rw [Int.tmod_eq_emod_of_nonneg (by omega)]
  omega
theorem rd_drop {l : List Int} {n : Nat} {u : Int} {r : List Int} (h : l.drop n = u :: r) : rd l (n : Int) = u := by
  unfold rd
  have := congrArg List.head? h
  rw [List.head?_drop] at this
  simp [List.getD, this]
theorem drop_succ {l : List Int} {n : Nat} {u : Int} {r : List Int} (h : l.drop n = u :: r) : l.drop (n + 1) = r := by
  have e : l.drop (n + 1) = (l.drop n).drop 1 := by rw [List.drop_drop]
  rw [e, h]; rfl
theorem specSum_loop (l : List Int) (hl : l.length < 4611686018427387904) : ∀ (r : List Int) (n : Nat) (s : Int) (k : Nat), l.drop n = r → n ≤ l.length → 0 ≤ s → s < 4294967296 → r.length < k → spec_l12Sum.l0 k l s (n : Int) = some (sumF s r) := by
  intro r
  induction r with
  | nil =>
    intro n s k hd hn h0 h1 hk
    cases k with
    | zero => simp at hk
    | succ k =>
      have : l.length - n = 0 := by rw [← List.length_drop, hd]; rfl
      unfold spec_l12Sum.l0
      rw [if_neg (by omega), wrap_in (by omega) (by omega)]; rfl
  | cons u r ih =>
    intro n s k hd hn h0 h1 hk
    cases k with
    | zero => simp at hk
    | succ k =>
      have hlen : l.length - n = r.length + 1 := by rw [← List.length_drop, hd]; rfl
      unfold spec_l12Sum.l0
      rw [if_pos (by omega), if_pos (by omega), rd_drop hd, step64 s u h0 h1, wrap_in (by omega) (by omega), show (n : Int) + 1 = ((n + 1 : Nat) : Int) from by omega]
      exact ih (n + 1) _ k (drop_succ hd) (by omega) (sumStep_in s u).1 (sumStep_in s u).2 (by simp at hk; omega)
theorem implSum_loop (l : List Int) (hl : l.length < 4611686018427387904) : ∀ (r : List Int) (n : Nat) (s : Int) (k : Nat), l.drop n = r → n ≤ l.length → 0 ≤ s → s < 4294967296 → r.length < k → impl_sumOf.l0 k s l (l.length : Int) (n : Int) = some (sumF s r) := by
  intro r
  induction r with
  | nil =>
    intro n s k hd hn h0 h1 hk
    cases k with
    | zero => simp at hk
    | succ k =>
      have : l.length - n = 0 := by rw [← List.length_drop, hd]; rfl
      unfold impl_sumOf.l0
      rw [if_neg (by omega), wrap_in (by omega) (by omega)]; rfl
  | cons u r ih =>
    intro n s k hd hn h0 h1 hk
    cases k with
    | zero => simp at hk
    | succ k =>
      have hlen : l.length - n = r.length + 1 := by rw [← List.length_drop, hd]; rfl
      unfold impl_sumOf.l0
      rw [if_pos (by omega), if_pos (by omega), if_pos (by omega), rd_drop hd, step32 s u h0 h1, wrap_in (by omega) (by omega), show (n : Int) + 1 = ((n + 1 : Nat) : Int) from by omega]
      exact ih (n + 1) _ k (drop_succ hd) (by omega) (sumStep_in s u).1 (sumStep_in s u).2 (by simp at hk; omega)
theorem specSum_eq (l : List Int) (hl : l.length < 4611686018427387904) {k : Nat} (hk : l.length < k) : spec_l12Sum.f k l = some (sumF 2166136261 l) :=
  specSum_loop l hl l 0 _ k rfl (by omega) (by decide) (by decide) hk
theorem implSum_eq (l : List Int) (hl : l.length < 4611686018427387904) {k : Nat} (hk : l.length < k) : impl_sumOf.f k l = some (sumF 2166136261 l) :=
  implSum_loop l hl l 0 _ k rfl (by omega) (by decide) (by decide) hk
/-- a log sector's bytes -/
def lsHead (e n kind : Int) (p : List Int) : List Int := lowB e ++ lowB n ++ [kind, (p.length : Int) % 256] ++ List.replicate 6 0 ++ p ++ List.replicate (44 - p.length) 0
def lsB (e n kind : Int) (p : List Int) : List Int := lsHead e n kind p ++ lowB (sumF 2166136261 (lsHead e n kind p))
theorem lsHead_len (e n kind : Int) (p : List Int) (hp : p.length ≤ 44) : (lsHead e n kind p).length = 60 := by
  simp [lsHead, lowB]; omega
theorem lsB_len (e n kind : Int) (p : List Int) (hp : p.length ≤ 44) : (lsB e n kind p).length = 64 := by
  unfold lsB; rw [List.length_append, lsHead_len _ _ _ _ hp]; rfl
theorem implSector_eq (e n kind : Int) (p : List Int) (hp : p.length ≤ 44) {k : Nat} (hk : 100 ≤ k) : impl_sector_bytes.f k e n kind p = some (lsB e n kind p) := by
  obtain ⟨k, rfl⟩ : ∃ q, k = q + 5 := ⟨k - 5, by omega⟩
  unfold impl_sector_bytes.f
  rw [putLow_four k [] e (by decide), Option.bind_some, putLow_four k _ n (by simp [lowB]), Option.bind_some, Option.bind_some]
  rw [if_pos (by simp [lowB]), Option.bind_some]
  have w1 : wrap64 (16 - ((([] ++ lowB e ++ lowB n ++ [kind, (p.length : Int) % 256] : List Int)).length : Int)) = 6 := by
    rw [show (([] ++ lowB e ++ lowB n ++ [kind, (p.length : Int) % 256] : List Int)).length = 10 from rfl]; exact wrap_in (by decide) (by decide)
  rw [w1, if_pos (by decide), if_pos (by simp [lowB]), Option.bind_some, show ((6 : Int)).toNat = 6 from rfl]
  rw [if_pos (by simp [lowB]; omega), Option.bind_some]
  have l2 : ([] ++ lowB e ++ lowB n ++ [kind, (p.length : Int) % 256] ++ List.replicate 6 0 ++ p : List Int).length = 16 + p.length := by simp [lowB]; omega
  have w2 : wrap64 (60 - ((([] ++ lowB e ++ lowB n ++ [kind, (p.length : Int) % 256] ++ List.replicate 6 0 ++ p : List Int)).length : Int)) = ((44 - p.length : Nat) : Int) := by
    rw [l2, wrap_in (by omega) (by omega)]; omega
  rw [w2, if_pos (by omega), if_pos (by rw [l2]; simp; omega), Option.bind_some, Int.toNat_natCast]
  have hh : ([] ++ lowB e ++ lowB n ++ [kind, (p.length : Int) % 256] ++ List.replicate 6 0 ++ p ++ List.replicate (44 - p.length) 0 : List Int) = lsHead e n kind p := by unfold lsHead; rw [List.nil_append]
  rw [hh, implSum_eq _ (by rw [lsHead_len _ _ _ _ hp]; omega) (by rw [lsHead_len _ _ _ _ hp]; omega), Option.bind_some, putLow_four k _ _ (by rw [lsHead_len _ _ _ _ hp]; omega), Option.bind_some]
  rfl
theorem specSector_eq (e n : Int) (m : Bool) (p : List Int) (hp : p.length ≤ 44) {k : Nat} (hk : 100 ≤ k) : spec_l12Sector.f k e n m p = some (lsB e n (if m then 1 else 2) p) := by
  obtain ⟨k, rfl⟩ : ∃ q, k = q + 5 := ⟨k - 5, by omega⟩
  unfold spec_l12Sector.f
  rw [l8Bytes_four k e, Option.bind_some, l8Bytes_four k n, Option.bind_some, if_pos (by simp [lowB]), Option.bind_some]
  have w2 : wrap64 (44 - (p.length : Int)) = ((44 - p.length : Nat) : Int) := by
    rw [wrap_in (by omega) (by omega)]; omega
  have body : ∀ kind : Int, ((some (([kind, ((p.length : Int)) % 256] : List Int) : List Int)).bind fun y149 => (if (lowB e ++ lowB n).length + y149.length < 140737488355328 then ((some ((lowB e ++ lowB n) ++ y149 : List Int)).bind fun y152 => (if y152.length + 6 < 140737488355328 then ((some (y152 ++ List.replicate 6 0 : List Int)).bind fun y155 => (if y155.length + p.length < 140737488355328 then ((some (y155 ++ p : List Int)).bind fun y158 => (if 0 ≤ (wrap64 (44 - (p.length : Int))) then (if y158.length + (wrap64 (44 - (p.length : Int)) : Int).toNat < 140737488355328 then ((some (y158 ++ List.replicate (wrap64 (44 - (p.length : Int)) : Int).toNat 0 : List Int)).bind fun y161 => ((spec_l12Sum.f (k + 5) y161).bind fun t164 => ((spec_l8Bytes.f (k + 5) t164 4).bind fun t165 => (if y161.length + t165.length < 140737488355328 then (some (y161 ++ t165)) else (none))))) else (none)) else (none))) else (none))) else (none))) else (none))) = some (lsB e n kind p) := by
    intro kind
    rw [Option.bind_some, if_pos (by simp [lowB]), Option.bind_some, if_pos (by simp [lowB]), Option.bind_some, if_pos (by simp [lowB]; omega), Option.bind_some, w2, if_pos (by omega), if_pos (by simp [lowB]; omega), Option.bind_some, Int.toNat_natCast]
    have hh : (lowB e ++ lowB n ++ [kind, (p.length : Int) % 256] ++ List.replicate 6 0 ++ p ++ List.replicate (44 - p.length) 0 : List Int) = lsHead e n kind p := rfl
    rw [hh, specSum_eq _ (by rw [lsHead_len _ _ _ _ hp]; omega) (by rw [lsHead_len _ _ _ _ hp]; omega), Option.bind_some, l8Bytes_four, Option.bind_some, if_pos (by rw [lsHead_len _ _ _ _ hp]; simp [lowB])]
    rfl
  cases m with
  | true => rw [if_pos rfl, if_pos rfl]; exact body 1
  | false => rw [if_neg (by decide), if_neg (by decide)]; exact body 2
/-- the piece of a record that its sector number i holds -/
theorem l1In_eq (a b c : Int) : spec_l1In.f a b c = some (decide (b ≤ a ∧ a ≤ c)) := by
  unfold spec_l1In.f
  by_cases h : a ≥ b
  · rw [if_pos h]; congr 1; exact decide_eq_decide.2 ⟨fun q => ⟨h, q⟩, fun q => q.2⟩
  · rw [if_neg h]; congr 1; exact (decide_eq_false (fun q => h q.1)).symm
theorem inRange_eq (a b c : Int) : impl_inRange.f a b c = some (decide (b ≤ a ∧ a ≤ c)) := by
  unfold impl_inRange.f
  by_cases h : a ≥ b
  · rw [if_pos h]; congr 1; exact decide_eq_decide.2 ⟨fun q => ⟨h, q⟩, fun q => q.2⟩
  · rw [if_neg h]; congr 1; exact (decide_eq_false (fun q => h q.1)).symm
/-- whether a log is one of a disk -/
theorem specRegion_eq {k : Nat} {b : List Int} {L : List S96} {D : Bool} (a0 a1 : Int) (hb : b.length ≤ 140737488351232) (hD : spec_DiskOk.f k b L = some D) : spec_l12Region.f k b L a0 a1 = some (D && decide (0 ≤ a0 ∧ a0 ≤ a1 ∧ a1 < ((b.length / 64 : Nat) : Int))) := by
  unfold spec_l12Region.f spec_l11Many.f
  rw [hD, Option.bind_some]
  cases D with
  | false => rfl
  | true =>
    rw [if_pos rfl, l1In_eq, Option.bind_some, wrap_in (by omega) (by omega), Option.bind_some, Bool.true_and]
    by_cases h : 0 ≤ a0 ∧ a0 ≤ a1
    · rw [if_pos (decide_eq_true h)]
      congr 1
      exact decide_eq_decide.2 ⟨fun q => ⟨h.1, h.2, by omega⟩, fun q => by omega⟩
    · rw [if_neg (by rw [decide_eq_true_eq]; exact h)]
      congr 1
      exact (decide_eq_false (fun q => h ⟨q.1, q.2.1⟩)).symm
theorem implRegion_eq {k : Nat} {b : List Int} {L : List S96} {D : Bool} (a0 a1 : Int) (hb : b.length ≤ 140737488351232) (hD : impl_DiskOk.f k b L = some D) : impl_canOpen.f k b L a0 a1 = some (D && decide (0 ≤ a0 ∧ a0 ≤ a1 ∧ a1 < ((b.length / 64 : Nat) : Int))) := by
  unfold impl_canOpen.f impl_Disk_isSector.f impl_Disk_sectors.f
  rw [Option.bind_some, inRange_eq, Option.bind_some, Option.bind_some, hD, Option.bind_some, wrap_in (x := (b.length : Int) / 64) (by omega) (by omega), wrap_in (by omega) (by omega)]
  by_cases h0 : a0 ≥ 0
  · rw [if_pos h0]
    by_cases h1 : a0 ≤ a1
    · rw [if_pos h1]
      by_cases h2 : a1 < ((b.length / 64 : Nat) : Int)
      · rw [if_pos (by rw [decide_eq_true_eq]; omega), decide_eq_true (show 0 ≤ a0 ∧ a0 ≤ a1 ∧ a1 < ((b.length / 64 : Nat) : Int) from ⟨h0, h1, h2⟩), Bool.and_true]
      · rw [if_neg (by rw [decide_eq_true_eq]; omega), decide_eq_false (fun q => h2 q.2.2), Bool.and_false]
    · rw [if_neg h1, decide_eq_false (fun q => h1 q.2.1), Bool.and_false]
  · rw [if_neg h0, decide_eq_false (fun q => h0 q.1), Bool.and_false]
/-! ### A log's sector, read -/
def okB (b : List Int) : Prop := b.length = 64 ∧ ∀ x ∈ b, 0 ≤ x ∧ x < 256
theorem okB_rd {b : List Int} (h : ∀ x ∈ b, 0 ≤ x ∧ x < 256) (i : Nat) : 0 ≤ rd b (i : Int) ∧ rd b (i : Int) < 256 := by
  unfold rd
  rw [Int.toNat_natCast, List.getD_eq_getElem?_getD]
  by_cases hi : i < b.length
  · rw [List.getElem?_eq_getElem hi]; exact h _ (List.getElem_mem hi)
  · rw [List.getElem?_eq_none (by omega)]; simp
def getL (b : List Int) (i : Nat) : Int := rd b (i : Int) + rd b ((i + 1 : Nat) : Int) * 256 + rd b ((i + 2 : Nat) : Int) * 65536 + rd b ((i + 3 : Nat) : Int) * 16777216
theorem specGet_eq {b : List Int} (hb : okB b) (i : Nat) (hi : i + 3 < 64) : spec_l12Get.f b (i : Int) = some (getL b i) := by
  obtain ⟨hl, h⟩ := hb
  have e1 : wrap64 ((i : Int) + 1) = ((i + 1 : Nat) : Int) := by rw [wrap_in (by omega) (by omega)]; omega
  have e2 : wrap64 ((i : Int) + 2) = ((i + 2 : Nat) : Int) := by rw [wrap_in (by omega) (by omega)]; omega
  have e3 : wrap64 ((i : Int) + 3) = ((i + 3 : Nat) : Int) := by rw [wrap_in (by omega) (by omega)]; omega
  have r0 := okB_rd h i; have r1 := okB_rd h (i + 1); have r2 := okB_rd h (i + 2); have r3 := okB_rd h (i + 3)
  unfold spec_l12Get.f
  rw [e1, e2, e3, if_pos (by omega), if_pos (by omega), if_pos (by omega), if_pos (by omega), if_pos (by omega), if_pos (by omega), if_pos (by omega), if_pos (by omega)]
  unfold getL
  generalize rd b (i : Int) = x0 at *; generalize rd b ((i + 1 : Nat) : Int) = x1 at *; generalize rd b ((i + 2 : Nat) : Int) = x2 at *; generalize rd b ((i + 3 : Nat) : Int) = x3 at *
  rw [wrap_in (x := x0) (by omega) (by omega), wrap_in (x := x1) (by omega) (by omega), wrap_in (x := x2) (by omega) (by omega), wrap_in (x := x3) (by omega) (by omega), wrap_in (x := x1 * 256) (by omega) (by omega), wrap_in (x := x2 * 65536) (by omega) (by omega), wrap_in (x := x3 * 16777216) (by omega) (by omega),
    wrap_in (x := x0 + x1 * 256) (by omega) (by omega), wrap_in (x := x0 + x1 * 256 + x2 * 65536) (by omega) (by omega), wrap_in (by omega) (by omega)]
theorem or_add (j : Nat) (x y : Int) (hj : j ≤ 32) (x0 : 0 ≤ x) (x1 : x < 2 ^ j) (y0 : 0 ≤ y) (y1 : y < 256) : Go.bits .or .i64 x (y * 2 ^ j) = x + y * 2 ^ j := by
  obtain ⟨a, rfl⟩ := Int.eq_ofNat_of_zero_le x0
  obtain ⟨b, rfl⟩ := Int.eq_ofNat_of_zero_le y0
  have hp : (2 : Nat) ^ j ≤ 2 ^ 32 := Nat.pow_le_pow_right (by decide) hj
  have h32 : (2 : Nat) ^ 32 = 4294967296 := rfl
  have ha : a < 2 ^ j := by exact_mod_cast x1
  have hb : b < 256 := by omega
  have hm : b * 2 ^ j ≤ 255 * 2 ^ j := Nat.mul_le_mul_right _ (by omega)
  have e : ((b : Int) * 2 ^ j) = ((b * 2 ^ j : Nat) : Int) := by simp
  have hor : a ||| (b * 2 ^ j) = a + b * 2 ^ j := by
    have := Nat.two_pow_add_eq_or_of_lt ha b
    rw [Nat.mul_comm] at this
    rw [Nat.or_comm, ← this]; omega
  rw [e]
  show IntKind.i64.wrap (((BitVec.ofInt 64 (a : Int) ||| BitVec.ofInt 64 ((b * 2 ^ j : Nat) : Int)).toNat : Nat) : Int) = _
  rw [BitVec.toNat_or, ofInt_nat, ofInt_nat]
  rw [show (a : Int) % ((2 ^ 64 : Nat) : Int) = a from Int.emod_eq_of_lt (by omega) (by omega), show ((b * 2 ^ j : Nat) : Int) % ((2 ^ 64 : Nat) : Int) = ((b * 2 ^ j : Nat) : Int) from Int.emod_eq_of_lt (by omega) (by omega), Int.toNat_natCast, Int.toNat_natCast, hor]
  rw [i64_w, wrap_in (by omega) (by omega)]; omega
theorem implGet_eq {b : List Int} (hb : okB b) (i : Nat) (hi : i + 3 < 64) : impl_getLow.f b (i : Int) = some (getL b i) := by
  obtain ⟨hl, h⟩ := hb
  have e1 : wrap64 ((i : Int) + 1) = ((i + 1 : Nat) : Int) := by rw [wrap_in (by omega) (by omega)]; omega
  have e2 : wrap64 ((i : Int) + 2) = ((i + 2 : Nat) : Int) := by rw [wrap_in (by omega) (by omega)]; omega
  have e3 : wrap64 ((i : Int) + 3) = ((i + 3 : Nat) : Int) := by rw [wrap_in (by omega) (by omega)]; omega
  have r0 := okB_rd h i; have r1 := okB_rd h (i + 1); have r2 := okB_rd h (i + 2); have r3 := okB_rd h (i + 3)
  unfold impl_getLow.f
  rw [e1, e2, e3, if_pos (by omega), if_pos (by omega), if_pos (by omega), if_pos (by omega), if_pos (by omega), if_pos (by omega), if_pos (by omega), if_pos (by omega)]
  unfold getL
  generalize rd b (i : Int) = x0 at *; generalize rd b ((i + 1 : Nat) : Int) = x1 at *; generalize rd b ((i + 2 : Nat) : Int) = x2 at *; generalize rd b ((i + 3 : Nat) : Int) = x3 at *
  rw [wrap_in (x := x0) (by omega) (by omega), wrap_in (x := x1) (by omega) (by omega), wrap_in (x := x2) (by omega) (by omega), wrap_in (x := x3) (by omega) (by omega), wrap_in (x := x1 * 256) (by omega) (by omega), wrap_in (x := x2 * 65536) (by omega) (by omega), wrap_in (x := x3 * 16777216) (by omega) (by omega)]
  have o1 := or_add 8 x0 x1 (by decide) (by omega) (by omega) (by omega) (by omega)
  have o2 := or_add 16 (x0 + x1 * 256) x2 (by decide) (by omega) (by omega) (by omega) (by omega)
  have o3 := or_add 24 (x0 + x1 * 256 + x2 * 65536) x3 (by decide) (by omega) (by omega) (by omega) (by omega)
  rw [show (2 : Int) ^ 8 = 256 from rfl] at o1; rw [show (2 : Int) ^ 16 = 65536 from rfl] at o2; rw [show (2 : Int) ^ 24 = 16777216 from rfl] at o3
  rw [o1, o2, o3]
/-- The piece that a sector holds. -/
def secPiece (b : List Int) : List Int := (b.take (16 + rd b 9).toNat).drop 16
/-- Whether the bytes are a log's sector. -/
def secIs (b : List Int) : Bool := decide (1 ≤ getL b 0 ∧ getL b 0 ≤ 1000000) && decide (rd b 9 ≤ 44) && (decide (rd b 8 = 2) || (decide (rd b 8 = 1) && decide (rd b 9 = 44))) && decide (lsB (getL b 0) (getL b 4) (rd b 8) (secPiece b) = b)
theorem secPiece_len {b : List Int} (hb : okB b) (h : rd b 9 ≤ 44) : (secPiece b).length = (rd b 9).toNat ∧ (secPiece b).length ≤ 44 := by
  have r := okB_rd hb.2 9
  have r : 0 ≤ rd b 9 ∧ rd b 9 < 256 := r
  unfold secPiece
  rw [List.length_drop, List.length_take, hb.1]; omega
theorem eqAt_loop (b c : List Int) (hb : b.length = 64) (hc : c.length = 64) (e n : Int) (m : Bool) (p : List Int) : ∀ (d i f : Nat), i + d = 64 → d < f →
    spec_l12Read.l0 f b c (i : Int) e n m p = some (if b.drop i = c.drop i then (e, n, m, p, true) else (0, 0, false, [], false)) := by
  intro d
  induction d with
  | zero =>
    intro i f hi hf
    obtain ⟨f, rfl⟩ : ∃ m, f = m + 1 := ⟨f - 1, by omega⟩
    simp only [spec_l12Read.l0]
    rw [if_neg (by omega), List.drop_eq_nil_of_le (by omega), List.drop_eq_nil_of_le (by omega), if_pos rfl]
  | succ d ih =>
    intro i f hi hf
    obtain ⟨f, rfl⟩ : ∃ m, f = m + 1 := ⟨f - 1, by omega⟩
    simp only [spec_l12Read.l0]
    rw [if_pos (by omega), if_pos (by omega), if_pos (by omega)]
    have d1 := dropAt 0 b i (by omega)
    have d2 := dropAt 0 c i (by omega)
    have r1 : rd b (i : Int) = b.getD i 0 := by unfold rd; rw [Int.toNat_natCast]
    have r2 : rd c (i : Int) = c.getD i 0 := by unfold rd; rw [Int.toNat_natCast]
    rw [d1, d2, r1, r2]
    by_cases h : b.getD i 0 = c.getD i 0
    · rw [if_pos h, show wrap64 ((i : Int) + 1) = ((i + 1 : Nat) : Int) by rw [wrap_in (by omega) (by omega)]; omega, ih (i + 1) f (by omega) (by omega)]
      congr 1
      by_cases h2 : b.drop (i + 1) = c.drop (i + 1)
      · rw [if_pos h2, if_pos (by rw [h, h2])]
      · rw [if_neg h2, if_neg (fun q => h2 (List.cons.inj q).2)]
    · rw [if_neg h, if_neg (fun q => h (List.cons.inj q).1)]
theorem eqS_loop (b c : List Int) (hb : b.length = c.length) (hc : b.length ≤ 140737488351232) : ∀ (d i f : Nat), i + d = b.length → d < f →
    slices_Equal_byte_byte.l0 f b c (b.length : Int) (i : Int) = some (decide (b.drop i = c.drop i)) := by
  intro d
  induction d with
  | zero =>
    intro i f hi hf
    obtain ⟨f, rfl⟩ : ∃ m, f = m + 1 := ⟨f - 1, by omega⟩
    simp only [slices_Equal_byte_byte.l0]
    rw [if_neg (by omega), List.drop_eq_nil_of_le (by omega), List.drop_eq_nil_of_le (by omega)]; simp
  | succ d ih =>
    intro i f hi hf
    obtain ⟨f, rfl⟩ : ∃ m, f = m + 1 := ⟨f - 1, by omega⟩
    simp only [slices_Equal_byte_byte.l0]
    rw [if_pos (by omega), if_pos (by omega), if_pos (by omega), if_pos (by omega)]
    have d1 := dropAt 0 b i (by omega)
    have d2 := dropAt 0 c i (by omega)
    have r1 : rd b (i : Int) = b.getD i 0 := by unfold rd; rw [Int.toNat_natCast]
    have r2 : rd c (i : Int) = c.getD i 0 := by unfold rd; rw [Int.toNat_natCast]
    rw [d1, d2, r1, r2]
    by_cases h : b.getD i 0 = c.getD i 0
    · rw [if_pos h, show wrap64 ((i : Int) + 1) = ((i + 1 : Nat) : Int) by rw [wrap_in (by omega) (by omega)]; omega, ih (i + 1) f (by omega) (by omega)]
      congr 1
      by_cases h2 : b.drop (i + 1) = c.drop (i + 1)
      · rw [decide_eq_true h2, decide_eq_true (by rw [h, h2])]
      · rw [decide_eq_false h2, decide_eq_false (fun q => h2 (List.cons.inj q).2)]
    · rw [if_neg h, decide_eq_false (fun q => h (List.cons.inj q).1)]
theorem eqS_eq (b c : List Int) (hb : b.length = c.length) (hc : b.length ≤ 140737488351232) {f : Nat} (hf : b.length < f) : slices_Equal_byte_byte.f f b c = some (decide (b = c)) := by
  unfold slices_Equal_byte_byte.f
  rw [if_pos (by omega)]
  exact eqS_loop b c hb hc b.length 0 f (by omega) hf
theorem specRead12_eq {b : List Int} (hb : okB b) {k : Nat} (hk : 200 ≤ k) : spec_l12Read.f k b = some (if secIs b = true then (getL b 0, getL b 4, decide (rd b 8 = 1), secPiece b, true) else (0, 0, false, [], false)) := by
  have r9 : 0 ≤ rd b 9 ∧ rd b 9 < 256 := okB_rd hb.2 9
  have r8 : 0 ≤ rd b 8 ∧ rd b 8 < 256 := okB_rd hb.2 8
  have hl := hb.1
  have g0 := specGet_eq hb 0 (by decide)
  have g4 := specGet_eq hb 4 (by decide)
  rw [show ((0 : Nat) : Int) = 0 from rfl] at g0; rw [show ((4 : Nat) : Int) = 4 from rfl] at g4
  have w9 : wrap64 (rd b 9) = rd b 9 := wrap_in (by omega) (by omega)
  have w8 : wrap64 (rd b 8) = rd b 8 := wrap_in (by omega) (by omega)
  have fal : ∀ (k : Nat) (x : Int) (m : Bool) (a c : Int), 1 ≤ k → spec_l12Read.j0 k b x true a c m = some (0, 0, false, [], false) := by
    intro k x m a c h
    obtain ⟨k, rfl⟩ : ∃ m, k = m + 1 := ⟨k - 1, by omega⟩
    simp only [spec_l12Read.j0]; rw [if_pos trivial]
  have run : ∀ (m : Bool), rd b 9 ≤ 44 → spec_l12Read.j0 k b (rd b 9) false (getL b 0) (getL b 4) m = some (if b = lsB (getL b 0) (getL b 4) (if m then 1 else 2) (secPiece b) then (getL b 0, getL b 4, m, secPiece b, true) else (0, 0, false, [], false)) := by
    intro m h9
    obtain ⟨p1, p2⟩ := secPiece_len hb h9
    obtain ⟨k, rfl⟩ : ∃ m, k = m + 1 := ⟨k - 1, by omega⟩
    simp only [spec_l12Read.j0]
    rw [if_neg (by decide), Option.bind_some, show wrap64 (16 + rd b 9) = 16 + rd b 9 from wrap_in (by omega) (by omega), if_pos (by omega), if_pos (by omega)]
    rw [show ((b.take (16 + rd b 9).toNat).drop 16) = secPiece b from rfl, if_pos (by rw [List.length_nil]; omega), List.nil_append, Option.bind_some, specSector_eq _ _ _ _ p2 (by omega), Option.bind_some]
    have := eqAt_loop b (lsB (getL b 0) (getL b 4) (if m then 1 else 2) (secPiece b)) hl (lsB_len _ _ _ _ p2) (getL b 0) (getL b 4) m (secPiece b) 64 0 k (by omega) (by omega)
    rw [List.drop_zero, List.drop_zero] at this
    exact this
  unfold spec_l12Read.f
  rw [g0, Option.bind_some, g4, Option.bind_some, if_pos (by omega), if_pos (by omega), l1In_eq, Option.bind_some, w9, w8]
  unfold secIs
  by_cases c0 : 1 ≤ getL b 0 ∧ getL b 0 ≤ 1000000
  · rw [if_pos (decide_eq_true c0), l1In_eq, Option.bind_some, decide_eq_true c0]
    by_cases c1 : 1 ≤ rd b 8 ∧ rd b 8 ≤ 2
    · rw [if_pos (decide_eq_true c1)]
      by_cases c2 : rd b 9 ≤ 44
      · rw [if_neg (by omega), decide_eq_true c2]
        by_cases c3 : rd b 8 = 1
        · rw [if_pos c3]
          by_cases c4 : rd b 9 = 44
          · rw [show (rd b 9 != 44) = false by simp [c4], show (rd b 8 == 1) = true by simp [c3], run true c2, c3, decide_eq_true c4]
            by_cases c5 : lsB (getL b 0) (getL b 4) 1 (secPiece b) = b
            · rw [if_pos (by simpa using c5.symm), if_pos (by simp [c5])]; rfl
            · rw [if_neg (by simpa using fun q => c5 (Eq.symm q)), if_neg (by simp [c5])]
          · rw [show (rd b 9 != 44) = true by simp [c4], fal _ _ _ _ _ (by omega), decide_eq_false c4, if_neg (by simp [c3])]
        · have c3' : rd b 8 = 2 := by omega
          rw [if_neg c3, show (rd b 8 == 1) = false by simp [c3], run false c2, c3']
          by_cases c5 : lsB (getL b 0) (getL b 4) 2 (secPiece b) = b
          · rw [if_pos (by simpa using c5.symm), if_pos (by simp [c5])]; rfl
          · rw [if_neg (by simpa using fun q => c5 (Eq.symm q)), if_neg (by simp [c5])]
      · rw [if_pos (by omega), fal _ _ _ _ _ (by omega), decide_eq_false c2, if_neg (by simp)]
    · rw [if_neg (by simpa using c1), fal _ _ _ _ _ (by omega), decide_eq_false (show ¬ rd b 8 = 2 by omega), decide_eq_false (show ¬ rd b 8 = 1 by omega), if_neg (by simp)]
  · rw [if_neg (by simpa using c0), fal _ _ _ _ _ (by omega), decide_eq_false c0, if_neg (by simp)]
theorem implRead12_eq {b : List Int} (hb : okB b) {k : Nat} (hk : 200 ≤ k) : impl_sectorOf.f k b = some (if secIs b = true then (getL b 0, getL b 4, rd b 8, secPiece b, true) else (0, 0, 0, [], false)) := by
  have r9 : 0 ≤ rd b 9 ∧ rd b 9 < 256 := okB_rd hb.2 9
  have r8 : 0 ≤ rd b 8 ∧ rd b 8 < 256 := okB_rd hb.2 8
  have hl := hb.1
  have g0 := implGet_eq hb 0 (by decide)
  have g4 := implGet_eq hb 4 (by decide)
  rw [show ((0 : Nat) : Int) = 0 from rfl] at g0; rw [show ((4 : Nat) : Int) = 4 from rfl] at g4
  have w9 : wrap64 (rd b 9) = rd b 9 := wrap_in (by omega) (by omega)
  have fal : ∀ (k : Nat) (x a c d : Int), 1 ≤ k → impl_sectorOf.j0 k b x true a c d = some (0, 0, 0, [], false) := by
    intro k x a c d h
    obtain ⟨k, rfl⟩ : ∃ m, k = m + 1 := ⟨k - 1, by omega⟩
    simp only [impl_sectorOf.j0]; rw [if_pos trivial]
  have fal1 : ∀ (k : Nat) (a c d : Int) (p : List Int), 1 ≤ k → impl_sectorOf.j1 k b true a c d p = some (0, 0, 0, [], false) := by
    intro k a c d p h
    obtain ⟨k, rfl⟩ : ∃ m, k = m + 1 := ⟨k - 1, by omega⟩
    simp only [impl_sectorOf.j1]; rw [if_pos trivial]
  have run : ∀ (k : Nat), 150 ≤ k → rd b 9 ≤ 44 → impl_sectorOf.j1 k b false (getL b 0) (getL b 4) (rd b 8) (secPiece b) = some (if lsB (getL b 0) (getL b 4) (rd b 8) (secPiece b) = b then (getL b 0, getL b 4, rd b 8, secPiece b, true) else (0, 0, 0, [], false)) := by
    intro k hk h9
    obtain ⟨p1, p2⟩ := secPiece_len hb h9
    obtain ⟨k, rfl⟩ : ∃ m, k = m + 1 := ⟨k - 1, by omega⟩
    have hs := lsB_len (getL b 0) (getL b 4) (rd b 8) (secPiece b) p2
    simp only [impl_sectorOf.j1]
    rw [if_neg (by decide), implSector_eq _ _ _ _ p2 (by omega), Option.bind_some, eqS_eq _ _ (by omega) (by omega) (by omega), Option.bind_some]
    by_cases c5 : lsB (getL b 0) (getL b 4) (rd b 8) (secPiece b) = b
    · rw [if_pos (decide_eq_true c5), if_pos c5]
    · rw [if_neg (by simpa using c5), if_neg c5]
  unfold impl_sectorOf.f
  rw [g0, Option.bind_some, g4, Option.bind_some, if_pos (by omega), if_pos (by omega), w9]
  unfold secIs
  by_cases c2 : rd b 9 ≤ 44
  · rw [if_neg (by omega), inRange_eq, Option.bind_some, decide_eq_true c2]
    by_cases c0 : 1 ≤ getL b 0 ∧ getL b 0 ≤ 1000000
    · rw [decide_eq_true c0, Bool.not_true]
      obtain ⟨k, rfl⟩ : ∃ m, k = m + 1 := ⟨k - 1, by omega⟩
      simp only [impl_sectorOf.j0]
      rw [if_neg (by decide)]
      have ep : impl_sectorOf.piece b (rd b 9) = some (secPiece b) := by
        unfold impl_sectorOf.piece
        rw [show wrap64 (16 + rd b 9) = 16 + rd b 9 from wrap_in (by omega) (by omega), if_pos (by omega), if_pos (by omega)]; rfl
      rw [ep, Option.bind_some]
      by_cases c3 : rd b 8 = 2
      · rw [if_pos c3, run k (by omega) c2, decide_eq_true c3]; simp
      · rw [if_neg c3, decide_eq_false c3]
        by_cases c4 : rd b 8 = 1
        · rw [if_pos c4, decide_eq_true c4]
          by_cases c5 : rd b 9 = 44
          · rw [show (rd b 9 != 44) = false by simp [c5], run k (by omega) c2, decide_eq_true c5]; simp
          · rw [show (rd b 9 != 44) = true by simp [c5], fal1 _ _ _ _ _ (by omega), decide_eq_false c5, if_neg (by simp)]
        · rw [if_neg c4, fal1 _ _ _ _ _ (by omega), decide_eq_false c4, if_neg (by simp)]
    · rw [decide_eq_false c0, Bool.not_false, fal _ _ _ _ _ (by omega), if_neg (by simp)]
  · rw [if_pos (by omega), fal _ _ _ _ _ (by omega), decide_eq_false c2, if_neg (by simp)]
/-! ### The log, opened -/
def accB (goes : Bool) (B : List Int) (number least within : Int) : Bool := goes && (secIs B && (decide (getL B 4 = number) && (!decide (getL B 0 < least) && !(decide (within > 0) && (getL B 0 != within)))))
def mostB (B : List Int) (most : Int) : Int := if secIs B = true then (if getL B 0 > most then getL B 0 else most) else most
theorem secIs_kind {B : List Int} (h : secIs B = true) : (1 ≤ getL B 0 ∧ getL B 0 ≤ 1000000) ∧ rd B 9 ≤ 44 ∧ (rd B 8 = 1 ∨ rd B 8 = 2) := by
  unfold secIs at h
  simp only [Bool.and_eq_true, Bool.or_eq_true, decide_eq_true_eq] at h
  refine ⟨h.1.1.1, h.1.1.2, ?_⟩
  rcases h.1.2 with h | h
  · exact .inr h
  · exact .inl h.1
theorem specStep {k : Nat} {b : List Int} {L : List S96} {B : List Int} (last : Int) (out : List (List Int)) (most : Int) (goes : Bool) (least within : Int) (rec : List Int) (number at_ first next : Int)
    (ha : at_ ≤ last) (hR : spec_ReadSector.f (k + 3) b L at_ = some (B, true)) (hB : okB B) (hk : 200 ≤ k) (hrec : rec.length ≤ 1000000) (hout : out.length ≤ 1000000) (hn : goes = true → 0 ≤ number ∧ number ≤ 1000) (hat : 0 ≤ at_) (hl : last ≤ 1000) :
    spec_LogOpen.l0 (k + 4) last out most goes least within rec number at_ b L first last next 0 =
      if accB goes B number least within = true then
        (if rd B 8 = 1 then spec_LogOpen.l0 k last out (mostB B most) true (getL B 0) (getL B 0) (rec ++ secPiece B) (number + 1) (at_ + 1) b L first last next 0
         else spec_LogOpen.l0 k last (out ++ [rec ++ secPiece B]) (mostB B most) true (getL B 0) 0 [] (number + 1) (at_ + 1) b L first last (number + 1) 0)
      else spec_LogOpen.l0 k last out (mostB B most) false least within rec number (at_ + 1) b L first last next 0 := by
  rw [show k + 4 = (k + 3) + 1 from rfl]
  simp only [spec_LogOpen.l0]
  rw [if_pos ha, hR, Option.bind_some]
  simp only []
  rw [specRead12_eq hB (by omega), Option.bind_some]
  have wa : wrap64 (at_ + 1) = at_ + 1 := wrap_in (by omega) (by omega)
  have j2f : ∀ (m' a c : Int) (f : Bool) (p : List Int) (o : Bool), accB goes B number least within = false → (o = true → secIs B = true ∧ a = getL B 0 ∧ c = getL B 4) → (o = false → secIs B = false) →
      spec_LogOpen.j2 (k + 2) last out m' goes least within rec number at_ o b L first last next 0 a c f p = spec_LogOpen.l0 k last out m' false least within rec number (at_ + 1) b L first last next 0 := by
    intro m' a c f p o hacc ho ho2
    have j3t : spec_LogOpen.j3 (k + 1) last out m' goes least within rec number at_ true b L first last next 0 a c f p = spec_LogOpen.l0 k last out m' false least within rec number (at_ + 1) b L first last next 0 := by
      simp only [spec_LogOpen.j3]; rw [if_pos trivial, wa]
    rw [show k + 2 = (k + 1) + 1 from rfl]
    simp only [spec_LogOpen.j2]
    unfold accB at hacc
    cases goes with
    | false => rw [if_neg (by decide), j3t]
    | true =>
      rw [if_pos rfl]
      cases o with
      | false => rw [if_neg (by decide), j3t]
      | true =>
        obtain ⟨h1, rfl, rfl⟩ := ho rfl
        rw [if_pos rfl]
        rw [h1, Bool.true_and, Bool.true_and] at hacc
        by_cases c1 : getL B 4 = number
        · rw [if_pos c1]
          rw [decide_eq_true c1, Bool.true_and] at hacc
          by_cases c2 : getL B 0 < least
          · rw [if_pos c2, j3t]
          · rw [if_neg c2]
            rw [decide_eq_false c2, Bool.not_false, Bool.true_and] at hacc
            by_cases c3 : within > 0
            · rw [if_pos c3]
              rw [decide_eq_true c3, Bool.true_and] at hacc
              rw [show (getL B 0 != within) = true by simpa using hacc, j3t]
            · rw [decide_eq_false c3] at hacc; simp at hacc
        · rw [if_neg c1, j3t]
  by_cases ok : secIs B = true
  · obtain ⟨⟨e1, e2⟩, h9, h8⟩ := secIs_kind ok
    obtain ⟨_, hp⟩ := secPiece_len hB h9
    rw [if_pos ok]
    simp only [if_true]
    rw [show k + 3 = (k + 2) + 1 from rfl]
    have em : mostB B most = if getL B 0 > most then getL B 0 else most := by unfold mostB; rw [if_pos ok]
    have ej : spec_LogOpen.j1 (k + 2 + 1) last out most goes least within rec number at_ true (decide (getL B 0 > most)) b L first last next 0 (getL B 0) (getL B 4) (decide (rd B 8 = 1)) (secPiece B) =
        spec_LogOpen.j2 (k + 2) last out (mostB B most) goes least within rec number at_ true b L first last next 0 (getL B 0) (getL B 4) (decide (rd B 8 = 1)) (secPiece B) := by
      simp only [spec_LogOpen.j1]
      rw [em]
      by_cases c : getL B 0 > most
      · rw [if_pos (decide_eq_true c), if_pos c]
      · rw [if_neg (by simpa using c), if_neg c]
    rw [ej]
    by_cases hacc : accB goes B number least within = true
    · rw [if_pos hacc]
      unfold accB at hacc
      simp only [Bool.and_eq_true, decide_eq_true_eq, Bool.not_eq_true', decide_eq_false_iff_not, Bool.and_eq_false_imp] at hacc
      obtain ⟨g, _, c1, c2, c3⟩ := hacc
      have hnn := hn g
      subst g
      rw [show k + 2 = (k + 1) + 1 from rfl]
      simp only [spec_LogOpen.j2]
      rw [if_pos trivial, if_pos trivial, if_pos c1, if_neg c2]
      have j3f : spec_LogOpen.j3 (k + 1) last out (mostB B most) true least within rec number at_ false b L first last next 0 (getL B 0) (getL B 4) (decide (rd B 8 = 1)) (secPiece B) =
          (if rd B 8 = 1 then spec_LogOpen.l0 k last out (mostB B most) true (getL B 0) (getL B 0) (rec ++ secPiece B) (number + 1) (at_ + 1) b L first last next 0
         else spec_LogOpen.l0 k last (out ++ [rec ++ secPiece B]) (mostB B most) true (getL B 0) 0 [] (number + 1) (at_ + 1) b L first last (number + 1) 0) := by
        simp only [spec_LogOpen.j3]
        rw [if_neg (by decide), if_pos (by omega), Option.bind_some, wa, show wrap64 (number + 1) = number + 1 from wrap_in (by omega) (by omega)]
        by_cases c8 : rd B 8 = 1
        · rw [if_pos (decide_eq_true c8), if_pos c8]
        · rw [if_neg (by simpa using c8), if_neg c8, Option.bind_some, if_pos (by simp only [List.length_append, List.length_nil]; omega), if_pos (by omega), List.nil_append]
      by_cases c4 : within > 0
      · rw [if_pos c4, c3 c4, j3f]
      · rw [if_neg c4, j3f]
    · rw [if_neg hacc]
      exact j2f _ _ _ _ _ true (by simpa using hacc) (fun _ => ⟨ok, rfl, rfl⟩) (fun h => by cases h)
  · rw [if_neg ok]
    simp only [Bool.false_eq_true, if_false]
    have hacc : accB goes B number least within = false := by unfold accB; rw [Bool.eq_false_iff.mpr ok]; simp
    rw [hacc, if_neg (by decide)]
    have em : mostB B most = most := by unfold mostB; rw [if_neg ok]
    rw [show k + 3 = (k + 2) + 1 from rfl, em]
    simp only [spec_LogOpen.j1]
    rw [if_neg (by decide)]
    exact j2f _ _ _ _ _ false hacc (fun h => by cases h) (fun _ => Bool.eq_false_iff.mpr ok)
theorem implStep {k : Nat} {b : List Int} {L : List S96} {B : List Int} (last : Int) (out : List (List Int)) (ends : List Int) (most : Int) (goes : Bool) (least within : Int) (rec : List Int) (number at_ first next : Int)
    (ha : at_ ≤ last) (hR : impl_ReadSector.f (k + 2) b L at_ = some (B, true)) (hB : okB B) (hk : 200 ≤ k) (hrec : rec.length ≤ 1000000) (hout : out.length ≤ 1000000) (hends : ends.length ≤ 1000000) (hn : goes = true → number = at_ - first) (hat : 0 ≤ first ∧ first ≤ at_) (hl : last ≤ 1000) (hm : 0 ≤ most ∧ most ≤ 1000000) :
    impl_logOf.l0 (k + 3) first last out ends rec least within (!goes) at_ b L first last next (most + 1) =
      if accB goes B number least within = true then
        (if rd B 8 = 1 then impl_logOf.l0 k first last out ends (rec ++ secPiece B) (getL B 0) (getL B 0) false (at_ + 1) b L first last next (mostB B most + 1)
         else impl_logOf.l0 k first last (out ++ [rec ++ secPiece B]) (ends ++ [number + 1]) [] (getL B 0) 0 false (at_ + 1) b L first last (number + 1) (mostB B most + 1))
      else impl_logOf.l0 k first last out ends rec least within true (at_ + 1) b L first last next (mostB B most + 1) := by
  rw [show k + 3 = (k + 2) + 1 from rfl]
  simp only [impl_logOf.l0]
  rw [if_pos ha, hR, Option.bind_some]
  simp only []
  rw [implRead12_eq hB (by omega), Option.bind_some]
  have wa : wrap64 (at_ + 1) = at_ + 1 := wrap_in (by omega) (by omega)
  have wf : wrap64 (at_ - first) = at_ - first := wrap_in (by omega) (by omega)
  have j2t : ∀ (m' a c f : Int) (p : List Int), impl_logOf.j2 (k + 1) first last out ends rec least within true at_ b L first last next m' a c f p = impl_logOf.l0 k first last out ends rec least within true (at_ + 1) b L first last next m' := by
    intro m' a c f p
    simp only [impl_logOf.j2]; rw [if_pos trivial, wa]
  by_cases ok : secIs B = true
  · obtain ⟨⟨e1, e2⟩, h9, h8⟩ := secIs_kind ok
    obtain ⟨_, hp⟩ := secPiece_len hB h9
    rw [if_pos ok]
    simp only [if_true]
    have em : mx (most + 1) (wrap64 (getL B 0 + 1)) = mostB B most + 1 := by
      unfold mostB mx
      rw [if_pos ok, show wrap64 (getL B 0 + 1) = getL B 0 + 1 from wrap_in (by omega) (by omega)]
      by_cases c : getL B 0 > most
      · rw [if_pos (by omega), if_pos c]
      · rw [if_neg (by omega), if_neg c]
    rw [em, show k + 2 = (k + 1) + 1 from rfl]
    simp only [impl_logOf.j1]
    cases goes with
    | false =>
      rw [Bool.not_false, if_pos (show (true : Bool) = true from rfl), j2t, if_neg (show ¬ (accB false B number least within = true) by simp [accB])]
    | true =>
      rw [Bool.not_true, if_neg (by decide), if_pos trivial, wf]
      have hnum := hn rfl
      by_cases hacc : accB true B number least within = true
      · rw [if_pos hacc]
        unfold accB at hacc
        simp only [Bool.and_eq_true, decide_eq_true_eq, Bool.not_eq_true', decide_eq_false_iff_not, Bool.and_eq_false_imp] at hacc
        obtain ⟨_, _, c1, c2, c3⟩ := hacc
        rw [if_pos (by omega), if_neg c2]
        have j2f : impl_logOf.j2 (k + 1) first last out ends rec least within false at_ b L first last next (mostB B most + 1) (getL B 0) (getL B 4) (rd B 8) (secPiece B) =
            (if rd B 8 = 1 then impl_logOf.l0 k first last out ends (rec ++ secPiece B) (getL B 0) (getL B 0) false (at_ + 1) b L first last next (mostB B most + 1)
             else impl_logOf.l0 k first last (out ++ [rec ++ secPiece B]) (ends ++ [number + 1]) [] (getL B 0) 0 false (at_ + 1) b L first last (number + 1) (mostB B most + 1)) := by
          simp only [impl_logOf.j2]
          rw [if_neg (by decide), if_pos (by omega), Option.bind_some, wa, wf, show wrap64 (at_ - first + 1) = number + 1 by rw [wrap_in (by omega) (by omega)]; omega]
          by_cases c8 : rd B 8 = 1
          · rw [if_neg (by omega), if_pos c8]
          · rw [if_pos (by omega), if_neg c8, clone_eq _ (by rw [List.length_append]; omega), Option.bind_some, if_pos (by omega), if_pos (by omega)]
        by_cases c4 : within > 0
        · rw [if_pos c4, c3 c4, j2f]
        · rw [if_neg c4, j2f]
      · rw [if_neg hacc]
        unfold accB at hacc
        rw [ok, Bool.true_and, Bool.true_and] at hacc
        by_cases c1 : getL B 4 = number
        · rw [if_pos (by omega)]
          rw [decide_eq_true c1, Bool.true_and] at hacc
          by_cases c2 : getL B 0 < least
          · rw [if_pos c2, j2t]
          · rw [if_neg c2]
            rw [decide_eq_false c2, Bool.not_false, Bool.true_and] at hacc
            by_cases c3 : within > 0
            · rw [if_pos c3]
              rw [decide_eq_true c3, Bool.true_and] at hacc
              rw [show (getL B 0 != within) = true by simpa using hacc, j2t]
            · rw [decide_eq_false c3] at hacc; simp at hacc
        · rw [if_neg (by omega), j2t]
  · rw [if_neg ok]
    simp only [Bool.false_eq_true, if_false]
    have hacc : accB goes B number least within = false := by unfold accB; rw [Bool.eq_false_iff.mpr ok]; simp
    have em : mostB B most = most := by unfold mostB; rw [if_neg ok]
    rw [hacc, if_neg (by decide), em, show k + 2 = (k + 1) + 1 from rfl]
    simp only [impl_logOf.j1]
    cases goes with
    | false => rw [Bool.not_false, if_pos (show (true : Bool) = true from rfl), j2t]
    | true => rw [Bool.not_true, if_neg (show ¬ (false : Bool) = true by decide), if_neg (show ¬ (false : Bool) = true by decide), j2t]
def sumB (L : List (List Int)) : Nat := (L.map List.length).sum
theorem open_loop {b : List Int} {L : List S96} {K0 : Nat} (first last : Int) (hf : 0 ≤ first) (hl : last < 400) (S : Int → List Int)
    (hS : ∀ a, first ≤ a → a ≤ last → okB (S a)) (hrS : ∀ a k, first ≤ a → a ≤ last → K0 < k → spec_ReadSector.f k b L a = some (S a, true)) (hrI : ∀ a k, first ≤ a → a ≤ last → K0 < k → impl_ReadSector.f k b L a = some (S a, true)) :
    ∀ (d : Nat) (a : Int) (out : List (List Int)) (ends : List Int) (most : Int) (goes : Bool) (least within : Int) (rec : List Int) (number next : Int),
      a + d = last + 1 → first ≤ a → 0 ≤ most → most ≤ 1000000 → (goes = true → number = a - first) → (out.length : Int) ≤ a - first → (ends.length : Int) ≤ a - first → ((rec.length + sumB out : Nat) : Int) ≤ 44 * (a - first) →
      ∃ (out' : List (List Int)) (most' next' : Int) (ends' : List Int), (∀ kS, 4 * d + K0 + 300 ≤ kS → spec_LogOpen.l0 kS last out most goes least within rec number a b L first last next 0 = some (if most' = 1000000 then (0, 0, 0, 0, [], false) else (first, last, next', wrap64 (most' + 1), out', true))) ∧
        (∀ kI, 4 * d + K0 + 300 ≤ kI → impl_logOf.l0 kI first last out ends rec least within (!goes) a b L first last next (most + 1) = some (first, last, next', most' + 1, out', ends')) ∧ 0 ≤ most' ∧ most' ≤ 1000000 ∧ out'.length ≤ 400 ∧ sumB out' ≤ 17600 := by
  intro d
  induction d with
  | zero =>
    intro a out ends most goes least within rec number next ha hfa m0 m1 hn ho he hr
    refine ⟨out, most, next, ends, fun kS hkS => ?_, fun kI hkI => ?_, m0, m1, by omega, by omega⟩
    · obtain ⟨kS, rfl⟩ : ∃ m, kS = m + 1 := ⟨kS - 1, by omega⟩
      simp only [spec_LogOpen.l0]
      rw [if_neg (by omega)]
      split <;> rfl
    · obtain ⟨kI, rfl⟩ : ∃ m, kI = m + 1 := ⟨kI - 1, by omega⟩
      simp only [impl_logOf.l0]
      rw [if_neg (by omega)]
  | succ d ih =>
    intro a out ends most goes least within rec number next ha hfa m0 m1 hn ho he hr
    have hB := hS a hfa (by omega)
    have hm : 0 ≤ mostB (S a) most ∧ mostB (S a) most ≤ 1000000 := by
      unfold mostB
      split
      · rename_i ok
        have := (secIs_kind ok).1
        split <;> omega
      · omega
    have eS : ∀ kS, 4 * d + K0 + 300 ≤ kS → _ := fun kS (hkS : 4 * d + K0 + 300 ≤ kS) => specStep (k := kS) last out most goes least within rec number a first next (by omega) (hrS a _ hfa (by omega) (by omega)) hB (by omega) (by omega) (by omega) (fun g => by have := hn g; omega) (by omega) (by omega)
    have eI : ∀ kI, 4 * d + K0 + 300 ≤ kI → _ := fun kI (hkI : 4 * d + K0 + 300 ≤ kI) => implStep (k := kI) last out ends most goes least within rec number a first next (by omega) (hrI a _ hfa (by omega) (by omega)) hB (by omega) (by omega) (by omega) (by omega) hn ⟨hf, hfa⟩ (by omega) ⟨m0, m1⟩
    by_cases hacc : accB goes (S a) number least within = true
    · simp only [if_pos hacc] at eS eI
      have g : goes = true := by unfold accB at hacc; rw [Bool.and_eq_true] at hacc; exact hacc.1
      have ok : secIs (S a) = true := by unfold accB at hacc; rw [Bool.and_eq_true, Bool.and_eq_true] at hacc; exact hacc.2.1
      have hnum := hn g
      have hp := (secPiece_len hB (secIs_kind ok).2.1).2
      by_cases c8 : rd (S a) 8 = 1
      · simp only [if_pos c8] at eS eI
        obtain ⟨o, m, n, e, h1, h2, h3⟩ := ih (a + 1) out ends (mostB (S a) most) true (getL (S a) 0) (getL (S a) 0) (rec ++ secPiece (S a)) (number + 1) next (by omega) (by omega) hm.1 hm.2 (fun _ => by omega) (by omega) (by omega) (by rw [List.length_append]; omega)
        refine ⟨o, m, n, e, fun kS hkS => ?_, fun kI hkI => ?_, h3⟩
        · obtain ⟨kS, rfl⟩ : ∃ m, kS = m + 4 := ⟨kS - 4, by omega⟩
          rw [eS kS (by omega)]; exact h1 kS (by omega)
        · obtain ⟨kI, rfl⟩ : ∃ m, kI = m + 3 := ⟨kI - 3, by omega⟩
          rw [eI kI (by omega)]; exact h2 kI (by omega)
      · simp only [if_neg c8] at eS eI
        have hsum : sumB (out ++ [rec ++ secPiece (S a)]) = sumB out + (rec.length + (secPiece (S a)).length) := by unfold sumB; simp
        obtain ⟨o, m, n, e, h1, h2, h3⟩ := ih (a + 1) (out ++ [rec ++ secPiece (S a)]) (ends ++ [number + 1]) (mostB (S a) most) true (getL (S a) 0) 0 [] (number + 1) (number + 1) (by omega) (by omega) hm.1 hm.2 (fun _ => by omega) (by rw [List.length_append, List.length_singleton]; omega) (by rw [List.length_append, List.length_singleton]; omega) (by rw [hsum, List.length_nil]; omega)
        refine ⟨o, m, n, e, fun kS hkS => ?_, fun kI hkI => ?_, h3⟩
        · obtain ⟨kS, rfl⟩ : ∃ m, kS = m + 4 := ⟨kS - 4, by omega⟩
          rw [eS kS (by omega)]; exact h1 kS (by omega)
        · obtain ⟨kI, rfl⟩ : ∃ m, kI = m + 3 := ⟨kI - 3, by omega⟩
          rw [eI kI (by omega)]; exact h2 kI (by omega)
    · simp only [if_neg hacc] at eS eI
      obtain ⟨o, m, n, e, h1, h2, h3⟩ := ih (a + 1) out ends (mostB (S a) most) false least within rec number next (by omega) (by omega) hm.1 hm.2 (fun h => by cases h) (by omega) (by omega) (by omega)
      refine ⟨o, m, n, e, fun kS hkS => ?_, fun kI hkI => ?_, h3⟩
      · obtain ⟨kS, rfl⟩ : ∃ m, kS = m + 4 := ⟨kS - 4, by omega⟩
        rw [eS kS (by omega)]; exact h1 kS (by omega)
      · obtain ⟨kI, rfl⟩ : ∃ m, kI = m + 3 := ⟨kI - 3, by omega⟩
        rw [eI kI (by omega)]; exact h2 kI (by omega)
/-- The bytes of a right disk's sectors, each a byte. -/
theorem readM_ok {b : List Int} {L : List S96} {a : Int} (h : rdOk b L a = true) (hb : ∀ x ∈ b, 0 ≤ x ∧ x < 256) (hL : ∀ x ∈ L, ∀ y ∈ x.f1, 0 ≤ y ∧ y < 256) : okB (readM b L a) := by
  have hd := rdOk_iff h
  have hi := dOk_iff hd.1
  unfold readM
  rw [if_pos h]
  refine ⟨lastW_len a _ L _ (secB_len h) hi.2, ?_⟩
  have hsec : ∀ y ∈ secB b a, 0 ≤ y ∧ y < 256 := fun y hy => hb y (List.mem_of_mem_take (List.mem_of_mem_drop hy))
  clear h hd hi
  generalize secB b a = d at hsec
  unfold lastW
  induction L generalizing d with
  | nil => exact hsec
  | cons x L ih =>
    rw [List.foldl_cons]
    refine ih (fun y hy => hL y (by simp [hy])) _ ?_
    split
    · exact hL x (by simp)
    · exact hsec
theorem both_open (b : List Int) (L : List S96) (a1 a2 : Int) (hb : b.length ≤ 140737488351232) (hL : L.length ≤ 140737488351232) (hbb : ∀ x ∈ b, 0 ≤ x ∧ x < 256) (hLb : ∀ x ∈ L, ∀ y ∈ x.f1, 0 ≤ y ∧ y < 256) :
    ∃ (c0 c1 c2 c3 : Int) (out : List (List Int)) (ok : Bool), (∀ k, L.length + 2500 ≤ k → spec_LogOpen.f k b L a1 a2 = some (c0, c1, c2, c3, out, ok)) ∧ (∀ k, L.length + 2500 ≤ k → impl_LogOpen.f k b L a1 a2 = some (c0, c1, c2, c3, out, ok)) ∧ out.length ≤ 400 ∧ sumB out ≤ 17600 := by
  have hrS : ∀ k, L.length + 2500 ≤ k → spec_l12Region.f k b L a1 a2 = _ := fun k hk => specRegion_eq (D := dOk b L) a1 a2 hb (specOk_eq b L hb hL (by omega))
  have hrI : ∀ k, L.length + 2500 ≤ k → impl_canOpen.f k b L a1 a2 = _ := fun k hk => implRegion_eq (D := dOk b L) a1 a2 hb (implOk_eq b L hb hL (by omega))
  by_cases hG : (dOk b L && decide (0 ≤ a1 ∧ a1 ≤ a2 ∧ a2 < ((b.length / 64 : Nat) : Int))) = true
  · have hG2 := hG
    rw [Bool.and_eq_true, decide_eq_true_eq] at hG2
    obtain ⟨hd, g0, g1, g2⟩ := hG2
    have hi := (dOk_iff hd).1
    have hro : ∀ a, a1 ≤ a → a ≤ a2 → rdOk b L a = true := fun a h0 h1 => by unfold rdOk; rw [hd, decide_eq_true (by omega)]; rfl
    obtain ⟨o, m, n, e, h1, h2, m0, m1, o1, o2⟩ := open_loop (b := b) (L := L) (K0 := L.length + 3) a1 a2 g0 (by omega) (fun a => readM b L a) (fun a h0 h1 => readM_ok (hro a h0 h1) hbb hLb)
      (fun a k h0 h1 hk => by rw [specRead_eq b L a hb hL hk, hro a h0 h1]) (fun a k h0 h1 hk => by rw [implRead_eq b L a hb hL hk, hro a h0 h1]) (a2 - a1 + 1).toNat a1 [] [] 0 true 1 0 [] 0 0 (by omega) (by omega) (by omega) (by omega) (fun _ => by omega) (by simp) (by simp) (by simp [sumB])
    have hd4 : 4 * (a2 - a1 + 1).toNat ≤ 1600 := by omega
    by_cases hm : m = 1000000
    · refine ⟨0, 0, 0, 0, [], false, fun k hk => ?_, fun k hk => ?_, by simp, by simp [sumB]⟩
      · unfold spec_LogOpen.f
        rw [Option.bind_some, hrS k hk, hG, Option.bind_some, if_pos rfl, h1 k (by omega), if_pos hm]
      · unfold impl_LogOpen.f impl_logOf.f
        have := h2 k (by omega)
        rw [Bool.not_true, show (0 : Int) + 1 = 1 from rfl] at this
        rw [hrI k hk, hG, Option.bind_some, if_pos rfl, this, Option.bind_some]
        simp only []
        rw [if_pos (by omega)]
    · refine ⟨a1, a2, n, m + 1, o, true, fun k hk => ?_, fun k hk => ?_, o1, o2⟩
      · unfold spec_LogOpen.f
        rw [Option.bind_some, hrS k hk, hG, Option.bind_some, if_pos rfl, h1 k (by omega), if_neg hm, show wrap64 (m + 1) = m + 1 from wrap_in (by omega) (by omega)]
      · unfold impl_LogOpen.f impl_logOf.f
        have := h2 k (by omega)
        rw [Bool.not_true, show (0 : Int) + 1 = 1 from rfl] at this
        rw [hrI k hk, hG, Option.bind_some, if_pos rfl, this, Option.bind_some]
        simp only []
        rw [if_neg (by omega)]
  · have hG := Bool.eq_false_iff.mpr hG
    refine ⟨0, 0, 0, 0, [], false, fun k hk => ?_, fun k hk => ?_, by simp, by simp [sumB]⟩
    · unfold spec_LogOpen.f
      rw [Option.bind_some, hrS k hk, hG, Option.bind_some, if_neg (by decide)]
    · unfold impl_LogOpen.f
      rw [hrI k hk, hG, Option.bind_some, if_neg (by decide)]
/-! ### Rows of rows of bytes: marked, held, compared -/
def sumBB (L : List (List Int)) : Nat := (L.map List.length).sum
def bR : Int → List (List Int) → List (List Int)
  | _, [] => []
  | m, r :: R => mkB m r.length :: bR (m + r.length) R
theorem sumBB_cons (r : List Int) (R : List (List Int)) : sumBB (r :: R) = r.length + sumBB R := by simp [sumBB]
theorem rd_L2at (P : List (List Int)) (r : List Int) (R : List (List Int)) : rd_L2 (P ++ r :: R) (P.length : Int) = r := by unfold rd_L2; rw [Int.toNat_natCast]; simp
theorem markBB_loop : ∀ (R P : List (List Int)) (m : Int) (k : Nat), P.length + R.length ≤ 1048576 → sumBB R ≤ 1048576 → 0 ≤ m → m + sumBB R ≤ 4194304 → sumBB R + R.length < k →
    laws_markByteSS.l0 k (P ++ R) m (P.length : Int) = some (m + sumBB R, P ++ bR m R)
  | [], P, m, k, hl, hr, h0, h1, hk => by
    obtain ⟨k, rfl⟩ : ∃ m, k = m + 1 := ⟨k - 1, by omega⟩
    simp only [laws_markByteSS.l0]; rw [if_neg (by simp)]; simp [sumBB, bR]
  | r :: R, P, m, k, hl, hr, h0, h1, hk => by
    rw [sumBB_cons] at hr h1 hk; simp only [List.length_cons] at hl hk
    obtain ⟨k, rfl⟩ : ∃ m, k = m + 1 := ⟨k - 1, by omega⟩
    simp only [laws_markByteSS.l0]
    rw [if_pos (by rw [List.length_append, List.length_cons]; omega), if_pos (by omega), Int.toNat_natCast, getDat, markByteS_eq r m (by omega) h0 (by omega) (by omega)]
    simp only [Option.bind_some]
    rw [show (P ++ r :: R).set P.length (mkB m r.length) = (P ++ [mkB m r.length]) ++ R by simp, show wrap64 ((P.length : Int) + 1) = ((P ++ [mkB m r.length]).length : Int) by rw [wrap_in (by omega) (by omega)]; simp]
    rw [markBB_loop R (P ++ [mkB m r.length]) (m + r.length) k (by simp; omega) (by omega) (by omega) (by omega) (by omega)]
    rw [sumBB_cons]
    simp only [bR, List.append_assoc, List.singleton_append, Option.some.injEq, Prod.mk.injEq, and_true]; omega
theorem markBB_eq (R : List (List Int)) (m : Int) (hl : R.length ≤ 1048576) (hr : sumBB R ≤ 1048576) (h0 : 0 ≤ m) (h1 : m + sumBB R ≤ 4194304) {k : Nat} (hk : sumBB R + R.length < k) : laws_markByteSS.f k R m = some (m + sumBB R, bR m R) := by
  unfold laws_markByteSS.f; exact markBB_loop R [] m k (by simpa using hl) hr h0 h1 hk
theorem heldBB_loop : ∀ (R P : List (List Int)) (m : Int) (k : Nat), P.length + R.length ≤ 1048576 → sumBB R ≤ 1048576 → 0 ≤ m → m + sumBB R ≤ 4194304 → sumBB R + R.length < k →
    laws_heldByteSS.l0 k (P ++ bR m R) m (P.length : Int) = some (m + sumBB R)
  | [], P, m, k, hl, hr, h0, h1, hk => by
    obtain ⟨k, rfl⟩ : ∃ m, k = m + 1 := ⟨k - 1, by omega⟩
    rw [show bR m [] = [] from rfl, List.append_nil]
    simp only [laws_heldByteSS.l0]; rw [if_neg (show ¬ ((P.length : Int) < (P.length : Int)) by omega)]; simp [sumBB]
  | r :: R, P, m, k, hl, hr, h0, h1, hk => by
    rw [sumBB_cons] at hr h1 hk; simp only [List.length_cons] at hl hk
    obtain ⟨k, rfl⟩ : ∃ m, k = m + 1 := ⟨k - 1, by omega⟩
    rw [show bR m (r :: R) = mkB m r.length :: bR (m + r.length) R from rfl]
    simp only [laws_heldByteSS.l0]
    rw [if_pos (show (P.length : Int) < ((P ++ mkB m r.length :: bR (m + r.length) R).length : Int) by rw [List.length_append, List.length_cons]; omega), if_pos (show (0 : Int) ≤ (P.length : Int) by omega), rd_L2at, heldByteS_eq r.length m (by omega) h0 (by omega) (by omega)]
    simp only [Option.bind_some]
    rw [if_neg (show ¬ (m + (r.length : Int) < 0) by omega), show wrap64 ((P.length : Int) + 1) = ((P ++ [mkB m r.length]).length : Int) by rw [wrap_in (by omega) (by omega)]; simp,
      show P ++ mkB m r.length :: bR (m + r.length) R = (P ++ [mkB m r.length]) ++ bR (m + r.length) R by simp]
    rw [heldBB_loop R (P ++ [mkB m r.length]) (m + r.length) k (by simp; omega) (by omega) (by omega) (by omega) (by omega), sumBB_cons]
    congr 1; omega
theorem heldBB_eq (R : List (List Int)) (m : Int) (hl : R.length ≤ 1048576) (hr : sumBB R ≤ 1048576) (h0 : 0 ≤ m) (h1 : m + sumBB R ≤ 4194304) {k : Nat} (hk : sumBB R + R.length < k) : laws_heldByteSS.f k (bR m R) m = some (m + sumBB R) := by
  unfold laws_heldByteSS.f
  have := heldBB_loop R [] m k (by simpa using hl) hr h0 h1 hk
  simpa using this
theorem row_leB : ∀ (L : List (List Int)) (r : List Int), r ∈ L → r.length ≤ sumBB L
  | [], r, h => by simp at h
  | x :: L, r, h => by
    rw [sumBB_cons]
    rcases List.mem_cons.1 h with h | h
    · subst h; omega
    · have := row_leB L r h; omega
theorem eqBB_loop (L : List (List Int)) (hl : L.length ≤ 1048576) (hs : sumBB L ≤ 1048576) : ∀ (R P : List (List Int)) (k : Nat), L = P ++ R → sumBB L + R.length < k → laws_eqByteSS.l0 k L L (P.length : Int) = some true
  | [], P, k, e, hk => by
    obtain ⟨k, rfl⟩ : ∃ m, k = m + 1 := ⟨k - 1, by omega⟩
    simp only [laws_eqByteSS.l0]; rw [if_neg (by rw [e]; simp)]
  | r :: R, P, k, e, hk => by
    simp only [List.length_cons] at hk
    obtain ⟨k, rfl⟩ : ∃ m, k = m + 1 := ⟨k - 1, by omega⟩
    have hll : P.length < L.length := by rw [e]; simp
    have er : rd_L2 L (P.length : Int) = r := by rw [e]; exact rd_L2at P r R
    have hm := row_leB L r (by rw [e]; simp)
    simp only [laws_eqByteSS.l0]
    rw [if_pos (by omega), if_pos (by omega), if_pos (by omega), er, eqByteS_dec r r (by omega) (by omega), Option.bind_some, if_pos (by simp), show wrap64 ((P.length : Int) + 1) = ((P ++ [r]).length : Int) by rw [wrap_in (by omega) (by omega)]; simp]
    exact eqBB_loop L hl hs R (P ++ [r]) k (by rw [e]; simp) (by omega)
theorem eqBB_refl (L : List (List Int)) (hl : L.length ≤ 1048576) (hs : sumBB L ≤ 1048576) {k : Nat} (hk : sumBB L + L.length < k) : laws_eqByteSS.f k L L = some true := by
  unfold laws_eqByteSS.f; rw [if_pos rfl]; exact eqBB_loop L hl hs L [] k rfl hk
theorem FnExactLogOpen : ∀ (l0_0 : List Int) (l0_1 : List (S115)) (a1 : Int) (a2 : Int), ok25 (l0_0, l0_1) → (Lit.int .i64 a1).wf = true → (Lit.int .i64 a2).wf = true → ∃ k, laws_FnExactLogOpen.f k l0_0 l0_1 a1 a2 = some true := by
  intro b L a1 a2 h _ _
  obtain ⟨⟨hb, hbb0⟩, hL, hr⟩ := h
  have hb : b.length * 1 ≤ 140737488351232 := hb
  have hL : L.length * 32 ≤ 140737488351232 := hL
  have hr1 : ∀ r ∈ L, r.f1.length * 1 ≤ 140737488351232 := fun r q => (hr r q).2.1
  have wfB : ∀ x : Int, (Lit.int .u8 x).wf = true → 0 ≤ x ∧ x < 256 := fun x hx => by
    have h1 : IntKind.u8.min ≤ x ∧ x ≤ IntKind.u8.max := by simpa [Lit.wf] using hx
    have h2 : IntKind.u8.min = 0 := by decide
    have h3 : IntKind.u8.max = 255 := by decide
    omega
  have hbb : ∀ x ∈ b, 0 ≤ x ∧ x < 256 := fun x hx => wfB x (hbb0 x hx)
  have cl : (L.map cvW).length = L.length := List.length_map ..
  have hLb : ∀ x ∈ L.map cvW, ∀ y ∈ x.f1, 0 ≤ y ∧ y < 256 := fun x hx y hy => by
    obtain ⟨z, hz, rfl⟩ := List.mem_map.1 hx
    exact wfB y ((hr z hz).2.2 y hy)
  have vm := vMax_cv L
  have wl := wMax_len L
  obtain ⟨K, hK⟩ : ∃ K, K = b.length + 4 * wMax L + 4 * L.length + 40000 := ⟨_, rfl⟩
  refine ⟨K + 3, ?_⟩
  unfold laws_FnExactLogOpen.f
  obtain ⟨t, e1, t0, t1, hsz⟩ := szDisk_some b L hb hL hr1 1048576 (by decide) (by decide) (k := K + 3) (by omega)
  rw [e1, Option.bind_some]
  by_cases h : t < 0
  · rw [if_pos h]
  · obtain ⟨s1, s2, s3⟩ := hsz (by omega)
    have cr1 : ∀ r ∈ L.map cvW, r.f1.length ≤ 1048576 := by
      intro r q
      obtain ⟨x, hx, rfl⟩ := List.mem_map.1 q
      have := s3 x hx; unfold cvW; simp only; omega
    have cr : ∀ r ∈ L.map cvW, r.f1.length ≤ 140737488351232 := fun r q => by have := cr1 r q; omega
    obtain ⟨c0, c1, c2, c3, out, ok, hS, hI, o1, o2⟩ := both_open b (L.map cvW) a1 a2 (by omega) (by omega) hbb hLb
    have hsum : sumBB out ≤ 17600 := o2
    have eE : ∀ k, 20000 < k → laws_eqByteSS.f k out out = some true := fun k hk => eqBB_refl out (by omega) (by omega) (by omega)
    have eL : laws_eqLog.f c0 c1 c2 c3 c0 c1 c2 c3 = some true := by unfold laws_eqLog.f; rw [if_pos rfl, if_pos rfl, if_pos rfl, if_pos rfl]
    rw [if_neg h, toDisk_eq b L hb hL hr1 (by omega), Option.bind_some]
    simp only []
    rw [hS _ (by omega), Option.bind_some, Option.bind_some]
    simp only []
    rw [hI _ (by omega), Option.bind_some]
    simp only []
    rw [eL, Option.bind_some, if_pos rfl, eE _ (by omega), Option.bind_some, if_pos rfl, bne_self_eq_false]
    rw [laws_FnExactLogOpen.j0, if_neg (by decide), toDisk_eq b L hb hL hr1 (by omega), Option.bind_some]
    simp only []
    rw [eqDisk_refl b _ (by omega) (by omega) cr (by omega), Option.bind_some, if_pos rfl, markDisk_eq b _ 1 (by omega) (by omega) cr1 (by omega) (by omega) (by omega), Option.bind_some]
    have hc := cntQ_nn (L.map cvW)
    simp only []
    rw [if_neg (show ¬ (1 + (b.length : Int) + cntQ (L.map cvW)) < 0 by omega), eL, Option.bind_some, if_pos rfl, eE _ (by omega), Option.bind_some, if_pos rfl, bne_self_eq_false]
    rw [laws_FnExactLogOpen.j1, if_neg (by decide), markBB_eq out 1 (by omega) (by omega) (by omega) (by omega) (by omega), Option.bind_some]
    simp only []
    rw [heldBB_eq out 1 (by omega) (by omega) (by omega) (by omega) (by omega), Option.bind_some, if_neg (by omega), if_pos rfl, toDisk_eq b L hb hL hr1 (by omega), Option.bind_some]
    simp only []
    rw [hI _ (by omega), Option.bind_some]
    simp only []
    rw [eL, Option.bind_some, if_pos rfl, eE _ (by omega), Option.bind_some, if_pos rfl, bne_self_eq_false]
    rw [laws_FnExactLogOpen.j2, if_neg (by decide), heldBB_eq out 1 (by omega) (by omega) (by omega) (by omega) (by omega), Option.bind_some, if_neg (by omega), if_pos rfl]

end Go.Proofs.Ytgmnphckgicadaa.Pure

