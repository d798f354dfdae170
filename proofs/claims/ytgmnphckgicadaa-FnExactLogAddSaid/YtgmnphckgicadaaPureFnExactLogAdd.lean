/- The pure statement of the law FnExactLogAdd. No conditions beyond that each number is one of its kind and that slices are no greater than memory. -/
import Derived.Test.YtgmnphckgicadaaKinFnExactLogAdd
namespace Go.Proofs.Ytgmnphckgicadaa.Pure
open Go.RowKit Go.Proofs.Ytgmnphckgicadaa.PFnExactLogAdd Go.Proofs.YtgmnphckgicadaaW.PrintWords Go.Proofs.YtgmnphckgicadaaW.PrintLast Go.Proofs.YtgmnphckgicadaaW.PrintMore
set_option linter.unusedVariables false
set_option linter.unusedSimpArgs false

/-- The points that are right. -/
def ptOk (x y : Int) : Bool := decide (-10000000 ≤ x) && decide (x ≤ 10000000) && decide (-10000000 ≤ y) && decide (y ≤ 10000000)
/-- The boxes that are right. -/
def boxOk (a b c d : Int) : Bool := ptOk a b && ptOk c d && decide (a ≤ c) && decide (b ≤ d)
theorem wrap_in {x : Int} (h1 : -9223372036854775808 ≤ x) (h2 : x ≤ 9223372036854775807) : wrap64 x = x := by unfold wrap64; omega
theorem spec_l1In_eq (a b c : Int) : spec_l1In.f a b c = some (decide (b ≤ a) && decide (a ≤ c)) := by
  unfold spec_l1In.f; by_cases h : b ≤ a <;> simp [h]
theorem impl_inRange_eq (a b c : Int) : impl_inRange.f a b c = some (decide (b ≤ a) && decide (a ≤ c)) := by
  unfold impl_inRange.f; by_cases h : b ≤ a <;> simp [h]
/-! Rows of bytes: marked, held, compared. -/
def mkB : Int → Nat → List Int
  | _, 0 => []
  | k, n + 1 => k % 256 :: mkB (k + 1) n
theorem set_mid (P : List Int) (v x : Int) (r : List Int) : (P ++ x :: r).set P.length v = (P ++ [v]) ++ r := by
  rw [List.set_append_right _ _ (Nat.le_refl _), Nat.sub_self, List.append_assoc]; rfl
theorem markB_loop : ∀ (r P : List Int) (k : Int) (f : Nat), P.length + r.length ≤ 140737488351232 → 0 ≤ k → k + (r.length : Int) ≤ 4611686018427387904 → r.length < f →
    laws_markByteS.l0 f (P ++ r) k (P.length : Int) = some (k + (r.length : Int), P ++ mkB k r.length)
  | [], P, k, f, _, _, _, hf => by
    obtain ⟨f, rfl⟩ : ∃ m, f = m + 1 := ⟨f - 1, by omega⟩
    simp only [laws_markByteS.l0, List.append_nil]
    rw [if_neg (by omega)]
    simp [mkB]
  | x :: r, P, k, f, hl, h0, h1, hf => by
    rw [List.length_cons] at hf hl h1
    obtain ⟨f, rfl⟩ : ∃ m, f = m + 1 := ⟨f - 1, by omega⟩
    simp only [laws_markByteS.l0]
    rw [if_pos (by rw [List.length_append, List.length_cons]; omega), if_pos (by omega), Int.toNat_natCast, set_mid,
      show wrap64 ((P.length : Int) + 1) = ((P ++ [k % 256]).length : Int) by rw [wrap_in (by omega) (by omega), List.length_append, List.length_singleton]; omega,
      show wrap64 (k + 1) = k + 1 from wrap_in (by omega) (by omega)]
    rw [markB_loop r (P ++ [k % 256]) (k + 1) f (by rw [List.length_append, List.length_singleton]; omega) (by omega) (by omega) (by omega)]
    simp only [mkB, List.length_cons, List.append_assoc, List.singleton_append, Option.some.injEq, Prod.mk.injEq, and_true]; omega
theorem markByteS_eq (l : List Int) (k : Int) (hl : l.length ≤ 140737488351232) (h0 : 0 ≤ k) (h1 : k ≤ 1152921504606846976) {f : Nat} (hf : l.length < f) :
    laws_markByteS.f f l k = some (k + (l.length : Int), mkB k l.length) := by
  unfold laws_markByteS.f
  have e := markB_loop l [] k f (by simpa using hl) h0 (by omega) hf
  simpa using e
theorem rd_mid (P : List Int) (v : Int) (r : List Int) : rd (P ++ v :: r) (P.length : Int) = v := by
  unfold rd; rw [Int.toNat_natCast, List.getD_eq_getElem?_getD, List.getElem?_append_right (Nat.le_refl _), Nat.sub_self]; rfl
theorem heldB_loop : ∀ (n : Nat) (P : List Int) (k : Int) (f : Nat), P.length + n ≤ 140737488351232 → 0 ≤ k → k + (n : Int) ≤ 4611686018427387904 → n < f →
    laws_heldByteS.l0 f (P ++ mkB k n) k (P.length : Int) = some (k + (n : Int))
  | 0, P, k, f, _, _, _, hf => by
    obtain ⟨f, rfl⟩ : ∃ m, f = m + 1 := ⟨f - 1, by omega⟩
    simp only [laws_heldByteS.l0, mkB, List.append_nil]
    rw [if_neg (by omega)]; simp
  | n + 1, P, k, f, hl, h0, h1, hf => by
    obtain ⟨f, rfl⟩ : ∃ m, f = m + 1 := ⟨f - 1, by omega⟩
    rw [show mkB k (n + 1) = k % 256 :: mkB (k + 1) n from rfl]
    simp only [laws_heldByteS.l0]
    rw [if_pos (show (P.length : Int) < ((P ++ k % 256 :: mkB (k + 1) n).length : Int) by rw [List.length_append, List.length_cons]; omega), if_pos (show (0 : Int) ≤ (P.length : Int) by omega), rd_mid, if_pos rfl,
      show wrap64 ((P.length : Int) + 1) = ((P ++ [k % 256]).length : Int) by rw [wrap_in (by omega) (by omega), List.length_append, List.length_singleton]; omega,
      show wrap64 (k + 1) = k + 1 from wrap_in (by omega) (by omega),
      show P ++ k % 256 :: mkB (k + 1) n = (P ++ [k % 256]) ++ mkB (k + 1) n by rw [List.append_assoc]; rfl]
    rw [heldB_loop n (P ++ [k % 256]) (k + 1) f (by rw [List.length_append, List.length_singleton]; omega) (by omega) (by omega) (by omega)]
    congr 1; omega
theorem heldByteS_eq (n : Nat) (k : Int) (hl : n ≤ 140737488351232) (h0 : 0 ≤ k) (h1 : k ≤ 1152921504606846976) {f : Nat} (hf : n < f) :
    laws_heldByteS.f f (mkB k n) k = some (k + (n : Int)) := by
  unfold laws_heldByteS.f
  have e := heldB_loop n [] k f (by simpa using hl) h0 (by omega) hf
  simpa using e
theorem dropAt {α : Type} (z : α) : ∀ (l : List α) (i : Nat), i < l.length → l.drop i = l.getD i z :: l.drop (i + 1)
  | [], i, h => by simp at h
  | x :: r, 0, _ => rfl
  | x :: r, i + 1, h => by
    have := dropAt z r i (by simpa using h)
    simpa using this
theorem getDin {α : Type} (z : α) {l : List α} {i : Nat} (h : i < l.length) : l.getD i z ∈ l := by
  rw [List.getD_eq_getElem?_getD, List.getElem?_eq_getElem h]; exact List.getElem_mem h
/-! Disks: rows of writes. -/
abbrev IW := S96
def vMax : List IW → Nat
  | [] => 0
  | r :: t => r.f1.length + 3 + vMax t
theorem vMax_le : ∀ (L : List IW) (i : Nat), (L.getD i z96).f1.length ≤ vMax L
  | [], i => by simp [z96]
  | r :: t, 0 => by simp [vMax]; omega
  | r :: t, i + 1 => by have := vMax_le t i; simp only [List.getD_cons_succ, vMax]; omega
theorem vMax_len : ∀ (L : List IW), L.length ≤ vMax L
  | [] => by simp [vMax]
  | r :: t => by have := vMax_len t; simp only [List.length_cons, vMax]; omega
theorem setRep {α β : Type} (f : α → β) (P : List α) (v z : β) (n : Nat) : (P.map f ++ List.replicate (n + 1) z).set P.length v = P.map f ++ v :: List.replicate n z := by
  rw [List.replicate_succ, ← List.length_map (f := f), List.set_append_right _ _ (Nat.le_refl _), Nat.sub_self]; rfl
theorem getDat {α : Type} (z : α) (P : List α) (r : α) (R : List α) : (P ++ r :: R).getD P.length z = r := by simp
abbrev LW := S115
def cvW (x : LW) : IW := ⟨x.f0, x.f1⟩
def wMax : List LW → Nat
  | [] => 0
  | r :: t => r.f1.length + 3 + wMax t
theorem vMax_cv : ∀ L : List LW, vMax (L.map cvW) = wMax L
  | [] => rfl
  | r :: t => by
    have := vMax_cv t
    simp only [List.map_cons, vMax, wMax, this, cvW]
theorem wMax_len : ∀ (L : List LW), L.length ≤ wMax L
  | [] => by simp [wMax]
  | r :: t => by have := wMax_len t; simp only [List.length_cons, wMax]; omega
theorem toB_loop : ∀ (R P : List Int) (k : Nat), (P.length + R.length) ≤ 140737488351232 → R.length < k →
    laws_toByteS.l0 k (P ++ R) (P.map id ++ List.replicate R.length 0) (P.length : Int) = some (P ++ R) := by
  intro R
  induction R with
  | nil =>
    intro P k hl hk
    obtain ⟨k, rfl⟩ : ∃ m, k = m + 1 := ⟨k - 1, by omega⟩
    simp only [laws_toByteS.l0]; rw [if_neg (by simp)]; simp
  | cons r R ih =>
    intro P k hl hk
    simp only [List.length_cons] at hl hk
    obtain ⟨k, rfl⟩ : ∃ m, k = m + 1 := ⟨k - 1, by omega⟩
    simp only [laws_toByteS.l0]
    rw [if_pos (by rw [List.length_append, List.length_cons]; omega), if_pos (by omega)]
    simp only [rd, Int.toNat_natCast, getDat]
    rw [if_pos (by rw [List.length_append, List.length_map, List.length_replicate, List.length_cons]; omega), List.length_cons, setRep]
    have := ih (P ++ [r]) k (by simp; omega) (by omega)
    rw [show wrap64 ((P.length : Int) + 1) = ((P ++ [r]).length : Int) by rw [wrap_in (by omega) (by omega)]; simp]
    simp only [List.map_append, List.append_assoc, List.map_cons, List.map_nil, List.cons_append, List.nil_append, id] at this ⊢
    exact this
theorem toByteS_eq (l : List Int) (hl : l.length ≤ 140737488351232) {k : Nat} (hk : l.length < k) : laws_toByteS.f k l = some l := by
  unfold laws_toByteS.f
  rw [if_pos (by omega), if_pos (by omega), Int.toNat_natCast]
  exact toB_loop l [] k (by simp; omega) hk
theorem toW_loop : ∀ (R P : List LW) (k : Nat), (P.length + R.length) * 32 ≤ 140737488351232 → (∀ r ∈ R, r.f1.length * 1 ≤ 140737488351232) → wMax R + R.length < k →
    laws_toWriteS.l0 k (P ++ R) (P.map cvW ++ List.replicate R.length z96) (P.length : Int) = some ((P ++ R).map cvW) := by
  intro R
  induction R with
  | nil =>
    intro P k hl hr hk
    obtain ⟨k, rfl⟩ : ∃ m, k = m + 1 := ⟨k - 1, by omega⟩
    simp only [laws_toWriteS.l0]; rw [if_neg (by simp)]; simp
  | cons r R ih =>
    intro P k hl hr hk
    simp only [List.length_cons, wMax] at hl hk
    obtain ⟨k, rfl⟩ : ∃ m, k = m + 1 := ⟨k - 1, by omega⟩
    simp only [laws_toWriteS.l0]
    rw [if_pos (by rw [List.length_append, List.length_cons]; omega), if_pos (by omega)]
    simp only [rd_T115, Int.toNat_natCast, getDat, laws_toWrite.f]
    have hm := hr r (by simp)
    rw [toByteS_eq _ (by omega) (by omega)]
    simp only [Option.bind_some]
    rw [if_pos (by rw [List.length_append, List.length_map, List.length_replicate, List.length_cons]; omega), List.length_cons, show (⟨r.f0, r.f1⟩ : IW) = cvW r from rfl, setRep]
    have := ih (P ++ [r]) k (by simp; omega) (fun x hx => hr x (by simp [hx])) (by omega)
    rw [show wrap64 ((P.length : Int) + 1) = ((P ++ [r]).length : Int) by rw [wrap_in (by omega) (by omega)]; simp]
    simp only [List.map_append, List.append_assoc, List.map_cons, List.map_nil, List.cons_append, List.nil_append] at this ⊢
    exact this
theorem toWriteS_eq (L : List LW) (hl : L.length * 32 ≤ 140737488351232) (hr : ∀ r ∈ L, r.f1.length * 1 ≤ 140737488351232) {k : Nat} (hk : wMax L + L.length < k) : laws_toWriteS.f k L = some (L.map cvW) := by
  unfold laws_toWriteS.f
  rw [if_pos (by omega), if_pos (by omega), Int.toNat_natCast]
  exact toW_loop L [] k (by simpa using hl) hr hk
theorem toDisk_eq (b : List Int) (L : List LW) (hb : b.length * 1 ≤ 140737488351232) (hl : L.length * 32 ≤ 140737488351232) (hr : ∀ r ∈ L, r.f1.length * 1 ≤ 140737488351232) {k : Nat} (hk : b.length + 2 * wMax L < k) :
    laws_toDisk.f k b L = some (b, L.map cvW) := by
  have := wMax_len L
  unfold laws_toDisk.f
  rw [toByteS_eq b (by omega) (by omega), toWriteS_eq L hl hr (by omega)]; rfl
theorem szByteS_eq (l : List Int) (hl : l.length * 1 ≤ 140737488351232) (a : Int) (ha : 0 ≤ a) (hb : a ≤ 1048576) : laws_szByteS.f l a = some (if (l.length : Int) ≤ a then a - l.length else -1) := by
  unfold laws_szByteS.f
  rw [wrap_in (by omega) (by omega)]
  by_cases h : (l.length : Int) ≤ a
  · rw [if_neg (by omega), if_pos h]
  · rw [if_pos (by omega), if_neg h]
theorem szW_loop (L : List LW) (hL : L.length * 32 ≤ 140737488351232) (hr : ∀ r ∈ L, r.f1.length * 1 ≤ 140737488351232) :
    ∀ (d i k : Nat) (a : Int), i + d = L.length → d < k → 0 ≤ a → a ≤ 1048576 → ∃ t, laws_szWriteS.l0 k L a (i : Int) = some t ∧ -1 ≤ t ∧ t ≤ 1048576 ∧ (0 ≤ t → ∀ x ∈ L.drop i, (x.f1.length : Int) ≤ 1048576) := by
  intro d
  induction d with
  | zero =>
    intro i k a hi hk a0 a1
    obtain ⟨k, rfl⟩ : ∃ m, k = m + 1 := ⟨k - 1, by omega⟩
    simp only [laws_szWriteS.l0]; rw [if_neg (by omega)]; refine ⟨_, rfl, by omega, a1, fun _ x hx => ?_⟩
    rw [List.drop_eq_nil_of_le (by omega)] at hx; cases hx
  | succ d ih =>
    intro i k a hi hk a0 a1
    obtain ⟨k, rfl⟩ : ∃ m, k = m + 1 := ⟨k - 1, by omega⟩
    simp only [laws_szWriteS.l0]
    have hm := hr _ (getDin (z := z115) (show i < L.length by omega))
    rw [if_pos (by omega), if_pos (by omega)]
    simp only [rd_T115, Int.toNat_natCast, laws_szWrite.f]
    rw [szByteS_eq _ hm a a0 a1]; simp only [Option.bind_some]
    by_cases h : ((L.getD i z115).f1.length : Int) ≤ a
    · rw [if_pos h, if_neg (by omega)]; simp only [Option.bind_some]; rw [if_neg (by omega), show wrap64 ((i : Int) + 1) = ((i + 1 : Nat) : Int) by rw [wrap_in (by omega) (by omega)]; omega]
      obtain ⟨t, e, t0, t1, hx⟩ := ih (i + 1) k _ (by omega) (by omega) (by omega) (by omega : (a - ((L.getD i z115).f1.length : Int)) ≤ 1048576)
      refine ⟨t, e, t0, t1, fun h0 x hxx => ?_⟩
      rw [dropAt z115 L i (by omega)] at hxx
      rcases List.mem_cons.1 hxx with rfl | h2
      · omega
      · exact hx h0 x h2
    · rw [if_neg h, if_pos (by decide)]; simp only [Option.bind_some]; rw [if_pos (by decide)]; exact ⟨_, rfl, by omega, by omega, fun h0 => absurd h0 (by decide)⟩
theorem szDisk_some (b : List Int) (L : List LW) (hb : b.length * 1 ≤ 140737488351232) (hL : L.length * 32 ≤ 140737488351232) (hr : ∀ r ∈ L, r.f1.length * 1 ≤ 140737488351232) (a : Int) (a0 : 0 ≤ a) (a1 : a ≤ 1048576) {k : Nat} (hk : L.length < k) :
    ∃ t, laws_szDisk.f k b L a = some t ∧ -1 ≤ t ∧ t ≤ 1048576 ∧ (0 ≤ t → (b.length : Int) ≤ 1048576 ∧ (L.length : Int) ≤ 1048576 ∧ ∀ x ∈ L, (x.f1.length : Int) ≤ 1048576) := by
  unfold laws_szDisk.f laws_szWriteS.f
  rw [szByteS_eq b hb a a0 a1]; simp only [Option.bind_some]
  by_cases h : (b.length : Int) ≤ a
  · rw [if_pos h, if_neg (by omega), wrap_in (by omega) (by omega)]
    by_cases h2 : a - (b.length : Int) - (L.length : Int) < 0
    · rw [if_pos h2]; simp only [Option.bind_some]; rw [if_pos (by decide)]; exact ⟨-1, rfl, by omega, by omega, fun h0 => absurd h0 (by decide)⟩
    · rw [if_neg h2]
      obtain ⟨t, e, t0, t1, hx⟩ := szW_loop L hL hr L.length 0 k (a - b.length - L.length) (by omega) hk (by omega) (by omega)
      rw [show ((0 : Nat) : Int) = 0 from rfl] at e
      rw [e]; simp only [Option.bind_some]
      split
      · exact ⟨-1, rfl, by omega, by omega, fun h0 => absurd h0 (by decide)⟩
      · exact ⟨t, rfl, t0, t1, fun h0 => ⟨by omega, by omega, by simpa using hx h0⟩⟩
  · rw [if_neg h, if_pos (by decide)]; exact ⟨-1, rfl, by omega, by omega, fun h0 => absurd h0 (by decide)⟩
theorem eqB2_loop (l m : List Int) (he : l.length = m.length) (hl : l.length ≤ 140737488351232) : ∀ (d i f : Nat), i + d = l.length → d < f → laws_eqByteS.l0 f l m (i : Int) = some (decide (l.drop i = m.drop i)) := by
  intro d
  induction d with
  | zero =>
    intro i f hi hf
    obtain ⟨f, rfl⟩ : ∃ m, f = m + 1 := ⟨f - 1, by omega⟩
    simp only [laws_eqByteS.l0]; rw [if_neg (by omega), List.drop_eq_nil_of_le (by omega), List.drop_eq_nil_of_le (by omega)]; simp
  | succ d ih =>
    intro i f hi hf
    obtain ⟨f, rfl⟩ : ∃ m, f = m + 1 := ⟨f - 1, by omega⟩
    simp only [laws_eqByteS.l0]
    have el : rd l (i : Int) = l.getD i 0 := by unfold rd; rw [Int.toNat_natCast]
    have em : rd m (i : Int) = m.getD i 0 := by unfold rd; rw [Int.toNat_natCast]
    rw [if_pos (by omega), if_pos (by omega), if_pos (by omega), dropAt 0 l i (by omega), dropAt 0 m i (by omega)]
    by_cases h : l.getD i 0 = m.getD i 0
    · rw [if_pos (show rd l (i : Int) = rd m (i : Int) by rw [el, em]; exact h), show wrap64 ((i : Int) + 1) = ((i + 1 : Nat) : Int) by rw [wrap_in (by omega) (by omega)]; omega, ih (i + 1) f (by omega) (by omega), h]; simp
    · rw [if_neg (show ¬ rd l (i : Int) = rd m (i : Int) by rw [el, em]; exact h), decide_eq_false (fun q => h (List.cons.inj q).1)]
theorem eqByteS_dec (l m : List Int) (hl : l.length ≤ 140737488351232) {f : Nat} (hf : l.length < f) : laws_eqByteS.f f l m = some (decide (l = m)) := by
  unfold laws_eqByteS.f
  by_cases h : l.length = m.length
  · rw [if_pos (by omega)]
    have e := eqB2_loop l m h hl l.length 0 f (by omega) hf
    simpa using e
  · rw [if_neg (by omega), decide_eq_false (fun q => h (by rw [q]))]
theorem eqW_loop (G : List IW) (hm : G.length ≤ 140737488351232) (hr : ∀ r ∈ G, r.f1.length ≤ 140737488351232) : ∀ (d i k : Nat), i + d = G.length → d + vMax G < k → laws_eqWriteS.l0 k G G (i : Int) = some true := by
  intro d
  induction d with
  | zero =>
    intro i k hi hk
    obtain ⟨k, rfl⟩ : ∃ m, k = m + 1 := ⟨k - 1, by omega⟩
    simp only [laws_eqWriteS.l0]; rw [if_neg (by omega)]
  | succ d ih =>
    intro i k hi hk
    obtain ⟨k, rfl⟩ : ∃ m, k = m + 1 := ⟨k - 1, by omega⟩
    have hb := vMax_le G i
    simp only [laws_eqWriteS.l0]
    have ex : rd_T96 G (i : Int) = G.getD i z96 := by unfold rd_T96; rw [Int.toNat_natCast]
    rw [if_pos (by omega), if_pos (by omega), if_pos (by omega), ex]
    unfold laws_eqWrite.f
    rw [if_pos rfl, eqByteS_dec _ _ (hr _ (getDin (z := z96) (show i < G.length by omega))) (by omega)]
    simp only [Option.bind_some, decide_true, if_true]
    rw [show wrap64 ((i : Int) + 1) = ((i + 1 : Nat) : Int) by rw [wrap_in (by omega) (by omega)]; omega]
    exact ih (i + 1) k (by omega) (by omega)
theorem eqDisk_refl (b : List Int) (G : List IW) (hb : b.length ≤ 140737488351232) (hm : G.length ≤ 140737488351232) (hr : ∀ r ∈ G, r.f1.length ≤ 140737488351232) {k : Nat} (hk : b.length + 2 * vMax G + 2 < k) : laws_eqDisk.f k b G b G = some true := by
  have := vMax_len G
  unfold laws_eqDisk.f laws_eqWriteS.f
  rw [eqByteS_dec b b hb (by omega)]; simp only [Option.bind_some, decide_true, if_true]
  have e := eqW_loop G hm hr G.length 0 k (by omega) (by omega)
  rw [show ((0 : Nat) : Int) = 0 from rfl] at e
  rw [e]; rfl
def wOk (n : Nat) (x : IW) : Bool := decide (0 ≤ x.f0 ∧ x.f0 < (n : Int)) && decide (x.f1.length = 64)
def dOk (b : List Int) (L : List IW) : Bool := decide (b.length % 64 = 0 ∧ 64 ≤ b.length ∧ b.length ≤ 25600) && L.all (wOk (b.length / 64))
theorem specOk_loop (b : List Int) (hb : b.length ≤ 25600) (hb1 : 64 ≤ b.length) (L : List IW) (hL : L.length ≤ 140737488351232) : ∀ (d i k : Nat), i + d = L.length → d < k →
    spec_DiskOk.l0 k (i : Int) b L = some ((L.drop i).all (wOk (b.length / 64))) := by
  intro d
  induction d with
  | zero =>
    intro i k hi hk
    obtain ⟨k, rfl⟩ : ∃ m, k = m + 1 := ⟨k - 1, by omega⟩
    simp only [spec_DiskOk.l0]; rw [if_neg (by omega), List.drop_eq_nil_of_le (by omega)]; rfl
  | succ d ih =>
    intro i k hi hk
    obtain ⟨k, rfl⟩ : ∃ m, k = m + 1 := ⟨k - 1, by omega⟩
    simp only [spec_DiskOk.l0, spec_l11Many.f, spec_l1In_eq, Option.bind_some]
    have ex : rd_T96 L (i : Int) = L.getD i z96 := by unfold rd_T96; rw [Int.toNat_natCast]
    rw [if_pos (by omega), if_pos (by omega), ex, dropAt z96 L i (by omega), List.all_cons, wrap_in (x := (b.length : Int) / 64) (by omega) (by omega), wrap_in (x := (b.length : Int) / 64 - 1) (by omega) (by omega),
      show wrap64 ((i : Int) + 1) = ((i + 1 : Nat) : Int) by rw [wrap_in (by omega) (by omega)]; omega, ih (i + 1) k (by omega) (by omega)]
    generalize L.getD i z96 = x
    by_cases h1 : 0 ≤ x.f0 ∧ x.f0 < ((b.length / 64 : Nat) : Int)
    · have : (decide (0 ≤ x.f0) && decide (x.f0 ≤ (b.length : Int) / 64 - 1)) = true := by rw [Bool.and_eq_true, decide_eq_true_eq, decide_eq_true_eq]; omega
      rw [if_pos this]
      by_cases h2 : x.f1.length = 64
      · rw [if_pos (by omega)]; unfold wOk; rw [decide_eq_true h1, decide_eq_true h2]; simp
      · rw [if_neg (by omega)]; unfold wOk; rw [decide_eq_false h2]; simp
    · have : ¬ (decide (0 ≤ x.f0) && decide (x.f0 ≤ (b.length : Int) / 64 - 1)) = true := by rw [Bool.and_eq_true, decide_eq_true_eq, decide_eq_true_eq]; omega
      rw [if_neg this]; unfold wOk; rw [decide_eq_false h1]; simp
theorem specOk_eq (b : List Int) (L : List IW) (hb : b.length ≤ 140737488351232) (hL : L.length ≤ 140737488351232) {k : Nat} (hk : L.length + 2 < k) : spec_DiskOk.f k b L = some (dOk b L) := by
  obtain ⟨k, rfl⟩ : ∃ m, k = m + 1 := ⟨k - 1, by omega⟩
  unfold spec_DiskOk.f
  by_cases h : b.length % 64 = 0 ∧ 64 ≤ b.length ∧ b.length ≤ 25600
  · have hd : dOk b L = L.all (wOk (b.length / 64)) := by unfold dOk; rw [decide_eq_true h, Bool.true_and]
    have e := specOk_loop b h.2.2 h.2.1 L hL L.length 0 k (by omega) (by omega)
    rw [show ((0 : Nat) : Int) = 0 from rfl, List.drop_zero] at e
    have ht : (decide ((1 : Int) ≤ (b.length : Int) / 64) && decide ((b.length : Int) / 64 ≤ 400)) = true := by rw [Bool.and_eq_true, decide_eq_true_eq, decide_eq_true_eq]; omega
    rw [hd, if_pos (show ((b.length : Int) % 64) = 0 by omega)]
    rw [show spec_l11Many.f b L = some ((b.length : Int) / 64) by unfold spec_l11Many.f; rw [wrap_in (by omega) (by omega)]]
    rw [Option.bind_some, spec_l1In_eq, Option.bind_some, ht]
    unfold spec_DiskOk.j0
    exact e
  · have hd : dOk b L = false := by unfold dOk; rw [decide_eq_false h, Bool.false_and]
    rw [hd]
    by_cases h1 : b.length % 64 = 0
    · have ht : (decide ((1 : Int) ≤ (b.length : Int) / 64) && decide ((b.length : Int) / 64 ≤ 400)) = false := by rw [Bool.and_eq_false_iff, decide_eq_false_iff_not, decide_eq_false_iff_not]; omega
      rw [if_pos (show ((b.length : Int) % 64) = 0 by omega)]
      rw [show spec_l11Many.f b L = some ((b.length : Int) / 64) by unfold spec_l11Many.f; rw [wrap_in (by omega) (by omega)]]
      rw [Option.bind_some, spec_l1In_eq, Option.bind_some, ht]
      unfold spec_DiskOk.j0
      rfl
    · rw [if_neg (by omega)]
      simp only [spec_DiskOk.j0, if_true]
theorem implOk_loop (b : List Int) (hb : b.length ≤ 25600) (hb1 : 64 ≤ b.length) (L : List IW) (hL : L.length ≤ 140737488351232) : ∀ (d i k : Nat), i + d = L.length → d < k →
    impl_DiskOk.l0 k b L (L.length : Int) (i : Int) = some ((L.drop i).all (wOk (b.length / 64))) := by
  intro d
  induction d with
  | zero =>
    intro i k hi hk
    obtain ⟨k, rfl⟩ : ∃ m, k = m + 1 := ⟨k - 1, by omega⟩
    simp only [impl_DiskOk.l0]; rw [if_neg (by omega), List.drop_eq_nil_of_le (by omega)]; rfl
  | succ d ih =>
    intro i k hi hk
    obtain ⟨k, rfl⟩ : ∃ m, k = m + 1 := ⟨k - 1, by omega⟩
    simp only [impl_DiskOk.l0, impl_Disk_isSector.f, impl_Disk_sectors.f, impl_inRange_eq, Option.bind_some]
    have ex : rd_T96 L (i : Int) = L.getD i z96 := by unfold rd_T96; rw [Int.toNat_natCast]
    rw [if_pos (by omega), if_pos (by omega), if_pos (by omega), ex, dropAt z96 L i (by omega), List.all_cons, wrap_in (x := (b.length : Int) / 64) (by omega) (by omega), wrap_in (x := (b.length : Int) / 64 - 1) (by omega) (by omega),
      show wrap64 ((i : Int) + 1) = ((i + 1 : Nat) : Int) by rw [wrap_in (by omega) (by omega)]; omega, ih (i + 1) k (by omega) (by omega)]
    generalize L.getD i z96 = x
    by_cases h1 : 0 ≤ x.f0 ∧ x.f0 < ((b.length / 64 : Nat) : Int)
    · have : (decide (0 ≤ x.f0) && decide (x.f0 ≤ (b.length : Int) / 64 - 1)) = true := by rw [Bool.and_eq_true, decide_eq_true_eq, decide_eq_true_eq]; omega
      rw [if_pos this]
      by_cases h2 : x.f1.length = 64
      · rw [if_pos (by omega)]; unfold wOk; rw [decide_eq_true h1, decide_eq_true h2]; simp
      · rw [if_neg (by omega)]; unfold wOk; rw [decide_eq_false h2]; simp
    · have : ¬ (decide (0 ≤ x.f0) && decide (x.f0 ≤ (b.length : Int) / 64 - 1)) = true := by rw [Bool.and_eq_true, decide_eq_true_eq, decide_eq_true_eq]; omega
      rw [if_neg this]; unfold wOk; rw [decide_eq_false h1]; simp
theorem implOk_eq (b : List Int) (L : List IW) (hb : b.length ≤ 140737488351232) (hL : L.length ≤ 140737488351232) {k : Nat} (hk : L.length + 2 < k) : impl_DiskOk.f k b L = some (dOk b L) := by
  obtain ⟨k, rfl⟩ : ∃ m, k = m + 1 := ⟨k - 1, by omega⟩
  unfold impl_DiskOk.f
  by_cases h : b.length % 64 = 0 ∧ 64 ≤ b.length ∧ b.length ≤ 25600
  · have hd : dOk b L = L.all (wOk (b.length / 64)) := by unfold dOk; rw [decide_eq_true h, Bool.true_and]
    have e := implOk_loop b h.2.2 h.2.1 L hL L.length 0 k (by omega) (by omega)
    rw [show ((0 : Nat) : Int) = 0 from rfl, List.drop_zero] at e
    have ht : (decide ((1 : Int) ≤ (b.length : Int) / 64) && decide ((b.length : Int) / 64 ≤ 400)) = true := by rw [Bool.and_eq_true, decide_eq_true_eq, decide_eq_true_eq]; omega
    rw [hd, if_pos (show ((b.length : Int) % 64) = 0 by omega)]
    rw [show impl_Disk_sectors.f b = some ((b.length : Int) / 64) by unfold impl_Disk_sectors.f; rw [wrap_in (by omega) (by omega)]]
    rw [Option.bind_some, impl_inRange_eq, Option.bind_some, ht]
    unfold impl_DiskOk.j0
    exact e
  · have hd : dOk b L = false := by unfold dOk; rw [decide_eq_false h, Bool.false_and]
    rw [hd]
    by_cases h1 : b.length % 64 = 0
    · have ht : (decide ((1 : Int) ≤ (b.length : Int) / 64) && decide ((b.length : Int) / 64 ≤ 400)) = false := by rw [Bool.and_eq_false_iff, decide_eq_false_iff_not, decide_eq_false_iff_not]; omega
      rw [if_pos (show ((b.length : Int) % 64) = 0 by omega)]
      rw [show impl_Disk_sectors.f b = some ((b.length : Int) / 64) by unfold impl_Disk_sectors.f; rw [wrap_in (by omega) (by omega)]]
      rw [Option.bind_some, impl_inRange_eq, Option.bind_some, ht]
      unfold impl_DiskOk.j0
      rfl
    · rw [if_neg (by omega)]
      simp only [impl_DiskOk.j0, if_true]
/-! Marks of disks. -/
def cntQ : List IW → Int
  | [] => 0
  | x :: t => 1 + (x.f1.length : Int) + cntQ t
theorem cntQ_nn : ∀ L, 0 ≤ cntQ L
  | [] => by simp [cntQ]
  | x :: t => by have := cntQ_nn t; simp only [cntQ]; omega
theorem cntQ_le (M : Nat) : ∀ L : List IW, (∀ x ∈ L, x.f1.length ≤ M) → cntQ L ≤ (L.length : Int) * ((M : Int) + 1)
  | [], _ => by simp [cntQ]
  | x :: t, h => by
    have := cntQ_le M t (fun y hy => h y (by simp [hy]))
    have hx := h x (by simp)
    simp only [cntQ, List.length_cons]
    have e : (((t.length + 1 : Nat) : Int)) * ((M : Int) + 1) = (t.length : Int) * ((M : Int) + 1) + ((M : Int) + 1) := by
      rw [show ((t.length + 1 : Nat) : Int) = (t.length : Int) + 1 by omega, Int.add_mul, Int.one_mul]
    omega
def markQ : Int → List IW → List IW
  | _, [] => []
  | k, x :: t => ⟨k, mkB (k + 1) x.f1.length⟩ :: markQ (k + 1 + (x.f1.length : Int)) t
theorem setMidW (P : List IW) (v x : IW) (r : List IW) : (P ++ x :: r).set P.length v = (P ++ [v]) ++ r := by
  rw [List.set_append_right _ _ (Nat.le_refl _), Nat.sub_self, List.append_assoc]; rfl
theorem markW_loop : ∀ (R P : List IW) (k : Int) (f : Nat), P.length + R.length ≤ 2097152 → (∀ x ∈ R, x.f1.length ≤ 1048576) → 0 ≤ k → k + cntQ R ≤ 1152921504606846976 → vMax R < f →
    laws_markWriteS.l0 f (P ++ R) k (P.length : Int) = some (k + cntQ R, P ++ markQ k R)
  | [], P, k, f, _, _, _, _, hf => by
    obtain ⟨f, rfl⟩ : ∃ m, f = m + 1 := ⟨f - 1, by omega⟩
    simp only [laws_markWriteS.l0, List.append_nil]
    rw [if_neg (by omega)]
    simp [markQ, cntQ]
  | x :: r, P, k, f, hl, hr, h0, h1, hf => by
    rw [List.length_cons] at hl
    simp only [vMax] at hf
    simp only [cntQ] at h1
    have hn := cntQ_nn r
    have hx := hr x (by simp)
    obtain ⟨f, rfl⟩ : ∃ m, f = m + 1 := ⟨f - 1, by omega⟩
    simp only [laws_markWriteS.l0]
    have ex : rd_T96 (P ++ x :: r) (P.length : Int) = x := by unfold rd_T96; rw [Int.toNat_natCast]; exact getDat _ P x r
    rw [if_pos (by rw [List.length_append, List.length_cons]; omega), if_pos (by omega), ex, show wrap64 (k + 1) = k + 1 from wrap_in (by omega) (by omega),
      markByteS_eq x.f1 (k + 1) (by omega) (by omega) (by omega) (by omega), Option.bind_some, Int.toNat_natCast, setMidW]
    show laws_markWriteS.l0 f ((P ++ [(⟨k, mkB (k + 1) x.f1.length⟩ : IW)]) ++ r) (k + 1 + (x.f1.length : Int)) (wrap64 ((P.length : Int) + 1)) = _
    rw [show wrap64 ((P.length : Int) + 1) = ((P ++ [(⟨k, mkB (k + 1) x.f1.length⟩ : IW)]).length : Int) by rw [wrap_in (by omega) (by omega), List.length_append, List.length_singleton]; omega]
    rw [markW_loop r (P ++ [(⟨k, mkB (k + 1) x.f1.length⟩ : IW)]) (k + 1 + (x.f1.length : Int)) f (by rw [List.length_append, List.length_singleton]; omega) (fun y hy => hr y (by simp [hy])) (by omega) (by omega) (by omega)]
    simp only [markQ, cntQ, List.append_assoc, List.singleton_append, Option.some.injEq, Prod.mk.injEq, and_true]; omega
theorem markDisk_eq (b : List Int) (L : List IW) (k : Int) (hb : b.length ≤ 1048576) (hL : L.length ≤ 2097152) (hr : ∀ x ∈ L, x.f1.length ≤ 1048576) (h0 : 0 ≤ k) (h1 : k ≤ 1048576) {f : Nat} (hf : b.length + vMax L < f) :
    laws_markDisk.f f b L k = some (k + (b.length : Int) + cntQ L, mkB k b.length, markQ (k + (b.length : Int)) L) := by
  have hc := cntQ_le 1048576 L hr
  have hm : (L.length : Int) * ((1048576 : Nat) + 1 : Int) ≤ 2097152 * 1048577 := Int.mul_le_mul_of_nonneg_right (by omega) (by omega)
  unfold laws_markDisk.f
  rw [markByteS_eq b k (by omega) h0 (by omega) (by omega), Option.bind_some]
  have e := markW_loop L [] (k + (b.length : Int)) f (by simpa using hL) hr (by omega) (by omega) (by omega)
  rw [List.nil_append, List.nil_append] at e
  unfold laws_markWriteS.f
  show (laws_markWriteS.l0 f L (k + (b.length : Int)) 0).bind _ = _
  rw [show laws_markWriteS.l0 f L (k + (b.length : Int)) 0 = _ from e]; rfl
theorem heldW_loop : ∀ (L P : List IW) (k : Int) (f : Nat), P.length + L.length ≤ 2097152 → (∀ x ∈ L, x.f1.length ≤ 1048576) → 0 ≤ k → k + cntQ L ≤ 1152921504606846976 → vMax L < f →
    laws_heldWriteS.l0 f (P ++ markQ k L) k (P.length : Int) = some (k + cntQ L)
  | [], P, k, f, _, _, _, _, hf => by
    obtain ⟨f, rfl⟩ : ∃ m, f = m + 1 := ⟨f - 1, by omega⟩
    simp only [laws_heldWriteS.l0, markQ, List.append_nil]
    rw [if_neg (by omega)]; simp [cntQ]
  | x :: r, P, k, f, hl, hr, h0, h1, hf => by
    rw [List.length_cons] at hl
    simp only [vMax] at hf
    simp only [cntQ] at h1
    have hn := cntQ_nn r
    have hx := hr x (by simp)
    obtain ⟨f, rfl⟩ : ∃ m, f = m + 1 := ⟨f - 1, by omega⟩
    rw [show markQ k (x :: r) = (⟨k, mkB (k + 1) x.f1.length⟩ : IW) :: markQ (k + 1 + (x.f1.length : Int)) r from rfl, laws_heldWriteS.l0]
    have ex : rd_T96 (P ++ (⟨k, mkB (k + 1) x.f1.length⟩ : IW) :: markQ (k + 1 + (x.f1.length : Int)) r) (P.length : Int) = ⟨k, mkB (k + 1) x.f1.length⟩ := by unfold rd_T96; rw [Int.toNat_natCast]; exact getDat _ P _ _
    rw [if_pos (show (P.length : Int) < ((P ++ (⟨k, mkB (k + 1) x.f1.length⟩ : IW) :: markQ (k + 1 + (x.f1.length : Int)) r).length : Int) by rw [List.length_append, List.length_cons]; omega), if_pos (show (0 : Int) ≤ (P.length : Int) by omega), ex]
    show (if k = k then (laws_heldByteS.f f (mkB (k + 1) x.f1.length) (wrap64 (k + 1))).bind _ else _) = _
    rw [if_pos rfl, show wrap64 (k + 1) = k + 1 from wrap_in (by omega) (by omega), heldByteS_eq x.f1.length (k + 1) (by omega) (by omega) (by omega) (by omega), Option.bind_some, if_neg (by omega),
      show wrap64 ((P.length : Int) + 1) = ((P ++ [(⟨k, mkB (k + 1) x.f1.length⟩ : IW)]).length : Int) by rw [wrap_in (by omega) (by omega), List.length_append, List.length_singleton]; omega,
      show P ++ (⟨k, mkB (k + 1) x.f1.length⟩ : IW) :: markQ (k + 1 + (x.f1.length : Int)) r = (P ++ [⟨k, mkB (k + 1) x.f1.length⟩]) ++ markQ (k + 1 + (x.f1.length : Int)) r by rw [List.append_assoc]; rfl]
    rw [heldW_loop r (P ++ [(⟨k, mkB (k + 1) x.f1.length⟩ : IW)]) (k + 1 + (x.f1.length : Int)) f (by rw [List.length_append, List.length_singleton]; omega) (fun y hy => hr y (by simp [hy])) (by omega) (by omega) (by omega)]
    simp only [cntQ]; congr 1; omega
theorem heldDisk_eq (n : Nat) (L : List IW) (k : Int) (hb : n ≤ 1048576) (hL : L.length ≤ 2097152) (hr : ∀ x ∈ L, x.f1.length ≤ 1048576) (h0 : 0 ≤ k) (h1 : k ≤ 1048576) {f : Nat} (hf : n + vMax L < f) :
    laws_heldDisk.f f (mkB k n) (markQ (k + (n : Int)) L) k = some (k + (n : Int) + cntQ L) := by
  have hc := cntQ_le 1048576 L hr
  have hn := cntQ_nn L
  have hm : (L.length : Int) * ((1048576 : Nat) + 1 : Int) ≤ 2097152 * 1048577 := Int.mul_le_mul_of_nonneg_right (by omega) (by omega)
  unfold laws_heldDisk.f
  rw [heldByteS_eq n k (by omega) h0 (by omega) (by omega), Option.bind_some, if_neg (by omega)]
  have e := heldW_loop L [] (k + (n : Int)) f (by simpa using hL) hr (by omega) (by omega) (by omega)
  rw [List.nil_append] at e
  unfold laws_heldWriteS.f
  rw [show laws_heldWriteS.l0 f (markQ (k + (n : Int)) L) (k + (n : Int)) 0 = _ from e, Option.bind_some, if_neg (by omega)]
theorem clone_eq (l : List Int) (h : l.length ≤ 140737488351232) : slices_Clone_byte_byte.f l = some l := by
  unfold slices_Clone_byte_byte.f
  rw [Option.bind_some, if_pos (by simp; omega), List.nil_append]
/-- What is read last of the writes to a sector; d without one. -/
def lastW (at_ : Int) (d : List Int) (L : List IW) : List Int := L.foldl (fun acc x => if x.f0 = at_ then x.f1 else acc) d
def secB (b : List Int) (at_ : Int) : List Int := (b.take ((at_ + 1) * 64).toNat).drop (at_ * 64).toNat
def rdOk (b : List Int) (L : List IW) (at_ : Int) : Bool := dOk b L && decide (0 ≤ at_ ∧ at_ < ((b.length / 64 : Nat) : Int))
def readM (b : List Int) (L : List IW) (at_ : Int) : List Int := if rdOk b L at_ = true then lastW at_ (secB b at_) L else []
theorem dOk_iff {b : List Int} {L : List IW} (h : dOk b L = true) : (b.length % 64 = 0 ∧ 64 ≤ b.length ∧ b.length ≤ 25600) ∧ L.all (wOk (b.length / 64)) = true := by
  unfold dOk at h
  rw [Bool.and_eq_true, decide_eq_true_eq] at h
  exact h
theorem implCopy_loop (L : List IW) (hL : L.length ≤ 2000000) (hr : ∀ x ∈ L, x.f1.length ≤ 1048576) (b : List Int) : ∀ (d i k : Nat), i + d = L.length → d < k →
    impl_copyDisk.l0 k L (L.length : Int) (i : Int) b (L.take i) = some (b, L) := by
  intro d
  induction d with
  | zero =>
    intro i k hi hk
    obtain ⟨k, rfl⟩ : ∃ m, k = m + 1 := ⟨k - 1, by omega⟩
    rw [impl_copyDisk.l0, if_neg (by omega), List.take_of_length_le (by omega)]
  | succ d ih =>
    intro i k hi hk
    obtain ⟨k, rfl⟩ : ∃ m, k = m + 1 := ⟨k - 1, by omega⟩
    have ex : rd_T96 L (i : Int) = L.getD i z96 := by unfold rd_T96; rw [Int.toNat_natCast]
    have h1 := hr _ (getDin (z := z96) (show i < L.length by omega))
    have et : L.take i ++ [(⟨(L.getD i z96).f0, (L.getD i z96).f1⟩ : IW)] = L.take (i + 1) := by
      rw [List.take_add_one, List.getD_eq_getElem?_getD, List.getElem?_eq_getElem (show i < L.length by omega)]; rfl
    rw [impl_copyDisk.l0, if_pos (by omega), if_pos (by omega), if_pos (by omega), ex, clone_eq _ (by omega), Option.bind_some, if_pos (by rw [List.length_take]; omega), et,
      show wrap64 ((i : Int) + 1) = ((i + 1 : Nat) : Int) by rw [wrap_in (by omega) (by omega)]; omega]
    exact ih (i + 1) k (by omega) (by omega)
theorem implCopy_eq (b : List Int) (L : List IW) (hb : b.length ≤ 1048576) (hL : L.length ≤ 2000000) (hr : ∀ x ∈ L, x.f1.length ≤ 1048576) {k : Nat} (hk : L.length < k) : impl_copyDisk.f k b L = some (b, L) := by
  unfold impl_copyDisk.f
  rw [clone_eq b (by omega), Option.bind_some]
  have e := implCopy_loop L hL hr b L.length 0 k (by omega) hk
  rw [show ((0 : Nat) : Int) = 0 from rfl, List.take_zero] at e
  exact e
theorem specCopy_loop (L : List IW) (hL : L.length ≤ 2000000) (hr : ∀ x ∈ L, x.f1.length ≤ 1048576) (c b : List Int) : ∀ (d i k : Nat), i + d = L.length → d < k →
    spec_l11Copy.l0 k (i : Int) c L b (L.take i) = some (b, L) := by
  intro d
  induction d with
  | zero =>
    intro i k hi hk
    obtain ⟨k, rfl⟩ : ∃ m, k = m + 1 := ⟨k - 1, by omega⟩
    rw [spec_l11Copy.l0, if_neg (by omega), List.take_of_length_le (by omega)]
  | succ d ih =>
    intro i k hi hk
    obtain ⟨k, rfl⟩ : ∃ m, k = m + 1 := ⟨k - 1, by omega⟩
    have ex : rd_T96 L (i : Int) = L.getD i z96 := by unfold rd_T96; rw [Int.toNat_natCast]
    have h1 := hr _ (getDin (z := z96) (show i < L.length by omega))
    have et : L.take i ++ [(⟨(L.getD i z96).f0, (L.getD i z96).f1⟩ : IW)] = L.take (i + 1) := by
      rw [List.take_add_one, List.getD_eq_getElem?_getD, List.getElem?_eq_getElem (show i < L.length by omega)]; rfl
    rw [spec_l11Copy.l0, if_pos (by omega), if_pos (by omega), Option.bind_some, ex, if_pos (show ([] : List Int).length + (L.getD i z96).f1.length < 140737488355328 from by rw [List.length_nil]; omega), if_pos (by rw [List.length_take]; omega), List.nil_append, et,
      show wrap64 ((i : Int) + 1) = ((i + 1 : Nat) : Int) by rw [wrap_in (by omega) (by omega)]; omega]
    exact ih (i + 1) k (by omega) (by omega)
theorem specCopy_eq (b : List Int) (L : List IW) (hb : b.length ≤ 1048576) (hL : L.length ≤ 2000000) (hr : ∀ x ∈ L, x.f1.length ≤ 1048576) {k : Nat} (hk : L.length < k) : spec_l11Copy.f k b L = some (b, L) := by
  unfold spec_l11Copy.f
  rw [Option.bind_some, if_pos (show ([] : List Int).length + b.length < 140737488355328 from by rw [List.length_nil]; omega), List.nil_append]
  have e := specCopy_loop L hL hr b b L.length 0 k (by omega) hk
  rw [show ((0 : Nat) : Int) = 0 from rfl, List.take_zero] at e
  exact e
def wrOk (b : List Int) (L : List IW) (at_ : Int) (data : List Int) : Bool := rdOk b L at_ && decide (data.length = 64)
def wrQ (b : List Int) (L : List IW) (at_ : Int) (data : List Int) : List IW := if wrOk b L at_ data = true then L ++ [⟨at_, data⟩] else L
def sy1 (b : List Int) (x : IW) : List Int := spl b (x.f0 * 64).toNat x.f1
def syB (b : List Int) (L : List IW) : List Int := L.foldl sy1 b
def syM (b : List Int) (L : List IW) : List Int := if dOk b L = true then syB b L else b
def syQ (b : List Int) (L : List IW) : List IW := if dOk b L = true then [] else L
def wIn (n : Nat) (x : IW) : Prop := 0 ≤ x.f0 ∧ x.f0 * 64 + 64 ≤ (n : Int) ∧ x.f1.length = 64
theorem wIn_of {n : Nat} {x : IW} (h : wOk (n / 64) x = true) : wIn n x := by
  unfold wOk at h
  rw [Bool.and_eq_true, decide_eq_true_eq, decide_eq_true_eq] at h
  obtain ⟨⟨h1, h2⟩, h3⟩ := h
  exact ⟨h1, by omega, h3⟩
theorem sy1_len {b : List Int} {x : IW} (h : wIn b.length x) : (sy1 b x).length = b.length := by
  obtain ⟨h1, h2, h3⟩ := h
  unfold sy1 spl
  rw [List.length_append, List.length_append, List.length_take, List.length_drop]
  omega
theorem syB_len : ∀ (L : List IW) (b : List Int), (∀ x ∈ L, wIn b.length x) → (syB b L).length = b.length
  | [], b, _ => rfl
  | x :: L, b, h => by
    have hx := sy1_len (h x (by simp))
    show (syB (sy1 b x) L).length = _
    rw [syB_len L (sy1 b x) (fun y hy => by rw [hx]; exact h y (by simp [hy])), hx]
theorem wAll_in {b : List Int} {L : List IW} (h : L.all (wOk (b.length / 64)) = true) : ∀ x ∈ L, wIn b.length x := fun x hx => wIn_of (List.all_eq_true.1 h x hx)
theorem syM_len (b : List Int) (L : List IW) : (syM b L).length = b.length := by
  unfold syM
  split
  · rename_i h; exact syB_len L b (wAll_in (dOk_iff h).2)
  · rfl
theorem syQ_sub (b : List Int) (L : List IW) : ∀ x ∈ syQ b L, x ∈ L := by
  unfold syQ; split
  · intro x hx; cases hx
  · exact fun x hx => hx
theorem syQ_len (b : List Int) (L : List IW) : (syQ b L).length ≤ L.length := by
  unfold syQ; split
  · exact Nat.zero_le _
  · exact Nat.le_refl _
theorem syQ_vMax (b : List Int) (L : List IW) : vMax (syQ b L) ≤ vMax L := by
  unfold syQ; split
  · exact Nat.zero_le _
  · exact Nat.le_refl _
theorem specSync_loop (L : List IW) (hL : L.length ≤ 2000001) (n : Nat) (hn : n ≤ 25600) (hin : ∀ x ∈ L, wIn n x) (c : List Int) : ∀ (d i k : Nat) (b : List Int) (Q : List IW), b.length = n → i + d = L.length → d < k →
    spec_Sync.l0 k (i : Int) c L b Q = some (syB b (L.drop i), []) := by
  intro d
  induction d with
  | zero =>
    intro i k b Q hb hi hk
    obtain ⟨k, rfl⟩ : ∃ m, k = m + 1 := ⟨k - 1, by omega⟩
    rw [spec_Sync.l0, if_neg (by omega), List.drop_eq_nil_of_le (by omega)]; rfl
  | succ d ih =>
    intro i k b Q hb hi hk
    obtain ⟨k, rfl⟩ : ∃ m, k = m + 1 := ⟨k - 1, by omega⟩
    have ex : rd_T96 L (i : Int) = L.getD i z96 := by unfold rd_T96; rw [Int.toNat_natCast]
    have hx := hin _ (getDin (z := z96) (show i < L.length by omega))
    have hl1 := sy1_len (b := b) (x := L.getD i z96) (by rw [hb]; exact hx)
    obtain ⟨h1, h2, h3⟩ := hx
    rw [spec_Sync.l0, if_pos (by omega), if_pos (by omega), ex, dropAt z96 L i (by omega)]
    show _ = some (syB (sy1 b (L.getD i z96)) (L.drop (i + 1)), [])
    generalize L.getD i z96 = x at h1 h2 h3 hl1 ⊢
    rw [show wrap64 (x.f0 * 64) = x.f0 * 64 from wrap_in (by omega) (by omega), if_pos (by omega), if_pos (by omega), show wrap64 ((i : Int) + 1) = ((i + 1 : Nat) : Int) by rw [wrap_in (by omega) (by omega)]; omega]
    exact ih (i + 1) k (sy1 b x) Q (by omega) (by omega) (by omega)
theorem specSync_eq (b : List Int) (L : List IW) (hb : b.length ≤ 1048576) (hL : L.length ≤ 2000000) (hr : ∀ x ∈ L, x.f1.length ≤ 1048576) {k : Nat} (hk : L.length + 3 < k) : spec_Sync.f k b L = some (syM b L, syQ b L) := by
  unfold spec_Sync.f syM syQ
  rw [specCopy_eq b L hb hL hr (by omega), Option.bind_some, specOk_eq b L (by omega) (by omega) (by omega), Option.bind_some]
  by_cases h : dOk b L = true
  · obtain ⟨⟨h4, h5, h6⟩, h7⟩ := dOk_iff h
    rw [if_pos h, if_pos h, if_pos h]
    have e := specSync_loop L (by omega) b.length (by omega) (wAll_in h7) b L.length 0 k b L rfl (by omega) (by omega)
    rw [show ((0 : Nat) : Int) = 0 from rfl, List.drop_zero] at e
    exact e
  · rw [if_neg h, if_neg h, if_neg h]
theorem implSync_loop (L : List IW) (hL : L.length ≤ 2000001) (n : Nat) (hn : n ≤ 25600) (hin : ∀ x ∈ L, wIn n x) : ∀ (d i k : Nat) (b : List Int), b.length = n → i + d = L.length → d < k →
    impl_done.l0 k L (L.length : Int) (i : Int) b = some (syB b (L.drop i), []) := by
  intro d
  induction d with
  | zero =>
    intro i k b hb hi hk
    obtain ⟨k, rfl⟩ : ∃ m, k = m + 1 := ⟨k - 1, by omega⟩
    rw [impl_done.l0, if_neg (by omega), List.drop_eq_nil_of_le (by omega)]; rfl
  | succ d ih =>
    intro i k b hb hi hk
    obtain ⟨k, rfl⟩ : ∃ m, k = m + 1 := ⟨k - 1, by omega⟩
    have ex : rd_T96 L (i : Int) = L.getD i z96 := by unfold rd_T96; rw [Int.toNat_natCast]
    have hx := hin _ (getDin (z := z96) (show i < L.length by omega))
    have hl1 := sy1_len (b := b) (x := L.getD i z96) (by rw [hb]; exact hx)
    obtain ⟨h1, h2, h3⟩ := hx
    rw [impl_done.l0, if_pos (by omega), if_pos (by omega), if_pos (by omega), show impl_SyncOne.f (i : Int) = some true from rfl, Option.bind_some, if_pos rfl, ex, dropAt z96 L i (by omega)]
    show _ = some (syB (sy1 b (L.getD i z96)) (L.drop (i + 1)), [])
    generalize L.getD i z96 = x at h1 h2 h3 hl1 ⊢
    rw [show wrap64 (x.f0 * 64) = x.f0 * 64 from wrap_in (by omega) (by omega), if_pos (by omega), if_pos (by omega), show wrap64 ((i : Int) + 1) = ((i + 1 : Nat) : Int) by rw [wrap_in (by omega) (by omega)]; omega]
    exact ih (i + 1) k (sy1 b x) (by omega) (by omega) (by omega)
theorem implSync_eq (b : List Int) (L : List IW) (hb : b.length ≤ 1048576) (hL : L.length ≤ 2000000) (hr : ∀ x ∈ L, x.f1.length ≤ 1048576) {k : Nat} (hk : L.length + 3 < k) : impl_Sync.f k b L = some (syM b L, syQ b L) := by
  unfold impl_Sync.f syM syQ
  rw [implOk_eq b L (by omega) (by omega) (by omega), Option.bind_some]
  by_cases h : dOk b L = true
  · obtain ⟨⟨h4, h5, h6⟩, h7⟩ := dOk_iff h
    rw [if_pos h, if_pos h, if_pos h]
    have e := implSync_loop L (by omega) b.length (by omega) (wAll_in h7) L.length 0 k b rfl (by omega) (by omega)
    rw [show ((0 : Nat) : Int) = 0 from rfl, List.drop_zero] at e
    rw [show impl_done.f k b L = some (syB b L, []) from by unfold impl_done.f; rw [clone_eq b (by omega), Option.bind_some]; exact e, Option.bind_some]
  · rw [if_neg h, if_neg h, if_neg h, implCopy_eq b L hb hL hr (by omega), Option.bind_some]
theorem u64_mod' (x : Int) : IntKind.u64.wrap x = x % 18446744073709551616 := by simp [IntKind.wrap, IntKind.bits, IntKind.signed]
/-- the four low bytes -/
def lowB (x : Int) : List Int := [x % 256, x / 256 % 256, x / 65536 % 256, x / 16777216 % 256]
theorem l8Bytes_four (k : Nat) (x : Int) : spec_l8Bytes.f (k + 5) x 4 = some (lowB x) := by
  unfold spec_l8Bytes.f
  rw [u64_mod']
  have e1 : x % 18446744073709551616 % 256 = x % 256 := by omega
  have e2 : x % 18446744073709551616 / 256 % 256 = x / 256 % 256 := by omega
  have e3 : x % 18446744073709551616 / 256 / 256 % 256 = x / 65536 % 256 := by omega
  have e4 : x % 18446744073709551616 / 256 / 256 / 256 % 256 = x / 16777216 % 256 := by omega
  have w1 : wrap64 (0 + 1) = 1 := wrap_in (by decide) (by decide)
  have w2 : wrap64 (1 + 1) = 2 := wrap_in (by decide) (by decide)
  have w3 : wrap64 (2 + 1) = 3 := wrap_in (by decide) (by decide)
  have w4 : wrap64 (3 + 1) = 4 := wrap_in (by decide) (by decide)
  unfold spec_l8Bytes.l0; rw [if_pos (by decide), if_pos (by simp), w1]
  unfold spec_l8Bytes.l0; rw [if_pos (by decide), if_pos (by simp), w2]
  unfold spec_l8Bytes.l0; rw [if_pos (by decide), if_pos (by simp), w3]
  unfold spec_l8Bytes.l0; rw [if_pos (by decide), if_pos (by simp), w4]
  unfold spec_l8Bytes.l0; rw [if_neg (by decide)]
  rw [e1, e2, e3, e4]; rfl
theorem shr_i (x : Int) {j : Nat} (hj : j ≤ 32) : shr .i64 x (IntKind.u64.wrap (wrap64 (j : Int))) = x / 2 ^ j := by
  rw [wrap_in (by omega) (by omega), u64_mod', Int.emod_eq_of_lt (by omega) (by omega)]; unfold shr; rw [Int.toNat_natCast, Nat.min_eq_left (by simp [IntKind.bits]; omega)]
theorem putLow_four (k : Nat) (l : List Int) (x : Int) (hl : l.length + 4 < 140737488355328) : impl_putLow.f (k + 5) l x 4 = some (l ++ lowB x) := by
  unfold impl_putLow.f
  have w1 : wrap64 (0 + 1) = 1 := wrap_in (by decide) (by decide)
  have w2 : wrap64 (1 + 1) = 2 := wrap_in (by decide) (by decide)
  have w3 : wrap64 (2 + 1) = 3 := wrap_in (by decide) (by decide)
  have w4 : wrap64 (3 + 1) = 4 := wrap_in (by decide) (by decide)
  have s0 : shr .i64 x (IntKind.u64.wrap (wrap64 (8 * 0))) = x := by have := shr_i x (j := 0) (by omega); simpa using this
  have s1 : shr .i64 x (IntKind.u64.wrap (wrap64 (8 * 1))) = x / 256 := shr_i x (j := 8) (by omega)
  have s2 : shr .i64 x (IntKind.u64.wrap (wrap64 (8 * 2))) = x / 65536 := shr_i x (j := 16) (by omega)
  have s3 : shr .i64 x (IntKind.u64.wrap (wrap64 (8 * 3))) = x / 16777216 := shr_i x (j := 24) (by omega)
  unfold impl_putLow.l0; rw [if_pos (by decide), if_pos (by decide +kernel), if_pos (by omega), w1, s0]
  unfold impl_putLow.l0; rw [if_pos (by decide), if_pos (by decide +kernel), if_pos (by simp; omega), w2, s1]
  unfold impl_putLow.l0; rw [if_pos (by decide), if_pos (by decide +kernel), if_pos (by simp; omega), w3, s2]
  unfold impl_putLow.l0; rw [if_pos (by decide), if_pos (by decide +kernel), if_pos (by simp; omega), w4, s3]
  unfold impl_putLow.l0; rw [if_neg (by decide)]
  simp [lowB]
def sumStep (s b : Int) : Int := ((s.toNat ^^^ (b % 4294967296).toNat : Nat) : Int) * 16777619 % 4294967296
def sumF : Int → List Int → Int
  | s, [] => s
  | s, b :: l => sumF (sumStep s b) l
theorem sumStep_in (s b : Int) : 0 ≤ sumStep s b ∧ sumStep s b < 4294967296 := by unfold sumStep; omega
theorem ofInt_nat (w : Nat) (x : Int) : (BitVec.ofInt w x).toNat = (x % (2 ^ w : Nat)).toNat := BitVec.toNat_ofInt x
theorem xor32 (s b : Int) (h0 : 0 ≤ s) (h1 : s < 4294967296) : Go.bits .xor .u32 s (b % 4294967296) = ((s.toNat ^^^ (b % 4294967296).toNat : Nat) : Int) := by
  have hlt : s.toNat ^^^ (b % 4294967296).toNat < 2 ^ 32 := Nat.xor_lt_two_pow (by omega) (by omega)
  show IntKind.u32.wrap (((BitVec.ofInt 32 s ^^^ BitVec.ofInt 32 (b % 4294967296)).toNat : Nat) : Int) = _
  rw [BitVec.toNat_xor, ofInt_nat, ofInt_nat]
  rw [show s % ((2 ^ 32 : Nat) : Int) = s from Int.emod_eq_of_lt h0 (by omega), show b % 4294967296 % ((2 ^ 32 : Nat) : Int) = b % 4294967296 from by omega]
  simp only [IntKind.wrap, IntKind.bits, IntKind.signed]
  generalize (s.toNat ^^^ (b % 4294967296).toNat) = z at *
  simp; omega
theorem xor64 (s b : Int) (h0 : 0 ≤ s) (h1 : s < 4294967296) : Go.bits .xor .u64 s (IntKind.u64.wrap b) = ((s.toNat ^^^ (b % 18446744073709551616).toNat : Nat) : Int) := by
  have hlt : s.toNat ^^^ (b % 18446744073709551616).toNat < 2 ^ 64 := Nat.xor_lt_two_pow (by omega) (by omega)
  rw [u64_mod']
  show IntKind.u64.wrap (((BitVec.ofInt 64 s ^^^ BitVec.ofInt 64 (b % 18446744073709551616)).toNat : Nat) : Int) = _
  rw [BitVec.toNat_xor, ofInt_nat, ofInt_nat]
  rw [show s % ((2 ^ 64 : Nat) : Int) = s from Int.emod_eq_of_lt h0 (by omega), show b % 18446744073709551616 % ((2 ^ 64 : Nat) : Int) = b % 18446744073709551616 from by omega]
  simp only [IntKind.wrap, IntKind.bits, IntKind.signed]
  generalize (s.toNat ^^^ (b % 18446744073709551616).toNat) = z at *
  simp; omega
theorem step32 (s b : Int) (h0 : 0 ≤ s) (h1 : s < 4294967296) : (Go.bits .xor .u32 s (b % 4294967296) * 16777619) % 4294967296 = sumStep s b := by
  rw [xor32 s b h0 h1]; rfl
theorem step64 (s b : Int) (h0 : 0 ≤ s) (h1 : s < 4294967296) : Int.tmod (IntKind.u64.wrap (Go.bits .xor .u64 s (IntKind.u64.wrap b) * 16777619)) 4294967296 = sumStep s b := by
  rw [xor64 s b h0 h1, u64_mod']
  have hx : (s.toNat ^^^ (b % 18446744073709551616).toNat) % 4294967296 = s.toNat ^^^ (b % 4294967296).toNat := by
    have := Nat.xor_mod_two_pow (a := s.toNat) (b := (b % 18446744073709551616).toNat) (n := 32)
    rw [show (2 : Nat) ^ 32 = 4294967296 from rfl] at this
    rw [this, Nat.mod_eq_of_lt (show s.toNat < 4294967296 by omega)]
    congr 1
    omega
  unfold sumStep
  rw [← hx]
  generalize (s.toNat ^^^ (b % 18446744073709551616).toNat) = z
  rw [Int.tmod_eq_emod_of_nonneg (by omega)]
  omega
theorem rd_drop {l : List Int} {n : Nat} {u : Int} {r : List Int} (h : l.drop n = u :: r) : rd l (n : Int) = u := by
  unfold rd
  have := congrArg List.head? h
  rw [List.head?_drop] at this
  simp [List.getD, this]
theorem drop_succ {l : List Int} {n : Nat} {u : Int} {r : List Int} (h : l.drop n = u :: r) : l.drop (n + 1) = r := by
  have e : l.drop (n + 1) = (l.drop n).drop 1 := by rw [List.drop_drop]
  rw [e, h]; rfl
theorem specSum_loop (l : List Int) (hl : l.length < 4611686018427387904) : ∀ (r : List Int) (n : Nat) (s : Int) (k : Nat), l.drop n = r → n ≤ l.length → 0 ≤ s → s < 4294967296 → r.length < k → spec_l12Sum.l0 k l s (n : Int) = some (sumF s r) := by
  intro r
  induction r with
  | nil =>
    intro n s k hd hn h0 h1 hk
    cases k with
    | zero => simp at hk
    | succ k =>
      have : l.length - n = 0 := by rw [← List.length_drop, hd]; rfl
      unfold spec_l12Sum.l0
      rw [if_neg (by omega), wrap_in (by omega) (by omega)]; rfl
  | cons u r ih =>
    intro n s k hd hn h0 h1 hk
    cases k with
    | zero => simp at hk
    | succ k =>
      have hlen : l.length - n = r.length + 1 := by rw [← List.length_drop, hd]; rfl
      unfold spec_l12Sum.l0
      rw [if_pos (by omega), if_pos (by omega), rd_drop hd, step64 s u h0 h1, wrap_in (by omega) (by omega), show (n : Int) + 1 = ((n + 1 : Nat) : Int) from by omega]
      exact ih (n + 1) _ k (drop_succ hd) (by omega) (sumStep_in s u).1 (sumStep_in s u).2 (by simp at hk; omega)
theorem implSum_loop (l : List Int) (hl : l.length < 4611686018427387904) : ∀ (r : List Int) (n : Nat) (s : Int) (k : Nat), l.drop n = r → n ≤ l.length → 0 ≤ s → s < 4294967296 → r.length < k → impl_sumOf.l0 k s l (l.length : Int) (n : Int) = some (sumF s r) := by
  intro r
  induction r with
  | nil =>
    intro n s k hd hn h0 h1 hk
    cases k with
    | zero => simp at hk
    | succ k =>
      have : l.length - n = 0 := by rw [← List.length_drop, hd]; rfl
      unfold impl_sumOf.l0
      rw [if_neg (by omega), wrap_in (by omega) (by omega)]; rfl
  | cons u r ih =>
    intro n s k hd hn h0 h1 hk
    cases k with
    | zero => simp at hk
    | succ k =>
      have hlen : l.length - n = r.length + 1 := by rw [← List.length_drop, hd]; rfl
      unfold impl_sumOf.l0
      rw [if_pos (by omega), if_pos (by omega), if_pos (by omega), rd_drop hd, step32 s u h0 h1, wrap_in (by omega) (by omega), show (n : Int) + 1 = ((n + 1 : Nat) : Int) from by omega]
      exact ih (n + 1) _ k (drop_succ hd) (by omega) (sumStep_in s u).1 (sumStep_in s u).2 (by simp at hk; omega)
theorem specSum_eq (l : List Int) (hl : l.length < 4611686018427387904) {k : Nat} (hk : l.length < k) : spec_l12Sum.f k l = some (sumF 2166136261 l) :=
  specSum_loop l hl l 0 _ k rfl (by omega) (by decide) (by decide) hk
theorem implSum_eq (l : List Int) (hl : l.length < 4611686018427387904) {k : Nat} (hk : l.length < k) : impl_sumOf.f k l = some (sumF 2166136261 l) :=
  implSum_loop l hl l 0 _ k rfl (by omega) (by decide) (by decide) hk
/-- a log sector's bytes -/
def lsHead (e n kind : Int) (p : List Int) : List Int := lowB e ++ lowB n ++ [kind, (p.length : Int) % 256] ++ List.replicate 6 0 ++ p ++ List.replicate (44 - p.length) 0
def lsB (e n kind : Int) (p : List Int) : List Int := lsHead e n kind p ++ lowB (sumF 2166136261 (lsHead e n kind p))
theorem lsHead_len (e n kind : Int) (p : List Int) (hp : p.length ≤ 44) : (lsHead e n kind p).length = 60 := by
  simp [lsHead, lowB]; omega
theorem lsB_len (e n kind : Int) (p : List Int) (hp : p.length ≤ 44) : (lsB e n kind p).length = 64 := by
  unfold lsB; rw [List.length_append, lsHead_len _ _ _ _ hp]; rfl
theorem implSector_eq (e n kind : Int) (p : List Int) (hp : p.length ≤ 44) {k : Nat} (hk : 100 ≤ k) : impl_sector_bytes.f k e n kind p = some (lsB e n kind p) := by
  obtain ⟨k, rfl⟩ : ∃ q, k = q + 5 := ⟨k - 5, by omega⟩
  unfold impl_sector_bytes.f
  rw [putLow_four k [] e (by decide), Option.bind_some, putLow_four k _ n (by simp [lowB]), Option.bind_some, Option.bind_some]
  rw [if_pos (by simp [lowB]), Option.bind_some]
  have w1 : wrap64 (16 - ((([] ++ lowB e ++ lowB n ++ [kind, (p.length : Int) % 256] : List Int)).length : Int)) = 6 := by
    rw [show (([] ++ lowB e ++ lowB n ++ [kind, (p.length : Int) % 256] : List Int)).length = 10 from rfl]; exact wrap_in (by decide) (by decide)
  rw [w1, if_pos (by decide), if_pos (by simp [lowB]), Option.bind_some, show ((6 : Int)).toNat = 6 from rfl]
  rw [if_pos (by simp [lowB]; omega), Option.bind_some]
  have l2 : ([] ++ lowB e ++ lowB n ++ [kind, (p.length : Int) % 256] ++ List.replicate 6 0 ++ p : List Int).length = 16 + p.length := by simp [lowB]; omega
  have w2 : wrap64 (60 - ((([] ++ lowB e ++ lowB n ++ [kind, (p.length : Int) % 256] ++ List.replicate 6 0 ++ p : List Int)).length : Int)) = ((44 - p.length : Nat) : Int) := by
    rw [l2, wrap_in (by omega) (by omega)]; omega
  rw [w2, if_pos (by omega), if_pos (by rw [l2]; simp; omega), Option.bind_some, Int.toNat_natCast]
  have hh : ([] ++ lowB e ++ lowB n ++ [kind, (p.length : Int) % 256] ++ List.replicate 6 0 ++ p ++ List.replicate (44 - p.length) 0 : List Int) = lsHead e n kind p := by unfold lsHead; rw [List.nil_append]
  rw [hh, implSum_eq _ (by rw [lsHead_len _ _ _ _ hp]; omega) (by rw [lsHead_len _ _ _ _ hp]; omega), Option.bind_some, putLow_four k _ _ (by rw [lsHead_len _ _ _ _ hp]; omega), Option.bind_some]
  rfl
theorem specSector_eq (e n : Int) (m : Bool) (p : List Int) (hp : p.length ≤ 44) {k : Nat} (hk : 100 ≤ k) : spec_l12Sector.f k e n m p = some (lsB e n (if m then 1 else 2) p) := by
  obtain ⟨k, rfl⟩ : ∃ q, k = q + 5 := ⟨k - 5, by omega⟩
  unfold spec_l12Sector.f
  rw [l8Bytes_four k e, Option.bind_some, l8Bytes_four k n, Option.bind_some, if_pos (by simp [lowB]), Option.bind_some]
  have w2 : wrap64 (44 - (p.length : Int)) = ((44 - p.length : Nat) : Int) := by
    rw [wrap_in (by omega) (by omega)]; omega
  have body : ∀ kind : Int, ((some (([kind, ((p.length : Int)) % 256] : List Int) : List Int)).bind fun y149 => (if (lowB e ++ lowB n).length + y149.length < 140737488355328 then ((some ((lowB e ++ lowB n) ++ y149 : List Int)).bind fun y152 => (if y152.length + 6 < 140737488355328 then ((some (y152 ++ List.replicate 6 0 : List Int)).bind fun y155 => (if y155.length + p.length < 140737488355328 then ((some (y155 ++ p : List Int)).bind fun y158 => (if 0 ≤ (wrap64 (44 - (p.length : Int))) then (if y158.length + (wrap64 (44 - (p.length : Int)) : Int).toNat < 140737488355328 then ((some (y158 ++ List.replicate (wrap64 (44 - (p.length : Int)) : Int).toNat 0 : List Int)).bind fun y161 => ((spec_l12Sum.f (k + 5) y161).bind fun t164 => ((spec_l8Bytes.f (k + 5) t164 4).bind fun t165 => (if y161.length + t165.length < 140737488355328 then (some (y161 ++ t165)) else (none))))) else (none)) else (none))) else (none))) else (none))) else (none))) = some (lsB e n kind p) := by
    intro kind
    rw [Option.bind_some, if_pos (by simp [lowB]), Option.bind_some, if_pos (by simp [lowB]), Option.bind_some, if_pos (by simp [lowB]; omega), Option.bind_some, w2, if_pos (by omega), if_pos (by simp [lowB]; omega), Option.bind_some, Int.toNat_natCast]
    have hh : (lowB e ++ lowB n ++ [kind, (p.length : Int) % 256] ++ List.replicate 6 0 ++ p ++ List.replicate (44 - p.length) 0 : List Int) = lsHead e n kind p := rfl
    rw [hh, specSum_eq _ (by rw [lsHead_len _ _ _ _ hp]; omega) (by rw [lsHead_len _ _ _ _ hp]; omega), Option.bind_some, l8Bytes_four, Option.bind_some, if_pos (by rw [lsHead_len _ _ _ _ hp]; simp [lowB])]
    rfl
  cases m with
  | true => rw [if_pos rfl, if_pos rfl]; exact body 1
  | false => rw [if_neg (by decide), if_neg (by decide)]; exact body 2
/-- the piece of a record that its sector number i holds -/
def pieceAt (l : List Int) (i : Nat) : List Int := (l.drop (i * 44)).take 44
theorem pieceAt_len (l : List Int) (i : Nat) : (pieceAt l i).length ≤ 44 := by unfold pieceAt; rw [List.length_take]; omega
def wOne (a0 a2 a3 : Int) (l : List Int) (n i : Nat) : S96 := ⟨wrap64 ((wrap64 (a0 + a2)) + (i : Int)), lsB a3 (wrap64 (a2 + (i : Int))) (if i + 1 < n then 1 else 2) (pieceAt l i)⟩
def lwAll (a0 a2 a3 : Int) (l : List Int) (n : Nat) : Nat → Nat → List S96
  | 0, _ => []
  | d + 1, i => wOne a0 a2 a3 l n i :: lwAll a0 a2 a3 l n d (i + 1)
theorem lwAll_len (a0 a2 a3 : Int) (l : List Int) (n : Nat) : ∀ d i, (lwAll a0 a2 a3 l n d i).length = d
  | 0, _ => rfl
  | d + 1, i => by show (lwAll a0 a2 a3 l n d (i + 1)).length + 1 = d + 1; rw [lwAll_len]
/-- how many pieces -/
def nP (l : List Int) : Nat := max ((l.length + 43) / 44) 1
theorem piece_spec (l : List Int) (i : Nat) : ((l.take (min ((i + 1) * 44) l.length)).drop (i * 44)) = pieceAt l i := by
  unfold pieceAt
  rw [List.drop_take]
  by_cases h : (i + 1) * 44 ≤ l.length
  · rw [Nat.min_eq_left h]; congr 1; omega
  · rw [Nat.min_eq_right (by omega), List.take_of_length_le (by rw [List.length_drop]; omega), List.take_of_length_le (by rw [List.length_drop]; omega)]
theorem specWr_loop (a0 a1 a2 a3 : Int) (l : List Int) (n : Nat) (hn : n ≤ 100) (hl : l.length ≤ 4000) (hnl : (n - 1) * 44 ≤ l.length) : ∀ (d i k : Nat) (acc : List S96), i + d = n → acc.length + d ≤ 1000 → d + 200 ≤ k → spec_LogWrites.l0 k l acc (n : Int) (i : Int) a0 a1 a2 a3 = some (acc ++ lwAll a0 a2 a3 l n d i) := by
  intro d
  induction d with
  | zero =>
    intro i k acc hi ha hk
    obtain ⟨k, rfl⟩ : ∃ q, k = q + 1 := ⟨k - 1, by omega⟩
    unfold spec_LogWrites.l0
    rw [if_neg (by omega)]
    show some acc = some (acc ++ [])
    rw [List.append_nil]
  | succ d ih =>
    intro i k acc hi ha hk
    obtain ⟨k, rfl⟩ : ∃ q, k = q + 1 := ⟨k - 1, by omega⟩
    unfold spec_LogWrites.l0
    have w1 : wrap64 ((i : Int) + 1) = ((i + 1 : Nat) : Int) := by rw [wrap_in (by omega) (by omega)]; omega
    have w2 : wrap64 (((i + 1 : Nat) : Int) * 44) = (((i + 1) * 44 : Nat) : Int) := by rw [wrap_in (by omega) (by omega)]; omega
    have w3 : wrap64 ((i : Int) * 44) = ((i * 44 : Nat) : Int) := by rw [wrap_in (by omega) (by omega)]; omega
    have hm : spec_l4Min.f (((i + 1) * 44 : Nat) : Int) (l.length : Int) = some ((min ((i + 1) * 44) l.length : Nat) : Int) := by
      unfold spec_l4Min.f
      by_cases h : (((i + 1) * 44 : Nat) : Int) < (l.length : Int)
      · rw [if_pos h, Nat.min_eq_left (by omega)]
      · rw [if_neg h, Nat.min_eq_right (by omega)]
    have hil : i * 44 ≤ l.length := by
      have : i ≤ n - 1 := by omega
      have := Nat.mul_le_mul_right 44 this; omega
    rw [if_pos (by omega), w1, w2, hm, Option.bind_some, w3, if_pos (by omega), if_pos (by omega), if_pos (by omega), Int.toNat_natCast, Int.toNat_natCast, piece_spec, specSector_eq _ _ _ _ (pieceAt_len l i) (by omega), Option.bind_some, if_pos (by omega)]
    have e : (if (decide (((i + 1 : Nat) : Int) < (n : Int))) = true then (1 : Int) else 2) = if i + 1 < n then 1 else 2 := by
      by_cases h : i + 1 < n
      · rw [if_pos h, if_pos (by rw [decide_eq_true_eq]; omega)]
      · rw [if_neg h, if_neg (by rw [decide_eq_true_eq]; omega)]
    rw [e]
    have := ih (i + 1) k (acc ++ [wOne a0 a2 a3 l n i]) (by omega) (by rw [List.length_append, List.length_singleton]; omega) (by omega)
    rw [List.append_assoc] at this
    exact this
theorem implWr_loop (a0 a1 a2 a3 : Int) (l : List Int) (n : Nat) (hn : n ≤ 100) (h1 : 1 ≤ n) (hl : l.length ≤ 4000) (hnl : (n - 1) * 44 ≤ l.length) (hln : l.length ≤ n * 44) : ∀ (d i k : Nat) (acc : List S96), i + d = n → acc.length + d ≤ 1000 → d + 200 ≤ k → impl_LogWrites.l0 k l (n : Int) acc (n : Int) (i : Int) a0 a1 a2 a3 = some (acc ++ lwAll a0 a2 a3 l n d i) := by
  intro d
  induction d with
  | zero =>
    intro i k acc hi ha hk
    obtain ⟨k, rfl⟩ : ∃ q, k = q + 1 := ⟨k - 1, by omega⟩
    unfold impl_LogWrites.l0
    rw [if_neg (by omega)]
    show some acc = some (acc ++ [])
    rw [List.append_nil]
  | succ d ih =>
    intro i k acc hi ha hk
    obtain ⟨k, rfl⟩ : ∃ q, k = q + 1 := ⟨k - 1, by omega⟩
    unfold impl_LogWrites.l0
    have w1 : wrap64 ((i : Int) + 1) = ((i + 1 : Nat) : Int) := by rw [wrap_in (by omega) (by omega)]; omega
    have w3 : wrap64 ((i : Int) * 44) = ((i * 44 : Nat) : Int) := by rw [wrap_in (by omega) (by omega)]; omega
    have w4 : wrap64 ((n : Int) - 1) = ((n - 1 : Nat) : Int) := by rw [wrap_in (by omega) (by omega)]; omega
    have hil : i * 44 ≤ l.length := by
      have : i ≤ n - 1 := by omega
      have := Nat.mul_le_mul_right 44 this; omega
    have hih := ih (i + 1) k (acc ++ [wOne a0 a2 a3 l n i]) (by omega) (by rw [List.length_append, List.length_singleton]; omega) (by omega)
    rw [List.append_assoc] at hih
    rw [if_pos (by omega), w3, if_pos (by omega), if_pos (by omega), w4, Int.toNat_natCast, w1]
    by_cases hlast : (i : Int) = ((n - 1 : Nat) : Int)
    · rw [if_pos hlast]
      have hp : l.drop (i * 44) = pieceAt l i := by
        unfold pieceAt
        rw [List.take_of_length_le]
        rw [List.length_drop]
        have : n = i + 1 := by omega
        subst this; omega
      rw [hp, implSector_eq _ _ _ _ (pieceAt_len l i) (by omega), Option.bind_some, if_pos (by omega)]
      have e : wOne a0 a2 a3 l n i = ⟨wrap64 ((wrap64 (a0 + a2)) + (i : Int)), lsB a3 (wrap64 (a2 + (i : Int))) 2 (pieceAt l i)⟩ := by unfold wOne; rw [if_neg (by omega)]
      rw [e] at hih
      exact hih.trans (by rw [← e]; rfl)
    · rw [if_neg hlast]
      have hge : i + 1 ≤ n - 1 := by omega
      have := Nat.mul_le_mul_right 44 hge
      rw [if_pos (by rw [List.length_drop]; omega)]
      rw [show (l.drop (i * 44)).take 44 = pieceAt l i from rfl, implSector_eq _ _ _ _ (pieceAt_len l i) (by omega), Option.bind_some, if_pos (by omega)]
      have e : wOne a0 a2 a3 l n i = ⟨wrap64 ((wrap64 (a0 + a2)) + (i : Int)), lsB a3 (wrap64 (a2 + (i : Int))) 1 (pieceAt l i)⟩ := by unfold wOne; rw [if_pos (by omega)]
      rw [e] at hih
      exact hih.trans (by rw [← e]; rfl)
/-- the room that a log has left -/
def roomL (a0 a1 a2 : Int) : Int := if (wrap64 ((wrap64 ((wrap64 (a1 - a0)) + 1)) - a2)) < 0 then 0 else wrap64 ((wrap64 ((wrap64 (a1 - a0)) + 1)) - a2)
def fineL (a0 a1 a2 a3 : Int) : Bool := decide (0 ≤ a0 ∧ a0 ≤ a1 ∧ a1 < 400 ∧ 0 ≤ a2 ∧ a2 ≤ wrap64 ((wrap64 (a1 - a0)) + 1) ∧ 1 ≤ a3 ∧ a3 ≤ 1000000)
theorem l1In_eq (a b c : Int) : spec_l1In.f a b c = some (decide (b ≤ a ∧ a ≤ c)) := by
  unfold spec_l1In.f
  by_cases h : a ≥ b
  · rw [if_pos h]; congr 1; exact decide_eq_decide.2 ⟨fun q => ⟨h, q⟩, fun q => q.2⟩
  · rw [if_neg h]; congr 1; exact (decide_eq_false (fun q => h q.1)).symm
theorem fineL_eq (a0 a1 a2 a3 : Int) : spec_l12Fine.f a0 a1 a2 a3 = some (fineL a0 a1 a2 a3) := by
  unfold spec_l12Fine.f fineL
  rw [l1In_eq, l1In_eq, l1In_eq, Option.bind_some]
  by_cases h1 : 0 ≤ a0 ∧ a0 ≤ a1
  · rw [if_pos (decide_eq_true h1)]
    by_cases h2 : a1 < 400
    · rw [if_pos h2, Option.bind_some]
      by_cases h3 : 0 ≤ a2 ∧ a2 ≤ wrap64 ((wrap64 (a1 - a0)) + 1)
      · rw [if_pos (decide_eq_true h3), Option.bind_some]
        congr 1
        exact decide_eq_decide.2 ⟨fun q => ⟨h1.1, h1.2, h2, h3.1, h3.2, q.1, q.2⟩, fun q => ⟨q.2.2.2.2.2.1, q.2.2.2.2.2.2⟩⟩
      · rw [if_neg (by rw [decide_eq_true_eq]; exact h3)]
        congr 1
        exact (decide_eq_false (fun q => h3 ⟨q.2.2.2.1, q.2.2.2.2.1⟩)).symm
    · rw [if_neg h2]
      congr 1
      exact (decide_eq_false (fun q => h2 q.2.2.1)).symm
  · rw [if_neg (by rw [decide_eq_true_eq]; exact h1)]
    congr 1
    exact (decide_eq_false (fun q => h1 ⟨q.1, q.2.1⟩)).symm
theorem specRoom_eq (a0 a1 a2 a3 : Int) : spec_LogRoom.f a0 a1 a2 a3 = some (roomL a0 a1 a2) := by
  unfold spec_LogRoom.f roomL
  split <;> rfl
theorem implRoom_eq (a0 a1 a2 a3 : Int) : impl_LogRoom.f a0 a1 a2 a3 = some (roomL a0 a1 a2) := by
  unfold impl_LogRoom.f roomL mx
  rfl
/-- the writes of a record -/
def wList (a0 a1 a2 a3 : Int) (l : List Int) : List S96 := if l.length ≤ 4000 ∧ (nP l : Int) ≤ roomL a0 a1 a2 then lwAll a0 a2 a3 l (nP l) (nP l) 0 else []
theorem wList_len (a0 a1 a2 a3 : Int) (l : List Int) : (wList a0 a1 a2 a3 l).length ≤ 100 := by
  unfold wList nP
  split
  · rename_i h; rw [lwAll_len]; omega
  · simp
theorem nP_le {l : List Int} (h : l.length ≤ 4000) : nP l ≤ 100 ∧ 1 ≤ nP l ∧ (nP l - 1) * 44 ≤ l.length ∧ l.length ≤ nP l * 44 := by
  unfold nP; omega
theorem pieces_num (l : List Int) (hl : l.length ≤ 1048576) : wrap64 (Int.tdiv (wrap64 ((wrap64 ((l.length : Int) + 44)) - 1)) 44) = (((l.length + 43) / 44 : Nat) : Int) := by
  rw [wrap_in (x := (l.length : Int) + 44) (by omega) (by omega), wrap_in (x := (l.length : Int) + 44 - 1) (by omega) (by omega), Int.tdiv_eq_ediv_of_nonneg (by omega), wrap_in (by omega) (by omega)]
  omega
theorem specWr_eq (a0 a1 a2 a3 : Int) (l : List Int) (hl : l.length ≤ 1048576) {k : Nat} (hk : 400 ≤ k) : spec_LogWrites.f k a0 a1 a2 a3 l = some (if fineL a0 a1 a2 a3 = true then wList a0 a1 a2 a3 l else []) := by
  obtain ⟨k, rfl⟩ : ∃ q, k = q + 2 := ⟨k - 2, by omega⟩
  unfold spec_LogWrites.f
  rw [Option.bind_some, pieces_num l hl]
  have hj : (if (((l.length + 43) / 44 : Nat) : Int) = 0 then spec_LogWrites.j0 (k + 2) l [] 1 a0 a1 a2 a3 else spec_LogWrites.j0 (k + 2) l [] (((l.length + 43) / 44 : Nat) : Int) a0 a1 a2 a3) = spec_LogWrites.j0 (k + 2) l [] (nP l : Int) a0 a1 a2 a3 := by
    by_cases h : (((l.length + 43) / 44 : Nat) : Int) = 0
    · rw [if_pos h, show (nP l : Int) = 1 from by unfold nP; omega]
    · rw [if_neg h, show (nP l : Int) = (((l.length + 43) / 44 : Nat) : Int) from by unfold nP; omega]
  rw [hj]
  unfold spec_LogWrites.j0
  dsimp only
  rw [fineL_eq, Option.bind_some]
  by_cases hf : fineL a0 a1 a2 a3 = true
  · rw [if_pos hf, if_pos hf]
    unfold wList
    by_cases hb : (l.length : Int) > 4000
    · rw [if_pos hb, if_neg (by omega)]; unfold spec_LogWrites.j1; dsimp only; rw [if_pos rfl]
    · rw [if_neg hb, specRoom_eq, Option.bind_some]
      unfold spec_LogWrites.j1
      dsimp only
      by_cases hr : (nP l : Int) > roomL a0 a1 a2
      · rw [if_pos (decide_eq_true hr), if_neg (by omega)]
      · rw [if_neg (by rw [decide_eq_true_eq]; exact hr), if_pos (by omega)]
        obtain ⟨n1, n2, n3, n4⟩ := nP_le (l := l) (by omega)
        exact specWr_loop a0 a1 a2 a3 l (nP l) n1 (by omega) n3 (nP l) 0 k [] (by omega) (by simp; omega) (by omega)
  · rw [if_neg hf, if_neg hf]; unfold spec_LogWrites.j1; dsimp only; rw [if_pos rfl]
theorem implWr_eq (a0 a1 a2 a3 : Int) (l : List Int) (hl : l.length ≤ 1048576) {k : Nat} (hk : 400 ≤ k) : impl_LogWrites.f k a0 a1 a2 a3 l = some (wList a0 a1 a2 a3 l) := by
  obtain ⟨k, rfl⟩ : ∃ q, k = q + 1 := ⟨k - 1, by omega⟩
  unfold impl_LogWrites.f impl_piecesOf.f
  have hp : mx (wrap64 (Int.tdiv (wrap64 ((wrap64 ((l.length : Int) + 44)) - 1)) 44)) 1 = (nP l : Int) := by
    rw [pieces_num l hl]; unfold mx nP; split <;> omega
  rw [Option.bind_some, hp]
  unfold wList
  by_cases hb : (l.length : Int) > 4000
  · rw [if_pos hb, if_neg (by omega)]; unfold impl_LogWrites.j0; dsimp only; rw [if_pos rfl]
  · rw [if_neg hb, implRoom_eq, Option.bind_some]
    unfold impl_LogWrites.j0
    dsimp only
    by_cases hr : (nP l : Int) > roomL a0 a1 a2
    · rw [if_pos (decide_eq_true hr), if_neg (by omega)]
    · rw [if_neg (by rw [decide_eq_true_eq]; exact hr), if_pos (by omega)]
      obtain ⟨n1, n2, n3, n4⟩ := nP_le (l := l) (by omega)
      exact implWr_loop a0 a1 a2 a3 l (nP l) n1 n2 (by omega) n3 n4 (nP l) 0 k [] (by omega) (by simp; omega) (by omega)
theorem inRange_eq (a b c : Int) : impl_inRange.f a b c = some (decide (b ≤ a ∧ a ≤ c)) := by
  unfold impl_inRange.f
  by_cases h : a ≥ b
  · rw [if_pos h]; congr 1; exact decide_eq_decide.2 ⟨fun q => ⟨h, q⟩, fun q => q.2⟩
  · rw [if_neg h]; congr 1; exact (decide_eq_false (fun q => h q.1)).symm
/-- whether a log is one of a disk -/
def isL (D : Bool) (b : List Int) (a0 a1 a2 a3 : Int) : Bool := (D && decide (0 ≤ a0 ∧ a0 ≤ a1 ∧ a1 < ((b.length / 64 : Nat) : Int))) && decide (0 ≤ a2 ∧ a2 ≤ wrap64 ((wrap64 (a1 - a0)) + 1)) && decide (1 ≤ a3 ∧ a3 ≤ 1000000)
theorem isL_fine {D : Bool} {b : List Int} {a0 a1 a2 a3 : Int} (hD : D = true → b.length ≤ 25600) (h : isL D b a0 a1 a2 a3 = true) : fineL a0 a1 a2 a3 = true := by
  unfold isL at h
  simp only [Bool.and_eq_true, decide_eq_true_eq] at h
  obtain ⟨⟨⟨h1, h2⟩, h3⟩, h4⟩ := h
  have := hD h1
  unfold fineL
  rw [decide_eq_true_eq]
  exact ⟨h2.1, h2.2.1, by omega, h3.1, h3.2, h4.1, h4.2⟩
theorem specRegion_eq {k : Nat} {b : List Int} {L : List S96} {D : Bool} (a0 a1 : Int) (hb : b.length ≤ 140737488351232) (hD : spec_DiskOk.f k b L = some D) : spec_l12Region.f k b L a0 a1 = some (D && decide (0 ≤ a0 ∧ a0 ≤ a1 ∧ a1 < ((b.length / 64 : Nat) : Int))) := by
  unfold spec_l12Region.f spec_l11Many.f
  rw [hD, Option.bind_some]
  cases D with
  | false => rfl
  | true =>
    rw [if_pos rfl, l1In_eq, Option.bind_some, wrap_in (by omega) (by omega), Option.bind_some, Bool.true_and]
    by_cases h : 0 ≤ a0 ∧ a0 ≤ a1
    · rw [if_pos (decide_eq_true h)]
      congr 1
      exact decide_eq_decide.2 ⟨fun q => ⟨h.1, h.2, by omega⟩, fun q => by omega⟩
    · rw [if_neg (by rw [decide_eq_true_eq]; exact h)]
      congr 1
      exact (decide_eq_false (fun q => h ⟨q.1, q.2.1⟩)).symm
theorem implRegion_eq {k : Nat} {b : List Int} {L : List S96} {D : Bool} (a0 a1 : Int) (hb : b.length ≤ 140737488351232) (hD : impl_DiskOk.f k b L = some D) : impl_canOpen.f k b L a0 a1 = some (D && decide (0 ≤ a0 ∧ a0 ≤ a1 ∧ a1 < ((b.length / 64 : Nat) : Int))) := by
  unfold impl_canOpen.f impl_Disk_isSector.f impl_Disk_sectors.f
  rw [Option.bind_some, inRange_eq, Option.bind_some, Option.bind_some, hD, Option.bind_some, wrap_in (x := (b.length : Int) / 64) (by omega) (by omega), wrap_in (by omega) (by omega)]
  by_cases h0 : a0 ≥ 0
  · rw [if_pos h0]
    by_cases h1 : a0 ≤ a1
    · rw [if_pos h1]
      by_cases h2 : a1 < ((b.length / 64 : Nat) : Int)
      · rw [if_pos (by rw [decide_eq_true_eq]; omega), decide_eq_true (show 0 ≤ a0 ∧ a0 ≤ a1 ∧ a1 < ((b.length / 64 : Nat) : Int) from ⟨h0, h1, h2⟩), Bool.and_true]
      · rw [if_neg (by rw [decide_eq_true_eq]; omega), decide_eq_false (fun q => h2 q.2.2), Bool.and_false]
    · rw [if_neg h1, decide_eq_false (fun q => h1 q.2.1), Bool.and_false]
  · rw [if_neg h0, decide_eq_false (fun q => h0 q.1), Bool.and_false]
theorem specLog_eq {k : Nat} {b : List Int} {L : List S96} {D : Bool} (a0 a1 a2 a3 : Int) (hb : b.length ≤ 140737488351232) (hD : spec_DiskOk.f k b L = some D) : spec_l12Log.f k b L a0 a1 a2 a3 = some (isL D b a0 a1 a2 a3) := by
  unfold spec_l12Log.f isL
  rw [specRegion_eq a0 a1 hb hD, Option.bind_some, l1In_eq, l1In_eq, Option.bind_some, Option.bind_some]
  generalize (D && decide (0 ≤ a0 ∧ a0 ≤ a1 ∧ a1 < ((b.length / 64 : Nat) : Int))) = X
  cases X with
  | false => rfl
  | true =>
    rw [if_pos rfl, Bool.true_and]
    cases decide (0 ≤ a2 ∧ a2 ≤ wrap64 ((wrap64 (a1 - a0)) + 1)) <;> rfl
theorem implLog_eq {k : Nat} {b : List Int} {L : List S96} {D : Bool} (a0 a1 a2 a3 : Int) (hb : b.length ≤ 140737488351232) (hD : impl_DiskOk.f k b L = some D) : impl_isLogOf.f k b L a0 a1 a2 a3 = some (isL D b a0 a1 a2 a3) := by
  unfold impl_isLogOf.f isL
  rw [implRegion_eq a0 a1 hb hD, Option.bind_some, inRange_eq, inRange_eq, Option.bind_some, Option.bind_some]
  generalize (D && decide (0 ≤ a0 ∧ a0 ≤ a1 ∧ a1 < ((b.length / 64 : Nat) : Int))) = X
  cases X with
  | false => rfl
  | true =>
    rw [if_pos rfl, Bool.true_and]
    cases decide (0 ≤ a2 ∧ a2 ≤ wrap64 ((wrap64 (a1 - a0)) + 1)) <;> rfl
/-- what LogAdd answers, M and Q being what Sync leaves -/
def addR (B : Bool) (W : List S96) (b : List Int) (L : List S96) (M : List Int) (Q : List S96) (a0 a1 a2 a3 : Int) : List Int × List S96 × Int × Int × Int × Int × Bool :=
  if B = true then (if W.length = 0 then (b, L, a0, a1, a2, a3, false) else (M, Q, a0, a1, wrap64 (a2 + (W.length : Int)), a3, true)) else (b, L, a0, a1, a2, a3, false)
theorem specAdd_eq {k : Nat} {b : List Int} {L : List S96} {D : Bool} {M : List Int} {Q : List S96} (a0 a1 a2 a3 : Int) (l : List Int) (hb : b.length ≤ 1048576) (hL : L.length ≤ 1048576) (hl : l.length ≤ 1048576) (hk : 400 ≤ k) (hDl : D = true → b.length ≤ 25600)
    (hc : spec_l11Copy.f k b L = some (b, L)) (hD : spec_DiskOk.f k b L = some D) (hS : spec_Sync.f k b (L ++ wList a0 a1 a2 a3 l) = some (M, Q)) :
    spec_LogAdd.f k b L a0 a1 a2 a3 l = some (addR (isL D b a0 a1 a2 a3) (wList a0 a1 a2 a3 l) b L M Q a0 a1 a2 a3) := by
  unfold spec_LogAdd.f addR
  rw [hc, Option.bind_some, specWr_eq a0 a1 a2 a3 l hl hk, Option.bind_some, specLog_eq a0 a1 a2 a3 (by omega) hD, Option.bind_some]
  by_cases hB : isL D b a0 a1 a2 a3 = true
  · rw [if_pos hB, if_pos hB, if_pos (isL_fine hDl hB)]
    have := wList_len a0 a1 a2 a3 l
    by_cases h0 : (wList a0 a1 a2 a3 l).length = 0
    · rw [if_pos h0, if_pos (by omega)]
    · rw [if_neg h0, if_neg (by omega), if_pos (show L.length + (wList a0 a1 a2 a3 l).length < 4398046511104 by omega), hS, Option.bind_some]
  · rw [if_neg hB, if_neg hB]
theorem implAdd_eq {k : Nat} {b : List Int} {L : List S96} {D : Bool} {M : List Int} {Q : List S96} (a0 a1 a2 a3 : Int) (l : List Int) (hb : b.length ≤ 1048576) (hL : L.length ≤ 1048576) (hl : l.length ≤ 1048576) (hk : 400 ≤ k)
    (hc : impl_copyDisk.f k b L = some (b, L)) (hD : impl_DiskOk.f k b L = some D) (hS : impl_Sync.f k b (L ++ wList a0 a1 a2 a3 l) = some (M, Q)) :
    impl_LogAdd.f k b L a0 a1 a2 a3 l = some (addR (isL D b a0 a1 a2 a3) (wList a0 a1 a2 a3 l) b L M Q a0 a1 a2 a3) := by
  unfold impl_LogAdd.f addR
  rw [hc, Option.bind_some, implLog_eq a0 a1 a2 a3 (by omega) hD, Option.bind_some]
  by_cases hB : isL D b a0 a1 a2 a3 = true
  · rw [if_pos hB, if_pos hB, implWr_eq a0 a1 a2 a3 l hl hk, Option.bind_some]
    have := wList_len a0 a1 a2 a3 l
    by_cases h0 : (wList a0 a1 a2 a3 l).length = 0
    · rw [if_pos h0, if_pos (by omega)]
    · rw [if_neg h0, if_neg (by omega), if_pos (show L.length + (wList a0 a1 a2 a3 l).length < 4398046511104 by omega), hS, Option.bind_some]
  · rw [if_neg hB, if_neg hB]
theorem lwAll_64 (a0 a2 a3 : Int) (l : List Int) (n : Nat) : ∀ d i, ∀ x ∈ lwAll a0 a2 a3 l n d i, x.f1.length = 64
  | 0, _, x, h => by cases h
  | d + 1, i, x, h => by
    rcases List.mem_cons.1 h with h1 | h1
    · subst h1; exact lsB_len _ _ _ _ (pieceAt_len l i)
    · exact lwAll_64 a0 a2 a3 l n d (i + 1) x h1
theorem wList_64 (a0 a1 a2 a3 : Int) (l : List Int) : ∀ x ∈ wList a0 a1 a2 a3 l, x.f1.length = 64 := by
  intro x h
  unfold wList at h
  split at h
  · exact lwAll_64 _ _ _ _ _ _ _ x h
  · cases h
theorem FnExactLogAdd : ∀ (l0_0 : List Int) (l0_1 : List (S115)) (a1_0 : Int) (a1_1 : Int) (a1_2 : Int) (a1_3 : Int) (l2 : List Int), ok25 (l0_0, l0_1) → ok27 (a1_0, a1_1, a1_2, a1_3) → (l2.length * 1 ≤ 140737488351232 ∧ ∀ u ∈ l2, (fun x : Int => (Lit.int .u8 x).wf = true) u) → ∃ k, laws_FnExactLogAdd.f k l0_0 l0_1 a1_0 a1_1 a1_2 a1_3 l2 = some true := by
  intro b L a0 a1 a2 a3 data h _ hd
  obtain ⟨⟨hb, _⟩, hL, hr⟩ := h
  have hb : b.length * 1 ≤ 140737488351232 := hb
  have hL : L.length * 32 ≤ 140737488351232 := hL
  have hr1 : ∀ r ∈ L, r.f1.length * 1 ≤ 140737488351232 := fun r q => (hr r q).2.1
  have cl : (L.map cvW).length = L.length := List.length_map ..
  have vm := vMax_cv L
  have wl := wMax_len L
  obtain ⟨K, hK⟩ : ∃ K, K = b.length + 4 * wMax L + 4 * L.length + data.length + 20000 := ⟨_, rfl⟩
  refine ⟨K + 3, ?_⟩
  unfold laws_FnExactLogAdd.f
  by_cases hg : (data.length : Int) > 1048576
  · rw [if_pos hg]
  rw [if_neg hg]
  obtain ⟨t, e1, t0, t1, hsz⟩ := szDisk_some b L hb hL hr1 1048576 (by decide) (by decide) (k := K + 3) (by omega)
  rw [e1, Option.bind_some]
  by_cases h : t < 0
  · rw [if_pos h]
  · obtain ⟨s1, s2, s3⟩ := hsz (by omega)
    have cr1 : ∀ r ∈ L.map cvW, r.f1.length ≤ 1048576 := by
      intro r q
      obtain ⟨x, hx, rfl⟩ := List.mem_map.1 q
      have := s3 x hx; unfold cvW; simp only; omega
    have cr : ∀ r ∈ L.map cvW, r.f1.length ≤ 140737488351232 := fun r q => by have := cr1 r q; omega
    have w64 := wList_64 a0 a1 a2 a3 data
    have wlen := wList_len a0 a1 a2 a3 data
    have vA : ∀ (P Q : List IW), vMax (P ++ Q) = vMax P + vMax Q := by
      intro P Q
      induction P with
      | nil => simp [vMax]
      | cons x P ih => simp only [List.cons_append, vMax]; omega
    have vW : vMax (wList a0 a1 a2 a3 data) = 67 * (wList a0 a1 a2 a3 data).length := by
      generalize wList a0 a1 a2 a3 data = W at w64
      clear wlen
      induction W with
      | nil => rfl
      | cons x W ih =>
        have h1 := w64 x List.mem_cons_self
        have h2 := ih (fun y hy => w64 y (List.mem_cons_of_mem _ hy))
        simp only [vMax, List.length_cons]; omega
    have cr2 : ∀ x ∈ L.map cvW ++ wList a0 a1 a2 a3 data, x.f1.length ≤ 1048576 := by
      intro x hx
      rcases List.mem_append.1 hx with h1 | h1
      · exact cr1 x h1
      · have := w64 x h1; omega
    have hl2 : (L.map cvW ++ wList a0 a1 a2 a3 data).length = L.length + (wList a0 a1 a2 a3 data).length := by rw [List.length_append, cl]
    obtain ⟨⟨B, G, n0, n1, n2, n3, ok⟩, hR⟩ : ∃ R, R = addR (isL (dOk b (L.map cvW)) b a0 a1 a2 a3) (wList a0 a1 a2 a3 data) b (L.map cvW) (syM b (L.map cvW ++ wList a0 a1 a2 a3 data)) (syQ b (L.map cvW ++ wList a0 a1 a2 a3 data)) a0 a1 a2 a3 := ⟨_, rfl⟩
    have hw1 : ∀ k, L.length + 500 < k → spec_LogAdd.f k b (L.map cvW) a0 a1 a2 a3 data = some (B, G, n0, n1, n2, n3, ok) := fun k hk => by
      rw [hR]
      exact specAdd_eq a0 a1 a2 a3 data (by omega) (by omega) (by omega) (by omega) (fun hD => by unfold dOk at hD; rw [Bool.and_eq_true, decide_eq_true_eq] at hD; exact hD.1.2.2) (specCopy_eq b _ (by omega) (by omega) cr1 (by omega)) (specOk_eq b _ (by omega) (by omega) (by omega)) (specSync_eq b _ (by omega) (by omega) cr2 (by omega))
    have hw2 : ∀ k, L.length + 500 < k → impl_LogAdd.f k b (L.map cvW) a0 a1 a2 a3 data = some (B, G, n0, n1, n2, n3, ok) := fun k hk => by
      rw [hR]
      exact implAdd_eq a0 a1 a2 a3 data (by omega) (by omega) (by omega) (by omega) (implCopy_eq b _ (by omega) (by omega) cr1 (by omega)) (implOk_eq b _ (by omega) (by omega) (by omega)) (implSync_eq b _ (by omega) (by omega) cr2 (by omega))
    have hGm : (∀ x ∈ G, x.f1.length ≤ 1048576) ∧ G.length ≤ 1049000 ∧ vMax G ≤ wMax L + 8000 ∧ B.length = b.length := by
      have hz : (B = b ∧ G = L.map cvW) ∨ (B = syM b (L.map cvW ++ wList a0 a1 a2 a3 data) ∧ G = syQ b (L.map cvW ++ wList a0 a1 a2 a3 data)) := by
        unfold addR at hR
        split at hR
        · split at hR
          · left; exact ⟨congrArg (·.1) hR, congrArg (·.2.1) hR⟩
          · right; exact ⟨congrArg (·.1) hR, congrArg (·.2.1) hR⟩
        · left; exact ⟨congrArg (·.1) hR, congrArg (·.2.1) hR⟩
      rcases hz with ⟨e1, e2⟩ | ⟨e1, e2⟩
      · rw [e1, e2]; exact ⟨cr1, by omega, by omega, rfl⟩
      · rw [e1, e2]
        have q1 := syQ_len b (L.map cvW ++ wList a0 a1 a2 a3 data)
        have q2 := syQ_vMax b (L.map cvW ++ wList a0 a1 a2 a3 data)
        rw [vA] at q2
        exact ⟨fun x hx => cr2 x (syQ_sub _ _ x hx), by omega, by omega, syM_len _ _⟩
    clear hR
    obtain ⟨g1, g2, g3, bl⟩ := hGm
    have gl := vMax_len G
    have eL : laws_eqLog.f n0 n1 n2 n3 n0 n1 n2 n3 = some true := by unfold laws_eqLog.f; simp
    have tL : ∀ a b c d : Int, laws_toLog.f a b c d = some (a, b, c, d) := fun _ _ _ _ => rfl
    have okk : (ok != ok) = false := by cases ok <;> rfl
    rw [if_neg h, toDisk_eq b L hb hL hr1 (by omega), Option.bind_some, tL, Option.bind_some, toByteS_eq data (by omega) (by omega), Option.bind_some]
    simp only []
    rw [hw1 _ (by omega), Option.bind_some, Option.bind_some, Option.bind_some, Option.bind_some]
    simp only []
    rw [hw2 _ (by omega), Option.bind_some]
    simp only []
    rw [eqDisk_refl B G (by omega) (by omega) (fun r q => by have := g1 r q; omega) (by omega), Option.bind_some, if_pos rfl, eL, Option.bind_some, if_pos rfl]
    rw [laws_FnExactLogAdd.j0, okk, if_neg (by decide), toDisk_eq b L hb hL hr1 (by omega), Option.bind_some]
    simp only []
    rw [eqDisk_refl b _ (by omega) (by omega) cr (by omega), Option.bind_some, if_pos rfl, toByteS_eq data (by omega) (by omega), Option.bind_some, eqByteS_dec _ _ (by omega) (by omega), Option.bind_some, if_pos (by simp),
      markDisk_eq b _ 1 (by omega) (by omega) cr1 (by omega) (by omega) (by omega), Option.bind_some]
    have hc := cntQ_nn (L.map cvW)
    have hc2 := cntQ_le 1048576 (L.map cvW) cr1
    have hm : ((L.map cvW).length : Int) * ((1048576 : Nat) + 1 : Int) ≤ 1048576 * 1048577 := Int.mul_le_mul_of_nonneg_right (by omega) (by omega)
    have hcG := cntQ_nn G
    simp only []
    rw [markByteS_eq data (1 + (b.length : Int) + cntQ (L.map cvW)) (by omega) (by omega) (by omega) (by omega), Option.bind_some]
    simp only []
    rw [if_neg (show ¬ (1 + (b.length : Int) + cntQ (L.map cvW) + (data.length : Int)) < 0 by omega), eqDisk_refl B G (by omega) (by omega) (fun r q => by have := g1 r q; omega) (by omega), Option.bind_some, if_pos rfl, eL, Option.bind_some, if_pos rfl]
    rw [laws_FnExactLogAdd.j1, if_neg (by decide), markDisk_eq B G 1 (by omega) (by omega) g1 (by omega) (by omega) (by omega), Option.bind_some]
    simp only []
    rw [heldDisk_eq B.length G 1 (by omega) (by omega) g1 (by omega) (by omega) (by omega), Option.bind_some, if_neg (by omega), if_pos rfl, toDisk_eq b L hb hL hr1 (by omega), Option.bind_some, tL, Option.bind_some, toByteS_eq data (by omega) (by omega), Option.bind_some]
    simp only []
    rw [hw2 _ (by omega), Option.bind_some]
    simp only []
    rw [eqDisk_refl B G (by omega) (by omega) (fun r q => by have := g1 r q; omega) (by omega), Option.bind_some, if_pos rfl, eL, Option.bind_some, if_pos rfl]
    rw [laws_FnExactLogAdd.j2, if_neg (by rw [okk]; decide), heldDisk_eq B.length G 1 (by omega) (by omega) g1 (by omega) (by omega) (by omega), Option.bind_some, if_neg (by omega), if_pos rfl]

end Go.Proofs.Ytgmnphckgicadaa.Pure

