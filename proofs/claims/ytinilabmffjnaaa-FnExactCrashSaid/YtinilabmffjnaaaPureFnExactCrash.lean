/- The pure statement of the law FnExactCrash. No conditions beyond that each number is one of its kind and that slices are no greater than memory. -/
import Derived.Test.YtinilabmffjnaaaKinFnExactCrash
namespace Go.Proofs.Ytinilabmffjnaaa.Pure
open Go.RowKit Go.Proofs.Ytinilabmffjnaaa.PFnExactCrash Go.Proofs.YtinilabmffjnaaaW.PrintWords Go.Proofs.YtinilabmffjnaaaW.PrintLast Go.Proofs.YtinilabmffjnaaaW.PrintMore
set_option linter.unusedVariables false
set_option linter.unusedSimpArgs false

/-- The points that are right. -/
def ptOk (x y : Int) : Bool := decide (-10000000 ≤ x) && decide (x ≤ 10000000) && decide (-10000000 ≤ y) && decide (y ≤ 10000000)
/-- The boxes that are right. -/
def boxOk (a b c d : Int) : Bool := ptOk a b && ptOk c d && decide (a ≤ c) && decide (b ≤ d)
theorem ptOk_iff {x y : Int} : ptOk x y = true ↔ -10000000 ≤ x ∧ x ≤ 10000000 ∧ -10000000 ≤ y ∧ y ≤ 10000000 := by
  simp [ptOk, and_assoc]
theorem boxOk_iff {a b c d : Int} : boxOk a b c d = true ↔ (-10000000 ≤ a ∧ a ≤ 10000000 ∧ -10000000 ≤ b ∧ b ≤ 10000000) ∧ (-10000000 ≤ c ∧ c ≤ 10000000 ∧ -10000000 ≤ d ∧ d ≤ 10000000) ∧ a ≤ c ∧ b ≤ d := by
  simp [boxOk, ptOk_iff, and_assoc]
theorem wrap_in {x : Int} (h1 : -9223372036854775808 ≤ x) (h2 : x ≤ 9223372036854775807) : wrap64 x = x := by unfold wrap64; omega
theorem wrap_bounds (x : Int) : -9223372036854775808 ≤ wrap64 x ∧ wrap64 x ≤ 9223372036854775807 := by unfold wrap64; omega
theorem u64_in {x : Int} (h1 : 0 ≤ x) (h2 : x ≤ 18446744073709551615) : IntKind.u64.wrap x = x := by
  simp [IntKind.wrap, IntKind.bits, IntKind.signed]; omega
theorem u64_bounds (x : Int) : 0 ≤ IntKind.u64.wrap x ∧ IntKind.u64.wrap x ≤ 18446744073709551615 := by
  simp [IntKind.wrap, IntKind.bits, IntKind.signed]; omega
theorem u64_nonneg (x : Int) : 0 ≤ IntKind.u64.wrap x := (u64_bounds x).1
theorem mx_eq (a b : Int) : mx a b = max a b := by unfold mx; omega
theorem mn_eq (a b : Int) : mn a b = min a b := by unfold mn; omega
theorem spec_l1In_eq (a b c : Int) : spec_l1In.f a b c = some (decide (b ≤ a) && decide (a ≤ c)) := by
  unfold spec_l1In.f; by_cases h : b ≤ a <;> simp [h]
theorem impl_inRange_eq (a b c : Int) : impl_inRange.f a b c = some (decide (b ≤ a) && decide (a ≤ c)) := by
  unfold impl_inRange.f; by_cases h : b ≤ a <;> simp [h]
/-! Rows of bytes: marked, held, compared. -/
def mkB : Int → Nat → List Int
  | _, 0 => []
  | k, n + 1 => k % 256 :: mkB (k + 1) n
theorem mkB_len : ∀ (n : Nat) (k : Int), (mkB k n).length = n
  | 0, _ => rfl
  | n + 1, k => by simp [mkB, mkB_len n]
theorem set_mid (P : List Int) (v x : Int) (r : List Int) : (P ++ x :: r).set P.length v = (P ++ [v]) ++ r := by
  rw [List.set_append_right _ _ (Nat.le_refl _), Nat.sub_self, List.append_assoc]; rfl
theorem markB_loop : ∀ (r P : List Int) (k : Int) (f : Nat), P.length + r.length ≤ 140737488351232 → 0 ≤ k → k + (r.length : Int) ≤ 4611686018427387904 → r.length < f →
    laws_markByteS.l0 f (P ++ r) k (P.length : Int) = some (k + (r.length : Int), P ++ mkB k r.length)
  | [], P, k, f, _, _, _, hf => by
    obtain ⟨f, rfl⟩ : ∃ m, f = m + 1 := ⟨f - 1, by omega⟩
    simp only [laws_markByteS.l0, List.append_nil]
    rw [if_neg (by omega)]
    simp [mkB]
  | x :: r, P, k, f, hl, h0, h1, hf => by
    rw [List.length_cons] at hf hl h1
    obtain ⟨f, rfl⟩ : ∃ m, f = m + 1 := ⟨f - 1, by omega⟩
    simp only [laws_markByteS.l0]
    rw [if_pos (by rw [List.length_append, List.length_cons]; omega), if_pos (by omega), Int.toNat_natCast, set_mid,
      show wrap64 ((P.length : Int) + 1) = ((P ++ [k % 256]).length : Int) by rw [wrap_in (by omega) (by omega), List.length_append, List.length_singleton]; omega,
      show wrap64 (k + 1) = k + 1 from wrap_in (by omega) (by omega)]
    rw [markB_loop r (P ++ [k % 256]) (k + 1) f (by rw [List.length_append, List.length_singleton]; omega) (by omega) (by omega) (by omega)]
    simp only [mkB, List.length_cons, List.append_assoc, List.singleton_append, Option.some.injEq, Prod.mk.injEq, and_true]; omega
theorem markByteS_eq (l : List Int) (k : Int) (hl : l.length ≤ 140737488351232) (h0 : 0 ≤ k) (h1 : k ≤ 1152921504606846976) {f : Nat} (hf : l.length < f) :
    laws_markByteS.f f l k = some (k + (l.length : Int), mkB k l.length) := by
  unfold laws_markByteS.f
  have e := markB_loop l [] k f (by simpa using hl) h0 (by omega) hf
  simpa using e
theorem rd_mid (P : List Int) (v : Int) (r : List Int) : rd (P ++ v :: r) (P.length : Int) = v := by
  unfold rd; rw [Int.toNat_natCast, List.getD_eq_getElem?_getD, List.getElem?_append_right (Nat.le_refl _), Nat.sub_self]; rfl
theorem heldB_loop : ∀ (n : Nat) (P : List Int) (k : Int) (f : Nat), P.length + n ≤ 140737488351232 → 0 ≤ k → k + (n : Int) ≤ 4611686018427387904 → n < f →
    laws_heldByteS.l0 f (P ++ mkB k n) k (P.length : Int) = some (k + (n : Int))
  | 0, P, k, f, _, _, _, hf => by
    obtain ⟨f, rfl⟩ : ∃ m, f = m + 1 := ⟨f - 1, by omega⟩
    simp only [laws_heldByteS.l0, mkB, List.append_nil]
    rw [if_neg (by omega)]; simp
  | n + 1, P, k, f, hl, h0, h1, hf => by
    obtain ⟨f, rfl⟩ : ∃ m, f = m + 1 := ⟨f - 1, by omega⟩
    rw [show mkB k (n + 1) = k % 256 :: mkB (k + 1) n from rfl]
    simp only [laws_heldByteS.l0]
    rw [if_pos (show (P.length : Int) < ((P ++ k % 256 :: mkB (k + 1) n).length : Int) by rw [List.length_append, List.length_cons]; omega), if_pos (show (0 : Int) ≤ (P.length : Int) by omega), rd_mid, if_pos rfl,
      show wrap64 ((P.length : Int) + 1) = ((P ++ [k % 256]).length : Int) by rw [wrap_in (by omega) (by omega), List.length_append, List.length_singleton]; omega,
      show wrap64 (k + 1) = k + 1 from wrap_in (by omega) (by omega),
      show P ++ k % 256 :: mkB (k + 1) n = (P ++ [k % 256]) ++ mkB (k + 1) n by rw [List.append_assoc]; rfl]
    rw [heldB_loop n (P ++ [k % 256]) (k + 1) f (by rw [List.length_append, List.length_singleton]; omega) (by omega) (by omega) (by omega)]
    congr 1; omega
theorem heldByteS_eq (n : Nat) (k : Int) (hl : n ≤ 140737488351232) (h0 : 0 ≤ k) (h1 : k ≤ 1152921504606846976) {f : Nat} (hf : n < f) :
    laws_heldByteS.f f (mkB k n) k = some (k + (n : Int)) := by
  unfold laws_heldByteS.f
  have e := heldB_loop n [] k f (by simpa using hl) h0 (by omega) hf
  simpa using e
theorem eqB_loop (l : List Int) (hl : l.length ≤ 140737488351232) : ∀ (d i f : Nat), i + d = l.length → d < f → laws_eqByteS.l0 f l l (i : Int) = some true := by
  intro d
  induction d with
  | zero =>
    intro i f hi hf
    obtain ⟨f, rfl⟩ : ∃ m, f = m + 1 := ⟨f - 1, by omega⟩
    simp only [laws_eqByteS.l0]; rw [if_neg (by omega)]
  | succ d ih =>
    intro i f hi hf
    obtain ⟨f, rfl⟩ : ∃ m, f = m + 1 := ⟨f - 1, by omega⟩
    simp only [laws_eqByteS.l0]
    rw [if_pos (by omega), if_pos (by omega), if_pos (by omega), if_pos trivial, show wrap64 ((i : Int) + 1) = ((i + 1 : Nat) : Int) by rw [wrap_in (by omega) (by omega)]; omega]
    exact ih (i + 1) f (by omega) (by omega)
theorem eqByteS_self (l : List Int) (hl : l.length ≤ 140737488351232) {f : Nat} (hf : l.length < f) : laws_eqByteS.f f l l = some true := by
  unfold laws_eqByteS.f; rw [if_pos rfl]; exact eqB_loop l hl l.length 0 f (by omega) hf
/-! Disks: rows of writes. -/
abbrev LW := S130
abbrev IW := S34
def cvW (x : LW) : IW := ⟨x.f0, x.f1⟩
def wMax : List LW → Nat
  | [] => 0
  | r :: t => r.f1.length + 3 + wMax t
def vMax : List IW → Nat
  | [] => 0
  | r :: t => r.f1.length + 3 + vMax t
theorem vMax_cv : ∀ L : List LW, vMax (L.map cvW) = wMax L
  | [] => rfl
  | r :: t => by
    have := vMax_cv t
    simp only [List.map_cons, vMax, wMax, this, cvW]
theorem vMax_le : ∀ (L : List IW) (i : Nat), (L.getD i z34).f1.length ≤ vMax L
  | [], i => by simp [z34]
  | r :: t, 0 => by simp [vMax]; omega
  | r :: t, i + 1 => by have := vMax_le t i; simp only [List.getD_cons_succ, vMax]; omega
theorem vMax_len : ∀ (L : List IW), L.length ≤ vMax L
  | [] => by simp [vMax]
  | r :: t => by have := vMax_len t; simp only [List.length_cons, vMax]; omega
theorem wMax_le : ∀ (L : List LW) (i : Nat), (L.getD i z130).f1.length ≤ wMax L
  | [], i => by simp [z130]
  | r :: t, 0 => by simp [wMax]; omega
  | r :: t, i + 1 => by have := wMax_le t i; simp only [List.getD_cons_succ, wMax]; omega
theorem wMax_len : ∀ (L : List LW), L.length ≤ wMax L
  | [] => by simp [wMax]
  | r :: t => by have := wMax_len t; simp only [List.length_cons, wMax]; omega
theorem dropAt {α : Type} (z : α) : ∀ (l : List α) (i : Nat), i < l.length → l.drop i = l.getD i z :: l.drop (i + 1)
  | [], i, h => by simp at h
  | x :: r, 0, _ => rfl
  | x :: r, i + 1, h => by
    have := dropAt z r i (by simpa using h)
    simpa using this
theorem getDin {α : Type} (z : α) {l : List α} {i : Nat} (h : i < l.length) : l.getD i z ∈ l := by
  rw [List.getD_eq_getElem?_getD, List.getElem?_eq_getElem h]; exact List.getElem_mem h
theorem setRep {α β : Type} (f : α → β) (P : List α) (v z : β) (n : Nat) : (P.map f ++ List.replicate (n + 1) z).set P.length v = P.map f ++ v :: List.replicate n z := by
  rw [List.replicate_succ, ← List.length_map (f := f), List.set_append_right _ _ (Nat.le_refl _), Nat.sub_self]; rfl
theorem getDat {α : Type} (z : α) (P : List α) (r : α) (R : List α) : (P ++ r :: R).getD P.length z = r := by simp
theorem toB_loop : ∀ (R P : List Int) (k : Nat), (P.length + R.length) ≤ 140737488351232 → R.length < k →
    laws_toByteS.l0 k (P ++ R) (P.map id ++ List.replicate R.length 0) (P.length : Int) = some (P ++ R) := by
  intro R
  induction R with
  | nil =>
    intro P k hl hk
    obtain ⟨k, rfl⟩ : ∃ m, k = m + 1 := ⟨k - 1, by omega⟩
    simp only [laws_toByteS.l0]; rw [if_neg (by simp)]; simp
  | cons r R ih =>
    intro P k hl hk
    simp only [List.length_cons] at hl hk
    obtain ⟨k, rfl⟩ : ∃ m, k = m + 1 := ⟨k - 1, by omega⟩
    simp only [laws_toByteS.l0]
    rw [if_pos (by rw [List.length_append, List.length_cons]; omega), if_pos (by omega)]
    simp only [rd, Int.toNat_natCast, getDat]
    rw [if_pos (by rw [List.length_append, List.length_map, List.length_replicate, List.length_cons]; omega), List.length_cons, setRep]
    have := ih (P ++ [r]) k (by simp; omega) (by omega)
    rw [show wrap64 ((P.length : Int) + 1) = ((P ++ [r]).length : Int) by rw [wrap_in (by omega) (by omega)]; simp]
    simp only [List.map_append, List.append_assoc, List.map_cons, List.map_nil, List.cons_append, List.nil_append, id] at this ⊢
    exact this
theorem toByteS_eq (l : List Int) (hl : l.length ≤ 140737488351232) {k : Nat} (hk : l.length < k) : laws_toByteS.f k l = some l := by
  unfold laws_toByteS.f
  rw [if_pos (by omega), if_pos (by omega), Int.toNat_natCast]
  exact toB_loop l [] k (by simp; omega) hk
theorem toW_loop : ∀ (R P : List LW) (k : Nat), (P.length + R.length) * 32 ≤ 140737488351232 → (∀ r ∈ R, r.f1.length * 1 ≤ 140737488351232) → wMax R + R.length < k →
    laws_toWriteS.l0 k (P ++ R) (P.map cvW ++ List.replicate R.length z34) (P.length : Int) = some ((P ++ R).map cvW) := by
  intro R
  induction R with
  | nil =>
    intro P k hl hr hk
    obtain ⟨k, rfl⟩ : ∃ m, k = m + 1 := ⟨k - 1, by omega⟩
    simp only [laws_toWriteS.l0]; rw [if_neg (by simp)]; simp
  | cons r R ih =>
    intro P k hl hr hk
    simp only [List.length_cons, wMax] at hl hk
    obtain ⟨k, rfl⟩ : ∃ m, k = m + 1 := ⟨k - 1, by omega⟩
    simp only [laws_toWriteS.l0]
    rw [if_pos (by rw [List.length_append, List.length_cons]; omega), if_pos (by omega)]
    simp only [rd_T130, Int.toNat_natCast, getDat, laws_toWrite.f]
    have hm := hr r (by simp)
    rw [toByteS_eq _ (by omega) (by omega)]
    simp only [Option.bind_some]
    rw [if_pos (by rw [List.length_append, List.length_map, List.length_replicate, List.length_cons]; omega), List.length_cons, show (⟨r.f0, r.f1⟩ : IW) = cvW r from rfl, setRep]
    have := ih (P ++ [r]) k (by simp; omega) (fun x hx => hr x (by simp [hx])) (by omega)
    rw [show wrap64 ((P.length : Int) + 1) = ((P ++ [r]).length : Int) by rw [wrap_in (by omega) (by omega)]; simp]
    simp only [List.map_append, List.append_assoc, List.map_cons, List.map_nil, List.cons_append, List.nil_append] at this ⊢
    exact this
theorem toWriteS_eq (L : List LW) (hl : L.length * 32 ≤ 140737488351232) (hr : ∀ r ∈ L, r.f1.length * 1 ≤ 140737488351232) {k : Nat} (hk : wMax L + L.length < k) : laws_toWriteS.f k L = some (L.map cvW) := by
  unfold laws_toWriteS.f
  rw [if_pos (by omega), if_pos (by omega), Int.toNat_natCast]
  exact toW_loop L [] k (by simpa using hl) hr hk
theorem toDisk_eq (b : List Int) (L : List LW) (hb : b.length * 1 ≤ 140737488351232) (hl : L.length * 32 ≤ 140737488351232) (hr : ∀ r ∈ L, r.f1.length * 1 ≤ 140737488351232) {k : Nat} (hk : b.length + 2 * wMax L < k) :
    laws_toDisk.f k b L = some (b, L.map cvW) := by
  have := wMax_len L
  unfold laws_toDisk.f
  rw [toByteS_eq b (by omega) (by omega), toWriteS_eq L hl hr (by omega)]; rfl
theorem szByteS_eq (l : List Int) (hl : l.length * 1 ≤ 140737488351232) (a : Int) (ha : 0 ≤ a) (hb : a ≤ 1048576) : laws_szByteS.f l a = some (if (l.length : Int) ≤ a then a - l.length else -1) := by
  unfold laws_szByteS.f
  rw [wrap_in (by omega) (by omega)]
  by_cases h : (l.length : Int) ≤ a
  · rw [if_neg (by omega), if_pos h]
  · rw [if_pos (by omega), if_neg h]
theorem szW_loop (L : List LW) (hL : L.length * 32 ≤ 140737488351232) (hr : ∀ r ∈ L, r.f1.length * 1 ≤ 140737488351232) :
    ∀ (d i k : Nat) (a : Int), i + d = L.length → d < k → 0 ≤ a → a ≤ 1048576 → ∃ t, laws_szWriteS.l0 k L a (i : Int) = some t ∧ -1 ≤ t ∧ t ≤ 1048576 ∧ (0 ≤ t → ∀ x ∈ L.drop i, (x.f1.length : Int) ≤ 1048576) := by
  intro d
  induction d with
  | zero =>
    intro i k a hi hk a0 a1
    obtain ⟨k, rfl⟩ : ∃ m, k = m + 1 := ⟨k - 1, by omega⟩
    simp only [laws_szWriteS.l0]; rw [if_neg (by omega)]; refine ⟨_, rfl, by omega, a1, fun _ x hx => ?_⟩
    rw [List.drop_eq_nil_of_le (by omega)] at hx; cases hx
  | succ d ih =>
    intro i k a hi hk a0 a1
    obtain ⟨k, rfl⟩ : ∃ m, k = m + 1 := ⟨k - 1, by omega⟩
    simp only [laws_szWriteS.l0]
    have hm := hr _ (getDin (z := z130) (show i < L.length by omega))
    rw [if_pos (by omega), if_pos (by omega)]
    simp only [rd_T130, Int.toNat_natCast, laws_szWrite.f]
    rw [szByteS_eq _ hm a a0 a1]; simp only [Option.bind_some]
    by_cases h : ((L.getD i z130).f1.length : Int) ≤ a
    · rw [if_pos h, if_neg (by omega)]; simp only [Option.bind_some]; rw [if_neg (by omega), show wrap64 ((i : Int) + 1) = ((i + 1 : Nat) : Int) by rw [wrap_in (by omega) (by omega)]; omega]
      obtain ⟨t, e, t0, t1, hx⟩ := ih (i + 1) k _ (by omega) (by omega) (by omega) (by omega : (a - ((L.getD i z130).f1.length : Int)) ≤ 1048576)
      refine ⟨t, e, t0, t1, fun h0 x hxx => ?_⟩
      rw [dropAt z130 L i (by omega)] at hxx
      rcases List.mem_cons.1 hxx with rfl | h2
      · omega
      · exact hx h0 x h2
    · rw [if_neg h, if_pos (by decide)]; simp only [Option.bind_some]; rw [if_pos (by decide)]; exact ⟨_, rfl, by omega, by omega, fun h0 => absurd h0 (by decide)⟩
theorem szDisk_some (b : List Int) (L : List LW) (hb : b.length * 1 ≤ 140737488351232) (hL : L.length * 32 ≤ 140737488351232) (hr : ∀ r ∈ L, r.f1.length * 1 ≤ 140737488351232) (a : Int) (a0 : 0 ≤ a) (a1 : a ≤ 1048576) {k : Nat} (hk : L.length < k) :
    ∃ t, laws_szDisk.f k b L a = some t ∧ -1 ≤ t ∧ t ≤ 1048576 ∧ (0 ≤ t → (b.length : Int) ≤ 1048576 ∧ (L.length : Int) ≤ 1048576 ∧ ∀ x ∈ L, (x.f1.length : Int) ≤ 1048576) := by
  unfold laws_szDisk.f laws_szWriteS.f
  rw [szByteS_eq b hb a a0 a1]; simp only [Option.bind_some]
  by_cases h : (b.length : Int) ≤ a
  · rw [if_pos h, if_neg (by omega), wrap_in (by omega) (by omega)]
    by_cases h2 : a - (b.length : Int) - (L.length : Int) < 0
    · rw [if_pos h2]; simp only [Option.bind_some]; rw [if_pos (by decide)]; exact ⟨-1, rfl, by omega, by omega, fun h0 => absurd h0 (by decide)⟩
    · rw [if_neg h2]
      obtain ⟨t, e, t0, t1, hx⟩ := szW_loop L hL hr L.length 0 k (a - b.length - L.length) (by omega) hk (by omega) (by omega)
      rw [show ((0 : Nat) : Int) = 0 from rfl] at e
      rw [e]; simp only [Option.bind_some]
      split
      · exact ⟨-1, rfl, by omega, by omega, fun h0 => absurd h0 (by decide)⟩
      · exact ⟨t, rfl, t0, t1, fun h0 => ⟨by omega, by omega, by simpa using hx h0⟩⟩
  · rw [if_neg h, if_pos (by decide)]; exact ⟨-1, rfl, by omega, by omega, fun h0 => absurd h0 (by decide)⟩
theorem eqB2_loop (l m : List Int) (he : l.length = m.length) (hl : l.length ≤ 140737488351232) : ∀ (d i f : Nat), i + d = l.length → d < f → laws_eqByteS.l0 f l m (i : Int) = some (decide (l.drop i = m.drop i)) := by
  intro d
  induction d with
  | zero =>
    intro i f hi hf
    obtain ⟨f, rfl⟩ : ∃ m, f = m + 1 := ⟨f - 1, by omega⟩
    simp only [laws_eqByteS.l0]; rw [if_neg (by omega), List.drop_eq_nil_of_le (by omega), List.drop_eq_nil_of_le (by omega)]; simp
  | succ d ih =>
    intro i f hi hf
    obtain ⟨f, rfl⟩ : ∃ m, f = m + 1 := ⟨f - 1, by omega⟩
    simp only [laws_eqByteS.l0]
    have el : rd l (i : Int) = l.getD i 0 := by unfold rd; rw [Int.toNat_natCast]
    have em : rd m (i : Int) = m.getD i 0 := by unfold rd; rw [Int.toNat_natCast]
    rw [if_pos (by omega), if_pos (by omega), if_pos (by omega), dropAt 0 l i (by omega), dropAt 0 m i (by omega)]
    by_cases h : l.getD i 0 = m.getD i 0
    · rw [if_pos (show rd l (i : Int) = rd m (i : Int) by rw [el, em]; exact h), show wrap64 ((i : Int) + 1) = ((i + 1 : Nat) : Int) by rw [wrap_in (by omega) (by omega)]; omega, ih (i + 1) f (by omega) (by omega), h]; simp
    · rw [if_neg (show ¬ rd l (i : Int) = rd m (i : Int) by rw [el, em]; exact h), decide_eq_false (fun q => h (List.cons.inj q).1)]
theorem eqByteS_dec (l m : List Int) (hl : l.length ≤ 140737488351232) {f : Nat} (hf : l.length < f) : laws_eqByteS.f f l m = some (decide (l = m)) := by
  unfold laws_eqByteS.f
  by_cases h : l.length = m.length
  · rw [if_pos (by omega)]
    have e := eqB2_loop l m h hl l.length 0 f (by omega) hf
    simpa using e
  · rw [if_neg (by omega), decide_eq_false (fun q => h (by rw [q]))]
theorem eqW_loop (G : List IW) (hm : G.length ≤ 140737488351232) (hr : ∀ r ∈ G, r.f1.length ≤ 140737488351232) : ∀ (d i k : Nat), i + d = G.length → d + vMax G < k → laws_eqWriteS.l0 k G G (i : Int) = some true := by
  intro d
  induction d with
  | zero =>
    intro i k hi hk
    obtain ⟨k, rfl⟩ : ∃ m, k = m + 1 := ⟨k - 1, by omega⟩
    simp only [laws_eqWriteS.l0]; rw [if_neg (by omega)]
  | succ d ih =>
    intro i k hi hk
    obtain ⟨k, rfl⟩ : ∃ m, k = m + 1 := ⟨k - 1, by omega⟩
    have hb := vMax_le G i
    simp only [laws_eqWriteS.l0]
    have ex : rd_T34 G (i : Int) = G.getD i z34 := by unfold rd_T34; rw [Int.toNat_natCast]
    rw [if_pos (by omega), if_pos (by omega), if_pos (by omega), ex]
    unfold laws_eqWrite.f
    rw [if_pos rfl, eqByteS_dec _ _ (hr _ (getDin (z := z34) (show i < G.length by omega))) (by omega)]
    simp only [Option.bind_some, decide_true, if_true]
    rw [show wrap64 ((i : Int) + 1) = ((i + 1 : Nat) : Int) by rw [wrap_in (by omega) (by omega)]; omega]
    exact ih (i + 1) k (by omega) (by omega)
theorem eqDisk_refl (b : List Int) (G : List IW) (hb : b.length ≤ 140737488351232) (hm : G.length ≤ 140737488351232) (hr : ∀ r ∈ G, r.f1.length ≤ 140737488351232) {k : Nat} (hk : b.length + 2 * vMax G + 2 < k) : laws_eqDisk.f k b G b G = some true := by
  have := vMax_len G
  unfold laws_eqDisk.f laws_eqWriteS.f
  rw [eqByteS_dec b b hb (by omega)]; simp only [Option.bind_some, decide_true, if_true]
  have e := eqW_loop G hm hr G.length 0 k (by omega) (by omega)
  rw [show ((0 : Nat) : Int) = 0 from rfl] at e
  rw [e]; rfl
def wOk (n : Nat) (x : IW) : Bool := decide (0 ≤ x.f0 ∧ x.f0 < (n : Int)) && decide (x.f1.length = 64)
def dOk (b : List Int) (L : List IW) : Bool := decide (b.length % 64 = 0 ∧ 64 ≤ b.length ∧ b.length ≤ 25600) && L.all (wOk (b.length / 64))
theorem specOk_loop (b : List Int) (hb : b.length ≤ 25600) (hb1 : 64 ≤ b.length) (L : List IW) (hL : L.length ≤ 140737488351232) : ∀ (d i k : Nat), i + d = L.length → d < k →
    spec_DiskOk.l0 k (i : Int) b L = some ((L.drop i).all (wOk (b.length / 64))) := by
  intro d
  induction d with
  | zero =>
    intro i k hi hk
    obtain ⟨k, rfl⟩ : ∃ m, k = m + 1 := ⟨k - 1, by omega⟩
    simp only [spec_DiskOk.l0]; rw [if_neg (by omega), List.drop_eq_nil_of_le (by omega)]; rfl
  | succ d ih =>
    intro i k hi hk
    obtain ⟨k, rfl⟩ : ∃ m, k = m + 1 := ⟨k - 1, by omega⟩
    simp only [spec_DiskOk.l0, spec_l11Many.f, spec_l1In_eq, Option.bind_some]
    have ex : rd_T34 L (i : Int) = L.getD i z34 := by unfold rd_T34; rw [Int.toNat_natCast]
    rw [if_pos (by omega), if_pos (by omega), ex, dropAt z34 L i (by omega), List.all_cons, wrap_in (x := (b.length : Int) / 64) (by omega) (by omega), wrap_in (x := (b.length : Int) / 64 - 1) (by omega) (by omega),
      show wrap64 ((i : Int) + 1) = ((i + 1 : Nat) : Int) by rw [wrap_in (by omega) (by omega)]; omega, ih (i + 1) k (by omega) (by omega)]
    generalize L.getD i z34 = x
    by_cases h1 : 0 ≤ x.f0 ∧ x.f0 < ((b.length / 64 : Nat) : Int)
    · have : (decide (0 ≤ x.f0) && decide (x.f0 ≤ (b.length : Int) / 64 - 1)) = true := by rw [Bool.and_eq_true, decide_eq_true_eq, decide_eq_true_eq]; omega
      rw [if_pos this]
      by_cases h2 : x.f1.length = 64
      · rw [if_pos (by omega)]; unfold wOk; rw [decide_eq_true h1, decide_eq_true h2]; simp
      · rw [if_neg (by omega)]; unfold wOk; rw [decide_eq_false h2]; simp
    · have : ¬ (decide (0 ≤ x.f0) && decide (x.f0 ≤ (b.length : Int) / 64 - 1)) = true := by rw [Bool.and_eq_true, decide_eq_true_eq, decide_eq_true_eq]; omega
      rw [if_neg this]; unfold wOk; rw [decide_eq_false h1]; simp
theorem specOk_eq (b : List Int) (L : List IW) (hb : b.length ≤ 140737488351232) (hL : L.length ≤ 140737488351232) {k : Nat} (hk : L.length + 2 < k) : spec_DiskOk.f k b L = some (dOk b L) := by
  obtain ⟨k, rfl⟩ : ∃ m, k = m + 1 := ⟨k - 1, by omega⟩
  unfold spec_DiskOk.f
  by_cases h : b.length % 64 = 0 ∧ 64 ≤ b.length ∧ b.length ≤ 25600
  · have hd : dOk b L = L.all (wOk (b.length / 64)) := by unfold dOk; rw [decide_eq_true h, Bool.true_and]
    have e := specOk_loop b h.2.2 h.2.1 L hL L.length 0 k (by omega) (by omega)
    rw [show ((0 : Nat) : Int) = 0 from rfl, List.drop_zero] at e
    have ht : (decide ((1 : Int) ≤ (b.length : Int) / 64) && decide ((b.length : Int) / 64 ≤ 400)) = true := by rw [Bool.and_eq_true, decide_eq_true_eq, decide_eq_true_eq]; omega
    rw [hd, if_pos (show ((b.length : Int) % 64) = 0 by omega)]
    rw [show spec_l11Many.f b L = some ((b.length : Int) / 64) by unfold spec_l11Many.f; rw [wrap_in (by omega) (by omega)]]
    rw [Option.bind_some, spec_l1In_eq, Option.bind_some, ht]
    unfold spec_DiskOk.j0
    exact e
  · have hd : dOk b L = false := by unfold dOk; rw [decide_eq_false h, Bool.false_and]
    rw [hd]
    by_cases h1 : b.length % 64 = 0
    · have ht : (decide ((1 : Int) ≤ (b.length : Int) / 64) && decide ((b.length : Int) / 64 ≤ 400)) = false := by rw [Bool.and_eq_false_iff, decide_eq_false_iff_not, decide_eq_false_iff_not]; omega
      rw [if_pos (show ((b.length : Int) % 64) = 0 by omega)]
      rw [show spec_l11Many.f b L = some ((b.length : Int) / 64) by unfold spec_l11Many.f; rw [wrap_in (by omega) (by omega)]]
      rw [Option.bind_some, spec_l1In_eq, Option.bind_some, ht]
      unfold spec_DiskOk.j0
      rfl
    · rw [if_neg (by omega)]
      simp only [spec_DiskOk.j0, if_true]
theorem implOk_loop (b : List Int) (hb : b.length ≤ 25600) (hb1 : 64 ≤ b.length) (L : List IW) (hL : L.length ≤ 140737488351232) : ∀ (d i k : Nat), i + d = L.length → d < k →
    impl_DiskOk.l0 k b L (L.length : Int) (i : Int) = some ((L.drop i).all (wOk (b.length / 64))) := by
  intro d
  induction d with
  | zero =>
    intro i k hi hk
    obtain ⟨k, rfl⟩ : ∃ m, k = m + 1 := ⟨k - 1, by omega⟩
    simp only [impl_DiskOk.l0]; rw [if_neg (by omega), List.drop_eq_nil_of_le (by omega)]; rfl
  | succ d ih =>
    intro i k hi hk
    obtain ⟨k, rfl⟩ : ∃ m, k = m + 1 := ⟨k - 1, by omega⟩
    simp only [impl_DiskOk.l0, impl_Disk_isSector.f, impl_Disk_sectors.f, impl_inRange_eq, Option.bind_some]
    have ex : rd_T34 L (i : Int) = L.getD i z34 := by unfold rd_T34; rw [Int.toNat_natCast]
    rw [if_pos (by omega), if_pos (by omega), if_pos (by omega), ex, dropAt z34 L i (by omega), List.all_cons, wrap_in (x := (b.length : Int) / 64) (by omega) (by omega), wrap_in (x := (b.length : Int) / 64 - 1) (by omega) (by omega),
      show wrap64 ((i : Int) + 1) = ((i + 1 : Nat) : Int) by rw [wrap_in (by omega) (by omega)]; omega, ih (i + 1) k (by omega) (by omega)]
    generalize L.getD i z34 = x
    by_cases h1 : 0 ≤ x.f0 ∧ x.f0 < ((b.length / 64 : Nat) : Int)
    · have : (decide (0 ≤ x.f0) && decide (x.f0 ≤ (b.length : Int) / 64 - 1)) = true := by rw [Bool.and_eq_true, decide_eq_true_eq, decide_eq_true_eq]; omega
      rw [if_pos this]
      by_cases h2 : x.f1.length = 64
      · rw [if_pos (by omega)]; unfold wOk; rw [decide_eq_true h1, decide_eq_true h2]; simp
      · rw [if_neg (by omega)]; unfold wOk; rw [decide_eq_false h2]; simp
    · have : ¬ (decide (0 ≤ x.f0) && decide (x.f0 ≤ (b.length : Int) / 64 - 1)) = true := by rw [Bool.and_eq_true, decide_eq_true_eq, decide_eq_true_eq]; omega
      rw [if_neg this]; unfold wOk; rw [decide_eq_false h1]; simp
theorem implOk_eq (b : List Int) (L : List IW) (hb : b.length ≤ 140737488351232) (hL : L.length ≤ 140737488351232) {k : Nat} (hk : L.length + 2 < k) : impl_DiskOk.f k b L = some (dOk b L) := by
  obtain ⟨k, rfl⟩ : ∃ m, k = m + 1 := ⟨k - 1, by omega⟩
  unfold impl_DiskOk.f
  by_cases h : b.length % 64 = 0 ∧ 64 ≤ b.length ∧ b.length ≤ 25600
  · have hd : dOk b L = L.all (wOk (b.length / 64)) := by unfold dOk; rw [decide_eq_true h, Bool.true_and]
    have e := implOk_loop b h.2.2 h.2.1 L hL L.length 0 k (by omega) (by omega)
    rw [show ((0 : Nat) : Int) = 0 from rfl, List.drop_zero] at e
    have ht : (decide ((1 : Int) ≤ (b.length : Int) / 64) && decide ((b.length : Int) / 64 ≤ 400)) = true := by rw [Bool.and_eq_true, decide_eq_true_eq, decide_eq_true_eq]; omega
    rw [hd, if_pos (show ((b.length : Int) % 64) = 0 by omega)]
    rw [show impl_Disk_sectors.f b = some ((b.length : Int) / 64) by unfold impl_Disk_sectors.f; rw [wrap_in (by omega) (by omega)]]
    rw [Option.bind_some, impl_inRange_eq, Option.bind_some, ht]
    unfold impl_DiskOk.j0
    exact e
  · have hd : dOk b L = false := by unfold dOk; rw [decide_eq_false h, Bool.false_and]
    rw [hd]
    by_cases h1 : b.length % 64 = 0
    · have ht : (decide ((1 : Int) ≤ (b.length : Int) / 64) && decide ((b.length : Int) / 64 ≤ 400)) = false := by rw [Bool.and_eq_false_iff, decide_eq_false_iff_not, decide_eq_false_iff_not]; omega
      rw [if_pos (show ((b.length : Int) % 64) = 0 by omega)]
      rw [show impl_Disk_sectors.f b = some ((b.length : Int) / 64) by unfold impl_Disk_sectors.f; rw [wrap_in (by omega) (by omega)]]
      rw [Option.bind_some, impl_inRange_eq, Option.bind_some, ht]
      unfold impl_DiskOk.j0
      rfl
    · rw [if_neg (by omega)]
      simp only [impl_DiskOk.j0, if_true]
/-! Marks of disks. -/
def cntQ : List IW → Int
  | [] => 0
  | x :: t => 1 + (x.f1.length : Int) + cntQ t
theorem cntQ_nn : ∀ L, 0 ≤ cntQ L
  | [] => by simp [cntQ]
  | x :: t => by have := cntQ_nn t; simp only [cntQ]; omega
theorem cntQ_le (M : Nat) : ∀ L : List IW, (∀ x ∈ L, x.f1.length ≤ M) → cntQ L ≤ (L.length : Int) * ((M : Int) + 1)
  | [], _ => by simp [cntQ]
  | x :: t, h => by
    have := cntQ_le M t (fun y hy => h y (by simp [hy]))
    have hx := h x (by simp)
    simp only [cntQ, List.length_cons]
    have e : (((t.length + 1 : Nat) : Int)) * ((M : Int) + 1) = (t.length : Int) * ((M : Int) + 1) + ((M : Int) + 1) := by
      rw [show ((t.length + 1 : Nat) : Int) = (t.length : Int) + 1 by omega, Int.add_mul, Int.one_mul]
    omega
def markQ : Int → List IW → List IW
  | _, [] => []
  | k, x :: t => ⟨k, mkB (k + 1) x.f1.length⟩ :: markQ (k + 1 + (x.f1.length : Int)) t
theorem setMidW (P : List IW) (v x : IW) (r : List IW) : (P ++ x :: r).set P.length v = (P ++ [v]) ++ r := by
  rw [List.set_append_right _ _ (Nat.le_refl _), Nat.sub_self, List.append_assoc]; rfl
theorem markW_loop : ∀ (R P : List IW) (k : Int) (f : Nat), P.length + R.length ≤ 2097152 → (∀ x ∈ R, x.f1.length ≤ 1048576) → 0 ≤ k → k + cntQ R ≤ 1152921504606846976 → vMax R < f →
    laws_markWriteS.l0 f (P ++ R) k (P.length : Int) = some (k + cntQ R, P ++ markQ k R)
  | [], P, k, f, _, _, _, _, hf => by
    obtain ⟨f, rfl⟩ : ∃ m, f = m + 1 := ⟨f - 1, by omega⟩
    simp only [laws_markWriteS.l0, List.append_nil]
    rw [if_neg (by omega)]
    simp [markQ, cntQ]
  | x :: r, P, k, f, hl, hr, h0, h1, hf => by
    rw [List.length_cons] at hl
    simp only [vMax] at hf
    simp only [cntQ] at h1
    have hn := cntQ_nn r
    have hx := hr x (by simp)
    obtain ⟨f, rfl⟩ : ∃ m, f = m + 1 := ⟨f - 1, by omega⟩
    simp only [laws_markWriteS.l0]
    have ex : rd_T34 (P ++ x :: r) (P.length : Int) = x := by unfold rd_T34; rw [Int.toNat_natCast]; exact getDat _ P x r
    rw [if_pos (by rw [List.length_append, List.length_cons]; omega), if_pos (by omega), ex, show wrap64 (k + 1) = k + 1 from wrap_in (by omega) (by omega),
      markByteS_eq x.f1 (k + 1) (by omega) (by omega) (by omega) (by omega), Option.bind_some, Int.toNat_natCast, setMidW]
    show laws_markWriteS.l0 f ((P ++ [(⟨k, mkB (k + 1) x.f1.length⟩ : IW)]) ++ r) (k + 1 + (x.f1.length : Int)) (wrap64 ((P.length : Int) + 1)) = _
    rw [show wrap64 ((P.length : Int) + 1) = ((P ++ [(⟨k, mkB (k + 1) x.f1.length⟩ : IW)]).length : Int) by rw [wrap_in (by omega) (by omega), List.length_append, List.length_singleton]; omega]
    rw [markW_loop r (P ++ [(⟨k, mkB (k + 1) x.f1.length⟩ : IW)]) (k + 1 + (x.f1.length : Int)) f (by rw [List.length_append, List.length_singleton]; omega) (fun y hy => hr y (by simp [hy])) (by omega) (by omega) (by omega)]
    simp only [markQ, cntQ, List.append_assoc, List.singleton_append, Option.some.injEq, Prod.mk.injEq, and_true]; omega
theorem markDisk_eq (b : List Int) (L : List IW) (k : Int) (hb : b.length ≤ 1048576) (hL : L.length ≤ 2097152) (hr : ∀ x ∈ L, x.f1.length ≤ 1048576) (h0 : 0 ≤ k) (h1 : k ≤ 1048576) {f : Nat} (hf : b.length + vMax L < f) :
    laws_markDisk.f f b L k = some (k + (b.length : Int) + cntQ L, mkB k b.length, markQ (k + (b.length : Int)) L) := by
  have hc := cntQ_le 1048576 L hr
  have hm : (L.length : Int) * ((1048576 : Nat) + 1 : Int) ≤ 2097152 * 1048577 := Int.mul_le_mul_of_nonneg_right (by omega) (by omega)
  unfold laws_markDisk.f
  rw [markByteS_eq b k (by omega) h0 (by omega) (by omega), Option.bind_some]
  have e := markW_loop L [] (k + (b.length : Int)) f (by simpa using hL) hr (by omega) (by omega) (by omega)
  rw [List.nil_append, List.nil_append] at e
  unfold laws_markWriteS.f
  show (laws_markWriteS.l0 f L (k + (b.length : Int)) 0).bind _ = _
  rw [show laws_markWriteS.l0 f L (k + (b.length : Int)) 0 = _ from e]; rfl
theorem heldW_loop : ∀ (L P : List IW) (k : Int) (f : Nat), P.length + L.length ≤ 2097152 → (∀ x ∈ L, x.f1.length ≤ 1048576) → 0 ≤ k → k + cntQ L ≤ 1152921504606846976 → vMax L < f →
    laws_heldWriteS.l0 f (P ++ markQ k L) k (P.length : Int) = some (k + cntQ L)
  | [], P, k, f, _, _, _, _, hf => by
    obtain ⟨f, rfl⟩ : ∃ m, f = m + 1 := ⟨f - 1, by omega⟩
    simp only [laws_heldWriteS.l0, markQ, List.append_nil]
    rw [if_neg (by omega)]; simp [cntQ]
  | x :: r, P, k, f, hl, hr, h0, h1, hf => by
    rw [List.length_cons] at hl
    simp only [vMax] at hf
    simp only [cntQ] at h1
    have hn := cntQ_nn r
    have hx := hr x (by simp)
    obtain ⟨f, rfl⟩ : ∃ m, f = m + 1 := ⟨f - 1, by omega⟩
    rw [show markQ k (x :: r) = (⟨k, mkB (k + 1) x.f1.length⟩ : IW) :: markQ (k + 1 + (x.f1.length : Int)) r from rfl, laws_heldWriteS.l0]
    have ex : rd_T34 (P ++ (⟨k, mkB (k + 1) x.f1.length⟩ : IW) :: markQ (k + 1 + (x.f1.length : Int)) r) (P.length : Int) = ⟨k, mkB (k + 1) x.f1.length⟩ := by unfold rd_T34; rw [Int.toNat_natCast]; exact getDat _ P _ _
    rw [if_pos (show (P.length : Int) < ((P ++ (⟨k, mkB (k + 1) x.f1.length⟩ : IW) :: markQ (k + 1 + (x.f1.length : Int)) r).length : Int) by rw [List.length_append, List.length_cons]; omega), if_pos (show (0 : Int) ≤ (P.length : Int) by omega), ex]
    show (if k = k then (laws_heldByteS.f f (mkB (k + 1) x.f1.length) (wrap64 (k + 1))).bind _ else _) = _
    rw [if_pos rfl, show wrap64 (k + 1) = k + 1 from wrap_in (by omega) (by omega), heldByteS_eq x.f1.length (k + 1) (by omega) (by omega) (by omega) (by omega), Option.bind_some, if_neg (by omega),
      show wrap64 ((P.length : Int) + 1) = ((P ++ [(⟨k, mkB (k + 1) x.f1.length⟩ : IW)]).length : Int) by rw [wrap_in (by omega) (by omega), List.length_append, List.length_singleton]; omega,
      show P ++ (⟨k, mkB (k + 1) x.f1.length⟩ : IW) :: markQ (k + 1 + (x.f1.length : Int)) r = (P ++ [⟨k, mkB (k + 1) x.f1.length⟩]) ++ markQ (k + 1 + (x.f1.length : Int)) r by rw [List.append_assoc]; rfl]
    rw [heldW_loop r (P ++ [(⟨k, mkB (k + 1) x.f1.length⟩ : IW)]) (k + 1 + (x.f1.length : Int)) f (by rw [List.length_append, List.length_singleton]; omega) (fun y hy => hr y (by simp [hy])) (by omega) (by omega) (by omega)]
    simp only [cntQ]; congr 1; omega
theorem heldDisk_eq (n : Nat) (L : List IW) (k : Int) (hb : n ≤ 1048576) (hL : L.length ≤ 2097152) (hr : ∀ x ∈ L, x.f1.length ≤ 1048576) (h0 : 0 ≤ k) (h1 : k ≤ 1048576) {f : Nat} (hf : n + vMax L < f) :
    laws_heldDisk.f f (mkB k n) (markQ (k + (n : Int)) L) k = some (k + (n : Int) + cntQ L) := by
  have hc := cntQ_le 1048576 L hr
  have hn := cntQ_nn L
  have hm : (L.length : Int) * ((1048576 : Nat) + 1 : Int) ≤ 2097152 * 1048577 := Int.mul_le_mul_of_nonneg_right (by omega) (by omega)
  unfold laws_heldDisk.f
  rw [heldByteS_eq n k (by omega) h0 (by omega) (by omega), Option.bind_some, if_neg (by omega)]
  have e := heldW_loop L [] (k + (n : Int)) f (by simpa using hL) hr (by omega) (by omega) (by omega)
  rw [List.nil_append] at e
  unfold laws_heldWriteS.f
  rw [show laws_heldWriteS.l0 f (markQ (k + (n : Int)) L) (k + (n : Int)) 0 = _ from e, Option.bind_some, if_neg (by omega)]
theorem clone_eq (l : List Int) (h : l.length ≤ 140737488351232) : slices_Clone_byte_byte.f l = some l := by
  unfold slices_Clone_byte_byte.f
  rw [Option.bind_some, if_pos (by simp; omega), List.nil_append]
/-- What is read last of the writes to a sector; d without one. -/
def lastW (at_ : Int) (d : List Int) (L : List IW) : List Int := L.foldl (fun acc x => if x.f0 = at_ then x.f1 else acc) d
def secB (b : List Int) (at_ : Int) : List Int := (b.take ((at_ + 1) * 64).toNat).drop (at_ * 64).toNat
def rdOk (b : List Int) (L : List IW) (at_ : Int) : Bool := dOk b L && decide (0 ≤ at_ ∧ at_ < ((b.length / 64 : Nat) : Int))
def readM (b : List Int) (L : List IW) (at_ : Int) : List Int := if rdOk b L at_ = true then lastW at_ (secB b at_) L else []
theorem lastW_len (at_ : Int) (n : Nat) : ∀ (L : List IW) (d : List Int), d.length = 64 → L.all (wOk n) = true → (lastW at_ d L).length = 64
  | [], d, h, _ => h
  | x :: t, d, h, ha => by
    rw [List.all_cons, Bool.and_eq_true] at ha
    have hx : x.f1.length = 64 := by have := ha.1; unfold wOk at this; rw [Bool.and_eq_true, decide_eq_true_eq, decide_eq_true_eq] at this; exact this.2
    show (lastW at_ (if x.f0 = at_ then x.f1 else d) t).length = 64
    exact lastW_len at_ n t _ (by split <;> assumption) ha.2
theorem dOk_iff {b : List Int} {L : List IW} (h : dOk b L = true) : (b.length % 64 = 0 ∧ 64 ≤ b.length ∧ b.length ≤ 25600) ∧ L.all (wOk (b.length / 64)) = true := by
  unfold dOk at h
  rw [Bool.and_eq_true, decide_eq_true_eq] at h
  exact h
theorem rdOk_iff {b : List Int} {L : List IW} {at_ : Int} (h : rdOk b L at_ = true) : dOk b L = true ∧ 0 ≤ at_ ∧ at_ < ((b.length / 64 : Nat) : Int) := by
  unfold rdOk at h
  rw [Bool.and_eq_true, decide_eq_true_eq] at h
  exact h
theorem secB_len {b : List Int} {L : List IW} {at_ : Int} (h : rdOk b L at_ = true) : (secB b at_).length = 64 := by
  obtain ⟨h1, h2, h3⟩ := rdOk_iff h
  obtain ⟨⟨h4, h5, h6⟩, _⟩ := dOk_iff h1
  unfold secB
  rw [List.length_drop, List.length_take]
  omega
theorem readM_len (b : List Int) (L : List IW) (at_ : Int) : (readM b L at_).length ≤ 64 := by
  unfold readM
  by_cases h : rdOk b L at_ = true
  · rw [if_pos h]
    exact Nat.le_of_eq (lastW_len at_ _ L _ (secB_len h) (dOk_iff (rdOk_iff h).1).2)
  · rw [if_neg h]; simp
theorem implCopy_loop (L : List IW) (hL : L.length ≤ 1048576) (hr : ∀ x ∈ L, x.f1.length ≤ 1048576) (b : List Int) : ∀ (d i k : Nat), i + d = L.length → d < k →
    impl_copyDisk.l0 k L (L.length : Int) (i : Int) b (L.take i) = some (b, L) := by
  intro d
  induction d with
  | zero =>
    intro i k hi hk
    obtain ⟨k, rfl⟩ : ∃ m, k = m + 1 := ⟨k - 1, by omega⟩
    rw [impl_copyDisk.l0, if_neg (by omega), List.take_of_length_le (by omega)]
  | succ d ih =>
    intro i k hi hk
    obtain ⟨k, rfl⟩ : ∃ m, k = m + 1 := ⟨k - 1, by omega⟩
    have ex : rd_T34 L (i : Int) = L.getD i z34 := by unfold rd_T34; rw [Int.toNat_natCast]
    have h1 := hr _ (getDin (z := z34) (show i < L.length by omega))
    have et : L.take i ++ [(⟨(L.getD i z34).f0, (L.getD i z34).f1⟩ : IW)] = L.take (i + 1) := by
      rw [List.take_add_one, List.getD_eq_getElem?_getD, List.getElem?_eq_getElem (show i < L.length by omega)]; rfl
    rw [impl_copyDisk.l0, if_pos (by omega), if_pos (by omega), if_pos (by omega), ex, clone_eq _ (by omega), Option.bind_some, if_pos (by rw [List.length_take]; omega), et,
      show wrap64 ((i : Int) + 1) = ((i + 1 : Nat) : Int) by rw [wrap_in (by omega) (by omega)]; omega]
    exact ih (i + 1) k (by omega) (by omega)
theorem implCopy_eq (b : List Int) (L : List IW) (hb : b.length ≤ 1048576) (hL : L.length ≤ 1048576) (hr : ∀ x ∈ L, x.f1.length ≤ 1048576) {k : Nat} (hk : L.length < k) : impl_copyDisk.f k b L = some (b, L) := by
  unfold impl_copyDisk.f
  rw [clone_eq b (by omega), Option.bind_some]
  have e := implCopy_loop L hL hr b L.length 0 k (by omega) hk
  rw [show ((0 : Nat) : Int) = 0 from rfl, List.take_zero] at e
  exact e
theorem specCopy_loop (L : List IW) (hL : L.length ≤ 1048576) (hr : ∀ x ∈ L, x.f1.length ≤ 1048576) (c b : List Int) : ∀ (d i k : Nat), i + d = L.length → d < k →
    spec_l11Copy.l0 k (i : Int) c L b (L.take i) = some (b, L) := by
  intro d
  induction d with
  | zero =>
    intro i k hi hk
    obtain ⟨k, rfl⟩ : ∃ m, k = m + 1 := ⟨k - 1, by omega⟩
    rw [spec_l11Copy.l0, if_neg (by omega), List.take_of_length_le (by omega)]
  | succ d ih =>
    intro i k hi hk
    obtain ⟨k, rfl⟩ : ∃ m, k = m + 1 := ⟨k - 1, by omega⟩
    have ex : rd_T34 L (i : Int) = L.getD i z34 := by unfold rd_T34; rw [Int.toNat_natCast]
    have h1 := hr _ (getDin (z := z34) (show i < L.length by omega))
    have et : L.take i ++ [(⟨(L.getD i z34).f0, (L.getD i z34).f1⟩ : IW)] = L.take (i + 1) := by
      rw [List.take_add_one, List.getD_eq_getElem?_getD, List.getElem?_eq_getElem (show i < L.length by omega)]; rfl
    rw [spec_l11Copy.l0, if_pos (by omega), if_pos (by omega), Option.bind_some, ex, if_pos (show ([] : List Int).length + (L.getD i z34).f1.length < 140737488355328 from by rw [List.length_nil]; omega), if_pos (by rw [List.length_take]; omega), List.nil_append, et,
      show wrap64 ((i : Int) + 1) = ((i + 1 : Nat) : Int) by rw [wrap_in (by omega) (by omega)]; omega]
    exact ih (i + 1) k (by omega) (by omega)
theorem specCopy_eq (b : List Int) (L : List IW) (hb : b.length ≤ 1048576) (hL : L.length ≤ 1048576) (hr : ∀ x ∈ L, x.f1.length ≤ 1048576) {k : Nat} (hk : L.length < k) : spec_l11Copy.f k b L = some (b, L) := by
  unfold spec_l11Copy.f
  rw [Option.bind_some, if_pos (show ([] : List Int).length + b.length < 140737488355328 from by rw [List.length_nil]; omega), List.nil_append]
  have e := specCopy_loop L hL hr b b L.length 0 k (by omega) hk
  rw [show ((0 : Nat) : Int) = 0 from rfl, List.take_zero] at e
  exact e
def wrOk (b : List Int) (L : List IW) (at_ : Int) (data : List Int) : Bool := rdOk b L at_ && decide (data.length = 64)
def wrQ (b : List Int) (L : List IW) (at_ : Int) (data : List Int) : List IW := if wrOk b L at_ data = true then L ++ [⟨at_, data⟩] else L
def sy1 (b : List Int) (x : IW) : List Int := spl b (x.f0 * 64).toNat x.f1
def syB (b : List Int) (L : List IW) : List Int := L.foldl sy1 b
def syM (b : List Int) (L : List IW) : List Int := if dOk b L = true then syB b L else b
def syQ (b : List Int) (L : List IW) : List IW := if dOk b L = true then [] else L
def wIn (n : Nat) (x : IW) : Prop := 0 ≤ x.f0 ∧ x.f0 * 64 + 64 ≤ (n : Int) ∧ x.f1.length = 64
theorem wIn_of {n : Nat} {x : IW} (h : wOk (n / 64) x = true) : wIn n x := by
  unfold wOk at h
  rw [Bool.and_eq_true, decide_eq_true_eq, decide_eq_true_eq] at h
  obtain ⟨⟨h1, h2⟩, h3⟩ := h
  exact ⟨h1, by omega, h3⟩
theorem sy1_len {b : List Int} {x : IW} (h : wIn b.length x) : (sy1 b x).length = b.length := by
  obtain ⟨h1, h2, h3⟩ := h
  unfold sy1 spl
  rw [List.length_append, List.length_append, List.length_take, List.length_drop]
  omega
theorem syB_len : ∀ (L : List IW) (b : List Int), (∀ x ∈ L, wIn b.length x) → (syB b L).length = b.length
  | [], b, _ => rfl
  | x :: L, b, h => by
    have hx := sy1_len (h x (by simp))
    show (syB (sy1 b x) L).length = _
    rw [syB_len L (sy1 b x) (fun y hy => by rw [hx]; exact h y (by simp [hy])), hx]
theorem wAll_in {b : List Int} {L : List IW} (h : L.all (wOk (b.length / 64)) = true) : ∀ x ∈ L, wIn b.length x := fun x hx => wIn_of (List.all_eq_true.1 h x hx)
theorem syM_len (b : List Int) (L : List IW) : (syM b L).length = b.length := by
  unfold syM
  split
  · rename_i h; exact syB_len L b (wAll_in (dOk_iff h).2)
  · rfl
theorem syQ_sub (b : List Int) (L : List IW) : ∀ x ∈ syQ b L, x ∈ L := by
  unfold syQ; split
  · intro x hx; cases hx
  · exact fun x hx => hx
theorem syQ_len (b : List Int) (L : List IW) : (syQ b L).length ≤ L.length := by
  unfold syQ; split
  · exact Nat.zero_le _
  · exact Nat.le_refl _
theorem syQ_vMax (b : List Int) (L : List IW) : vMax (syQ b L) ≤ vMax L := by
  unfold syQ; split
  · exact Nat.zero_le _
  · exact Nat.le_refl _
theorem specSync_loop (L : List IW) (hL : L.length ≤ 1048577) (n : Nat) (hn : n ≤ 25600) (hin : ∀ x ∈ L, wIn n x) (c : List Int) : ∀ (d i k : Nat) (b : List Int) (Q : List IW), b.length = n → i + d = L.length → d < k →
    spec_Sync.l0 k (i : Int) c L b Q = some (syB b (L.drop i), []) := by
  intro d
  induction d with
  | zero =>
    intro i k b Q hb hi hk
    obtain ⟨k, rfl⟩ : ∃ m, k = m + 1 := ⟨k - 1, by omega⟩
    rw [spec_Sync.l0, if_neg (by omega), List.drop_eq_nil_of_le (by omega)]; rfl
  | succ d ih =>
    intro i k b Q hb hi hk
    obtain ⟨k, rfl⟩ : ∃ m, k = m + 1 := ⟨k - 1, by omega⟩
    have ex : rd_T34 L (i : Int) = L.getD i z34 := by unfold rd_T34; rw [Int.toNat_natCast]
    have hx := hin _ (getDin (z := z34) (show i < L.length by omega))
    have hl1 := sy1_len (b := b) (x := L.getD i z34) (by rw [hb]; exact hx)
    obtain ⟨h1, h2, h3⟩ := hx
    rw [spec_Sync.l0, if_pos (by omega), if_pos (by omega), ex, dropAt z34 L i (by omega)]
    show _ = some (syB (sy1 b (L.getD i z34)) (L.drop (i + 1)), [])
    generalize L.getD i z34 = x at h1 h2 h3 hl1 ⊢
    rw [show wrap64 (x.f0 * 64) = x.f0 * 64 from wrap_in (by omega) (by omega), if_pos (by omega), if_pos (by omega), show wrap64 ((i : Int) + 1) = ((i + 1 : Nat) : Int) by rw [wrap_in (by omega) (by omega)]; omega]
    exact ih (i + 1) k (sy1 b x) Q (by omega) (by omega) (by omega)
theorem specSync_eq (b : List Int) (L : List IW) (hb : b.length ≤ 1048576) (hL : L.length ≤ 1048576) (hr : ∀ x ∈ L, x.f1.length ≤ 1048576) {k : Nat} (hk : L.length + 3 < k) : spec_Sync.f k b L = some (syM b L, syQ b L) := by
  unfold spec_Sync.f syM syQ
  rw [specCopy_eq b L hb hL hr (by omega), Option.bind_some, specOk_eq b L (by omega) (by omega) (by omega), Option.bind_some]
  by_cases h : dOk b L = true
  · obtain ⟨⟨h4, h5, h6⟩, h7⟩ := dOk_iff h
    rw [if_pos h, if_pos h, if_pos h]
    have e := specSync_loop L (by omega) b.length (by omega) (wAll_in h7) b L.length 0 k b L rfl (by omega) (by omega)
    rw [show ((0 : Nat) : Int) = 0 from rfl, List.drop_zero] at e
    exact e
  · rw [if_neg h, if_neg h, if_neg h]
def cn (c : List Int) (i : Nat) : Bool := decide (i / 8 < c.length) && (Go.bits .and .u8 (shr .u8 (rd c ((i / 8 : Nat) : Int)) ((i % 8 : Nat) : Int)) 1 == 1)
theorem tdiv8 (i : Nat) : Int.tdiv ((i : Nat) : Int) 8 = ((i / 8 : Nat) : Int) := rfl
theorem tmod8 (i : Nat) : Int.tmod ((i : Nat) : Int) 8 = ((i % 8 : Nat) : Int) := rfl
theorem w8 (i : Nat) (hi : i ≤ 4294967296) : wrap64 ((i / 8 : Nat) : Int) = ((i / 8 : Nat) : Int) := wrap_in (by omega) (by omega)
theorem u8 (i : Nat) : IntKind.u64.wrap ((i % 8 : Nat) : Int) = ((i % 8 : Nat) : Int) := u64_in (by omega) (by omega)
theorem wS (i : Nat) (hi : i ≤ 4294967296) : wrap64 ((i : Int) + 1) = ((i + 1 : Nat) : Int) := by rw [wrap_in (by omega) (by omega)]; omega
theorem crashOne_eq (c : List Int) (i : Nat) (hi : i ≤ 4294967296) : impl_CrashOne.f (i : Int) c = some (cn c i) := by
  unfold impl_CrashOne.f cn
  rw [tdiv8, tmod8, w8 i hi, u8 i]
  by_cases h : i / 8 < c.length
  · rw [if_pos (by omega), if_pos (by omega), if_pos (by omega), decide_eq_true h, Bool.true_and]
  · rw [if_neg (by omega), decide_eq_false h, Bool.false_and]
def kp (c : List Int) : Nat → List IW → List IW
  | _, [] => []
  | i, x :: L => if cn c i = true then x :: kp c (i + 1) L else kp c (i + 1) L
theorem kp_sub (c : List Int) : ∀ (L : List IW) (i : Nat), ∀ x ∈ kp c i L, x ∈ L
  | [], _, x, h => by cases h
  | y :: L, i, x, h => by
    unfold kp at h
    split at h
    · rcases List.mem_cons.1 h with rfl | h2
      · simp
      · exact List.mem_cons_of_mem _ (kp_sub c L (i + 1) x h2)
    · exact List.mem_cons_of_mem _ (kp_sub c L (i + 1) x h)
theorem kp_len (c : List Int) : ∀ (L : List IW) (i : Nat), (kp c i L).length ≤ L.length
  | [], _ => Nat.le_refl _
  | y :: L, i => by
    have := kp_len c L (i + 1)
    unfold kp
    split
    · simp only [List.length_cons]; omega
    · simp only [List.length_cons]; omega
def crM (b : List Int) (c : List Int) (L : List IW) : List Int := if dOk b L = true then syB b (kp c 0 L) else b
theorem crM_len (b c : List Int) (L : List IW) : (crM b c L).length = b.length := by
  unfold crM
  split
  · rename_i h; exact syB_len _ b (fun x hx => wAll_in (dOk_iff h).2 x (kp_sub c L 0 x hx))
  · rfl
theorem dOk_kp {b : List Int} {L : List IW} (h : dOk b L = true) (c : List Int) (i : Nat) : dOk b (kp c i L) = true := by
  unfold dOk at h ⊢
  rw [Bool.and_eq_true] at h ⊢
  exact ⟨h.1, List.all_eq_true.2 fun x hx => List.all_eq_true.1 h.2 x (kp_sub c L i x hx)⟩
theorem specCrash_loop (L : List IW) (hL : L.length ≤ 1048576) (hr : ∀ x ∈ L, x.f1.length ≤ 1048576) (b c : List Int) (hb : b.length ≤ 1048576) (b0 : List Int) : ∀ (d i k : Nat) (acc : List IW), i + d = L.length → acc.length ≤ i → (∀ x ∈ acc, x.f1.length ≤ 1048576) → d + L.length + 4 < k →
    spec_Crash.l0 k c acc (i : Int) b0 L b L = some (syM b (acc ++ kp c i (L.drop i)), syQ b (acc ++ kp c i (L.drop i))) := by
  intro d
  induction d with
  | zero =>
    intro i k acc hi ha hra hk
    obtain ⟨k, rfl⟩ : ∃ m, k = m + 1 := ⟨k - 1, by omega⟩
    rw [spec_Crash.l0, if_neg (by omega), List.drop_eq_nil_of_le (by omega)]
    show (spec_Sync.f k b acc).bind _ = some (syM b (acc ++ []), syQ b (acc ++ []))
    rw [List.append_nil, specSync_eq b acc hb (by omega) hra (by omega), Option.bind_some]
  | succ d ih =>
    intro i k acc hi ha hra hk
    obtain ⟨k, rfl⟩ : ∃ m, k = m + 1 := ⟨k - 1, by omega⟩
    have ex : rd_T34 L (i : Int) = L.getD i z34 := by unfold rd_T34; rw [Int.toNat_natCast]
    have hx := hr _ (getDin (z := z34) (show i < L.length by omega))
    rw [spec_Crash.l0, if_pos (by omega)]
    simp only [tdiv8, tmod8, w8 i (show i ≤ 4294967296 by omega), u8, wS i (show i ≤ 4294967296 by omega), ex]
    rw [dropAt z34 L i (by omega)]
    generalize L.getD i z34 = x at hx ⊢
    have hk1 : kp c i (x :: L.drop (i + 1)) = if cn c i = true then x :: kp c (i + 1) (L.drop (i + 1)) else kp c (i + 1) (L.drop (i + 1)) := rfl
    rw [hk1]
    have hn := ih (i + 1) k acc (by omega) (by omega) hra (by omega)
    by_cases h : i / 8 < c.length
    · rw [if_pos (by omega), if_pos (by omega), if_pos (by omega)]
      by_cases h2 : Go.bits .and .u8 (shr .u8 (rd c ((i / 8 : Nat) : Int)) ((i % 8 : Nat) : Int)) 1 = 1
      · have hc : cn c i = true := by unfold cn; rw [h2, decide_eq_true h]; rfl
        rw [if_pos h2, if_pos (by omega), if_pos (by omega), if_pos (by omega), if_pos hc]
        have hy := ih (i + 1) k (acc ++ [x]) (by omega) (by rw [List.length_append, List.length_singleton]; omega) (fun y hy => by
          rcases List.mem_append.1 hy with h3 | h3
          · exact hra y h3
          · rw [List.mem_singleton] at h3; subst h3; exact hx) (by omega)
        rw [List.append_assoc] at hy
        exact hy
      · have hc : ¬ cn c i = true := by
          unfold cn; rw [Bool.and_eq_true, beq_iff_eq]; exact fun q => h2 q.2
        rw [if_neg h2, if_neg hc]
        exact hn
    · have hc : ¬ cn c i = true := by unfold cn; rw [Bool.and_eq_true, decide_eq_true_eq]; exact fun q => h q.1
      rw [if_neg (by omega), if_neg hc]
      exact hn
theorem specCrash_eq (b : List Int) (L : List IW) (c : List Int) (hb : b.length ≤ 1048576) (hL : L.length ≤ 1048576) (hr : ∀ x ∈ L, x.f1.length ≤ 1048576) {k : Nat} (hk : 2 * L.length + 4 < k) : spec_Crash.f k b L c = some (crM b c L, syQ b L) := by
  unfold spec_Crash.f crM syQ
  rw [specCopy_eq b L hb hL hr (by omega), Option.bind_some, specOk_eq b L (by omega) (by omega) (by omega), Option.bind_some]
  by_cases h : dOk b L = true
  · rw [if_pos h, if_pos h, if_pos h]
    have e := specCrash_loop L hL hr b c hb b L.length 0 k [] (by omega) (by simp) (by simp) (by omega)
    rw [show ((0 : Nat) : Int) = 0 from rfl, List.drop_zero, List.nil_append] at e
    have h2 := dOk_kp h c 0
    rw [show syM b (kp c 0 L) = syB b (kp c 0 L) from by unfold syM; rw [if_pos h2], show syQ b (kp c 0 L) = [] from by unfold syQ; rw [if_pos h2]] at e
    exact e
  · rw [if_neg h, if_neg h, if_neg h]
theorem implCrash_loop (L : List IW) (hL : L.length ≤ 1048577) (n : Nat) (hn : n ≤ 25600) (hin : ∀ x ∈ L, wIn n x) (c : List Int) : ∀ (d i k : Nat) (b : List Int), b.length = n → i + d = L.length → d < k →
    impl_done.l0 k c L (L.length : Int) (i : Int) b = some (syB b (kp c i (L.drop i)), []) := by
  intro d
  induction d with
  | zero =>
    intro i k b hb hi hk
    obtain ⟨k, rfl⟩ : ∃ m, k = m + 1 := ⟨k - 1, by omega⟩
    rw [impl_done.l0, if_neg (by omega), List.drop_eq_nil_of_le (by omega)]; rfl
  | succ d ih =>
    intro i k b hb hi hk
    obtain ⟨k, rfl⟩ : ∃ m, k = m + 1 := ⟨k - 1, by omega⟩
    have ex : rd_T34 L (i : Int) = L.getD i z34 := by unfold rd_T34; rw [Int.toNat_natCast]
    have hx := hin _ (getDin (z := z34) (show i < L.length by omega))
    have hl1 := sy1_len (b := b) (x := L.getD i z34) (by rw [hb]; exact hx)
    obtain ⟨h1, h2, h3⟩ := hx
    rw [impl_done.l0, if_pos (by omega), if_pos (by omega), if_pos (by omega), crashOne_eq c i (by omega), Option.bind_some, ex, dropAt z34 L i (by omega)]
    simp only [wS i (show i ≤ 4294967296 by omega)]
    generalize L.getD i z34 = x at h1 h2 h3 hl1 ⊢
    have hk1 : kp c i (x :: L.drop (i + 1)) = if cn c i = true then x :: kp c (i + 1) (L.drop (i + 1)) else kp c (i + 1) (L.drop (i + 1)) := rfl
    rw [hk1]
    by_cases hc : cn c i = true
    · rw [if_pos hc, if_pos hc]
      simp only [show wrap64 (x.f0 * 64) = x.f0 * 64 from wrap_in (by omega) (by omega)]
      rw [if_pos (by omega), if_pos (by omega)]
      exact ih (i + 1) k (sy1 b x) (by omega) (by omega) (by omega)
    · rw [if_neg hc, if_neg hc]
      exact ih (i + 1) k b hb (by omega) (by omega)
theorem implCrash_eq (b : List Int) (L : List IW) (c : List Int) (hb : b.length ≤ 1048576) (hL : L.length ≤ 1048576) (hr : ∀ x ∈ L, x.f1.length ≤ 1048576) {k : Nat} (hk : L.length + 3 < k) : impl_Crash.f k b L c = some (crM b c L, syQ b L) := by
  unfold impl_Crash.f crM syQ
  rw [implOk_eq b L (by omega) (by omega) (by omega), Option.bind_some]
  by_cases h : dOk b L = true
  · obtain ⟨⟨h4, h5, h6⟩, h7⟩ := dOk_iff h
    rw [if_pos h, if_pos h, if_pos h]
    have e := implCrash_loop L (by omega) b.length (by omega) (wAll_in h7) c L.length 0 k b rfl (by omega) (by omega)
    rw [show ((0 : Nat) : Int) = 0 from rfl, List.drop_zero] at e
    rw [show impl_done.f k b L c = some (syB b (kp c 0 L), []) from by unfold impl_done.f; rw [clone_eq b (by omega), Option.bind_some]; exact e, Option.bind_some]
  · rw [if_neg h, if_neg h, if_neg h, implCopy_eq b L hb hL hr (by omega), Option.bind_some]
theorem FnExactCrash : ∀ (l0_0 : List Int) (l0_1 : List (S130)) (l1 : List Int), ok39 (l0_0, l0_1) → (l1.length * 1 ≤ 140737488351232 ∧ ∀ u ∈ l1, (fun x : Int => (Lit.int .u8 x).wf = true) u) → ∃ k, laws_FnExactCrash.f k l0_0 l0_1 l1 = some true := by
  intro b L data h hd
  obtain ⟨⟨hb, _⟩, hL, hr⟩ := h
  have hb : b.length * 1 ≤ 140737488351232 := hb
  have hL : L.length * 32 ≤ 140737488351232 := hL
  have hr1 : ∀ r ∈ L, r.f1.length * 1 ≤ 140737488351232 := fun r q => (hr r q).2.1
  have cl : (L.map cvW).length = L.length := List.length_map ..
  have vm := vMax_cv L
  have wl := wMax_len L
  obtain ⟨K, hK⟩ : ∃ K, K = b.length + 4 * wMax L + 4 * L.length + data.length + 1000 := ⟨_, rfl⟩
  refine ⟨K + 3, ?_⟩
  unfold laws_FnExactCrash.f
  by_cases hg : (data.length : Int) > 1048576
  · rw [if_pos hg]
  rw [if_neg hg]
  obtain ⟨t, e1, t0, t1, hsz⟩ := szDisk_some b L hb hL hr1 1048576 (by decide) (by decide) (k := K + 3) (by omega)
  rw [e1, Option.bind_some]
  by_cases h : t < 0
  · rw [if_pos h]
  · obtain ⟨s1, s2, s3⟩ := hsz (by omega)
    have cr1 : ∀ r ∈ L.map cvW, r.f1.length ≤ 1048576 := by
      intro r q
      obtain ⟨x, hx, rfl⟩ := List.mem_map.1 q
      have := s3 x hx; unfold cvW; simp only; omega
    have cr : ∀ r ∈ L.map cvW, r.f1.length ≤ 140737488351232 := fun r q => by have := cr1 r q; omega
    obtain ⟨G, hG⟩ : ∃ G, G = syQ b (L.map cvW) := ⟨_, rfl⟩
    obtain ⟨B, hB⟩ : ∃ B, B = crM b data (L.map cvW) := ⟨_, rfl⟩
    have bl : B.length = b.length := by rw [hB]; exact crM_len _ _ _
    have hGm : (∀ x ∈ G, x.f1.length ≤ 1048576) ∧ G.length ≤ 1048577 ∧ vMax G ≤ wMax L + 100 := by
      rw [hG]
      have q1 := syQ_len b (L.map cvW)
      have q2 := syQ_vMax b (L.map cvW)
      exact ⟨fun x hx => cr1 x (syQ_sub _ _ x hx), by omega, by omega⟩
    have hw1 : ∀ k, 2 * L.length + 4 < k → spec_Crash.f k b (L.map cvW) data = some (B, G) := fun k hk => by rw [hG, hB]; exact specCrash_eq b _ data (by omega) (by omega) cr1 (by omega)
    have hw2 : ∀ k, L.length + 3 < k → impl_Crash.f k b (L.map cvW) data = some (B, G) := fun k hk => by rw [hG, hB]; exact implCrash_eq b _ data (by omega) (by omega) cr1 (by omega)
    clear hG hB
    obtain ⟨g1, g2, g3⟩ := hGm
    have gl := vMax_len G
    rw [if_neg h, toDisk_eq b L hb hL hr1 (by omega), Option.bind_some, toByteS_eq data (by omega) (by omega), Option.bind_some]
    simp only []
    rw [hw1 _ (by omega), Option.bind_some, Option.bind_some]
    rw [Option.bind_some]
    simp only []
    rw [hw2 _ (by omega), Option.bind_some]
    simp only []
    rw [eqDisk_refl B G (by omega) (by omega) (fun r q => by have := g1 r q; omega) (by omega), Option.bind_some, if_pos rfl, Option.bind_some]
    simp only []
    rw [eqDisk_refl b _ (by omega) (by omega) cr (by omega), Option.bind_some, if_pos rfl, Option.bind_some, eqByteS_dec _ _ (by omega) (by omega), Option.bind_some, if_pos (by simp),
      markDisk_eq b _ 1 (by omega) (by omega) cr1 (by omega) (by omega) (by omega), Option.bind_some]
    have hc := cntQ_nn (L.map cvW)
    have hc2 := cntQ_le 1048576 (L.map cvW) cr1
    have hm : ((L.map cvW).length : Int) * ((1048576 : Nat) + 1 : Int) ≤ 1048576 * 1048577 := Int.mul_le_mul_of_nonneg_right (by omega) (by omega)
    have hcG := cntQ_nn G
    rw [markByteS_eq data (1 + (b.length : Int) + cntQ (L.map cvW)) (by omega) (by omega) (by omega) (by omega), Option.bind_some]
    simp only []
    rw [if_neg (show ¬ (1 + (b.length : Int) + cntQ (L.map cvW) + (data.length : Int)) < 0 by omega), Option.bind_some]
    rw [laws_FnExactCrash.j0, if_neg (by decide), markDisk_eq B G 1 (by omega) (by omega) g1 (by omega) (by omega) (by omega), Option.bind_some]
    simp only []
    rw [heldDisk_eq B.length G 1 (by omega) (by omega) g1 (by omega) (by omega) (by omega), Option.bind_some, if_neg (by omega), if_pos rfl, toDisk_eq b L hb hL hr1 (by omega), Option.bind_some, toByteS_eq data (by omega) (by omega), Option.bind_some]
    simp only []
    rw [hw2 _ (by omega), Option.bind_some]
    simp only []
    rw [eqDisk_refl B G (by omega) (by omega) (fun r q => by have := g1 r q; omega) (by omega), Option.bind_some, if_pos rfl, Option.bind_some, if_neg (by omega), if_pos rfl]

end Go.Proofs.Ytinilabmffjnaaa.Pure
