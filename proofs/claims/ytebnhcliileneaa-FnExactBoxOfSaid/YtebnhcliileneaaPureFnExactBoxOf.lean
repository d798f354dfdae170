/- The pure statement of the law FnExactBoxOf. No conditions beyond that each number is one of its kind and that slices are no greater than memory. -/
import Derived.Test.YtebnhcliileneaaKinFnExactBoxOf
namespace Go.Proofs.Ytebnhcliileneaa.Pure
open Go.RowKit Go.Proofs.Ytebnhcliileneaa.PFnExactBoxOf Go.Proofs.YtebnhcliileneaaW.PrintWords Go.Proofs.YtebnhcliileneaaW.PrintLast Go.Proofs.YtebnhcliileneaaW.PrintMore
set_option linter.unusedVariables false
set_option linter.unusedSimpArgs false

/-- The points that are right. -/
def ptOk (x y : Int) : Bool := decide (-10000000 ≤ x) && decide (x ≤ 10000000) && decide (-10000000 ≤ y) && decide (y ≤ 10000000)
/-- The boxes that are right. -/
def boxOk (a b c d : Int) : Bool := ptOk a b && ptOk c d && decide (a ≤ c) && decide (b ≤ d)
theorem ptOk_iff {x y : Int} : ptOk x y = true ↔ -10000000 ≤ x ∧ x ≤ 10000000 ∧ -10000000 ≤ y ∧ y ≤ 10000000 := by
  simp [ptOk, and_assoc]
theorem boxOk_iff {a b c d : Int} : boxOk a b c d = true ↔ (-10000000 ≤ a ∧ a ≤ 10000000 ∧ -10000000 ≤ b ∧ b ≤ 10000000) ∧ (-10000000 ≤ c ∧ c ≤ 10000000 ∧ -10000000 ≤ d ∧ d ≤ 10000000) ∧ a ≤ c ∧ b ≤ d := by
  simp [boxOk, ptOk_iff, and_assoc]
theorem wrap_in {x : Int} (h1 : -9223372036854775808 ≤ x) (h2 : x ≤ 9223372036854775807) : wrap64 x = x := by unfold wrap64; omega
theorem wrap_bounds (x : Int) : -9223372036854775808 ≤ wrap64 x ∧ wrap64 x ≤ 9223372036854775807 := by unfold wrap64; omega
theorem u64_in {x : Int} (h1 : 0 ≤ x) (h2 : x ≤ 18446744073709551615) : IntKind.u64.wrap x = x := by
  simp [IntKind.wrap, IntKind.bits, IntKind.signed]; omega
theorem u64_bounds (x : Int) : 0 ≤ IntKind.u64.wrap x ∧ IntKind.u64.wrap x ≤ 18446744073709551615 := by
  simp [IntKind.wrap, IntKind.bits, IntKind.signed]; omega
theorem u64_nonneg (x : Int) : 0 ≤ IntKind.u64.wrap x := (u64_bounds x).1
theorem mx_eq (a b : Int) : mx a b = max a b := by unfold mx; omega
theorem mn_eq (a b : Int) : mn a b = min a b := by unfold mn; omega
theorem spec_l1In_eq (a b c : Int) : spec_l1In.f a b c = some (decide (b ≤ a) && decide (a ≤ c)) := by
  unfold spec_l1In.f; by_cases h : b ≤ a <;> simp [h]
theorem impl_inRange_eq (a b c : Int) : impl_inRange.f a b c = some (decide (b ≤ a) && decide (a ≤ c)) := by
  unfold impl_inRange.f; by_cases h : b ≤ a <;> simp [h]
theorem impl_isCoord_eq (a : Int) : impl_isCoord.f a = some (decide (-10000000 ≤ a) && decide (a ≤ 10000000)) := by
  unfold impl_isCoord.f; rw [impl_inRange_eq]; rfl
theorem spec_PtOk_eq (x y : Int) : spec_PtOk.f x y = some (ptOk x y) := by
  unfold spec_PtOk.f ptOk; simp only [spec_l1In_eq, Option.bind_some]
  by_cases h : (decide (-10000000 ≤ x) && decide (x ≤ 10000000)) = true
  · rw [if_pos h, h]; simp
  · rw [if_neg h]; simp only [Bool.not_eq_true] at h; rw [h]; simp
theorem impl_PtOk_eq (x y : Int) : impl_PtOk.f x y = some (ptOk x y) := by
  unfold impl_PtOk.f ptOk; simp only [impl_isCoord_eq, Option.bind_some]
  by_cases h : (decide (-10000000 ≤ x) && decide (x ≤ 10000000)) = true
  · rw [if_pos h, h]; simp
  · rw [if_neg h]; simp only [Bool.not_eq_true] at h; rw [h]; simp
theorem impl_BoxOk_eq (a b c d : Int) : impl_BoxOk.f a b c d = some (boxOk a b c d) := by
  unfold impl_BoxOk.f boxOk; simp only [impl_PtOk_eq, Option.bind_some]
  by_cases h : ptOk a b = true <;> by_cases h2 : ptOk c d = true <;> by_cases h3 : a ≤ c <;> simp [h, h2, h3]
theorem laws_toPt_eq (x y : Int) : laws_toPt.f x y = some (x, y) := rfl
def inBox (a b c d x y : Int) : Bool := boxOk a b c d && ptOk x y && (decide (a ≤ x) && decide (x ≤ c)) && (decide (b ≤ y) && decide (y ≤ d))
def overlap (a b c d e f g h : Int) : Bool := boxOk a b c d && boxOk e f g h && decide (a ≤ g) && decide (e ≤ c) && decide (b ≤ h) && decide (f ≤ d)
def inside (a b c d e f g h : Int) : Bool := boxOk a b c d && inBox e f g h a b && inBox e f g h c d
def area (a b c d : Int) : Int := if boxOk a b c d = true then (c - a) * (d - b) else 0
theorem area_bounds (a b c d : Int) : 0 ≤ area a b c d ∧ area a b c d ≤ 400000000000000 := by
  unfold area; split
  · rename_i h
    rw [boxOk_iff] at h
    obtain ⟨⟨h1, h2, h3, h4⟩, ⟨h5, h6, h7, h8⟩, h9, h10⟩ := h
    have p1 : 0 ≤ c - a := by omega
    have p2 : 0 ≤ d - b := by omega
    refine ⟨Int.mul_nonneg p1 p2, ?_⟩
    calc (c - a) * (d - b) ≤ 20000000 * (d - b) := Int.mul_le_mul_of_nonneg_right (by omega) p2
      _ ≤ 20000000 * 20000000 := Int.mul_le_mul_of_nonneg_left (by omega) (by omega)
      _ = 400000000000000 := by decide
  · omega
theorem area_wrap {a b c d : Int} (h : boxOk a b c d = true) : wrap64 ((wrap64 (c - a)) * (wrap64 (d - b))) = area a b c d := by
  have hb := area_bounds a b c d
  have e : area a b c d = (c - a) * (d - b) := by unfold area; rw [if_pos h]
  rw [boxOk_iff] at h
  rw [wrap_in (x := c - a) (by omega) (by omega), wrap_in (x := d - b) (by omega) (by omega), ← e]
  exact wrap_in (by omega) (by omega)
/-- The tiles that are right. -/
def tileOk (z x y : Int) : Bool := decide (0 ≤ z) && decide (z ≤ 20) && (decide (0 ≤ x) && decide (x ≤ 2 ^ z.toNat - 1)) && (decide (0 ≤ y) && decide (y ≤ 2 ^ z.toNat - 1))
theorem shl1_fin : ∀ n : Fin 51, shl .i64 1 (IntKind.u64.wrap ((n.val : Nat) : Int)) = 2 ^ n.val := by decide +kernel
theorem shl1 {z : Int} (h0 : 0 ≤ z) (h1 : z ≤ 50) : shl .i64 1 (IntKind.u64.wrap z) = 2 ^ z.toNat := by
  obtain ⟨n, rfl⟩ := Int.eq_ofNat_of_zero_le h0
  exact shl1_fin ⟨n, by omega⟩
theorem pow2_le {n m : Nat} (h : n ≤ m) : (2 : Int) ^ n ≤ 2 ^ m := by
  have := Nat.pow_le_pow_right (n := 2) (by decide) h
  exact_mod_cast this
theorem pow2_pos (n : Nat) : (1 : Int) ≤ 2 ^ n := by
  have := pow2_le (Nat.zero_le n); simpa using this
theorem pow2_20 {z : Int} (h1 : z ≤ 20) : (1 : Int) ≤ 2 ^ z.toNat ∧ (2 : Int) ^ z.toNat ≤ 1048576 :=
  ⟨pow2_pos _, by have := pow2_le (n := z.toNat) (m := 20) (by omega); simpa using this⟩
theorem tile_most {z : Int} (h0 : 0 ≤ z) (h1 : z ≤ 20) : wrap64 ((shl .i64 1 (IntKind.u64.wrap z)) - 1) = 2 ^ z.toNat - 1 := by
  rw [shl1 h0 (by omega)]
  have := pow2_20 h1
  exact wrap_in (by omega) (by omega)
/-- The side of the tiles of a Z. -/
def side (z : Int) : Int := 33554432 / 2 ^ z.toNat
theorem shr_side_fin : ∀ n : Fin 21, shr .i64 33554432 (IntKind.u64.wrap ((n.val : Nat) : Int)) = 33554432 / 2 ^ n.val ∧ (32 : Int) ≤ 33554432 / 2 ^ n.val ∧ (33554432 : Int) / 2 ^ n.val ≤ 33554432 := by decide +kernel
theorem shr_side {z : Int} (h0 : 0 ≤ z) (h1 : z ≤ 20) : shr .i64 33554432 (IntKind.u64.wrap z) = side z ∧ 32 ≤ side z ∧ side z ≤ 33554432 := by
  obtain ⟨n, rfl⟩ := Int.eq_ofNat_of_zero_le h0
  exact shr_side_fin ⟨n, by omega⟩
/-- The tile of a point. -/
def tileX (x z : Int) : Int := Int.tdiv (x + 16777216) (side z)
/-- A point as it is taken. -/
def tk (x y : Int) : Int × Int := if ptOk x y = true then (x, y) else (0, 0)
theorem tk_ok (x y : Int) : ptOk (tk x y).1 (tk x y).2 = true := by
  unfold tk; split
  · assumption
  · decide
def sgn (n : Int) : Int := if n > 0 then 1 else if n < 0 then -1 else 0
theorem sgn_cmp (n : Int) : (if n < 0 then (-1 : Int) else if n > 0 then 1 else 0) = sgn n := by unfold sgn; split <;> split <;> omega
theorem sgn_0 : sgn 0 = 0 := rfl
theorem sgn_zero {n : Int} : sgn n = 0 ↔ n = 0 := by unfold sgn; split <;> (try split) <;> omega
def crossW (a b c d e f : Int) : Int := wrap64 ((wrap64 ((wrap64 (c - a)) * (wrap64 (f - b)))) - (wrap64 ((wrap64 (d - b)) * (wrap64 (e - a)))))
def betw (a b n : Int) : Bool := decide (min a b ≤ n) && decide (n ≤ max a b)
def onSegW (a b c d e f : Int) : Bool := decide (crossW a b c d e f = 0) && betw a c e && betw b d f
def onSegT (a b c d e f : Int) : Bool := onSegW (tk a b).1 (tk a b).2 (tk c d).1 (tk c d).2 (tk e f).1 (tk e f).2
def squareW (a b c d : Int) : Int := wrap64 ((wrap64 ((wrap64 (a - c)) * (wrap64 (a - c)))) + (wrap64 ((wrap64 (b - d)) * (wrap64 (b - d)))))
def gapW (a b c d x y : Int) : Int := if boxOk a b c d = true ∧ ptOk x y = true then squareW x y (max a (min x c)) (max b (min y d)) else -1
theorem spec_l4Min_eq (a b : Int) : spec_l4Min.f a b = some (min a b) := by unfold spec_l4Min.f; split <;> congr 1 <;> omega
theorem spec_l4Max_eq (a b : Int) : spec_l4Max.f a b = some (max a b) := by unfold spec_l4Max.f; split <;> congr 1 <;> omega
def l3MeetW (a b c d e f g h : Int) : Bool :=
  onSegW a b c d e f || onSegW a b c d g h || onSegW e f g h a b || onSegW e f g h c d ||
    (decide (wrap64 (sgn (crossW a b c d e f) * sgn (crossW a b c d g h)) < 0) && decide (wrap64 (sgn (crossW e f g h a b) * sgn (crossW e f g h c d)) < 0))
def meetW (a b c d e f g h : Int) : Bool := l3MeetW (tk a b).1 (tk a b).2 (tk c d).1 (tk c d).2 (tk e f).1 (tk e f).2 (tk g h).1 (tk g h).2
/-- What Join computes. -/
def joinW (a b c d e f g h : Int) : Int × Int × Int × Int :=
  if boxOk a b c d = true then (if boxOk e f g h = true then (min a e, min b f, max c g, max d h) else (a, b, c, d))
  else (if boxOk e f g h = true then (e, f, g, h) else (0, 0, 0, 0))
/-- The box of the points from here on, joined to one. -/
def boW : List S32 → Int → Int → Int → Int → Int × Int × Int × Int × Bool
  | [], a, b, c, d => (a, b, c, d, true)
  | p :: r, a, b, c, d => if ptOk p.f0 p.f1 = true then boW r (min a p.f0) (min b p.f1) (max c p.f0) (max d p.f1) else (0, 0, 0, 0, false)
theorem drop_getD {α : Type} (z : α) : ∀ (l : List α) (i : Nat), i < l.length → l.drop i = l.getD i z :: l.drop (i + 1)
  | [], i, h => by simp at h
  | x :: r, 0, _ => rfl
  | x :: r, i + 1, h => by
    have := drop_getD z r i (by simpa using h)
    simpa using this
theorem spec_BoxOf_loop (l : List S32) (hl : l.length ≤ 140737488351232) : ∀ (d i k : Nat) (a b c e : Int), i + d = l.length → d < k →
    spec_BoxOf.l0 k l (i : Int) a b c e = some (boW (l.drop i) a b c e) := by
  intro d
  induction d with
  | zero =>
    intro i k a b c e hi hk
    obtain ⟨k, rfl⟩ : ∃ m, k = m + 1 := ⟨k - 1, by omega⟩
    simp only [spec_BoxOf.l0]; rw [if_neg (by omega), List.drop_eq_nil_of_le (by omega)]; rfl
  | succ d ih =>
    intro i k a b c e hi hk
    obtain ⟨k, rfl⟩ : ∃ m, k = m + 1 := ⟨k - 1, by omega⟩
    simp only [spec_BoxOf.l0]
    rw [if_pos (by omega), if_pos (by omega), drop_getD z32 l i (by omega)]
    have er : rd_T32 l (i : Int) = l.getD i z32 := by unfold rd_T32; rw [Int.toNat_natCast]
    rw [er]
    generalize l.getD i z32 = p
    simp only [boW, spec_PtOk_eq, spec_l4Min_eq, spec_l4Max_eq, Option.bind_some]
    by_cases hp : ptOk p.f0 p.f1 = true
    · rw [if_pos hp, if_pos hp, show wrap64 ((i : Int) + 1) = ((i + 1 : Nat) : Int) by rw [wrap_in (by omega) (by omega)]; omega]
      exact ih (i + 1) k _ _ _ _ (by omega) (by omega)
    · rw [if_neg hp, if_neg hp]
/-- What BoxOf computes. -/
def boxOfW : List S32 → Int × Int × Int × Int × Bool
  | [] => (0, 0, 0, 0, false)
  | p :: r => boW (p :: r) p.f0 p.f1 p.f0 p.f1
theorem spec_BoxOf_eq (l : List S32) (hl : l.length ≤ 140737488351232) {k : Nat} (hk : l.length < k) : spec_BoxOf.f k l = some (boxOfW l) := by
  unfold spec_BoxOf.f
  cases l with
  | nil => rfl
  | cons p r =>
    have hpos : (0 : Int) < ((p :: r).length : Int) := by rw [List.length_cons]; omega
    rw [if_neg (by omega), if_pos hpos]
    have e := spec_BoxOf_loop (p :: r) hl (p :: r).length 0 k p.f0 p.f1 p.f0 p.f1 (by omega) hk
    exact e
theorem impl_Join_eq (a b c d e f g h : Int) {k : Nat} (hk : 1 ≤ k) : impl_Join.f k a b c d e f g h = some (joinW a b c d e f g h) := by
  obtain ⟨k, rfl⟩ : ∃ m, k = m + 1 := ⟨k - 1, by omega⟩
  unfold impl_Join.f joinW; simp only [impl_BoxOk_eq, Option.bind_some]
  by_cases h1 : boxOk a b c d = true <;> by_cases h2 : boxOk e f g h = true <;> simp [h1, h2, impl_Join.j0, impl_BoxOk_eq, mx_eq, mn_eq]
def grownW (a b c d e f g h : Int) : Int := area (joinW a b c d e f g h).1 (joinW a b c d e f g h).2.1 (joinW a b c d e f g h).2.2.1 (joinW a b c d e f g h).2.2.2 - area a b c d
theorem grown_wrap (a b c d e f g h : Int) : wrap64 (area (joinW a b c d e f g h).1 (joinW a b c d e f g h).2.1 (joinW a b c d e f g h).2.2.1 (joinW a b c d e f g h).2.2.2 - area a b c d) = grownW a b c d e f g h := by
  have a1 := area_bounds a b c d
  have a2 := area_bounds (joinW a b c d e f g h).1 (joinW a b c d e f g h).2.1 (joinW a b c d e f g h).2.2.1 (joinW a b c d e f g h).2.2.2
  exact wrap_in (by omega) (by omega)
theorem side_fin : ∀ n : Fin 21, (33554432 : Int) / 2 ^ n.val * 2 ^ n.val = 33554432 := by decide +kernel
theorem side_mul {z : Int} (h0 : 0 ≤ z) (h1 : z ≤ 20) : side z * 2 ^ z.toNat = 33554432 := by
  obtain ⟨n, rfl⟩ := Int.eq_ofNat_of_zero_le h0
  exact side_fin ⟨n, by omega⟩
theorem tile_span {z x : Int} (h0 : 0 ≤ z) (h1 : z ≤ 20) (x0 : 0 ≤ x) (x1 : x ≤ 2 ^ z.toNat - 1) : 0 ≤ x * side z ∧ (x + 1) * side z = x * side z + side z ∧ x * side z + side z ≤ 33554432 ∧ 32 ≤ side z := by
  have hs := (shr_side h0 h1).2
  have e : (x + 1) * side z = x * side z + side z := by rw [Int.add_mul, Int.one_mul]
  refine ⟨Int.mul_nonneg x0 (by omega), e, ?_, hs.1⟩
  rw [← e, ← side_mul h0 h1, Int.mul_comm (side z)]
  exact Int.mul_le_mul_of_nonneg_right (by omega) (by omega)
/-- What TileBox computes. -/
def tileBoxW (z x y : Int) : Int × Int × Int × Int × Bool :=
  if tileOk z x y = true ∧ boxOk (max (x * side z - 16777216) (-10000000)) (max (y * side z - 16777216) (-10000000)) (min (x * side z - 16777216 + side z - 1) 10000000) (min (y * side z - 16777216 + side z - 1) 10000000) = true then
    (max (x * side z - 16777216) (-10000000), max (y * side z - 16777216) (-10000000), min (x * side z - 16777216 + side z - 1) 10000000, min (y * side z - 16777216 + side z - 1) 10000000, true)
  else (0, 0, 0, 0, false)
theorem tileOk_iff {z x y : Int} : tileOk z x y = true ↔ (0 ≤ z ∧ z ≤ 20) ∧ (0 ≤ x ∧ x ≤ 2 ^ z.toNat - 1) ∧ (0 ≤ y ∧ y ≤ 2 ^ z.toNat - 1) := by
  simp [tileOk, and_assoc]
theorem laws_eqPt_refl (a b : Int) : laws_eqPt.f a b a b = some true := by simp [laws_eqPt.f]
theorem laws_eqBox_refl (a b c d : Int) : laws_eqBox.f a b c d a b c d = some true := by simp [laws_eqBox.f, laws_eqPt_refl]
theorem szPtS_eq (l : List S30) (hl : l.length * 16 ≤ 140737488351232) (a : Int) (ha : 0 ≤ a) (hb : a ≤ 1048576) : laws_szPtS.f l a = some (if (l.length : Int) ≤ a then a - l.length else -1) := by
  unfold laws_szPtS.f
  rw [wrap_in (by omega) (by omega)]
  by_cases h : (l.length : Int) ≤ a
  · rw [if_neg (by omega), if_pos h]
  · rw [if_pos (by omega), if_neg h]
def cvPt (p : S30) : S32 := ⟨p.f0, p.f1⟩
theorem set_rep {α β : Type} (f : α → β) (P : List α) (v z : β) (n : Nat) : (P.map f ++ List.replicate (n + 1) z).set P.length v = P.map f ++ v :: List.replicate n z := by
  rw [List.replicate_succ, ← List.length_map (f := f), List.set_append_right _ _ (Nat.le_refl _), Nat.sub_self]; rfl
theorem getD_at {α : Type} (z : α) (P : List α) (r : α) (R : List α) : (P ++ r :: R).getD P.length z = r := by simp
theorem toPtS_loop : ∀ (R P : List S30) (k : Nat), (P.length + R.length) * 16 ≤ 140737488351232 → R.length < k →
    laws_toPtS.l0 k (P ++ R) (P.map cvPt ++ List.replicate R.length z32) (P.length : Int) = some ((P ++ R).map cvPt) := by
  intro R
  induction R with
  | nil =>
    intro P k hl hk
    obtain ⟨k, rfl⟩ : ∃ m, k = m + 1 := ⟨k - 1, by omega⟩
    simp only [laws_toPtS.l0]; rw [if_neg (by simp)]; simp
  | cons r R ih =>
    intro P k hl hk
    simp only [List.length_cons] at hl hk
    obtain ⟨k, rfl⟩ : ∃ m, k = m + 1 := ⟨k - 1, by omega⟩
    simp only [laws_toPtS.l0]
    rw [if_pos (by rw [List.length_append, List.length_cons]; omega), if_pos (by omega)]
    simp only [laws_toPt_eq, Option.bind_some, rd_T30, Int.toNat_natCast, getD_at]
    rw [if_pos (by rw [List.length_append, List.length_map, List.length_replicate, List.length_cons]; omega), List.length_cons, set_rep]
    have := ih (P ++ [r]) k (by simp; omega) (by omega)
    rw [show wrap64 ((P.length : Int) + 1) = ((P ++ [r]).length : Int) by rw [wrap_in (by omega) (by omega)]; simp]
    simp only [List.map_append, List.append_assoc, List.map_cons, List.map_nil, List.cons_append, List.nil_append] at this ⊢
    exact this
theorem toPtS_eq (l : List S30) (hl : l.length * 16 ≤ 140737488351232) {k : Nat} (hk : l.length < k) : laws_toPtS.f k l = some (l.map cvPt) := by
  unfold laws_toPtS.f
  rw [if_pos (by omega), if_pos (by omega), Int.toNat_natCast]
  exact toPtS_loop l [] k (by simp; omega) hk
theorem eqPtS_loop (l : List S32) (hl : l.length ≤ 140737488351232) : ∀ (d i k : Nat), i + d = l.length → d < k → laws_eqPtS.l0 k l l (i : Int) = some true := by
  intro d
  induction d with
  | zero =>
    intro i k hi hk
    obtain ⟨k, rfl⟩ : ∃ m, k = m + 1 := ⟨k - 1, by omega⟩
    simp only [laws_eqPtS.l0]; rw [if_neg (by omega)]
  | succ d ih =>
    intro i k hi hk
    obtain ⟨k, rfl⟩ : ∃ m, k = m + 1 := ⟨k - 1, by omega⟩
    simp only [laws_eqPtS.l0]
    rw [if_pos (by omega), if_pos (by omega), if_pos (by omega), laws_eqPt_refl]
    simp only [Option.bind_some, if_true]
    rw [show wrap64 ((i : Int) + 1) = ((i + 1 : Nat) : Int) by rw [wrap_in (by omega) (by omega)]; omega]
    exact ih (i + 1) k (by omega) (by omega)
theorem eqPtS_refl (l : List S32) (hl : l.length ≤ 140737488351232) {k : Nat} (hk : l.length < k) : laws_eqPtS.f k l l = some true := by
  unfold laws_eqPtS.f; rw [if_pos rfl]; exact eqPtS_loop l hl l.length 0 k (by omega) hk
theorem join_pt {a b c d x y : Int} (h : boxOk a b c d = true) (hp : ptOk x y = true) : joinW a b c d x y x y = (min a x, min b y, max c x, max d y) := by
  have hb : boxOk x y x y = true := boxOk_iff.2 ⟨ptOk_iff.1 hp, ptOk_iff.1 hp, Int.le_refl _, Int.le_refl _⟩
  unfold joinW; rw [if_pos h, if_pos hb]
theorem iBoxOf_loop (l : List S32) (hl : l.length ≤ 140737488351232) : ∀ (d i k : Nat) (a b c e : Int), i + d = l.length → d + 1 < k → (d = l.length ∨ boxOk a b c e = true) →
    (i = 0 → 0 < l.length → a = (l.getD 0 z32).f0 ∧ b = (l.getD 0 z32).f1 ∧ c = a ∧ e = b) →
    impl_BoxOf.l0 k l (l.length : Int) (i : Int) a b c e = some (boW (l.drop i) a b c e) := by
  intro d
  induction d with
  | zero =>
    intro i k a b c e hi hk _ _
    obtain ⟨k, rfl⟩ : ∃ m, k = m + 1 := ⟨k - 1, by omega⟩
    simp only [impl_BoxOf.l0]; rw [if_neg (by omega), List.drop_eq_nil_of_le (by omega)]; rfl
  | succ d ih =>
    intro i k a b c e hi hk hb hi0
    obtain ⟨k, rfl⟩ : ∃ m, k = m + 1 := ⟨k - 1, by omega⟩
    simp only [impl_BoxOf.l0]
    rw [if_pos (by omega), if_pos (by omega), if_pos (by omega), drop_getD z32 l i (by omega)]
    simp only [rd_T32, Int.toNat_natCast, boW, impl_PtOk_eq, Option.bind_some]
    by_cases hp : ptOk (l.getD i z32).f0 (l.getD i z32).f1 = true
    · have hbox : boxOk a b c e = true := by
        rcases hb with hb | hb
        · obtain ⟨h1, h2, h3, h4⟩ := hi0 (by omega) (by omega)
          have : i = 0 := by omega
          subst this
          subst h1; subst h2; subst h3; subst h4
          exact boxOk_iff.2 ⟨ptOk_iff.1 hp, ptOk_iff.1 hp, Int.le_refl _, Int.le_refl _⟩
        · exact hb
      rw [if_pos hp, if_pos hp, impl_Join_eq _ _ _ _ _ _ _ _ (by omega)]
      simp only [Option.bind_some, join_pt hbox hp]
      rw [show wrap64 ((i : Int) + 1) = ((i + 1 : Nat) : Int) by rw [wrap_in (by omega) (by omega)]; omega]
      have p1 := boxOk_iff.1 hbox
      have p2 := ptOk_iff.1 hp
      exact ih (i + 1) k _ _ _ _ (by omega) (by omega) (.inr (boxOk_iff.2 ⟨⟨by omega, by omega, by omega, by omega⟩, ⟨by omega, by omega, by omega, by omega⟩, by omega, by omega⟩)) (by omega)
    · rw [if_neg hp, if_neg hp]
theorem impl_BoxOf_eq (l : List S32) (hl : l.length ≤ 140737488351232) {k : Nat} (hk : l.length + 1 < k) : impl_BoxOf.f k l = some (boxOfW l) := by
  unfold impl_BoxOf.f
  cases l with
  | nil => rfl
  | cons p r =>
    have hpos : (0 : Int) < ((p :: r).length : Int) := by rw [List.length_cons]; omega
    rw [if_neg (by omega), if_pos hpos]
    exact iBoxOf_loop (p :: r) hl (p :: r).length 0 k p.f0 p.f1 p.f0 p.f1 (by omega) hk (.inl rfl) (fun _ _ => ⟨rfl, rfl, rfl, rfl⟩)
theorem FnExactBoxOf : ∀ (l0 : List (S30)), (l0.length * 16 ≤ 140737488351232 ∧ ∀ u ∈ l0, (fun x : S30 => ok30 x) u) → ∃ k, laws_FnExactBoxOf.f k l0 = some true := by
  intro l ⟨hl, _⟩
  refine ⟨2 * l.length + 10, ?_⟩
  unfold laws_FnExactBoxOf.f
  rw [szPtS_eq l hl 1048576 (by decide) (by decide)]
  simp only [Option.bind_some]
  by_cases hb : (l.length : Int) ≤ 1048576
  · rw [if_pos hb, if_neg (by omega), toPtS_eq l hl (by omega)]
    simp only [Option.bind_some]
    have hlen : (l.map cvPt).length = l.length := List.length_map _
    have hm : (l.map cvPt).length ≤ 140737488351232 := by omega
    rw [spec_BoxOf_eq _ hm (by omega), impl_BoxOf_eq _ hm (by omega)]
    simp only [Option.bind_some, laws_eqBox_refl, if_true]
    rw [show 2 * l.length + 10 = (2 * l.length + 9) + 1 by omega]
    simp only [laws_FnExactBoxOf.j0, bne_self_eq_false, Bool.false_eq_true, if_false]
    rw [toPtS_eq l hl (by omega)]
    simp only [Option.bind_some]
    rw [eqPtS_refl _ hm (by omega)]
    simp
  · rw [if_neg hb]; simp

end Go.Proofs.Ytebnhcliileneaa.Pure
