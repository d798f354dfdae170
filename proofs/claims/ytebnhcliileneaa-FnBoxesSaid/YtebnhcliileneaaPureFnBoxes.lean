/- The pure statement of the law FnBoxes: what the printed functions compute answers true at every input. No conditions beyond the printed bounds. -/
import Derived.Test.YtebnhcliileneaaQFnBoxesx31
namespace Go.Proofs.Ytebnhcliileneaa.Pure
open Go.RowKit Go.Proofs.Ytebnhcliileneaa.PFnBoxes Go.Proofs.YtebnhcliileneaaW.PrintWords Go.Proofs.YtebnhcliileneaaW.PrintLast Go.Proofs.YtebnhcliileneaaW.PrintMore
set_option linter.unusedVariables false
set_option linter.unusedSimpArgs false

/-- The points that are right. -/
def ptOk (x y : Int) : Bool := decide (-10000000 ≤ x) && decide (x ≤ 10000000) && decide (-10000000 ≤ y) && decide (y ≤ 10000000)
/-- The boxes that are right. -/
def boxOk (a b c d : Int) : Bool := ptOk a b && ptOk c d && decide (a ≤ c) && decide (b ≤ d)
theorem ptOk_iff {x y : Int} : ptOk x y = true ↔ -10000000 ≤ x ∧ x ≤ 10000000 ∧ -10000000 ≤ y ∧ y ≤ 10000000 := by
  simp [ptOk, and_assoc]
theorem boxOk_iff {a b c d : Int} : boxOk a b c d = true ↔ (-10000000 ≤ a ∧ a ≤ 10000000 ∧ -10000000 ≤ b ∧ b ≤ 10000000) ∧ (-10000000 ≤ c ∧ c ≤ 10000000 ∧ -10000000 ≤ d ∧ d ≤ 10000000) ∧ a ≤ c ∧ b ≤ d := by
  simp [boxOk, ptOk_iff, and_assoc]
theorem wrap_in {x : Int} (h1 : -9223372036854775808 ≤ x) (h2 : x ≤ 9223372036854775807) : wrap64 x = x := by unfold wrap64; omega
theorem wrap_bounds (x : Int) : -9223372036854775808 ≤ wrap64 x ∧ wrap64 x ≤ 9223372036854775807 := by unfold wrap64; omega
theorem u64_in {x : Int} (h1 : 0 ≤ x) (h2 : x ≤ 18446744073709551615) : IntKind.u64.wrap x = x := by
  simp [IntKind.wrap, IntKind.bits, IntKind.signed]; omega
theorem u64_bounds (x : Int) : 0 ≤ IntKind.u64.wrap x ∧ IntKind.u64.wrap x ≤ 18446744073709551615 := by
  simp [IntKind.wrap, IntKind.bits, IntKind.signed]; omega
theorem u64_nonneg (x : Int) : 0 ≤ IntKind.u64.wrap x := (u64_bounds x).1
theorem mx_eq (a b : Int) : mx a b = max a b := by unfold mx; omega
theorem mn_eq (a b : Int) : mn a b = min a b := by unfold mn; omega
theorem spec_l1In_eq (a b c : Int) : spec_l1In.f a b c = some (decide (b ≤ a) && decide (a ≤ c)) := by
  unfold spec_l1In.f; by_cases h : b ≤ a <;> simp [h]
theorem impl_inRange_eq (a b c : Int) : impl_inRange.f a b c = some (decide (b ≤ a) && decide (a ≤ c)) := by
  unfold impl_inRange.f; by_cases h : b ≤ a <;> simp [h]
theorem impl_isCoord_eq (a : Int) : impl_isCoord.f a = some (decide (-10000000 ≤ a) && decide (a ≤ 10000000)) := by
  unfold impl_isCoord.f; rw [impl_inRange_eq]; rfl
theorem spec_PtOk_eq (x y : Int) : spec_PtOk.f x y = some (ptOk x y) := by
  unfold spec_PtOk.f ptOk; simp only [spec_l1In_eq, Option.bind_some]
  by_cases h : (decide (-10000000 ≤ x) && decide (x ≤ 10000000)) = true
  · rw [if_pos h, h]; simp
  · rw [if_neg h]; simp only [Bool.not_eq_true] at h; rw [h]; simp
theorem impl_PtOk_eq (x y : Int) : impl_PtOk.f x y = some (ptOk x y) := by
  unfold impl_PtOk.f ptOk; simp only [impl_isCoord_eq, Option.bind_some]
  by_cases h : (decide (-10000000 ≤ x) && decide (x ≤ 10000000)) = true
  · rw [if_pos h, h]; simp
  · rw [if_neg h]; simp only [Bool.not_eq_true] at h; rw [h]; simp
theorem spec_BoxOk_eq (a b c d : Int) : spec_BoxOk.f a b c d = some (boxOk a b c d) := by
  unfold spec_BoxOk.f boxOk; simp only [spec_PtOk_eq, Option.bind_some]
  by_cases h : ptOk a b = true <;> by_cases h2 : ptOk c d = true <;> by_cases h3 : a ≤ c <;> simp [h, h2, h3]
theorem impl_BoxOk_eq (a b c d : Int) : impl_BoxOk.f a b c d = some (boxOk a b c d) := by
  unfold impl_BoxOk.f boxOk; simp only [impl_PtOk_eq, Option.bind_some]
  by_cases h : ptOk a b = true <;> by_cases h2 : ptOk c d = true <;> by_cases h3 : a ≤ c <;> simp [h, h2, h3]
def inBox (a b c d x y : Int) : Bool := boxOk a b c d && ptOk x y && (decide (a ≤ x) && decide (x ≤ c)) && (decide (b ≤ y) && decide (y ≤ d))
theorem impl_InBox_eq (a b c d x y : Int) : impl_InBox.f a b c d x y = some (inBox a b c d x y) := by
  unfold impl_InBox.f inBox; simp only [impl_BoxOk_eq, impl_PtOk_eq, impl_inRange_eq, Option.bind_some]
  generalize boxOk a b c d = A
  generalize ptOk x y = B
  generalize (decide (a ≤ x) && decide (x ≤ c)) = C
  generalize (decide (b ≤ y) && decide (y ≤ d)) = D
  cases A <;> cases B <;> cases C <;> cases D <;> rfl
def overlap (a b c d e f g h : Int) : Bool := boxOk a b c d && boxOk e f g h && decide (a ≤ g) && decide (e ≤ c) && decide (b ≤ h) && decide (f ≤ d)
theorem impl_Overlap_eq (a b c d e f g h : Int) : impl_Overlap.f a b c d e f g h = some (overlap a b c d e f g h) := by
  unfold impl_Overlap.f overlap; simp only [impl_BoxOk_eq, Option.bind_some]
  generalize boxOk a b c d = A
  generalize boxOk e f g h = B
  cases A <;> cases B <;> by_cases h3 : a ≤ g <;> by_cases h4 : e ≤ c <;> by_cases h5 : b ≤ h <;> simp [h3, h4, h5]
def inside (a b c d e f g h : Int) : Bool := boxOk a b c d && inBox e f g h a b && inBox e f g h c d
theorem impl_Inside_eq (a b c d e f g h : Int) : impl_Inside.f a b c d e f g h = some (inside a b c d e f g h) := by
  unfold impl_Inside.f inside; simp only [impl_BoxOk_eq, impl_InBox_eq, Option.bind_some]
  generalize boxOk a b c d = A
  generalize inBox e f g h a b = B
  generalize inBox e f g h c d = C
  cases A <;> cases B <;> cases C <;> rfl
def area (a b c d : Int) : Int := if boxOk a b c d = true then (c - a) * (d - b) else 0
theorem area_bounds (a b c d : Int) : 0 ≤ area a b c d ∧ area a b c d ≤ 400000000000000 := by
  unfold area; split
  · rename_i h
    rw [boxOk_iff] at h
    obtain ⟨⟨h1, h2, h3, h4⟩, ⟨h5, h6, h7, h8⟩, h9, h10⟩ := h
    have p1 : 0 ≤ c - a := by omega
    have p2 : 0 ≤ d - b := by omega
    refine ⟨Int.mul_nonneg p1 p2, ?_⟩
    calc (c - a) * (d - b) ≤ 20000000 * (d - b) := Int.mul_le_mul_of_nonneg_right (by omega) p2
      _ ≤ 20000000 * 20000000 := Int.mul_le_mul_of_nonneg_left (by omega) (by omega)
      _ = 400000000000000 := by decide
  · omega
theorem area_wrap {a b c d : Int} (h : boxOk a b c d = true) : wrap64 ((wrap64 (c - a)) * (wrap64 (d - b))) = area a b c d := by
  have hb := area_bounds a b c d
  have e : area a b c d = (c - a) * (d - b) := by unfold area; rw [if_pos h]
  rw [boxOk_iff] at h
  rw [wrap_in (x := c - a) (by omega) (by omega), wrap_in (x := d - b) (by omega) (by omega), ← e]
  exact wrap_in (by omega) (by omega)
theorem impl_BoxArea_eq (a b c d : Int) : impl_BoxArea.f a b c d = some (area a b c d) := by
  unfold impl_BoxArea.f; simp only [impl_BoxOk_eq, Option.bind_some]
  by_cases h : boxOk a b c d = true
  · rw [if_pos h, area_wrap h]
  · rw [if_neg h]; unfold area; rw [if_neg h]
/-- The tiles that are right. -/
def tileOk (z x y : Int) : Bool := decide (0 ≤ z) && decide (z ≤ 20) && (decide (0 ≤ x) && decide (x ≤ 2 ^ z.toNat - 1)) && (decide (0 ≤ y) && decide (y ≤ 2 ^ z.toNat - 1))
theorem shl1_fin : ∀ n : Fin 51, shl .i64 1 (IntKind.u64.wrap ((n.val : Nat) : Int)) = 2 ^ n.val := by decide +kernel
theorem shl1 {z : Int} (h0 : 0 ≤ z) (h1 : z ≤ 50) : shl .i64 1 (IntKind.u64.wrap z) = 2 ^ z.toNat := by
  obtain ⟨n, rfl⟩ := Int.eq_ofNat_of_zero_le h0
  exact shl1_fin ⟨n, by omega⟩
theorem pow2_le {n m : Nat} (h : n ≤ m) : (2 : Int) ^ n ≤ 2 ^ m := by
  have := Nat.pow_le_pow_right (n := 2) (by decide) h
  exact_mod_cast this
theorem pow2_pos (n : Nat) : (1 : Int) ≤ 2 ^ n := by
  have := pow2_le (Nat.zero_le n); simpa using this
theorem pow2_20 {z : Int} (h1 : z ≤ 20) : (1 : Int) ≤ 2 ^ z.toNat ∧ (2 : Int) ^ z.toNat ≤ 1048576 :=
  ⟨pow2_pos _, by have := pow2_le (n := z.toNat) (m := 20) (by omega); simpa using this⟩
theorem tile_most {z : Int} (h0 : 0 ≤ z) (h1 : z ≤ 20) : wrap64 ((shl .i64 1 (IntKind.u64.wrap z)) - 1) = 2 ^ z.toNat - 1 := by
  rw [shl1 h0 (by omega)]
  have := pow2_20 h1
  exact wrap_in (by omega) (by omega)
/-- The side of the tiles of a Z. -/
def side (z : Int) : Int := 33554432 / 2 ^ z.toNat
theorem shr_side_fin : ∀ n : Fin 21, shr .i64 33554432 (IntKind.u64.wrap ((n.val : Nat) : Int)) = 33554432 / 2 ^ n.val ∧ (32 : Int) ≤ 33554432 / 2 ^ n.val ∧ (33554432 : Int) / 2 ^ n.val ≤ 33554432 := by decide +kernel
theorem shr_side {z : Int} (h0 : 0 ≤ z) (h1 : z ≤ 20) : shr .i64 33554432 (IntKind.u64.wrap z) = side z ∧ 32 ≤ side z ∧ side z ≤ 33554432 := by
  obtain ⟨n, rfl⟩ := Int.eq_ofNat_of_zero_le h0
  exact shr_side_fin ⟨n, by omega⟩
/-- The tile of a point. -/
def tileX (x z : Int) : Int := Int.tdiv (x + 16777216) (side z)
/-- A point as it is taken. -/
def tk (x y : Int) : Int × Int := if ptOk x y = true then (x, y) else (0, 0)
theorem tk_ok (x y : Int) : ptOk (tk x y).1 (tk x y).2 = true := by
  unfold tk; split
  · assumption
  · decide
def sgn (n : Int) : Int := if n > 0 then 1 else if n < 0 then -1 else 0
theorem sgn_cmp (n : Int) : (if n < 0 then (-1 : Int) else if n > 0 then 1 else 0) = sgn n := by unfold sgn; split <;> split <;> omega
theorem sgn_0 : sgn 0 = 0 := rfl
theorem sgn_zero {n : Int} : sgn n = 0 ↔ n = 0 := by unfold sgn; split <;> (try split) <;> omega
def crossW (a b c d e f : Int) : Int := wrap64 ((wrap64 ((wrap64 (c - a)) * (wrap64 (f - b)))) - (wrap64 ((wrap64 (d - b)) * (wrap64 (e - a)))))
theorem spec_l3Pt_eq (x y : Int) : spec_l3Pt.f x y = some (tk x y) := by
  unfold spec_l3Pt.f tk; simp only [spec_PtOk_eq, Option.bind_some]
  by_cases h : ptOk x y = true <;> simp [h]
def betw (a b n : Int) : Bool := decide (min a b ≤ n) && decide (n ≤ max a b)
def onSegW (a b c d e f : Int) : Bool := decide (crossW a b c d e f = 0) && betw a c e && betw b d f
def onSegT (a b c d e f : Int) : Bool := onSegW (tk a b).1 (tk a b).2 (tk c d).1 (tk c d).2 (tk e f).1 (tk e f).2
def squareW (a b c d : Int) : Int := wrap64 ((wrap64 ((wrap64 (a - c)) * (wrap64 (a - c)))) + (wrap64 ((wrap64 (b - d)) * (wrap64 (b - d)))))
def gapW (a b c d x y : Int) : Int := if boxOk a b c d = true ∧ ptOk x y = true then squareW x y (max a (min x c)) (max b (min y d)) else -1
theorem spec_l4Min_eq (a b : Int) : spec_l4Min.f a b = some (min a b) := by unfold spec_l4Min.f; split <;> congr 1 <;> omega
theorem spec_l4Max_eq (a b : Int) : spec_l4Max.f a b = some (max a b) := by unfold spec_l4Max.f; split <;> congr 1 <;> omega
theorem impl_square_eq (a b c d : Int) : impl_square.f a b c d = some (squareW a b c d) := rfl
theorem impl_BoxGap_eq (a b c d x y : Int) : impl_BoxGap.f a b c d x y = some (gapW a b c d x y) := by
  unfold impl_BoxGap.f gapW; simp only [impl_BoxOk_eq, impl_PtOk_eq, impl_square_eq, Option.bind_some, mx_eq, mn_eq]
  by_cases h : boxOk a b c d = true <;> by_cases h2 : ptOk x y = true <;> simp [h, h2]
def l3MeetW (a b c d e f g h : Int) : Bool :=
  onSegW a b c d e f || onSegW a b c d g h || onSegW e f g h a b || onSegW e f g h c d ||
    (decide (wrap64 (sgn (crossW a b c d e f) * sgn (crossW a b c d g h)) < 0) && decide (wrap64 (sgn (crossW e f g h a b) * sgn (crossW e f g h c d)) < 0))
def meetW (a b c d e f g h : Int) : Bool := l3MeetW (tk a b).1 (tk a b).2 (tk c d).1 (tk c d).2 (tk e f).1 (tk e f).2 (tk g h).1 (tk g h).2
/-- What Join computes. -/
def joinW (a b c d e f g h : Int) : Int × Int × Int × Int :=
  if boxOk a b c d = true then (if boxOk e f g h = true then (min a e, min b f, max c g, max d h) else (a, b, c, d))
  else (if boxOk e f g h = true then (e, f, g, h) else (0, 0, 0, 0))
/-- The box of the points from here on, joined to one. -/
def boW : List S32 → Int → Int → Int → Int → Int × Int × Int × Int × Bool
  | [], a, b, c, d => (a, b, c, d, true)
  | p :: r, a, b, c, d => if ptOk p.f0 p.f1 = true then boW r (min a p.f0) (min b p.f1) (max c p.f0) (max d p.f1) else (0, 0, 0, 0, false)
theorem drop_getD {α : Type} (z : α) : ∀ (l : List α) (i : Nat), i < l.length → l.drop i = l.getD i z :: l.drop (i + 1)
  | [], i, h => by simp at h
  | x :: r, 0, _ => rfl
  | x :: r, i + 1, h => by
    have := drop_getD z r i (by simpa using h)
    simpa using this
/-- What BoxOf computes. -/
def boxOfW : List S32 → Int × Int × Int × Int × Bool
  | [] => (0, 0, 0, 0, false)
  | p :: r => boW (p :: r) p.f0 p.f1 p.f0 p.f1
theorem spec_BoxOf_loop (l : List S32) (hl : l.length ≤ 140737488351232) : ∀ (d i k : Nat) (a b c e : Int), i + d = l.length → d < k →
    spec_BoxOf.l0 k l (i : Int) a b c e = some (boW (l.drop i) a b c e) := by
  intro d
  induction d with
  | zero =>
    intro i k a b c e hi hk
    obtain ⟨k, rfl⟩ : ∃ m, k = m + 1 := ⟨k - 1, by omega⟩
    simp only [spec_BoxOf.l0]; rw [if_neg (by omega), List.drop_eq_nil_of_le (by omega)]; rfl
  | succ d ih =>
    intro i k a b c e hi hk
    obtain ⟨k, rfl⟩ : ∃ m, k = m + 1 := ⟨k - 1, by omega⟩
    simp only [spec_BoxOf.l0]
    rw [if_pos (by omega), if_pos (by omega), drop_getD z32 l i (by omega)]
    have er : rd_T32 l (i : Int) = l.getD i z32 := by unfold rd_T32; rw [Int.toNat_natCast]
    rw [er]
    generalize l.getD i z32 = p
    simp only [boW, spec_PtOk_eq, spec_l4Min_eq, spec_l4Max_eq, Option.bind_some]
    by_cases hp : ptOk p.f0 p.f1 = true
    · rw [if_pos hp, if_pos hp, show wrap64 ((i : Int) + 1) = ((i + 1 : Nat) : Int) by rw [wrap_in (by omega) (by omega)]; omega]
      exact ih (i + 1) k _ _ _ _ (by omega) (by omega)
    · rw [if_neg hp, if_neg hp]
theorem spec_BoxOf_eq (l : List S32) (hl : l.length ≤ 140737488351232) {k : Nat} (hk : l.length < k) : spec_BoxOf.f k l = some (boxOfW l) := by
  unfold spec_BoxOf.f
  cases l with
  | nil => rfl
  | cons p r =>
    have hpos : (0 : Int) < ((p :: r).length : Int) := by rw [List.length_cons]; omega
    rw [if_neg (by omega), if_pos hpos]
    have e := spec_BoxOf_loop (p :: r) hl (p :: r).length 0 k p.f0 p.f1 p.f0 p.f1 (by omega) hk
    exact e
theorem impl_Join_eq (a b c d e f g h : Int) {k : Nat} (hk : 1 ≤ k) : impl_Join.f k a b c d e f g h = some (joinW a b c d e f g h) := by
  obtain ⟨k, rfl⟩ : ∃ m, k = m + 1 := ⟨k - 1, by omega⟩
  unfold impl_Join.f joinW; simp only [impl_BoxOk_eq, Option.bind_some]
  by_cases h1 : boxOk a b c d = true <;> by_cases h2 : boxOk e f g h = true <;> simp [h1, h2, impl_Join.j0, impl_BoxOk_eq, mx_eq, mn_eq]
def grownW (a b c d e f g h : Int) : Int := area (joinW a b c d e f g h).1 (joinW a b c d e f g h).2.1 (joinW a b c d e f g h).2.2.1 (joinW a b c d e f g h).2.2.2 - area a b c d
theorem grown_wrap (a b c d e f g h : Int) : wrap64 (area (joinW a b c d e f g h).1 (joinW a b c d e f g h).2.1 (joinW a b c d e f g h).2.2.1 (joinW a b c d e f g h).2.2.2 - area a b c d) = grownW a b c d e f g h := by
  have a1 := area_bounds a b c d
  have a2 := area_bounds (joinW a b c d e f g h).1 (joinW a b c d e f g h).2.1 (joinW a b c d e f g h).2.2.1 (joinW a b c d e f g h).2.2.2
  exact wrap_in (by omega) (by omega)
theorem impl_Grown_eq (a b c d e f g h : Int) {k : Nat} (hk : 1 ≤ k) : impl_Grown.f k a b c d e f g h = some (grownW a b c d e f g h) := by
  unfold impl_Grown.f; simp only [impl_Join_eq _ _ _ _ _ _ _ _ hk, impl_BoxArea_eq, Option.bind_some, grown_wrap]
theorem side_fin : ∀ n : Fin 21, (33554432 : Int) / 2 ^ n.val * 2 ^ n.val = 33554432 := by decide +kernel
theorem side_mul {z : Int} (h0 : 0 ≤ z) (h1 : z ≤ 20) : side z * 2 ^ z.toNat = 33554432 := by
  obtain ⟨n, rfl⟩ := Int.eq_ofNat_of_zero_le h0
  exact side_fin ⟨n, by omega⟩
theorem tile_span {z x : Int} (h0 : 0 ≤ z) (h1 : z ≤ 20) (x0 : 0 ≤ x) (x1 : x ≤ 2 ^ z.toNat - 1) : 0 ≤ x * side z ∧ (x + 1) * side z = x * side z + side z ∧ x * side z + side z ≤ 33554432 ∧ 32 ≤ side z := by
  have hs := (shr_side h0 h1).2
  have e : (x + 1) * side z = x * side z + side z := by rw [Int.add_mul, Int.one_mul]
  refine ⟨Int.mul_nonneg x0 (by omega), e, ?_, hs.1⟩
  rw [← e, ← side_mul h0 h1, Int.mul_comm (side z)]
  exact Int.mul_le_mul_of_nonneg_right (by omega) (by omega)
/-- What TileBox computes. -/
def tileBoxW (z x y : Int) : Int × Int × Int × Int × Bool :=
  if tileOk z x y = true ∧ boxOk (max (x * side z - 16777216) (-10000000)) (max (y * side z - 16777216) (-10000000)) (min (x * side z - 16777216 + side z - 1) 10000000) (min (y * side z - 16777216 + side z - 1) 10000000) = true then
    (max (x * side z - 16777216) (-10000000), max (y * side z - 16777216) (-10000000), min (x * side z - 16777216 + side z - 1) 10000000, min (y * side z - 16777216 + side z - 1) 10000000, true)
  else (0, 0, 0, 0, false)
theorem tileOk_iff {z x y : Int} : tileOk z x y = true ↔ (0 ≤ z ∧ z ≤ 20) ∧ (0 ≤ x ∧ x ≤ 2 ^ z.toNat - 1) ∧ (0 ≤ y ∧ y ≤ 2 ^ z.toNat - 1) := by
  simp [tileOk, and_assoc]
/-! The draws answer, whatever the bytes are. -/
def St (l : List Int) (i : Int) : Prop := 0 ≤ i ∧ i ≤ l.length
theorem and255 (x : Int) : 0 ≤ Go.bits .and .i64 x 255 ∧ Go.bits .and .i64 x 255 ≤ 255 := by
  have h : ((BitVec.ofInt 64 x &&& BitVec.ofInt 64 255).toNat) ≤ 255 := by
    rw [BitVec.toNat_and]
    exact Nat.le_trans Nat.and_le_right (by decide)
  have e : Go.bits .and .i64 x 255 = IntKind.i64.wrap ((BitVec.ofInt 64 x &&& BitVec.ofInt 64 255).toNat : Int) := rfl
  rw [e, IntKind.wrap_i64]
  generalize (BitVec.ofInt 64 x &&& BitVec.ofInt 64 255).toNat = m at h ⊢
  omega
theorem byte_ok {l : List Int} (hl : l.length ≤ 140737488351232) {i h : Int} (s : St l i) : ∃ b i' h', spec_l1Byte.f l i h = some (b, i', h') ∧ 0 ≤ b ∧ b ≤ 255 ∧ St l i' := by
  obtain ⟨s0, s1⟩ := s
  unfold spec_l1Byte.f
  by_cases c : i < (l.length : Int)
  · rw [if_pos c, if_pos s0]
    refine ⟨_, _, _, rfl, (and255 _).1, (and255 _).2, ?_⟩
    rw [wrap_in (by omega) (by omega)]; exact ⟨by omega, by omega⟩
  · rw [if_neg c]
    exact ⟨_, _, _, rfl, (and255 _).1, (and255 _).2, s0, s1⟩
theorem tmod_range {x n : Int} (h0 : 0 ≤ x) (hn : 0 < n) : 0 ≤ Int.tmod x n ∧ Int.tmod x n < n := by
  rw [Int.tmod_eq_emod_of_nonneg h0]
  exact ⟨Int.emod_nonneg _ (by omega), Int.emod_lt_of_pos _ hn⟩
theorem below_ok {l : List Int} (hl : l.length ≤ 140737488351232) {i h n : Int} (s : St l i) :
    ∃ x i' h', spec_l1Below.f l i h n = some (x, i', h') ∧ St l i' ∧ 0 ≤ x ∧ (0 < n → x < n) ∧ (n ≤ 0 → x = 0) := by
  unfold spec_l1Below.f
  by_cases c : n ≤ 0
  · rw [if_pos c]; exact ⟨_, _, _, rfl, s, by decide, by omega, fun _ => rfl⟩
  · rw [if_neg c]
    by_cases c2 : n ≤ 256
    · rw [if_pos c2]
      obtain ⟨b, i1, h1, e, b0, b1, s1⟩ := byte_ok hl (h := h) s
      rw [e]; simp only [Option.bind_some]; rw [if_neg (by omega)]
      have := tmod_range b0 (show 0 < n by omega)
      exact ⟨_, _, _, rfl, s1, this.1, fun _ => this.2, by omega⟩
    · rw [if_neg c2]
      obtain ⟨b, i1, h1, e, b0, b1, s1⟩ := byte_ok hl (h := h) s
      obtain ⟨b', i2, h2, e2, b0', b1', s2⟩ := byte_ok hl (h := h1) s1
      obtain ⟨b'', i3, h3, e3, b0'', b1'', s3⟩ := byte_ok hl (h := h2) s2
      rw [e]; simp only [Option.bind_some]; rw [e2]; simp only [Option.bind_some]; rw [e3]; simp only [Option.bind_some]; rw [if_neg (by omega)]
      have nn : 0 ≤ wrap64 (wrap64 (wrap64 (b * 65536) + wrap64 (b' * 256)) + b'') := by
        rw [wrap_in (x := b * 65536) (by omega) (by omega), wrap_in (x := b' * 256) (by omega) (by omega), wrap_in (x := b * 65536 + b' * 256) (by omega) (by omega), wrap_in (by omega) (by omega)]; omega
      have := tmod_range nn (show 0 < n by omega)
      exact ⟨_, _, _, rfl, s3, this.1, fun _ => this.2, by omega⟩
theorem once_ok {l : List Int} (hl : l.length ≤ 140737488351232) {i h : Int} (n : Int) (s : St l i) : ∃ b i' h', spec_l1Once.f l i h n = some (b, i', h') ∧ St l i' := by
  obtain ⟨x, i1, h1, e, s1, _⟩ := below_ok hl (h := h) (n := n) s
  unfold spec_l1Once.f; rw [e]; exact ⟨_, _, _, rfl, s1⟩
theorem int_ok {l : List Int} (hl : l.length ≤ 140737488351232) {i h : Int} (xs : List Int) (hx : 0 < xs.length) (s : St l i) : ∃ v i' h', spec_l1Int.f l i h xs = some (v, i', h') ∧ v ∈ xs ∧ St l i' := by
  obtain ⟨x, i1, h1, e, s1, x0, x1, _⟩ := below_ok hl (h := h) (n := (xs.length : Int)) s
  have hx1 := x1 (by omega)
  unfold spec_l1Int.f; rw [e]; simp only [Option.bind_some]; rw [if_pos x0, if_pos hx1]
  refine ⟨_, _, _, rfl, ?_, s1⟩
  unfold rd
  have hlt : x.toNat < xs.length := by omega
  rw [List.getD_eq_getElem?_getD, List.getElem?_eq_getElem hlt]
  exact List.getElem_mem hlt
theorem new_loop (l : List Int) (hl : l.length ≤ 140737488351232) : ∀ (d i k : Nat) (h : Int), i + d = l.length → d < k → ∃ h', spec_l1New.l0 k l h (i : Int) = some (l, 0, h') := by
  intro d
  induction d with
  | zero =>
    intro i k h hi hk
    obtain ⟨k, rfl⟩ : ∃ m, k = m + 1 := ⟨k - 1, by omega⟩
    simp only [spec_l1New.l0]; rw [if_neg (by omega)]; exact ⟨_, rfl⟩
  | succ d ih =>
    intro i k h hi hk
    obtain ⟨k, rfl⟩ : ∃ m, k = m + 1 := ⟨k - 1, by omega⟩
    simp only [spec_l1New.l0]; rw [if_pos (by omega)]
    by_cases c : (i : Int) < 4000
    · rw [if_pos c, if_pos (by omega), show wrap64 ((i : Int) + 1) = ((i + 1 : Nat) : Int) by rw [wrap_in (by omega) (by omega)]; omega]
      exact ih (i + 1) k _ (by omega) (by omega)
    · rw [if_neg c]; exact ⟨_, rfl⟩
theorem new_ok (l : List Int) (hl : l.length ≤ 140737488351232) {k : Nat} (hk : l.length < k) : ∃ h, spec_l1New.f k l = some (l, 0, h) := by
  unfold spec_l1New.f; exact new_loop l hl l.length 0 k _ (by omega) hk
theorem st0 (l : List Int) : St l 0 := ⟨by decide, by omega⟩
theorem draw3_ok {l : List Int} (hl : l.length ≤ 140737488351232) {i h : Int} {k : Nat} (hk : 1 ≤ k) (s : St l i) : ∃ x y i' h', spec_l3Draw.f k l i h = some (x, y, i', h') ∧ St l i' := by
  obtain ⟨k, rfl⟩ : ∃ m, k = m + 1 := ⟨k - 1, by omega⟩
  obtain ⟨b1, i1, h1, e1, s1, _⟩ := below_ok hl (h := h) (n := 9) s
  obtain ⟨b2, i2, h2, e2, s2, _⟩ := below_ok hl (h := h1) (n := 9) s1
  obtain ⟨b3, i3, h3, e3, s3⟩ := once_ok hl (h := h2) 8 s2
  have tail : ∀ (x y i h : Int), St l i → ∃ x' y' i' h', spec_l3Draw.j0 (k + 1) l i h x y = some (x', y', i', h') ∧ St l i' := by
    intro x y i h s
    simp only [spec_l3Draw.j0]
    obtain ⟨b4, i4, h4, e4, s4⟩ := once_ok hl (h := h) 8 s
    rw [e4]; simp only [Option.bind_some]
    cases b4
    · exact ⟨_, _, _, _, rfl, s4⟩
    · rw [if_pos rfl]
      obtain ⟨v, i5, h5, e5, _, s5⟩ := int_ok hl (h := h4) ([(-10000000), 10000000, 9999998, 7654321, (-10000001), 9223372036854775807] : List Int) (by decide) s4
      rw [e5]; exact ⟨_, _, _, _, rfl, s5⟩
  unfold spec_l3Draw.f
  rw [e1]; simp only [Option.bind_some]; rw [e2]; simp only [Option.bind_some]; rw [e3]; simp only [Option.bind_some]
  cases b3
  · exact tail _ _ _ _ s3
  · rw [if_pos rfl]
    obtain ⟨v, i5, h5, e5, _, s5⟩ := int_ok hl (h := h3) ([(-10000000), 10000000, 9999999, 1234567, 10000001, (-9223372036854775808)] : List Int) (by decide) s3
    rw [e5]; exact tail _ _ _ _ s5
theorem draw4_ok {l : List Int} (hl : l.length ≤ 140737488351232) {i h : Int} {k : Nat} (hk : 4 ≤ k) (s : St l i) : ∃ a b c d i' h', spec_l4Draw.f k l i h = some (a, b, c, d, i', h') ∧ St l i' := by
  obtain ⟨k, rfl⟩ : ∃ m, k = m + 1 := ⟨k - 1, by omega⟩
  obtain ⟨x1, y1, i1, h1, e1, s1⟩ := draw3_ok hl (h := h) (k := k + 1) (by omega) s
  obtain ⟨x2, y2, i2, h2, e2, s2⟩ := draw3_ok hl (h := h1) (k := k + 1) (by omega) s1
  have tail : ∀ (b : Bool) (p q r t i h : Int), St l i → ∃ a b' c d i' h', spec_l4Draw.j0 (k + 1) b l i h p q r t = some (a, b', c, d, i', h') ∧ St l i' := by
    intro b p q r t i h s
    simp only [spec_l4Draw.j0]
    cases b
    · exact ⟨_, _, _, _, _, _, rfl, s⟩
    · rw [if_pos rfl]
      obtain ⟨x3, y3, i3, h3, e3, s3⟩ := draw3_ok hl (h := h) (k := k) (by omega) s
      obtain ⟨x4, y4, i4, h4, e4, s4⟩ := draw3_ok hl (h := h3) (k := k) (by omega) s3
      rw [e3]; simp only [Option.bind_some]; rw [e4]; exact ⟨_, _, _, _, _, _, rfl, s4⟩
  unfold spec_l4Draw.f
  rw [e1]; simp only [Option.bind_some, spec_l3Pt_eq]; rw [e2]; simp only [Option.bind_some, spec_l3Pt_eq]
  rw [spec_BoxOf_eq _ (by simp) (by simp; omega)]; simp only [Option.bind_some]
  split
  · obtain ⟨b3, i3, h3, e3, s3⟩ := once_ok hl (h := h2) 10 s2
    rw [e3]; simp only [Option.bind_some]; exact tail _ _ _ _ _ _ _ s3
  · exact tail _ _ _ _ _ _ _ s2
theorem drawJoin_ok {l : List Int} (hl : l.length ≤ 140737488351232) {k : Nat} (hk : l.length + 4 < k) : ∃ a b c d e f g m, spec_DrawJoin.f k l = some (a, b, c, d, e, f, g, m) := by
  obtain ⟨h, e⟩ := new_ok l hl (show l.length < k by omega)
  obtain ⟨a, b, c, d, i1, h1, e1, s1⟩ := draw4_ok hl (h := h) (k := k) (by omega) (st0 l)
  obtain ⟨a', b', c', d', i2, h2, e2, s2⟩ := draw4_ok hl (h := h1) (k := k) (by omega) s1
  unfold spec_DrawJoin.f; rw [e]; simp only [Option.bind_some]; rw [e1]; simp only [Option.bind_some]; rw [e2]; exact ⟨_, _, _, _, _, _, _, _, rfl⟩
theorem drawInBox_ok {l : List Int} (hl : l.length ≤ 140737488351232) {k : Nat} (hk : l.length + 4 < k) : ∃ a b c d e f, spec_DrawInBox.f k l = some (a, b, c, d, e, f) := by
  obtain ⟨h, e⟩ := new_ok l hl (show l.length < k by omega)
  obtain ⟨a, b, c, d, i1, h1, e1, s1⟩ := draw4_ok hl (h := h) (k := k) (by omega) (st0 l)
  obtain ⟨x, y, i2, h2, e2, s2⟩ := draw3_ok hl (h := h1) (k := k) (by omega) s1
  unfold spec_DrawInBox.f; rw [e]; simp only [Option.bind_some]; rw [e1]; simp only [Option.bind_some]; rw [e2]; exact ⟨_, _, _, _, _, _, rfl⟩
def margin (a b c d : Int) : Int := if boxOk a b c d = true then c - a + (d - b) else 0
theorem impl_Margin_eq (a b c d : Int) : impl_Margin.f a b c d = some (margin a b c d) := by
  unfold impl_Margin.f margin; simp only [impl_BoxOk_eq, Option.bind_some]
  by_cases h : boxOk a b c d = true
  · have p := boxOk_iff.1 h
    rw [if_pos h, if_pos h, wrap_in (x := c - a) (by omega) (by omega), wrap_in (x := c - a + d) (by omega) (by omega), wrap_in (by omega) (by omega)]; congr 1; omega
  · rw [if_neg h, if_neg h]
theorem sq_nonneg (x : Int) : 0 ≤ x * x := by
  rcases Int.le_total 0 x with h | h
  · exact Int.mul_nonneg h h
  · exact Int.mul_nonneg_of_nonpos_of_nonpos h h
theorem sq_zero {x : Int} (h : x * x = 0) : x = 0 := by
  rcases Int.mul_eq_zero.1 h with h | h <;> exact h
theorem sq_small {x : Int} (h1 : -20000000 ≤ x) (h2 : x ≤ 20000000) : x * x ≤ 400000000000000 := by
  have a : x.natAbs ≤ 20000000 := by omega
  have c := Nat.mul_le_mul a a
  rw [← Int.natAbs_mul] at c
  omega
theorem gap_zero {a b c d x y : Int} (h : boxOk a b c d = true) (hp : ptOk x y = true) : gapW a b c d x y = 0 ↔ inBox a b c d x y = true := by
  have hb := boxOk_iff.1 h
  have hq := ptOk_iff.1 hp
  unfold gapW squareW; rw [if_pos ⟨h, hp⟩]
  have ib : inBox a b c d x y = true ↔ (a ≤ x ∧ x ≤ c) ∧ b ≤ y ∧ y ≤ d := by
    unfold inBox; rw [h, hp]; simp only [Bool.true_and, Bool.and_eq_true, decide_eq_true_eq]
  rw [ib]
  have u1 : -20000000 ≤ x - max a (min x c) := by omega
  have u2 : x - max a (min x c) ≤ 20000000 := by omega
  have v1 : -20000000 ≤ y - max b (min y d) := by omega
  have v2 : y - max b (min y d) ≤ 20000000 := by omega
  rw [wrap_in (x := x - max a (min x c)) (by omega) (by omega), wrap_in (x := y - max b (min y d)) (by omega) (by omega)]
  have eu : x - max a (min x c) = 0 ↔ a ≤ x ∧ x ≤ c := by omega
  have ev : y - max b (min y d) = 0 ↔ b ≤ y ∧ y ≤ d := by omega
  generalize x - max a (min x c) = u at u1 u2 eu ⊢
  generalize y - max b (min y d) = v at v1 v2 ev ⊢
  have nu := sq_nonneg u
  have nv := sq_nonneg v
  have su := sq_small u1 u2
  have sv := sq_small v1 v2
  rw [wrap_in (x := u * u) (by omega) (by omega), wrap_in (x := v * v) (by omega) (by omega), wrap_in (by omega) (by omega), ← eu, ← ev]
  constructor
  · intro q
    exact ⟨sq_zero (x := u) (by omega), sq_zero (x := v) (by omega)⟩
  · rintro ⟨rfl, rfl⟩; decide
theorem area_mono {a b c d e f g h : Int} (h1 : boxOk a b c d = true) (h2 : boxOk e f g h = true) (q1 : e ≤ a) (q2 : f ≤ b) (q3 : c ≤ g) (q4 : d ≤ h) : area a b c d ≤ area e f g h := by
  unfold area; rw [if_pos h1, if_pos h2]
  have p1 := boxOk_iff.1 h1
  exact Int.mul_le_mul (by omega) (by omega) (by omega) (by omega)
theorem FnBoxes : laws_FnBoxes.Pure := by
  intro l hm hl0 hw
  have hl : l.length ≤ 140737488351232 := by omega
  refine ⟨l.length + 100, ?_⟩
  unfold laws_FnBoxes.f laws_big.f
  simp only [Option.bind_some]
  by_cases hb : decide ((l.length : Int) > 1048576) = true
  · rw [if_pos hb]
  · rw [if_neg hb]
    obtain ⟨a, b, c, d, e, f, g, m, e1⟩ := drawJoin_ok hl (k := l.length + 100) (by omega)
    obtain ⟨_, _, _, _, x, y, e2⟩ := drawInBox_ok hl (k := l.length + 100) (by omega)
    rw [e1]; simp only [Option.bind_some]; rw [e2]; simp only [Option.bind_some]
    rw [impl_Join_eq _ _ _ _ _ _ _ _ (by omega)]; simp only [Option.bind_some, spec_BoxOk_eq]
    have bad : ∀ p q r s, (boxOk a b c d && boxOk e f g m) = false → laws_FnBoxes.j0 (l.length + 100) true a b c d e f g m x y p q r s = some true := by
      intro p q r s hn
      simp only [laws_FnBoxes.j0, if_true, impl_BoxOk_eq, spec_BoxOk_eq, Option.bind_some, beq_self_eq_true, impl_Overlap_eq, overlap, hn, Bool.false_and, Bool.not_false]
    by_cases h1 : boxOk a b c d = true
    · rw [if_pos h1]
      by_cases h2 : boxOk e f g m = true
      · have hj : joinW a b c d e f g m = (min a e, min b f, max c g, max d m) := by unfold joinW; rw [if_pos h1, if_pos h2]
        rw [h2, hj, show l.length + 100 = (l.length + 98) + 1 + 1 by omega]
        have p1 := boxOk_iff.1 h1
        have p2 := boxOk_iff.1 h2
        have hjo : boxOk (min a e) (min b f) (max c g) (max d m) = true :=
          boxOk_iff.2 ⟨⟨by omega, by omega, by omega, by omega⟩, ⟨by omega, by omega, by omega, by omega⟩, by omega, by omega⟩
        have in1 : inside a b c d (min a e) (min b f) (max c g) (max d m) = true := by
          unfold inside inBox; rw [h1, hjo, ptOk_iff.2 p1.1, ptOk_iff.2 p1.2.1]
          simp only [Bool.true_and, Bool.and_eq_true, decide_eq_true_eq]; omega
        have in2 : inside e f g m (min a e) (min b f) (max c g) (max d m) = true := by
          unfold inside inBox; rw [h2, hjo, ptOk_iff.2 p2.1, ptOk_iff.2 p2.2.1]
          simp only [Bool.true_and, Bool.and_eq_true, decide_eq_true_eq]; omega
        have ar1 := area_mono h1 hjo (by omega) (by omega) (by omega) (by omega)
        have ar2 := area_mono h2 hjo (by omega) (by omega) (by omega) (by omega)
        have gr : grownW a b c d e f g m ≥ 0 := by unfold grownW; rw [hj]; simp only []; omega
        have ov : overlap e f g m a b c d = overlap a b c d e f g m := by
          unfold overlap; rw [h1, h2, Bool.eq_iff_iff]; simp only [Bool.true_and, Bool.and_eq_true, decide_eq_true_eq]; omega
        have ov2 : overlap a b c d (min a e) (min b f) (max c g) (max d m) = true := by
          unfold overlap; rw [h1, hjo]; simp only [Bool.true_and, Bool.and_eq_true, decide_eq_true_eq]; omega
        have good : laws_FnBoxes.j1 (l.length + 98 + 1) false a b c d e f g m (min a e) (min b f) (max c g) (max d m) = some true := by
          simp only [laws_FnBoxes.j1, Bool.false_eq_true, if_false, impl_BoxOk_eq, Option.bind_some, hjo, if_true, impl_Inside_eq, in1, in2]
          rw [impl_Grown_eq _ _ _ _ _ _ _ _ (by omega)]
          simp only [Option.bind_some]
          rw [if_pos gr]
          simp only [impl_Margin_eq, Option.bind_some]
          rw [if_pos (by unfold margin; rw [if_pos h1, if_pos hjo]; omega)]
          simp only [impl_Overlap_eq, Option.bind_some, ov, ov2, beq_self_eq_true, if_true, impl_BoxArea_eq]
          rw [decide_eq_true ar2]
        simp only [Bool.not_true, laws_FnBoxes.j0, Bool.false_eq_true, if_false, impl_BoxGap_eq, spec_PtOk_eq, Option.bind_some, impl_InBox_eq]
        by_cases hp : ptOk x y = true
        · rw [if_pos hp]
          have gz := gap_zero h1 hp
          rw [if_neg (by rw [Bool.not_eq_true, bne_eq_false_iff_eq, Bool.eq_iff_iff, beq_iff_eq]; exact gz), if_pos hp]
          exact good
        · rw [if_neg hp, if_neg hp]
          have gm : gapW a b c d x y = -1 := by unfold gapW; rw [if_neg (fun q => hp q.2)]
          rw [gm]
          exact good
      · simp only [Bool.not_eq_true] at h2
        rw [h2, Bool.not_false]; exact bad _ _ _ _ (by rw [h1, h2]; rfl)
    · rw [if_neg h1]; exact bad _ _ _ _ (by simp only [Bool.not_eq_true] at h1; rw [h1, Bool.false_and])

end Go.Proofs.Ytebnhcliileneaa.Pure
