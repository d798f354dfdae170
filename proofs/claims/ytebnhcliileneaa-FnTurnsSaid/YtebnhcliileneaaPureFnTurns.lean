/- The pure statement of the law FnTurns: what the printed functions compute answers true at every input. No conditions beyond the printed bounds. -/
import Derived.Test.YtebnhcliileneaaQFnTurnsx29
namespace Go.Proofs.Ytebnhcliileneaa.Pure
open Go.RowKit Go.Proofs.Ytebnhcliileneaa.PFnTurns Go.Proofs.YtebnhcliileneaaW.PrintWords Go.Proofs.YtebnhcliileneaaW.PrintLast Go.Proofs.YtebnhcliileneaaW.PrintMore
set_option linter.unusedVariables false
set_option linter.unusedSimpArgs false

/-- The points that are right. -/
def ptOk (x y : Int) : Bool := decide (-10000000 ≤ x) && decide (x ≤ 10000000) && decide (-10000000 ≤ y) && decide (y ≤ 10000000)
/-- The boxes that are right. -/
def boxOk (a b c d : Int) : Bool := ptOk a b && ptOk c d && decide (a ≤ c) && decide (b ≤ d)
theorem ptOk_iff {x y : Int} : ptOk x y = true ↔ -10000000 ≤ x ∧ x ≤ 10000000 ∧ -10000000 ≤ y ∧ y ≤ 10000000 := by
  simp [ptOk, and_assoc]
theorem boxOk_iff {a b c d : Int} : boxOk a b c d = true ↔ (-10000000 ≤ a ∧ a ≤ 10000000 ∧ -10000000 ≤ b ∧ b ≤ 10000000) ∧ (-10000000 ≤ c ∧ c ≤ 10000000 ∧ -10000000 ≤ d ∧ d ≤ 10000000) ∧ a ≤ c ∧ b ≤ d := by
  simp [boxOk, ptOk_iff, and_assoc]
theorem wrap_in {x : Int} (h1 : -9223372036854775808 ≤ x) (h2 : x ≤ 9223372036854775807) : wrap64 x = x := by unfold wrap64; omega
theorem wrap_bounds (x : Int) : -9223372036854775808 ≤ wrap64 x ∧ wrap64 x ≤ 9223372036854775807 := by unfold wrap64; omega
theorem u64_in {x : Int} (h1 : 0 ≤ x) (h2 : x ≤ 18446744073709551615) : IntKind.u64.wrap x = x := by
  simp [IntKind.wrap, IntKind.bits, IntKind.signed]; omega
theorem u64_bounds (x : Int) : 0 ≤ IntKind.u64.wrap x ∧ IntKind.u64.wrap x ≤ 18446744073709551615 := by
  simp [IntKind.wrap, IntKind.bits, IntKind.signed]; omega
theorem u64_nonneg (x : Int) : 0 ≤ IntKind.u64.wrap x := (u64_bounds x).1
theorem mx_eq (a b : Int) : mx a b = max a b := by unfold mx; omega
theorem mn_eq (a b : Int) : mn a b = min a b := by unfold mn; omega
theorem spec_l1In_eq (a b c : Int) : spec_l1In.f a b c = some (decide (b ≤ a) && decide (a ≤ c)) := by
  unfold spec_l1In.f; by_cases h : b ≤ a <;> simp [h]
theorem impl_inRange_eq (a b c : Int) : impl_inRange.f a b c = some (decide (b ≤ a) && decide (a ≤ c)) := by
  unfold impl_inRange.f; by_cases h : b ≤ a <;> simp [h]
theorem impl_isCoord_eq (a : Int) : impl_isCoord.f a = some (decide (-10000000 ≤ a) && decide (a ≤ 10000000)) := by
  unfold impl_isCoord.f; rw [impl_inRange_eq]; rfl
theorem spec_PtOk_eq (x y : Int) : spec_PtOk.f x y = some (ptOk x y) := by
  unfold spec_PtOk.f ptOk; simp only [spec_l1In_eq, Option.bind_some]
  by_cases h : (decide (-10000000 ≤ x) && decide (x ≤ 10000000)) = true
  · rw [if_pos h, h]; simp
  · rw [if_neg h]; simp only [Bool.not_eq_true] at h; rw [h]; simp
theorem impl_PtOk_eq (x y : Int) : impl_PtOk.f x y = some (ptOk x y) := by
  unfold impl_PtOk.f ptOk; simp only [impl_isCoord_eq, Option.bind_some]
  by_cases h : (decide (-10000000 ≤ x) && decide (x ≤ 10000000)) = true
  · rw [if_pos h, h]; simp
  · rw [if_neg h]; simp only [Bool.not_eq_true] at h; rw [h]; simp
theorem impl_BoxOk_eq (a b c d : Int) : impl_BoxOk.f a b c d = some (boxOk a b c d) := by
  unfold impl_BoxOk.f boxOk; simp only [impl_PtOk_eq, Option.bind_some]
  by_cases h : ptOk a b = true <;> by_cases h2 : ptOk c d = true <;> by_cases h3 : a ≤ c <;> simp [h, h2, h3]
def inBox (a b c d x y : Int) : Bool := boxOk a b c d && ptOk x y && (decide (a ≤ x) && decide (x ≤ c)) && (decide (b ≤ y) && decide (y ≤ d))
theorem impl_InBox_eq (a b c d x y : Int) : impl_InBox.f a b c d x y = some (inBox a b c d x y) := by
  unfold impl_InBox.f inBox; simp only [impl_BoxOk_eq, impl_PtOk_eq, impl_inRange_eq, Option.bind_some]
  generalize boxOk a b c d = A
  generalize ptOk x y = B
  generalize (decide (a ≤ x) && decide (x ≤ c)) = C
  generalize (decide (b ≤ y) && decide (y ≤ d)) = D
  cases A <;> cases B <;> cases C <;> cases D <;> rfl
def overlap (a b c d e f g h : Int) : Bool := boxOk a b c d && boxOk e f g h && decide (a ≤ g) && decide (e ≤ c) && decide (b ≤ h) && decide (f ≤ d)
def inside (a b c d e f g h : Int) : Bool := boxOk a b c d && inBox e f g h a b && inBox e f g h c d
def area (a b c d : Int) : Int := if boxOk a b c d = true then (c - a) * (d - b) else 0
theorem area_bounds (a b c d : Int) : 0 ≤ area a b c d ∧ area a b c d ≤ 400000000000000 := by
  unfold area; split
  · rename_i h
    rw [boxOk_iff] at h
    obtain ⟨⟨h1, h2, h3, h4⟩, ⟨h5, h6, h7, h8⟩, h9, h10⟩ := h
    have p1 : 0 ≤ c - a := by omega
    have p2 : 0 ≤ d - b := by omega
    refine ⟨Int.mul_nonneg p1 p2, ?_⟩
    calc (c - a) * (d - b) ≤ 20000000 * (d - b) := Int.mul_le_mul_of_nonneg_right (by omega) p2
      _ ≤ 20000000 * 20000000 := Int.mul_le_mul_of_nonneg_left (by omega) (by omega)
      _ = 400000000000000 := by decide
  · omega
theorem area_wrap {a b c d : Int} (h : boxOk a b c d = true) : wrap64 ((wrap64 (c - a)) * (wrap64 (d - b))) = area a b c d := by
  have hb := area_bounds a b c d
  have e : area a b c d = (c - a) * (d - b) := by unfold area; rw [if_pos h]
  rw [boxOk_iff] at h
  rw [wrap_in (x := c - a) (by omega) (by omega), wrap_in (x := d - b) (by omega) (by omega), ← e]
  exact wrap_in (by omega) (by omega)
/-- The tiles that are right. -/
def tileOk (z x y : Int) : Bool := decide (0 ≤ z) && decide (z ≤ 20) && (decide (0 ≤ x) && decide (x ≤ 2 ^ z.toNat - 1)) && (decide (0 ≤ y) && decide (y ≤ 2 ^ z.toNat - 1))
theorem shl1_fin : ∀ n : Fin 51, shl .i64 1 (IntKind.u64.wrap ((n.val : Nat) : Int)) = 2 ^ n.val := by decide +kernel
theorem shl1 {z : Int} (h0 : 0 ≤ z) (h1 : z ≤ 50) : shl .i64 1 (IntKind.u64.wrap z) = 2 ^ z.toNat := by
  obtain ⟨n, rfl⟩ := Int.eq_ofNat_of_zero_le h0
  exact shl1_fin ⟨n, by omega⟩
theorem pow2_le {n m : Nat} (h : n ≤ m) : (2 : Int) ^ n ≤ 2 ^ m := by
  have := Nat.pow_le_pow_right (n := 2) (by decide) h
  exact_mod_cast this
theorem pow2_pos (n : Nat) : (1 : Int) ≤ 2 ^ n := by
  have := pow2_le (Nat.zero_le n); simpa using this
theorem pow2_20 {z : Int} (h1 : z ≤ 20) : (1 : Int) ≤ 2 ^ z.toNat ∧ (2 : Int) ^ z.toNat ≤ 1048576 :=
  ⟨pow2_pos _, by have := pow2_le (n := z.toNat) (m := 20) (by omega); simpa using this⟩
theorem tile_most {z : Int} (h0 : 0 ≤ z) (h1 : z ≤ 20) : wrap64 ((shl .i64 1 (IntKind.u64.wrap z)) - 1) = 2 ^ z.toNat - 1 := by
  rw [shl1 h0 (by omega)]
  have := pow2_20 h1
  exact wrap_in (by omega) (by omega)
/-- The side of the tiles of a Z. -/
def side (z : Int) : Int := 33554432 / 2 ^ z.toNat
theorem shr_side_fin : ∀ n : Fin 21, shr .i64 33554432 (IntKind.u64.wrap ((n.val : Nat) : Int)) = 33554432 / 2 ^ n.val ∧ (32 : Int) ≤ 33554432 / 2 ^ n.val ∧ (33554432 : Int) / 2 ^ n.val ≤ 33554432 := by decide +kernel
theorem shr_side {z : Int} (h0 : 0 ≤ z) (h1 : z ≤ 20) : shr .i64 33554432 (IntKind.u64.wrap z) = side z ∧ 32 ≤ side z ∧ side z ≤ 33554432 := by
  obtain ⟨n, rfl⟩ := Int.eq_ofNat_of_zero_le h0
  exact shr_side_fin ⟨n, by omega⟩
/-- The tile of a point. -/
def tileX (x z : Int) : Int := Int.tdiv (x + 16777216) (side z)
/-- A point as it is taken. -/
def tk (x y : Int) : Int × Int := if ptOk x y = true then (x, y) else (0, 0)
theorem tk_ok (x y : Int) : ptOk (tk x y).1 (tk x y).2 = true := by
  unfold tk; split
  · assumption
  · decide
def sgn (n : Int) : Int := if n > 0 then 1 else if n < 0 then -1 else 0
theorem sgn_cmp (n : Int) : (if n < 0 then (-1 : Int) else if n > 0 then 1 else 0) = sgn n := by unfold sgn; split <;> split <;> omega
theorem sgn_0 : sgn 0 = 0 := rfl
theorem sgn_zero {n : Int} : sgn n = 0 ↔ n = 0 := by unfold sgn; split <;> (try split) <;> omega
def crossW (a b c d e f : Int) : Int := wrap64 ((wrap64 ((wrap64 (c - a)) * (wrap64 (f - b)))) - (wrap64 ((wrap64 (d - b)) * (wrap64 (e - a)))))
theorem spec_l3Pt_eq (x y : Int) : spec_l3Pt.f x y = some (tk x y) := by
  unfold spec_l3Pt.f tk; simp only [spec_PtOk_eq, Option.bind_some]
  by_cases h : ptOk x y = true <;> simp [h]
theorem impl_taken_eq (x y : Int) : impl_taken.f x y = some (tk x y) := by
  unfold impl_taken.f tk; simp only [impl_PtOk_eq, Option.bind_some]
  by_cases h : ptOk x y = true <;> simp [h]
theorem impl_cross2_eq (a b c d e f : Int) : impl_cross2.f a b c d e f = some (crossW a b c d e f) := rfl
theorem cmp_isNaN_int_eq (n : Int) : cmp_isNaN_int.f n = some false := by unfold cmp_isNaN_int.f; simp
def cmpI (a b : Int) : Int := if a < b then -1 else if a > b then 1 else 0
theorem cmp_Compare_int_eq (a b : Int) : cmp_Compare_int.f a b = some (cmpI a b) := by
  unfold cmp_Compare_int.f cmpI; simp only [cmp_isNaN_int_eq, Option.bind_some, Bool.false_eq_true, if_false]
  split
  · rfl
  · split <;> rfl
theorem impl_turn_eq (a b c d e f : Int) : impl_turn.f a b c d e f = some (sgn (crossW a b c d e f)) := by
  unfold impl_turn.f; simp only [impl_cross2_eq, cmp_Compare_int_eq, Option.bind_some]
  congr 1; unfold cmpI; exact sgn_cmp _
def turnW (a b c d e f : Int) : Int := sgn (crossW (tk a b).1 (tk a b).2 (tk c d).1 (tk c d).2 (tk e f).1 (tk e f).2)
theorem impl_Turn_eq (a b c d e f : Int) : impl_Turn.f a b c d e f = some (turnW a b c d e f) := by
  unfold impl_Turn.f turnW; simp only [impl_taken_eq, impl_turn_eq, Option.bind_some]
def betw (a b n : Int) : Bool := decide (min a b ≤ n) && decide (n ≤ max a b)
def onSegW (a b c d e f : Int) : Bool := decide (crossW a b c d e f = 0) && betw a c e && betw b d f
theorem impl_isBetween_eq (n a b : Int) : impl_isBetween.f n a b = some (betw a b n) := by
  unfold impl_isBetween.f betw; simp only [impl_inRange_eq, Option.bind_some, mx_eq, mn_eq]
theorem impl_onSeg_eq (a b c d e f : Int) : impl_onSeg.f a b c d e f = some (onSegW a b c d e f) := by
  unfold impl_onSeg.f onSegW; simp only [impl_turn_eq, impl_isBetween_eq, Option.bind_some]
  have z := @sgn_zero (crossW a b c d e f)
  generalize crossW a b c d e f = x at z ⊢
  generalize betw a c e = B
  generalize betw b d f = C
  by_cases h : x = 0 <;> cases B <;> cases C <;> simp [z, h, sgn_0]
def onSegT (a b c d e f : Int) : Bool := onSegW (tk a b).1 (tk a b).2 (tk c d).1 (tk c d).2 (tk e f).1 (tk e f).2
theorem impl_OnSeg_eq (a b c d e f : Int) : impl_OnSeg.f a b c d e f = some (onSegT a b c d e f) := by
  unfold impl_OnSeg.f onSegT; simp only [impl_taken_eq, impl_onSeg_eq, Option.bind_some]
def squareW (a b c d : Int) : Int := wrap64 ((wrap64 ((wrap64 (a - c)) * (wrap64 (a - c)))) + (wrap64 ((wrap64 (b - d)) * (wrap64 (b - d)))))
def gapW (a b c d x y : Int) : Int := if boxOk a b c d = true ∧ ptOk x y = true then squareW x y (max a (min x c)) (max b (min y d)) else -1
def l3MeetW (a b c d e f g h : Int) : Bool :=
  onSegW a b c d e f || onSegW a b c d g h || onSegW e f g h a b || onSegW e f g h c d ||
    (decide (wrap64 (sgn (crossW a b c d e f) * sgn (crossW a b c d g h)) < 0) && decide (wrap64 (sgn (crossW e f g h a b) * sgn (crossW e f g h c d)) < 0))
def meetW (a b c d e f g h : Int) : Bool := l3MeetW (tk a b).1 (tk a b).2 (tk c d).1 (tk c d).2 (tk e f).1 (tk e f).2 (tk g h).1 (tk g h).2
/-- What Join computes. -/
def joinW (a b c d e f g h : Int) : Int × Int × Int × Int :=
  if boxOk a b c d = true then (if boxOk e f g h = true then (min a e, min b f, max c g, max d h) else (a, b, c, d))
  else (if boxOk e f g h = true then (e, f, g, h) else (0, 0, 0, 0))
/-- The box of the points from here on, joined to one. -/
def boW : List S32 → Int → Int → Int → Int → Int × Int × Int × Int × Bool
  | [], a, b, c, d => (a, b, c, d, true)
  | p :: r, a, b, c, d => if ptOk p.f0 p.f1 = true then boW r (min a p.f0) (min b p.f1) (max c p.f0) (max d p.f1) else (0, 0, 0, 0, false)
theorem drop_getD {α : Type} (z : α) : ∀ (l : List α) (i : Nat), i < l.length → l.drop i = l.getD i z :: l.drop (i + 1)
  | [], i, h => by simp at h
  | x :: r, 0, _ => rfl
  | x :: r, i + 1, h => by
    have := drop_getD z r i (by simpa using h)
    simpa using this
/-- What BoxOf computes. -/
def boxOfW : List S32 → Int × Int × Int × Int × Bool
  | [] => (0, 0, 0, 0, false)
  | p :: r => boW (p :: r) p.f0 p.f1 p.f0 p.f1
theorem impl_Join_eq (a b c d e f g h : Int) {k : Nat} (hk : 1 ≤ k) : impl_Join.f k a b c d e f g h = some (joinW a b c d e f g h) := by
  obtain ⟨k, rfl⟩ : ∃ m, k = m + 1 := ⟨k - 1, by omega⟩
  unfold impl_Join.f joinW; simp only [impl_BoxOk_eq, Option.bind_some]
  by_cases h1 : boxOk a b c d = true <;> by_cases h2 : boxOk e f g h = true <;> simp [h1, h2, impl_Join.j0, impl_BoxOk_eq, mx_eq, mn_eq]
def grownW (a b c d e f g h : Int) : Int := area (joinW a b c d e f g h).1 (joinW a b c d e f g h).2.1 (joinW a b c d e f g h).2.2.1 (joinW a b c d e f g h).2.2.2 - area a b c d
theorem grown_wrap (a b c d e f g h : Int) : wrap64 (area (joinW a b c d e f g h).1 (joinW a b c d e f g h).2.1 (joinW a b c d e f g h).2.2.1 (joinW a b c d e f g h).2.2.2 - area a b c d) = grownW a b c d e f g h := by
  have a1 := area_bounds a b c d
  have a2 := area_bounds (joinW a b c d e f g h).1 (joinW a b c d e f g h).2.1 (joinW a b c d e f g h).2.2.1 (joinW a b c d e f g h).2.2.2
  exact wrap_in (by omega) (by omega)
theorem side_fin : ∀ n : Fin 21, (33554432 : Int) / 2 ^ n.val * 2 ^ n.val = 33554432 := by decide +kernel
theorem side_mul {z : Int} (h0 : 0 ≤ z) (h1 : z ≤ 20) : side z * 2 ^ z.toNat = 33554432 := by
  obtain ⟨n, rfl⟩ := Int.eq_ofNat_of_zero_le h0
  exact side_fin ⟨n, by omega⟩
theorem tile_span {z x : Int} (h0 : 0 ≤ z) (h1 : z ≤ 20) (x0 : 0 ≤ x) (x1 : x ≤ 2 ^ z.toNat - 1) : 0 ≤ x * side z ∧ (x + 1) * side z = x * side z + side z ∧ x * side z + side z ≤ 33554432 ∧ 32 ≤ side z := by
  have hs := (shr_side h0 h1).2
  have e : (x + 1) * side z = x * side z + side z := by rw [Int.add_mul, Int.one_mul]
  refine ⟨Int.mul_nonneg x0 (by omega), e, ?_, hs.1⟩
  rw [← e, ← side_mul h0 h1, Int.mul_comm (side z)]
  exact Int.mul_le_mul_of_nonneg_right (by omega) (by omega)
/-- What TileBox computes. -/
def tileBoxW (z x y : Int) : Int × Int × Int × Int × Bool :=
  if tileOk z x y = true ∧ boxOk (max (x * side z - 16777216) (-10000000)) (max (y * side z - 16777216) (-10000000)) (min (x * side z - 16777216 + side z - 1) 10000000) (min (y * side z - 16777216 + side z - 1) 10000000) = true then
    (max (x * side z - 16777216) (-10000000), max (y * side z - 16777216) (-10000000), min (x * side z - 16777216 + side z - 1) 10000000, min (y * side z - 16777216 + side z - 1) 10000000, true)
  else (0, 0, 0, 0, false)
theorem tileOk_iff {z x y : Int} : tileOk z x y = true ↔ (0 ≤ z ∧ z ≤ 20) ∧ (0 ≤ x ∧ x ≤ 2 ^ z.toNat - 1) ∧ (0 ≤ y ∧ y ≤ 2 ^ z.toNat - 1) := by
  simp [tileOk, and_assoc]
/-! The draws answer, whatever the bytes are. -/
def St (l : List Int) (i : Int) : Prop := 0 ≤ i ∧ i ≤ l.length
theorem and255 (x : Int) : 0 ≤ Go.bits .and .i64 x 255 ∧ Go.bits .and .i64 x 255 ≤ 255 := by
  have h : ((BitVec.ofInt 64 x &&& BitVec.ofInt 64 255).toNat) ≤ 255 := by
    rw [BitVec.toNat_and]
    exact Nat.le_trans Nat.and_le_right (by decide)
  have e : Go.bits .and .i64 x 255 = IntKind.i64.wrap ((BitVec.ofInt 64 x &&& BitVec.ofInt 64 255).toNat : Int) := rfl
  rw [e, IntKind.wrap_i64]
  generalize (BitVec.ofInt 64 x &&& BitVec.ofInt 64 255).toNat = m at h ⊢
  omega
theorem byte_ok {l : List Int} (hl : l.length ≤ 140737488351232) {i h : Int} (s : St l i) : ∃ b i' h', spec_l1Byte.f l i h = some (b, i', h') ∧ 0 ≤ b ∧ b ≤ 255 ∧ St l i' := by
  obtain ⟨s0, s1⟩ := s
  unfold spec_l1Byte.f
  by_cases c : i < (l.length : Int)
  · rw [if_pos c, if_pos s0]
    refine ⟨_, _, _, rfl, (and255 _).1, (and255 _).2, ?_⟩
    rw [wrap_in (by omega) (by omega)]; exact ⟨by omega, by omega⟩
  · rw [if_neg c]
    exact ⟨_, _, _, rfl, (and255 _).1, (and255 _).2, s0, s1⟩
theorem tmod_range {x n : Int} (h0 : 0 ≤ x) (hn : 0 < n) : 0 ≤ Int.tmod x n ∧ Int.tmod x n < n := by
  rw [Int.tmod_eq_emod_of_nonneg h0]
  exact ⟨Int.emod_nonneg _ (by omega), Int.emod_lt_of_pos _ hn⟩
theorem below_ok {l : List Int} (hl : l.length ≤ 140737488351232) {i h n : Int} (s : St l i) :
    ∃ x i' h', spec_l1Below.f l i h n = some (x, i', h') ∧ St l i' ∧ 0 ≤ x ∧ (0 < n → x < n) ∧ (n ≤ 0 → x = 0) := by
  unfold spec_l1Below.f
  by_cases c : n ≤ 0
  · rw [if_pos c]; exact ⟨_, _, _, rfl, s, by decide, by omega, fun _ => rfl⟩
  · rw [if_neg c]
    by_cases c2 : n ≤ 256
    · rw [if_pos c2]
      obtain ⟨b, i1, h1, e, b0, b1, s1⟩ := byte_ok hl (h := h) s
      rw [e]; simp only [Option.bind_some]; rw [if_neg (by omega)]
      have := tmod_range b0 (show 0 < n by omega)
      exact ⟨_, _, _, rfl, s1, this.1, fun _ => this.2, by omega⟩
    · rw [if_neg c2]
      obtain ⟨b, i1, h1, e, b0, b1, s1⟩ := byte_ok hl (h := h) s
      obtain ⟨b', i2, h2, e2, b0', b1', s2⟩ := byte_ok hl (h := h1) s1
      obtain ⟨b'', i3, h3, e3, b0'', b1'', s3⟩ := byte_ok hl (h := h2) s2
      rw [e]; simp only [Option.bind_some]; rw [e2]; simp only [Option.bind_some]; rw [e3]; simp only [Option.bind_some]; rw [if_neg (by omega)]
      have nn : 0 ≤ wrap64 (wrap64 (wrap64 (b * 65536) + wrap64 (b' * 256)) + b'') := by
        rw [wrap_in (x := b * 65536) (by omega) (by omega), wrap_in (x := b' * 256) (by omega) (by omega), wrap_in (x := b * 65536 + b' * 256) (by omega) (by omega), wrap_in (by omega) (by omega)]; omega
      have := tmod_range nn (show 0 < n by omega)
      exact ⟨_, _, _, rfl, s3, this.1, fun _ => this.2, by omega⟩
theorem once_ok {l : List Int} (hl : l.length ≤ 140737488351232) {i h : Int} (n : Int) (s : St l i) : ∃ b i' h', spec_l1Once.f l i h n = some (b, i', h') ∧ St l i' := by
  obtain ⟨x, i1, h1, e, s1, _⟩ := below_ok hl (h := h) (n := n) s
  unfold spec_l1Once.f; rw [e]; exact ⟨_, _, _, rfl, s1⟩
theorem int_ok {l : List Int} (hl : l.length ≤ 140737488351232) {i h : Int} (xs : List Int) (hx : 0 < xs.length) (s : St l i) : ∃ v i' h', spec_l1Int.f l i h xs = some (v, i', h') ∧ v ∈ xs ∧ St l i' := by
  obtain ⟨x, i1, h1, e, s1, x0, x1, _⟩ := below_ok hl (h := h) (n := (xs.length : Int)) s
  have hx1 := x1 (by omega)
  unfold spec_l1Int.f; rw [e]; simp only [Option.bind_some]; rw [if_pos x0, if_pos hx1]
  refine ⟨_, _, _, rfl, ?_, s1⟩
  unfold rd
  have hlt : x.toNat < xs.length := by omega
  rw [List.getD_eq_getElem?_getD, List.getElem?_eq_getElem hlt]
  exact List.getElem_mem hlt
theorem new_loop (l : List Int) (hl : l.length ≤ 140737488351232) : ∀ (d i k : Nat) (h : Int), i + d = l.length → d < k → ∃ h', spec_l1New.l0 k l h (i : Int) = some (l, 0, h') := by
  intro d
  induction d with
  | zero =>
    intro i k h hi hk
    obtain ⟨k, rfl⟩ : ∃ m, k = m + 1 := ⟨k - 1, by omega⟩
    simp only [spec_l1New.l0]; rw [if_neg (by omega)]; exact ⟨_, rfl⟩
  | succ d ih =>
    intro i k h hi hk
    obtain ⟨k, rfl⟩ : ∃ m, k = m + 1 := ⟨k - 1, by omega⟩
    simp only [spec_l1New.l0]; rw [if_pos (by omega)]
    by_cases c : (i : Int) < 4000
    · rw [if_pos c, if_pos (by omega), show wrap64 ((i : Int) + 1) = ((i + 1 : Nat) : Int) by rw [wrap_in (by omega) (by omega)]; omega]
      exact ih (i + 1) k _ (by omega) (by omega)
    · rw [if_neg c]; exact ⟨_, rfl⟩
theorem new_ok (l : List Int) (hl : l.length ≤ 140737488351232) {k : Nat} (hk : l.length < k) : ∃ h, spec_l1New.f k l = some (l, 0, h) := by
  unfold spec_l1New.f; exact new_loop l hl l.length 0 k _ (by omega) hk
theorem st0 (l : List Int) : St l 0 := ⟨by decide, by omega⟩
theorem draw3_ok {l : List Int} (hl : l.length ≤ 140737488351232) {i h : Int} {k : Nat} (hk : 1 ≤ k) (s : St l i) : ∃ x y i' h', spec_l3Draw.f k l i h = some (x, y, i', h') ∧ St l i' := by
  obtain ⟨k, rfl⟩ : ∃ m, k = m + 1 := ⟨k - 1, by omega⟩
  obtain ⟨b1, i1, h1, e1, s1, _⟩ := below_ok hl (h := h) (n := 9) s
  obtain ⟨b2, i2, h2, e2, s2, _⟩ := below_ok hl (h := h1) (n := 9) s1
  obtain ⟨b3, i3, h3, e3, s3⟩ := once_ok hl (h := h2) 8 s2
  have tail : ∀ (x y i h : Int), St l i → ∃ x' y' i' h', spec_l3Draw.j0 (k + 1) l i h x y = some (x', y', i', h') ∧ St l i' := by
    intro x y i h s
    simp only [spec_l3Draw.j0]
    obtain ⟨b4, i4, h4, e4, s4⟩ := once_ok hl (h := h) 8 s
    rw [e4]; simp only [Option.bind_some]
    cases b4
    · exact ⟨_, _, _, _, rfl, s4⟩
    · rw [if_pos rfl]
      obtain ⟨v, i5, h5, e5, _, s5⟩ := int_ok hl (h := h4) ([(-10000000), 10000000, 9999998, 7654321, (-10000001), 9223372036854775807] : List Int) (by decide) s4
      rw [e5]; exact ⟨_, _, _, _, rfl, s5⟩
  unfold spec_l3Draw.f
  rw [e1]; simp only [Option.bind_some]; rw [e2]; simp only [Option.bind_some]; rw [e3]; simp only [Option.bind_some]
  cases b3
  · exact tail _ _ _ _ s3
  · rw [if_pos rfl]
    obtain ⟨v, i5, h5, e5, _, s5⟩ := int_ok hl (h := h3) ([(-10000000), 10000000, 9999999, 1234567, 10000001, (-9223372036854775808)] : List Int) (by decide) s3
    rw [e5]; exact tail _ _ _ _ s5
theorem join_pt {a b c d x y : Int} (h : boxOk a b c d = true) (hp : ptOk x y = true) : joinW a b c d x y x y = (min a x, min b y, max c x, max d y) := by
  have hb : boxOk x y x y = true := boxOk_iff.2 ⟨ptOk_iff.1 hp, ptOk_iff.1 hp, Int.le_refl _, Int.le_refl _⟩
  unfold joinW; rw [if_pos h, if_pos hb]
theorem iBoxOf_loop (l : List S32) (hl : l.length ≤ 140737488351232) : ∀ (d i k : Nat) (a b c e : Int), i + d = l.length → d + 1 < k → (d = l.length ∨ boxOk a b c e = true) →
    (i = 0 → 0 < l.length → a = (l.getD 0 z32).f0 ∧ b = (l.getD 0 z32).f1 ∧ c = a ∧ e = b) →
    impl_BoxOf.l0 k l (l.length : Int) (i : Int) a b c e = some (boW (l.drop i) a b c e) := by
  intro d
  induction d with
  | zero =>
    intro i k a b c e hi hk _ _
    obtain ⟨k, rfl⟩ : ∃ m, k = m + 1 := ⟨k - 1, by omega⟩
    simp only [impl_BoxOf.l0]; rw [if_neg (by omega), List.drop_eq_nil_of_le (by omega)]; rfl
  | succ d ih =>
    intro i k a b c e hi hk hb hi0
    obtain ⟨k, rfl⟩ : ∃ m, k = m + 1 := ⟨k - 1, by omega⟩
    simp only [impl_BoxOf.l0]
    rw [if_pos (by omega), if_pos (by omega), if_pos (by omega), drop_getD z32 l i (by omega)]
    simp only [rd_T32, Int.toNat_natCast, boW, impl_PtOk_eq, Option.bind_some]
    by_cases hp : ptOk (l.getD i z32).f0 (l.getD i z32).f1 = true
    · have hbox : boxOk a b c e = true := by
        rcases hb with hb | hb
        · obtain ⟨h1, h2, h3, h4⟩ := hi0 (by omega) (by omega)
          have : i = 0 := by omega
          subst this
          subst h1; subst h2; subst h3; subst h4
          exact boxOk_iff.2 ⟨ptOk_iff.1 hp, ptOk_iff.1 hp, Int.le_refl _, Int.le_refl _⟩
        · exact hb
      rw [if_pos hp, if_pos hp, impl_Join_eq _ _ _ _ _ _ _ _ (by omega)]
      simp only [Option.bind_some, join_pt hbox hp]
      rw [show wrap64 ((i : Int) + 1) = ((i + 1 : Nat) : Int) by rw [wrap_in (by omega) (by omega)]; omega]
      have p1 := boxOk_iff.1 hbox
      have p2 := ptOk_iff.1 hp
      exact ih (i + 1) k _ _ _ _ (by omega) (by omega) (.inr (boxOk_iff.2 ⟨⟨by omega, by omega, by omega, by omega⟩, ⟨by omega, by omega, by omega, by omega⟩, by omega, by omega⟩)) (by omega)
    · rw [if_neg hp, if_neg hp]
theorem impl_BoxOf_eq (l : List S32) (hl : l.length ≤ 140737488351232) {k : Nat} (hk : l.length + 1 < k) : impl_BoxOf.f k l = some (boxOfW l) := by
  unfold impl_BoxOf.f
  cases l with
  | nil => rfl
  | cons p r =>
    have hpos : (0 : Int) < ((p :: r).length : Int) := by rw [List.length_cons]; omega
    rw [if_neg (by omega), if_pos hpos]
    exact iBoxOf_loop (p :: r) hl (p :: r).length 0 k p.f0 p.f1 p.f0 p.f1 (by omega) hk (.inl rfl) (fun _ _ => ⟨rfl, rfl, rfl, rfl⟩)
theorem four_ok {l : List Int} (hl : l.length ≤ 140737488351232) {i h : Int} {k : Nat} (hk : 1 ≤ k) (s : St l i) :
    ∃ a b c d e f g m i' h', spec_l3Four.f k l i h = some (a, b, c, d, e, f, g, m, i', h') ∧ St l i' := by
  obtain ⟨x1, y1, i1, h1, e1, s1⟩ := draw3_ok hl (h := h) hk s
  obtain ⟨x2, y2, i2, h2, e2, s2⟩ := draw3_ok hl (h := h1) hk s1
  obtain ⟨x3, y3, i3, h3, e3, s3⟩ := draw3_ok hl (h := h2) hk s2
  obtain ⟨x4, y4, i4, h4, e4, s4⟩ := draw3_ok hl (h := h3) hk s3
  obtain ⟨b, i5, h5, e5, s5, _⟩ := below_ok hl (h := h4) (n := 8) s4
  unfold spec_l3Four.f
  rw [e1]; simp only [Option.bind_some]; rw [e2]; simp only [Option.bind_some]; rw [e3]; simp only [Option.bind_some]; rw [e4]; simp only [Option.bind_some]
  rw [e5]; simp only [Option.bind_some, spec_l3Pt_eq]
  split
  · exact ⟨_, _, _, _, _, _, _, _, _, _, rfl, s5⟩
  · split
    · exact ⟨_, _, _, _, _, _, _, _, _, _, rfl, s5⟩
    · split
      · exact ⟨_, _, _, _, _, _, _, _, _, _, rfl, s5⟩
      · exact ⟨_, _, _, _, _, _, _, _, _, _, rfl, s5⟩
theorem drawTurn_ok {l : List Int} (hl : l.length ≤ 140737488351232) {k : Nat} (hk : l.length < k) : ∃ a b c d e f, spec_DrawTurn.f k l = some (a, b, c, d, e, f) := by
  obtain ⟨h, e⟩ := new_ok l hl hk
  obtain ⟨a, b, c, d, x, y, g, m, i', h', e2, _⟩ := four_ok hl (h := h) (k := k) (by omega) (st0 l)
  unfold spec_DrawTurn.f; rw [e]; simp only [Option.bind_some]; rw [e2]; exact ⟨_, _, _, _, _, _, rfl⟩
theorem mul_small {x y : Int} (h1 : -20000000 ≤ x) (h2 : x ≤ 20000000) (h3 : -20000000 ≤ y) (h4 : y ≤ 20000000) : -400000000000000 ≤ x * y ∧ x * y ≤ 400000000000000 := by
  have a : x.natAbs ≤ 20000000 := by omega
  have b : y.natAbs ≤ 20000000 := by omega
  have c := Nat.mul_le_mul a b
  rw [← Int.natAbs_mul] at c
  omega
theorem cross_eq {a b c d e f : Int} (h1 : ptOk a b = true) (h2 : ptOk c d = true) (h3 : ptOk e f = true) : crossW a b c d e f = (c - a) * (f - b) - (d - b) * (e - a) := by
  have p1 := ptOk_iff.1 h1
  have p2 := ptOk_iff.1 h2
  have p3 := ptOk_iff.1 h3
  unfold crossW
  rw [wrap_in (x := c - a) (by omega) (by omega), wrap_in (x := f - b) (by omega) (by omega), wrap_in (x := d - b) (by omega) (by omega), wrap_in (x := e - a) (by omega) (by omega)]
  have m1 := mul_small (x := c - a) (y := f - b) (by omega) (by omega) (by omega) (by omega)
  have m2 := mul_small (x := d - b) (y := e - a) (by omega) (by omega) (by omega) (by omega)
  generalize (c - a) * (f - b) = u at m1 ⊢
  generalize (d - b) * (e - a) = v at m2 ⊢
  rw [wrap_in (x := u) (by omega) (by omega), wrap_in (x := v) (by omega) (by omega), wrap_in (by omega) (by omega)]
theorem cross_swap {a b c d e f : Int} (h1 : ptOk a b = true) (h2 : ptOk c d = true) (h3 : ptOk e f = true) : crossW c d a b e f = -crossW a b c d e f := by
  rw [cross_eq h1 h2 h3, cross_eq h2 h1 h3]
  simp only [Int.sub_mul, Int.mul_sub]
  rw [Int.mul_comm d e, Int.mul_comm b e, Int.mul_comm b c, Int.mul_comm d c, Int.mul_comm d a, Int.mul_comm b a]
  omega
theorem cross_turn {a b c d e f : Int} (h1 : ptOk a b = true) (h2 : ptOk c d = true) (h3 : ptOk e f = true) : crossW c d e f a b = crossW a b c d e f := by
  rw [cross_eq h1 h2 h3, cross_eq h2 h3 h1]
  simp only [Int.sub_mul, Int.mul_sub]
  rw [Int.mul_comm d e, Int.mul_comm b e, Int.mul_comm f a, Int.mul_comm f c, Int.mul_comm d a, Int.mul_comm d c, Int.mul_comm b a]
  omega
theorem tk_of {x y : Int} (h : ptOk x y = true) : tk x y = (x, y) := by unfold tk; rw [if_pos h]
theorem sgn_neg (n : Int) : sgn (-n) = -sgn n := by unfold sgn; split <;> split <;> (try split) <;> (try split) <;> omega
theorem sgn_small (n : Int) : -1 ≤ sgn n ∧ sgn n ≤ 1 := by unfold sgn; split <;> (try split) <;> omega
theorem FnTurns : laws_FnTurns.Pure := by
  intro l hm hl0 hw
  have hl : l.length ≤ 140737488351232 := by omega
  refine ⟨l.length + 100, ?_⟩
  unfold laws_FnTurns.f laws_big.f
  simp only [Option.bind_some]
  by_cases hb : decide ((l.length : Int) > 1048576) = true
  · rw [if_pos hb]
  · rw [if_neg hb]
    obtain ⟨a, b, c, d, e, f, e1⟩ := drawTurn_ok hl (k := l.length + 100) (by omega)
    rw [e1]; simp only [Option.bind_some, spec_PtOk_eq]
    have bad : laws_FnTurns.j0 (l.length + 100) true a b c d e f = some true := by
      simp only [laws_FnTurns.j0, if_true, impl_PtOk_eq, spec_PtOk_eq, Option.bind_some, beq_self_eq_true]
    by_cases h1 : ptOk a b = true
    · rw [if_pos h1]
      by_cases h2 : ptOk c d = true
      · rw [if_pos h2]
        by_cases h3 : ptOk e f = true
        · rw [h3, show l.length + 100 = (l.length + 99) + 1 by omega]
          simp only [Bool.not_true, laws_FnTurns.j0, Bool.false_eq_true, if_false]
          have p1 := ptOk_iff.1 h1
          have p2 := ptOk_iff.1 h2
          have p3 := ptOk_iff.1 h3
          simp only [impl_Turn_eq, Option.bind_some]
          rw [impl_BoxOf_eq _ (by simp) (by simp)]
          simp only [boxOfW, boW, h1, h2, if_true, Option.bind_some, Int.min_self, Int.max_self]
          have t1 : turnW a b c d e f = sgn (crossW a b c d e f) := by unfold turnW; rw [tk_of h1, tk_of h2, tk_of h3]
          have t2 : turnW c d a b e f = -sgn (crossW a b c d e f) := by unfold turnW; rw [tk_of h1, tk_of h2, tk_of h3]; simp only []; rw [cross_swap h1 h2 h3, sgn_neg]
          have t3 : turnW c d e f a b = sgn (crossW a b c d e f) := by unfold turnW; rw [tk_of h1, tk_of h2, tk_of h3]; simp only []; rw [cross_turn h1 h2 h3]
          have sm := sgn_small (crossW a b c d e f)
          have sz := @sgn_zero (crossW a b c d e f)
          rw [t1, t2, t3, wrap_in (by omega) (by omega), if_pos rfl, if_pos rfl]
          simp only [impl_OnSeg_eq, impl_InBox_eq, Option.bind_some]
          have o1 : onSegT a b c d e f = (decide (crossW a b c d e f = 0) && betw a c e && betw b d f) := by unfold onSegT onSegW; rw [tk_of h1, tk_of h2, tk_of h3]
          have o2 : onSegT a b c d a b = true := by
            unfold onSegT onSegW; rw [tk_of h1, tk_of h2]; simp only []
            rw [cross_eq h1 h2 h1, show b - b = 0 by omega, show a - a = 0 by omega, Int.mul_zero, Int.mul_zero]
            unfold betw; simp; omega
          rw [o1, o2]
          by_cases hz : crossW a b c d e f = 0
          · rw [if_pos (sz.2 hz)]
            have ib : inBox (min a c) (min b d) (max a c) (max b d) e f = (betw a c e && betw b d f) := by
              unfold inBox betw
              rw [h3, boxOk_iff.2 ⟨⟨by omega, by omega, by omega, by omega⟩, ⟨by omega, by omega, by omega, by omega⟩, by omega, by omega⟩]
              simp only [Bool.true_and]
            rw [ib, if_pos (by simp [hz])]
          · rw [if_neg (fun q => hz (sz.1 q)), if_pos (by simp [hz])]
        · simp only [Bool.not_eq_true] at h3
          rw [h3, Bool.not_false]; exact bad
      · rw [if_neg h2]; exact bad
    · rw [if_neg h1]; exact bad

end Go.Proofs.Ytebnhcliileneaa.Pure
