/- The pure statement of the law FnHulls: what the printed functions compute answers true at every input. No conditions beyond the printed bounds. -/
import Derived.Test.YtgmnphckgicadaaQFnHullsx26
namespace Go.Proofs.Ytgmnphckgicadaa.Pure
open Go.RowKit Go.Proofs.Ytgmnphckgicadaa.PFnHulls Go.Proofs.YtgmnphckgicadaaW.PrintWords Go.Proofs.YtgmnphckgicadaaW.PrintLast Go.Proofs.YtgmnphckgicadaaW.PrintMore
set_option linter.unusedVariables false
set_option linter.unusedSimpArgs false

/-- The points that are right. -/
def ptOk (x y : Int) : Bool := decide (-10000000 ≤ x) && decide (x ≤ 10000000) && decide (-10000000 ≤ y) && decide (y ≤ 10000000)
/-- The boxes that are right. -/
def boxOk (a b c d : Int) : Bool := ptOk a b && ptOk c d && decide (a ≤ c) && decide (b ≤ d)
theorem ptOk_iff {x y : Int} : ptOk x y = true ↔ -10000000 ≤ x ∧ x ≤ 10000000 ∧ -10000000 ≤ y ∧ y ≤ 10000000 := by
  simp [ptOk, and_assoc]
theorem boxOk_iff {a b c d : Int} : boxOk a b c d = true ↔ (-10000000 ≤ a ∧ a ≤ 10000000 ∧ -10000000 ≤ b ∧ b ≤ 10000000) ∧ (-10000000 ≤ c ∧ c ≤ 10000000 ∧ -10000000 ≤ d ∧ d ≤ 10000000) ∧ a ≤ c ∧ b ≤ d := by
  simp [boxOk, ptOk_iff, and_assoc]
theorem wrap_in {x : Int} (h1 : -9223372036854775808 ≤ x) (h2 : x ≤ 9223372036854775807) : wrap64 x = x := by unfold wrap64; omega
theorem wrap_bounds (x : Int) : -9223372036854775808 ≤ wrap64 x ∧ wrap64 x ≤ 9223372036854775807 := by unfold wrap64; omega
theorem u64_in {x : Int} (h1 : 0 ≤ x) (h2 : x ≤ 18446744073709551615) : IntKind.u64.wrap x = x := by
  simp [IntKind.wrap, IntKind.bits, IntKind.signed]; omega
theorem u64_bounds (x : Int) : 0 ≤ IntKind.u64.wrap x ∧ IntKind.u64.wrap x ≤ 18446744073709551615 := by
  simp [IntKind.wrap, IntKind.bits, IntKind.signed]; omega
theorem u64_nonneg (x : Int) : 0 ≤ IntKind.u64.wrap x := (u64_bounds x).1
theorem mx_eq (a b : Int) : mx a b = max a b := by unfold mx; omega
theorem mn_eq (a b : Int) : mn a b = min a b := by unfold mn; omega
theorem spec_l1In_eq (a b c : Int) : spec_l1In.f a b c = some (decide (b ≤ a) && decide (a ≤ c)) := by
  unfold spec_l1In.f; by_cases h : b ≤ a <;> simp [h]
theorem impl_inRange_eq (a b c : Int) : impl_inRange.f a b c = some (decide (b ≤ a) && decide (a ≤ c)) := by
  unfold impl_inRange.f; by_cases h : b ≤ a <;> simp [h]
theorem impl_isCoord_eq (a : Int) : impl_isCoord.f a = some (decide (-10000000 ≤ a) && decide (a ≤ 10000000)) := by
  unfold impl_isCoord.f; rw [impl_inRange_eq]; rfl
theorem spec_PtOk_eq (x y : Int) : spec_PtOk.f x y = some (ptOk x y) := by
  unfold spec_PtOk.f ptOk; simp only [spec_l1In_eq, Option.bind_some]
  by_cases h : (decide (-10000000 ≤ x) && decide (x ≤ 10000000)) = true
  · rw [if_pos h, h]; simp
  · rw [if_neg h]; simp only [Bool.not_eq_true] at h; rw [h]; simp
theorem impl_PtOk_eq (x y : Int) : impl_PtOk.f x y = some (ptOk x y) := by
  unfold impl_PtOk.f ptOk; simp only [impl_isCoord_eq, Option.bind_some]
  by_cases h : (decide (-10000000 ≤ x) && decide (x ≤ 10000000)) = true
  · rw [if_pos h, h]; simp
  · rw [if_neg h]; simp only [Bool.not_eq_true] at h; rw [h]; simp
def inBox (a b c d x y : Int) : Bool := boxOk a b c d && ptOk x y && (decide (a ≤ x) && decide (x ≤ c)) && (decide (b ≤ y) && decide (y ≤ d))
def overlap (a b c d e f g h : Int) : Bool := boxOk a b c d && boxOk e f g h && decide (a ≤ g) && decide (e ≤ c) && decide (b ≤ h) && decide (f ≤ d)
def inside (a b c d e f g h : Int) : Bool := boxOk a b c d && inBox e f g h a b && inBox e f g h c d
def area (a b c d : Int) : Int := if boxOk a b c d = true then (c - a) * (d - b) else 0
theorem area_bounds (a b c d : Int) : 0 ≤ area a b c d ∧ area a b c d ≤ 400000000000000 := by
  unfold area; split
  · rename_i h
    rw [boxOk_iff] at h
    obtain ⟨⟨h1, h2, h3, h4⟩, ⟨h5, h6, h7, h8⟩, h9, h10⟩ := h
    have p1 : 0 ≤ c - a := by omega
    have p2 : 0 ≤ d - b := by omega
    refine ⟨Int.mul_nonneg p1 p2, ?_⟩
    calc (c - a) * (d - b) ≤ 20000000 * (d - b) := Int.mul_le_mul_of_nonneg_right (by omega) p2
      _ ≤ 20000000 * 20000000 := Int.mul_le_mul_of_nonneg_left (by omega) (by omega)
      _ = 400000000000000 := by decide
  · omega
theorem area_wrap {a b c d : Int} (h : boxOk a b c d = true) : wrap64 ((wrap64 (c - a)) * (wrap64 (d - b))) = area a b c d := by
  have hb := area_bounds a b c d
  have e : area a b c d = (c - a) * (d - b) := by unfold area; rw [if_pos h]
  rw [boxOk_iff] at h
  rw [wrap_in (x := c - a) (by omega) (by omega), wrap_in (x := d - b) (by omega) (by omega), ← e]
  exact wrap_in (by omega) (by omega)
/-- The tiles that are right. -/
def tileOk (z x y : Int) : Bool := decide (0 ≤ z) && decide (z ≤ 20) && (decide (0 ≤ x) && decide (x ≤ 2 ^ z.toNat - 1)) && (decide (0 ≤ y) && decide (y ≤ 2 ^ z.toNat - 1))
theorem shl1_fin : ∀ n : Fin 51, shl .i64 1 (IntKind.u64.wrap ((n.val : Nat) : Int)) = 2 ^ n.val := by decide +kernel
theorem shl1 {z : Int} (h0 : 0 ≤ z) (h1 : z ≤ 50) : shl .i64 1 (IntKind.u64.wrap z) = 2 ^ z.toNat := by
  obtain ⟨n, rfl⟩ := Int.eq_ofNat_of_zero_le h0
  exact shl1_fin ⟨n, by omega⟩
theorem pow2_le {n m : Nat} (h : n ≤ m) : (2 : Int) ^ n ≤ 2 ^ m := by
  have := Nat.pow_le_pow_right (n := 2) (by decide) h
  exact_mod_cast this
theorem pow2_pos (n : Nat) : (1 : Int) ≤ 2 ^ n := by
  have := pow2_le (Nat.zero_le n); simpa using this
theorem pow2_20 {z : Int} (h1 : z ≤ 20) : (1 : Int) ≤ 2 ^ z.toNat ∧ (2 : Int) ^ z.toNat ≤ 1048576 :=
  ⟨pow2_pos _, by have := pow2_le (n := z.toNat) (m := 20) (by omega); simpa using this⟩
theorem tile_most {z : Int} (h0 : 0 ≤ z) (h1 : z ≤ 20) : wrap64 ((shl .i64 1 (IntKind.u64.wrap z)) - 1) = 2 ^ z.toNat - 1 := by
  rw [shl1 h0 (by omega)]
  have := pow2_20 h1
  exact wrap_in (by omega) (by omega)
/-- The side of the tiles of a Z. -/
def side (z : Int) : Int := 33554432 / 2 ^ z.toNat
theorem shr_side_fin : ∀ n : Fin 21, shr .i64 33554432 (IntKind.u64.wrap ((n.val : Nat) : Int)) = 33554432 / 2 ^ n.val ∧ (32 : Int) ≤ 33554432 / 2 ^ n.val ∧ (33554432 : Int) / 2 ^ n.val ≤ 33554432 := by decide +kernel
theorem shr_side {z : Int} (h0 : 0 ≤ z) (h1 : z ≤ 20) : shr .i64 33554432 (IntKind.u64.wrap z) = side z ∧ 32 ≤ side z ∧ side z ≤ 33554432 := by
  obtain ⟨n, rfl⟩ := Int.eq_ofNat_of_zero_le h0
  exact shr_side_fin ⟨n, by omega⟩
/-- The tile of a point. -/
def tileX (x z : Int) : Int := Int.tdiv (x + 16777216) (side z)
/-- A point as it is taken. -/
def tk (x y : Int) : Int × Int := if ptOk x y = true then (x, y) else (0, 0)
theorem tk_ok (x y : Int) : ptOk (tk x y).1 (tk x y).2 = true := by
  unfold tk; split
  · assumption
  · decide
def sgn (n : Int) : Int := if n > 0 then 1 else if n < 0 then -1 else 0
theorem sgn_cmp (n : Int) : (if n < 0 then (-1 : Int) else if n > 0 then 1 else 0) = sgn n := by unfold sgn; split <;> split <;> omega
theorem sgn_0 : sgn 0 = 0 := rfl
theorem sgn_zero {n : Int} : sgn n = 0 ↔ n = 0 := by unfold sgn; split <;> (try split) <;> omega
def crossW (a b c d e f : Int) : Int := wrap64 ((wrap64 ((wrap64 (c - a)) * (wrap64 (f - b)))) - (wrap64 ((wrap64 (d - b)) * (wrap64 (e - a)))))
theorem spec_l3Pt_eq (x y : Int) : spec_l3Pt.f x y = some (tk x y) := by
  unfold spec_l3Pt.f tk; simp only [spec_PtOk_eq, Option.bind_some]
  by_cases h : ptOk x y = true <;> simp [h]
theorem impl_taken_eq (x y : Int) : impl_taken.f x y = some (tk x y) := by
  unfold impl_taken.f tk; simp only [impl_PtOk_eq, Option.bind_some]
  by_cases h : ptOk x y = true <;> simp [h]
theorem spec_l3Area_eq (a b c d e f : Int) : spec_l3Area.f a b c d e f = some (crossW a b c d e f) := rfl
theorem impl_cross2_eq (a b c d e f : Int) : impl_cross2.f a b c d e f = some (crossW a b c d e f) := rfl
theorem cmp_isNaN_int_eq (n : Int) : cmp_isNaN_int.f n = some false := by unfold cmp_isNaN_int.f; simp
def cmpI (a b : Int) : Int := if a < b then -1 else if a > b then 1 else 0
theorem cmp_Compare_int_eq (a b : Int) : cmp_Compare_int.f a b = some (cmpI a b) := by
  unfold cmp_Compare_int.f cmpI; simp only [cmp_isNaN_int_eq, Option.bind_some, Bool.false_eq_true, if_false]
  split
  · rfl
  · split <;> rfl
theorem impl_turn_eq (a b c d e f : Int) : impl_turn.f a b c d e f = some (sgn (crossW a b c d e f)) := by
  unfold impl_turn.f; simp only [impl_cross2_eq, cmp_Compare_int_eq, Option.bind_some]
  congr 1; unfold cmpI; exact sgn_cmp _
def turnW (a b c d e f : Int) : Int := sgn (crossW (tk a b).1 (tk a b).2 (tk c d).1 (tk c d).2 (tk e f).1 (tk e f).2)
theorem impl_Turn_eq (a b c d e f : Int) : impl_Turn.f a b c d e f = some (turnW a b c d e f) := by
  unfold impl_Turn.f turnW; simp only [impl_taken_eq, impl_turn_eq, Option.bind_some]
def betw (a b n : Int) : Bool := decide (min a b ≤ n) && decide (n ≤ max a b)
def onSegW (a b c d e f : Int) : Bool := decide (crossW a b c d e f = 0) && betw a c e && betw b d f
theorem impl_isBetween_eq (n a b : Int) : impl_isBetween.f n a b = some (betw a b n) := by
  unfold impl_isBetween.f betw; simp only [impl_inRange_eq, Option.bind_some, mx_eq, mn_eq]
theorem impl_onSeg_eq (a b c d e f : Int) : impl_onSeg.f a b c d e f = some (onSegW a b c d e f) := by
  unfold impl_onSeg.f onSegW; simp only [impl_turn_eq, impl_isBetween_eq, Option.bind_some]
  have z := @sgn_zero (crossW a b c d e f)
  generalize crossW a b c d e f = x at z ⊢
  generalize betw a c e = B
  generalize betw b d f = C
  by_cases h : x = 0 <;> cases B <;> cases C <;> simp [z, h, sgn_0]
def onSegT (a b c d e f : Int) : Bool := onSegW (tk a b).1 (tk a b).2 (tk c d).1 (tk c d).2 (tk e f).1 (tk e f).2
theorem impl_OnSeg_eq (a b c d e f : Int) : impl_OnSeg.f a b c d e f = some (onSegT a b c d e f) := by
  unfold impl_OnSeg.f onSegT; simp only [impl_taken_eq, impl_onSeg_eq, Option.bind_some]
def squareW (a b c d : Int) : Int := wrap64 ((wrap64 ((wrap64 (a - c)) * (wrap64 (a - c)))) + (wrap64 ((wrap64 (b - d)) * (wrap64 (b - d)))))
def gapW (a b c d x y : Int) : Int := if boxOk a b c d = true ∧ ptOk x y = true then squareW x y (max a (min x c)) (max b (min y d)) else -1
def l3MeetW (a b c d e f g h : Int) : Bool :=
  onSegW a b c d e f || onSegW a b c d g h || onSegW e f g h a b || onSegW e f g h c d ||
    (decide (wrap64 (sgn (crossW a b c d e f) * sgn (crossW a b c d g h)) < 0) && decide (wrap64 (sgn (crossW e f g h a b) * sgn (crossW e f g h c d)) < 0))
def meetW (a b c d e f g h : Int) : Bool := l3MeetW (tk a b).1 (tk a b).2 (tk c d).1 (tk c d).2 (tk e f).1 (tk e f).2 (tk g h).1 (tk g h).2
/-- What Join computes. -/
def joinW (a b c d e f g h : Int) : Int × Int × Int × Int :=
  if boxOk a b c d = true then (if boxOk e f g h = true then (min a e, min b f, max c g, max d h) else (a, b, c, d))
  else (if boxOk e f g h = true then (e, f, g, h) else (0, 0, 0, 0))
def grownW (a b c d e f g h : Int) : Int := area (joinW a b c d e f g h).1 (joinW a b c d e f g h).2.1 (joinW a b c d e f g h).2.2.1 (joinW a b c d e f g h).2.2.2 - area a b c d
theorem grown_wrap (a b c d e f g h : Int) : wrap64 (area (joinW a b c d e f g h).1 (joinW a b c d e f g h).2.1 (joinW a b c d e f g h).2.2.1 (joinW a b c d e f g h).2.2.2 - area a b c d) = grownW a b c d e f g h := by
  have a1 := area_bounds a b c d
  have a2 := area_bounds (joinW a b c d e f g h).1 (joinW a b c d e f g h).2.1 (joinW a b c d e f g h).2.2.1 (joinW a b c d e f g h).2.2.2
  exact wrap_in (by omega) (by omega)
theorem side_fin : ∀ n : Fin 21, (33554432 : Int) / 2 ^ n.val * 2 ^ n.val = 33554432 := by decide +kernel
theorem side_mul {z : Int} (h0 : 0 ≤ z) (h1 : z ≤ 20) : side z * 2 ^ z.toNat = 33554432 := by
  obtain ⟨n, rfl⟩ := Int.eq_ofNat_of_zero_le h0
  exact side_fin ⟨n, by omega⟩
theorem tile_span {z x : Int} (h0 : 0 ≤ z) (h1 : z ≤ 20) (x0 : 0 ≤ x) (x1 : x ≤ 2 ^ z.toNat - 1) : 0 ≤ x * side z ∧ (x + 1) * side z = x * side z + side z ∧ x * side z + side z ≤ 33554432 ∧ 32 ≤ side z := by
  have hs := (shr_side h0 h1).2
  have e : (x + 1) * side z = x * side z + side z := by rw [Int.add_mul, Int.one_mul]
  refine ⟨Int.mul_nonneg x0 (by omega), e, ?_, hs.1⟩
  rw [← e, ← side_mul h0 h1, Int.mul_comm (side z)]
  exact Int.mul_le_mul_of_nonneg_right (by omega) (by omega)
/-- What TileBox computes. -/
def tileBoxW (z x y : Int) : Int × Int × Int × Int × Bool :=
  if tileOk z x y = true ∧ boxOk (max (x * side z - 16777216) (-10000000)) (max (y * side z - 16777216) (-10000000)) (min (x * side z - 16777216 + side z - 1) 10000000) (min (y * side z - 16777216 + side z - 1) 10000000) = true then
    (max (x * side z - 16777216) (-10000000), max (y * side z - 16777216) (-10000000), min (x * side z - 16777216 + side z - 1) 10000000, min (y * side z - 16777216 + side z - 1) 10000000, true)
  else (0, 0, 0, 0, false)
theorem tileOk_iff {z x y : Int} : tileOk z x y = true ↔ (0 ≤ z ∧ z ≤ 20) ∧ (0 ≤ x ∧ x ≤ 2 ^ z.toNat - 1) ∧ (0 ≤ y ∧ y ≤ 2 ^ z.toNat - 1) := by
  simp [tileOk, and_assoc]
/-! The draws answer, whatever the bytes are. -/
def St (l : List Int) (i : Int) : Prop := 0 ≤ i ∧ i ≤ l.length
theorem and255 (x : Int) : 0 ≤ Go.bits .and .i64 x 255 ∧ Go.bits .and .i64 x 255 ≤ 255 := by
  have h : ((BitVec.ofInt 64 x &&& BitVec.ofInt 64 255).toNat) ≤ 255 := by
    rw [BitVec.toNat_and]
    exact Nat.le_trans Nat.and_le_right (by decide)
  have e : Go.bits .and .i64 x 255 = IntKind.i64.wrap ((BitVec.ofInt 64 x &&& BitVec.ofInt 64 255).toNat : Int) := rfl
  rw [e, IntKind.wrap_i64]
  generalize (BitVec.ofInt 64 x &&& BitVec.ofInt 64 255).toNat = m at h ⊢
  omega
theorem byte_ok {l : List Int} (hl : l.length ≤ 140737488351232) {i h : Int} (s : St l i) : ∃ b i' h', spec_l1Byte.f l i h = some (b, i', h') ∧ 0 ≤ b ∧ b ≤ 255 ∧ St l i' := by
  obtain ⟨s0, s1⟩ := s
  unfold spec_l1Byte.f
  by_cases c : i < (l.length : Int)
  · rw [if_pos c, if_pos s0]
    refine ⟨_, _, _, rfl, (and255 _).1, (and255 _).2, ?_⟩
    rw [wrap_in (by omega) (by omega)]; exact ⟨by omega, by omega⟩
  · rw [if_neg c]
    exact ⟨_, _, _, rfl, (and255 _).1, (and255 _).2, s0, s1⟩
theorem tmod_range {x n : Int} (h0 : 0 ≤ x) (hn : 0 < n) : 0 ≤ Int.tmod x n ∧ Int.tmod x n < n := by
  rw [Int.tmod_eq_emod_of_nonneg h0]
  exact ⟨Int.emod_nonneg _ (by omega), Int.emod_lt_of_pos _ hn⟩
theorem below_ok {l : List Int} (hl : l.length ≤ 140737488351232) {i h n : Int} (s : St l i) :
    ∃ x i' h', spec_l1Below.f l i h n = some (x, i', h') ∧ St l i' ∧ 0 ≤ x ∧ (0 < n → x < n) ∧ (n ≤ 0 → x = 0) := by
  unfold spec_l1Below.f
  by_cases c : n ≤ 0
  · rw [if_pos c]; exact ⟨_, _, _, rfl, s, by decide, by omega, fun _ => rfl⟩
  · rw [if_neg c]
    by_cases c2 : n ≤ 256
    · rw [if_pos c2]
      obtain ⟨b, i1, h1, e, b0, b1, s1⟩ := byte_ok hl (h := h) s
      rw [e]; simp only [Option.bind_some]; rw [if_neg (by omega)]
      have := tmod_range b0 (show 0 < n by omega)
      exact ⟨_, _, _, rfl, s1, this.1, fun _ => this.2, by omega⟩
    · rw [if_neg c2]
      obtain ⟨b, i1, h1, e, b0, b1, s1⟩ := byte_ok hl (h := h) s
      obtain ⟨b', i2, h2, e2, b0', b1', s2⟩ := byte_ok hl (h := h1) s1
      obtain ⟨b'', i3, h3, e3, b0'', b1'', s3⟩ := byte_ok hl (h := h2) s2
      rw [e]; simp only [Option.bind_some]; rw [e2]; simp only [Option.bind_some]; rw [e3]; simp only [Option.bind_some]; rw [if_neg (by omega)]
      have nn : 0 ≤ wrap64 (wrap64 (wrap64 (b * 65536) + wrap64 (b' * 256)) + b'') := by
        rw [wrap_in (x := b * 65536) (by omega) (by omega), wrap_in (x := b' * 256) (by omega) (by omega), wrap_in (x := b * 65536 + b' * 256) (by omega) (by omega), wrap_in (by omega) (by omega)]; omega
      have := tmod_range nn (show 0 < n by omega)
      exact ⟨_, _, _, rfl, s3, this.1, fun _ => this.2, by omega⟩
theorem once_ok {l : List Int} (hl : l.length ≤ 140737488351232) {i h : Int} (n : Int) (s : St l i) : ∃ b i' h', spec_l1Once.f l i h n = some (b, i', h') ∧ St l i' := by
  obtain ⟨x, i1, h1, e, s1, _⟩ := below_ok hl (h := h) (n := n) s
  unfold spec_l1Once.f; rw [e]; exact ⟨_, _, _, rfl, s1⟩
theorem int_ok {l : List Int} (hl : l.length ≤ 140737488351232) {i h : Int} (xs : List Int) (hx : 0 < xs.length) (s : St l i) : ∃ v i' h', spec_l1Int.f l i h xs = some (v, i', h') ∧ v ∈ xs ∧ St l i' := by
  obtain ⟨x, i1, h1, e, s1, x0, x1, _⟩ := below_ok hl (h := h) (n := (xs.length : Int)) s
  have hx1 := x1 (by omega)
  unfold spec_l1Int.f; rw [e]; simp only [Option.bind_some]; rw [if_pos x0, if_pos hx1]
  refine ⟨_, _, _, rfl, ?_, s1⟩
  unfold rd
  have hlt : x.toNat < xs.length := by omega
  rw [List.getD_eq_getElem?_getD, List.getElem?_eq_getElem hlt]
  exact List.getElem_mem hlt
theorem new_loop (l : List Int) (hl : l.length ≤ 140737488351232) : ∀ (d i k : Nat) (h : Int), i + d = l.length → d < k → ∃ h', spec_l1New.l0 k l h (i : Int) = some (l, 0, h') := by
  intro d
  induction d with
  | zero =>
    intro i k h hi hk
    obtain ⟨k, rfl⟩ : ∃ m, k = m + 1 := ⟨k - 1, by omega⟩
    simp only [spec_l1New.l0]; rw [if_neg (by omega)]; exact ⟨_, rfl⟩
  | succ d ih =>
    intro i k h hi hk
    obtain ⟨k, rfl⟩ : ∃ m, k = m + 1 := ⟨k - 1, by omega⟩
    simp only [spec_l1New.l0]; rw [if_pos (by omega)]
    by_cases c : (i : Int) < 4000
    · rw [if_pos c, if_pos (by omega), show wrap64 ((i : Int) + 1) = ((i + 1 : Nat) : Int) by rw [wrap_in (by omega) (by omega)]; omega]
      exact ih (i + 1) k _ (by omega) (by omega)
    · rw [if_neg c]; exact ⟨_, rfl⟩
theorem new_ok (l : List Int) (hl : l.length ≤ 140737488351232) {k : Nat} (hk : l.length < k) : ∃ h, spec_l1New.f k l = some (l, 0, h) := by
  unfold spec_l1New.f; exact new_loop l hl l.length 0 k _ (by omega) hk
theorem st0 (l : List Int) : St l 0 := ⟨by decide, by omega⟩
theorem draw3_ok {l : List Int} (hl : l.length ≤ 140737488351232) {i h : Int} {k : Nat} (hk : 1 ≤ k) (s : St l i) : ∃ x y i' h', spec_l3Draw.f k l i h = some (x, y, i', h') ∧ St l i' := by
  obtain ⟨k, rfl⟩ : ∃ m, k = m + 1 := ⟨k - 1, by omega⟩
  obtain ⟨b1, i1, h1, e1, s1, _⟩ := below_ok hl (h := h) (n := 9) s
  obtain ⟨b2, i2, h2, e2, s2, _⟩ := below_ok hl (h := h1) (n := 9) s1
  obtain ⟨b3, i3, h3, e3, s3⟩ := once_ok hl (h := h2) 8 s2
  have tail : ∀ (x y i h : Int), St l i → ∃ x' y' i' h', spec_l3Draw.j0 (k + 1) l i h x y = some (x', y', i', h') ∧ St l i' := by
    intro x y i h s
    simp only [spec_l3Draw.j0]
    obtain ⟨b4, i4, h4, e4, s4⟩ := once_ok hl (h := h) 8 s
    rw [e4]; simp only [Option.bind_some]
    cases b4
    · exact ⟨_, _, _, _, rfl, s4⟩
    · rw [if_pos rfl]
      obtain ⟨v, i5, h5, e5, _, s5⟩ := int_ok hl (h := h4) ([(-10000000), 10000000, 9999998, 7654321, (-10000001), 9223372036854775807] : List Int) (by decide) s4
      rw [e5]; exact ⟨_, _, _, _, rfl, s5⟩
  unfold spec_l3Draw.f
  rw [e1]; simp only [Option.bind_some]; rw [e2]; simp only [Option.bind_some]; rw [e3]; simp only [Option.bind_some]
  cases b3
  · exact tail _ _ _ _ s3
  · rw [if_pos rfl]
    obtain ⟨v, i5, h5, e5, _, s5⟩ := int_ok hl (h := h3) ([(-10000000), 10000000, 9999999, 1234567, 10000001, (-9223372036854775808)] : List Int) (by decide) s3
    rw [e5]; exact tail _ _ _ _ s5
/-! The hull: both sides over one sorted list, one chain. -/
theorem rd67_at (P : List S67) (r : S67) (R : List S67) : rd_T67 (P ++ r :: R) (P.length : Int) = r := by
  simp [rd_T67]
def rightP (l : List S67) : Bool := l.all (fun p => ptOk p.f0 p.f1) && decide ((l.length : Int) ≤ 500)
theorem sRight_loop : ∀ (R P : List S67) (k : Nat), P.length + R.length ≤ 140737488351232 → R.length < k → P.all (fun p => ptOk p.f0 p.f1) = true →
    spec_l9Right.l0 k (P ++ R) 500 (P.length : Int) = some (rightP (P ++ R)) := by
  intro R
  induction R with
  | nil =>
    intro P k hl hk hP
    obtain ⟨k, rfl⟩ : ∃ m, k = m + 1 := ⟨k - 1, by omega⟩
    simp only [spec_l9Right.l0]; rw [if_neg (by simp)]; simp [rightP, hP]
  | cons r R ih =>
    intro P k hl hk hP
    simp only [List.length_cons] at hl hk
    obtain ⟨k, rfl⟩ : ∃ m, k = m + 1 := ⟨k - 1, by omega⟩
    simp only [spec_l9Right.l0]
    rw [if_pos (by simp; omega), if_pos (by omega), rd67_at, spec_PtOk_eq, Option.bind_some]
    by_cases h : ptOk r.f0 r.f1 = true
    · rw [if_pos h, show wrap64 ((P.length : Int) + 1) = ((P ++ [r]).length : Int) by rw [wrap_in (by omega) (by omega)]; simp]
      have := ih (P ++ [r]) k (by simp; omega) (by omega) (by simp [hP, h])
      simpa using this
    · rw [if_neg h]; simp [rightP, h]
theorem spec_right_eq (l : List S67) (hl : l.length ≤ 140737488351232) {k : Nat} (hk : l.length < k) : spec_l9Right.f k l 500 = some (rightP l) := by
  unfold spec_l9Right.f; exact sRight_loop l [] k (by simp; omega) hk rfl
theorem iRight_loop : ∀ (R P : List S67) (k : Nat), P.length + R.length ≤ 140737488351232 → R.length < k → P.all (fun p => ptOk p.f0 p.f1) = true →
    impl_areRight.l0 k (P ++ R) (P ++ R) ((P ++ R).length : Int) (P.length : Int) = some (rightP (P ++ R)) := by
  intro R
  induction R with
  | nil =>
    intro P k hl hk hP
    obtain ⟨k, rfl⟩ : ∃ m, k = m + 1 := ⟨k - 1, by omega⟩
    simp only [impl_areRight.l0]; rw [if_neg (by simp)]; simp [rightP, hP]
  | cons r R ih =>
    intro P k hl hk hP
    simp only [List.length_cons] at hl hk
    obtain ⟨k, rfl⟩ : ∃ m, k = m + 1 := ⟨k - 1, by omega⟩
    simp only [impl_areRight.l0]
    rw [if_pos (by simp; omega), if_pos (by omega), if_pos (by simp; omega), rd67_at, impl_PtOk_eq, Option.bind_some]
    by_cases h : ptOk r.f0 r.f1 = true
    · rw [if_pos h, show wrap64 ((P.length : Int) + 1) = ((P ++ [r]).length : Int) by rw [wrap_in (by omega) (by omega)]; simp]
      have := ih (P ++ [r]) k (by simp; omega) (by omega) (by simp [hP, h])
      simpa using this
    · rw [if_neg h]; simp [rightP, h]
theorem impl_right_eq (l : List S67) (hl : l.length ≤ 140737488351232) {k : Nat} (hk : l.length < k) : impl_areRight.f k l = some (rightP l) := by
  unfold impl_areRight.f; exact iRight_loop l [] k (by simp; omega) hk rfl
theorem rightP_len {l : List S67} (h : rightP l = true) : l.length ≤ 500 := by
  simp only [rightP, Bool.and_eq_true, decide_eq_true_eq] at h; omega
theorem rightP_ok {l : List S67} (h : rightP l = true) : ∀ p ∈ l, ptOk p.f0 p.f1 = true := by
  simp only [rightP, Bool.and_eq_true, List.all_eq_true] at h; exact h.1
/-! sorted, each once -/
def ltP (x y : S67) : Prop := x.f0 < y.f0 ∨ x.f0 = y.f0 ∧ x.f1 < y.f1
instance (x y : S67) : Decidable (ltP x y) := by unfold ltP; infer_instance
theorem ltP_tri (x y : S67) : ltP x y ∨ x = y ∨ ltP y x := by
  cases x with | mk a b => cases y with | mk c d =>
  simp only [ltP, S67.mk.injEq]; omega
theorem ltP_trans {x y z : S67} (h : ltP x y) (k : ltP y z) : ltP x z := by unfold ltP at *; omega
theorem ltP_irr {x : S67} (h : ltP x x) : False := by unfold ltP at h; omega
def ins (v : S67) : List S67 → List S67
  | [] => [v]
  | x :: xs => if ltP v x then v :: x :: xs else if x.f0 = v.f0 ∧ x.f1 = v.f1 then x :: xs else x :: ins v xs
theorem ext67 {x y : S67} (h : x.f0 = y.f0) (k : x.f1 = y.f1) : x = y := by cases x; cases y; simp_all
theorem ins_mem (v : S67) : ∀ (S : List S67) (x : S67), x ∈ ins v S ↔ x = v ∨ x ∈ S
  | [], x => by simp [ins]
  | y :: S, x => by
    unfold ins
    split
    · simp
    · split
      · rename_i h
        have := ext67 h.1 h.2
        subst this
        simp
      · rw [List.mem_cons, ins_mem v S, List.mem_cons]
        constructor
        · rintro (h | h | h) <;> simp [h]
        · rintro (h | h | h) <;> simp [h]
theorem ins_sorted (v : S67) : ∀ (S : List S67), S.Pairwise ltP → (ins v S).Pairwise ltP
  | [], _ => by simp [ins]
  | y :: S, h => by
    obtain ⟨h1, h2⟩ := List.pairwise_cons.1 h
    unfold ins
    split
    · rename_i c
      refine List.pairwise_cons.2 ⟨?_, h⟩
      intro z hz
      rcases List.mem_cons.1 hz with rfl | hz
      · exact c
      · exact ltP_trans c (h1 z hz)
    · rename_i c
      split
      · exact h
      · rename_i d
        refine List.pairwise_cons.2 ⟨?_, ins_sorted v S h2⟩
        intro z hz
        rcases (ins_mem v S z).1 hz with rfl | hz
        · rcases ltP_tri y z with e | e | e
          · exact e
          · subst e; exact absurd ⟨rfl, rfl⟩ d
          · exact absurd e c
        · exact h1 z hz
theorem sorted_uniq : ∀ (A B : List S67), A.Pairwise ltP → B.Pairwise ltP → (∀ x, x ∈ A ↔ x ∈ B) → A = B
  | [], [], _, _, _ => rfl
  | [], b :: B, _, _, h => absurd ((h b).2 (by simp)) (by simp)
  | a :: A, [], _, _, h => absurd ((h a).1 (by simp)) (by simp)
  | a :: A, b :: B, hA, hB, h => by
    obtain ⟨a1, a2⟩ := List.pairwise_cons.1 hA
    obtain ⟨b1, b2⟩ := List.pairwise_cons.1 hB
    have e : a = b := by
      have x1 := (h a).1 (by simp)
      have x2 := (h b).2 (by simp)
      rcases List.mem_cons.1 x1 with e | e
      · exact e
      · rcases List.mem_cons.1 x2 with e2 | e2
        · exact e2.symm
        · exact absurd (ltP_trans (b1 a e) (a1 b e2)) ltP_irr
    subst e
    rw [sorted_uniq A B a2 b2 (fun x => by
      constructor
      · intro hx
        rcases List.mem_cons.1 ((h x).1 (List.mem_cons_of_mem _ hx)) with e | e
        · subst e; exact absurd (a1 x hx) ltP_irr
        · exact e
      · intro hx
        rcases List.mem_cons.1 ((h x).2 (List.mem_cons_of_mem _ hx)) with e | e
        · subst e; exact absurd (b1 x hx) ltP_irr
        · exact e)]
def insAll (l S : List S67) : List S67 := l.foldl (fun S v => ins v S) S
theorem insAll_spec : ∀ (l S : List S67), S.Pairwise ltP → (insAll l S).Pairwise ltP ∧ ∀ x, x ∈ insAll l S ↔ x ∈ l ∨ x ∈ S
  | [], S, h => ⟨h, by simp [insAll]⟩
  | v :: l, S, h => by
    obtain ⟨h1, h2⟩ := insAll_spec l (ins v S) (ins_sorted v S h)
    refine ⟨h1, fun x => ?_⟩
    show x ∈ insAll l (ins v S) ↔ _
    rw [h2 x, ins_mem, List.mem_cons]
    constructor
    · rintro (a | a | a) <;> simp [a]
    · rintro ((a | a) | a) <;> simp [a]
def srt (l : List S67) : List S67 := insAll l []
theorem srt_sorted (l : List S67) : (srt l).Pairwise ltP := (insAll_spec l [] List.Pairwise.nil).1
theorem srt_mem (l : List S67) (x : S67) : x ∈ srt l ↔ x ∈ l := by rw [srt, (insAll_spec l [] List.Pairwise.nil).2 x]; simp
theorem ins_len (v : S67) : ∀ (S : List S67), (ins v S).length ≤ S.length + 1
  | [] => by simp [ins]
  | y :: S => by
    unfold ins
    split
    · simp
    · split
      · simp
      · have := ins_len v S; simp only [List.length_cons]; omega
theorem insAll_len : ∀ (l S : List S67), (insAll l S).length ≤ l.length + S.length
  | [], S => by simp [insAll]
  | v :: l, S => by
    have h1 := insAll_len l (ins v S)
    have h2 := ins_len v S
    show (insAll l (ins v S)).length ≤ _
    simp only [List.length_cons]; omega
theorem srt_len (l : List S67) : (srt l).length ≤ l.length := by have := insAll_len l []; simpa [srt] using this
/-! spec.l9Sorted -/
theorem less_eq (x y : S67) : spec_l9Less.f x.f0 x.f1 y.f0 y.f1 = some (decide (ltP x y)) := by
  unfold spec_l9Less.f ltP
  by_cases h : x.f0 < y.f0
  · rw [if_pos h]; simp [h]
  · rw [if_neg h]
    by_cases h2 : x.f0 = y.f0
    · rw [if_pos h2]; simp [h2]
    · rw [if_neg h2]; simp [h, h2]
theorem eqB67 (x y : S67) : ((x.f0 == y.f0) && (x.f1 == y.f1)) = decide (x.f0 = y.f0 ∧ x.f1 = y.f1) := by
  by_cases h : x.f0 = y.f0 <;> by_cases h2 : x.f1 = y.f1 <;> simp [h, h2]
theorem eqB67' (x y : S67) : (x.f0 == y.f0 && (x.f1 == y.f1)) = true ↔ x = y := by
  cases x with | mk a b => cases y with | mk c d => simp
/-- The last loop of an insertion: what lies from the place on goes one on. -/
theorem sShift (x0 : List S67) (i : Nat) (v : S67) (hi : i < x0.length) (hv : rd_T67 x0 (i : Int) = v) : ∀ (B A C : List S67) (k : Nat), A.length + B.length + C.length + 2 ≤ 140737488351232 →
    ∀ (g : S67), spec_l9Sorted.l2 (k + B.length + 1) x0 (A ++ B ++ g :: C) (i : Int) (A.length : Int) ((A.length + B.length : Nat) : Int) = spec_l9Sorted.l0 k x0 (A ++ v :: B ++ C) (wrap64 ((i : Int) + 1)) := by
  intro B
  induction hn : B.length generalizing B with
  | zero =>
    intro A C k hl g
    have : B = [] := List.length_eq_zero_iff.1 hn
    subst this
    simp only [Nat.add_zero, spec_l9Sorted.l2]
    rw [if_neg (by simp), if_pos (by omega), if_pos (by omega), hv, if_pos (by omega), if_pos (by simp; omega)]
    simp
  | succ n ih =>
    intro A C k hl g
    obtain ⟨B', b, rfl⟩ : ∃ B' b, B = B' ++ [b] := ⟨B.dropLast, B.getLast (by intro e; simp [e] at hn), (List.dropLast_concat_getLast _).symm⟩
    have hn' : B'.length = n := by simpa using hn
    rw [show k + (n + 1) + 1 = (k + n + 1) + 1 by omega, spec_l9Sorted.l2]
    have e1 : wrap64 (((A.length + (n + 1) : Nat) : Int) - 1) = ((A.length + n : Nat) : Int) := by rw [wrap_in (by omega) (by omega)]; omega
    have hrd : rd_T67 (A ++ (B' ++ [b]) ++ g :: C) ((A.length + n : Nat) : Int) = b := by
      have := rd67_at (A ++ B') b (g :: C)
      simp only [List.length_append, hn'] at this
      simpa [List.append_assoc] using this
    rw [if_pos (by omega), e1, if_pos (by omega), if_pos (by simp; omega), if_pos (by omega), if_pos (by simp; omega), hrd]
    have hset : (A ++ (B' ++ [b]) ++ g :: C).set (((A.length + (n + 1) : Nat) : Int)).toNat ⟨b.f0, b.f1⟩ = A ++ B' ++ b :: (b :: C) := by
      rw [Int.toNat_natCast, show A ++ (B' ++ [b]) ++ g :: C = (A ++ B' ++ [b]) ++ g :: C by simp, List.set_append_right _ _ (by simp; omega)]
      simp [hn']
    rw [hset]
    have := ih B' hn' A (b :: C) k (by simp only [List.length_cons]; omega) b
    rw [this]
    simp
theorem ins_place (v : S67) : ∀ (A B : List S67), (∀ a ∈ A, ltP a v) → ins v (A ++ B) = A ++ ins v B
  | [], B, _ => rfl
  | a :: A, B, h => by
    have ha := h a (by simp)
    rw [List.cons_append, ins, if_neg (fun c => ltP_irr (ltP_trans c ha)), if_neg (fun c => by have := ext67 c.1 c.2; subst this; exact ltP_irr ha), ins_place v A B (fun x hx => h x (List.mem_cons_of_mem _ hx))]; rfl
theorem ins_front (v : S67) (B : List S67) (h : ∀ b ∈ B, ltP v b) : ins v B = v :: B := by
  cases B with
  | nil => rfl
  | cons b B => rw [ins, if_pos (h b (by simp))]
theorem sPlace (x0 : List S67) (i : Nat) (v : S67) (hi : i < x0.length) (hv : rd_T67 x0 (i : Int) = v) (S : List S67) (hS : S.Pairwise ltP) (hl : S.length + x0.length + 4 ≤ 4398046511104) :
    ∀ (A B : List S67), S = A ++ B → (∀ b ∈ B, ltP v b) → ∃ c, c ≤ A.length + S.length + 6 ∧ ∀ k, spec_l9Sorted.l1 (k + c) x0 S (i : Int) (A.length : Int) = spec_l9Sorted.l0 k x0 (ins v S) (wrap64 ((i : Int) + 1)) := by
  intro A
  induction hn : A.length generalizing A with
  | zero =>
    intro B e hB
    have : A = [] := List.length_eq_zero_iff.1 hn
    subst this
    rw [List.nil_append] at e
    subst e
    refine ⟨S.length + 4, by omega, fun k => ?_⟩
    have e0 : ((0 : Nat) : Int) = 0 := rfl
    rw [show k + (S.length + 4) = (k + S.length + 1) + 1 + 1 + 1 by omega]
    simp only [spec_l9Sorted.l1, e0]
    rw [if_neg (by omega)]
    simp only [spec_l9Sorted.j2]
    rw [if_neg (by omega)]
    simp only [spec_l9Sorted.j3, Bool.false_eq_true, if_false]
    rw [if_pos (by omega), if_pos (by omega), if_pos (by omega), hv, Option.bind_some]
    have := sShift x0 i v hi hv S [] [] k (by simp; omega) ⟨v.f0, v.f1⟩
    simp only [List.nil_append, List.length_nil, Nat.zero_add, List.append_nil, List.length_append, List.length_cons] at this ⊢
    rw [show wrap64 (((S.length + 1 : Nat) : Int) - 1) = ((S.length : Nat) : Int) by rw [wrap_in (by omega) (by omega)]; omega]
    have e0' : ((0 : Nat) : Int) = 0 := rfl
    rw [e0'] at this
    rw [this, ins_front v S hB]
  | succ n ih =>
    intro B e hB
    obtain ⟨A', a, rfl⟩ : ∃ A' a, A = A' ++ [a] := ⟨A.dropLast, A.getLast (by intro e; simp [e] at hn), (List.dropLast_concat_getLast _).symm⟩
    have hn' : A'.length = n := by simpa using hn
    have hrd : rd_T67 S (n : Int) = a := by
      rw [e]
      have := rd67_at A' a B
      rw [hn'] at this
      simpa [List.append_assoc] using this
    have hln : n + 1 + B.length = S.length := by rw [e]; simp [hn']; omega
    have e1 : wrap64 (((n + 1 : Nat) : Int) - 1) = (n : Int) := by rw [wrap_in (by omega) (by omega)]; omega
    by_cases hva : ltP v a
    · obtain ⟨c, hc, h⟩ := ih A' hn' (a :: B) (by rw [e]; simp) (fun b hb => by rcases List.mem_cons.1 hb with rfl | hb; exact hva; exact hB b hb)
      refine ⟨c + 1, by omega, fun k => ?_⟩
      rw [show k + (c + 1) = (k + c) + 1 by omega, spec_l9Sorted.l1]
      rw [if_pos (by omega), if_pos (by omega), if_pos (by omega), e1, if_pos (by omega), if_pos (by omega), hv, hrd, less_eq, Option.bind_some, if_pos (by simp [hva]), h]
    · by_cases hav : a = v
      · refine ⟨3, by omega, fun k => ?_⟩
        rw [show k + 3 = k + 1 + 1 + 1 by omega, spec_l9Sorted.l1]
        rw [if_pos (by omega), if_pos (by omega), if_pos (by omega), e1, if_pos (by omega), if_pos (by omega), hv, hrd, less_eq, Option.bind_some, if_neg (by simp [hva])]
        rw [spec_l9Sorted.j2, if_pos (by omega), e1, if_pos (by omega), if_pos (by omega), if_pos (by omega), if_pos (by omega), hv, hrd, show ((a.f0 == v.f0) && (a.f1 == v.f1)) = true by rw [hav]; simp]
        rw [spec_l9Sorted.j3, if_pos rfl]
        subst hav
        have hA' : ∀ x ∈ A', ltP x a := by
          intro x hx
          rw [e, List.append_assoc] at hS
          exact (List.pairwise_append.1 hS).2.2 x hx a (by simp)
        rw [e, List.append_assoc, ins_place a A' _ hA']
        simp [ins, ltP]
      · have hlt : ltP a v := by
          rcases ltP_tri v a with q | q | q
          · exact absurd q hva
          · exact absurd q.symm hav
          · exact q
        have hA : ∀ x ∈ A' ++ [a], ltP x v := by
          intro x hx
          rcases List.mem_append.1 hx with hx | hx
          · rw [e, List.append_assoc] at hS
            exact ltP_trans ((List.pairwise_append.1 hS).2.2 x hx a (by simp)) hlt
          · have : x = a := by simpa using hx
            subst this; exact hlt
        refine ⟨B.length + 4, by omega, fun k => ?_⟩
        rw [show k + (B.length + 4) = (k + B.length + 1) + 1 + 1 + 1 by omega, spec_l9Sorted.l1]
        rw [if_pos (by omega), if_pos (by omega), if_pos (by omega), e1, if_pos (by omega), if_pos (by omega), hv, hrd, less_eq, Option.bind_some, if_neg (by simp [hva])]
        rw [spec_l9Sorted.j2, if_pos (by omega), e1, if_pos (by omega), if_pos (by omega), if_pos (by omega), if_pos (by omega), hv, hrd, show ((a.f0 == v.f0) && (a.f1 == v.f1)) = false by rw [eqB67]; exact decide_eq_false (fun q => hav (ext67 q.1 q.2))]
        rw [spec_l9Sorted.j3, if_neg (by decide), if_pos (by omega), if_pos (by omega), if_pos (by omega), hv, Option.bind_some]
        have := sShift x0 i v hi hv B (A' ++ [a]) [] k (by simp; omega) ⟨v.f0, v.f1⟩
        simp only [List.append_nil] at this
        have e2 : wrap64 (((S ++ [(⟨v.f0, v.f1⟩ : S67)]).length : Int) - 1) = (((A' ++ [a]).length + B.length : Nat) : Int) := by
          rw [List.length_append, List.length_singleton, wrap_in (by omega) (by omega)]; simp [hn']; omega
        rw [e2, show S ++ [(⟨v.f0, v.f1⟩ : S67)] = A' ++ [a] ++ B ++ [(⟨v.f0, v.f1⟩ : S67)] by rw [e], show ((n + 1 : Nat) : Int) = ((A' ++ [a]).length : Int) by simp [hn'], this, e, ins_place v (A' ++ [a]) B hA, ins_front v B hB]
theorem sSorted_loop (x0 : List S67) (hl : x0.length ≤ 1000000) : ∀ (R P S : List S67) (k : Nat), x0 = P ++ R → S.Pairwise ltP → S.length ≤ P.length → R.length * (2 * x0.length + 8) + 1 ≤ k →
    spec_l9Sorted.l0 k x0 S (P.length : Int) = some (insAll R S) := by
  intro R
  induction R with
  | nil =>
    intro P S k e hS hSl hk
    obtain ⟨k, rfl⟩ : ∃ m, k = m + 1 := ⟨k - 1, by omega⟩
    rw [spec_l9Sorted.l0, if_neg (by rw [e]; simp)]; rfl
  | cons r R ih =>
    intro P S k e hS hSl hk
    rw [List.length_cons, Nat.succ_mul] at hk
    have hPl : P.length + (R.length + 1) = x0.length := by rw [e]; simp
    have hrd : rd_T67 x0 (P.length : Int) = r := by rw [e]; exact rd67_at P r R
    obtain ⟨M, hM⟩ : ∃ M, M = R.length * (2 * x0.length + 8) := ⟨_, rfl⟩
    rw [← hM] at hk
    obtain ⟨c, hc, h⟩ := sPlace x0 P.length r (by omega) hrd S hS (by omega) S [] (by simp) (by simp)
    obtain ⟨k, rfl⟩ : ∃ m, k = m + c + 1 := ⟨k - c - 1, by omega⟩
    rw [spec_l9Sorted.l0, if_pos (by omega), h k, show wrap64 ((P.length : Int) + 1) = ((P ++ [r]).length : Int) by rw [wrap_in (by omega) (by omega)]; simp]
    have hi := ins_len r S
    rw [ih (P ++ [r]) (ins r S) k (by rw [e]; simp) (ins_sorted r S hS) (by simp; omega) (by omega)]
    rfl
theorem spec_sorted_eq (l : List S67) (hl : l.length ≤ 500) {k : Nat} (hk : 600000 < k) : spec_l9Sorted.f k l = some (srt l) := by
  unfold spec_l9Sorted.f
  have h2 : l.length * (2 * l.length + 8) ≤ 500 * 1008 := Nat.mul_le_mul hl (by omega)
  exact sSorted_loop l (by omega) l [] [] k rfl List.Pairwise.nil (Nat.le_refl _) (by omega)
/-! slices.Compact -/
instance decEq67 : DecidableEq S67 := fun a b => decidable_of_iff (a.f0 = b.f0 ∧ a.f1 = b.f1) ⟨fun h => ext67 h.1 h.2, fun h => by subst h; exact ⟨rfl, rfl⟩⟩
/-- Of neighbours that are one, the first; behind prev. -/
def dd (prev : S67) : List S67 → List S67
  | [] => []
  | b :: l => if b = prev then dd b l else b :: dd b l
theorem neB67 (x y : S67) : ((!(x.f0 == y.f0)) || (!(x.f1 == y.f1))) = decide (x ≠ y) := by
  cases x with | mk a b => cases y with | mk c d =>
  simp only [ne_eq, S67.mk.injEq]
  by_cases h1 : a = c <;> by_cases h2 : b = d <;> simp [h1, h2]
theorem eqB67d (x y : S67) : (x.f0 == y.f0 && (x.f1 == y.f1)) = decide (x = y) := by
  cases x with | mk a b => cases y with | mk c d =>
  simp only [S67.mk.injEq]
  by_cases h1 : a = c <;> by_cases h2 : b = d <;> simp [h1, h2]
theorem cInner (R : List S67) : ∀ (R2 R1 : List S67) (prev : S67) (K x : List S67) (k : Nat), R = R1 ++ prev :: R2 → x.take K.length = K → K.length + R2.length ≤ x.length → x.length ≤ 1000000 → R.length ≤ 1000000 → R2.length + 1 ≤ k →
    impl_Pt_79.l1 k x (K.length : Int) R ((R1.length + 1 : Nat) : Int) = some (K ++ dd prev R2) := by
  intro R2
  induction R2 with
  | nil =>
    intro R1 prev K x k e ht hl hx hR hk
    obtain ⟨k, rfl⟩ : ∃ m, k = m + 1 := ⟨k - 1, by omega⟩
    have hRl : R.length = R1.length + 1 := by rw [e]; simp
    rw [impl_Pt_79.l1, if_neg (by omega), if_pos (by omega), if_pos (by simp at hl; omega), Int.toNat_natCast, ht]
    simp [dd]
  | cons b R2 ih =>
    intro R1 prev K x k e ht hl hx hR hk
    simp only [List.length_cons] at hl hk
    obtain ⟨k, rfl⟩ : ∃ m, k = m + 1 := ⟨k - 1, by omega⟩
    have hRl : R.length = R1.length + 1 + (R2.length + 1) := by rw [e]; simp; omega
    have e1 : wrap64 (((R1.length + 1 : Nat) : Int) - 1) = (R1.length : Int) := by rw [wrap_in (by omega) (by omega)]; omega
    have r1 : rd_T67 R (R1.length : Int) = prev := by rw [e]; exact rd67_at R1 prev _
    have r2 : rd_T67 R ((R1.length + 1 : Nat) : Int) = b := by
      have := rd67_at (R1 ++ [prev]) b R2
      simp only [List.length_append, List.length_singleton] at this
      rw [e]; simpa [List.append_assoc] using this
    have e2 : wrap64 (((R1.length + 1 : Nat) : Int) + 1) = (((R1 ++ [prev]).length + 1 : Nat) : Int) := by rw [wrap_in (by omega) (by omega)]; simp
    rw [impl_Pt_79.l1, if_pos (by omega), if_pos (by omega), e1, if_pos (by omega), if_pos (by omega), r1, r2, neB67]
    by_cases hb : b = prev
    · rw [if_neg (by simp [hb]), e2, ih (R1 ++ [prev]) b K x k (by rw [e]; simp) ht (by omega) hx hR (by omega)]
      simp [dd, hb]
    · rw [if_pos (by simp [hb]), if_pos (by omega), if_pos (by omega), Int.toNat_natCast, e2]
      have e3 : wrap64 ((K.length : Int) + 1) = ((K ++ [b]).length : Int) := by rw [wrap_in (by omega) (by omega)]; simp
      have ht' : (x.set K.length (⟨b.f0, b.f1⟩ : S67)).take (K ++ [b]).length = K ++ [b] := by
        rw [List.length_append, List.length_singleton, List.take_add_one, List.take_set_of_le (Nat.le_refl _), ht]
        simp [show K.length < x.length by omega]
      rw [e3, ih (R1 ++ [prev]) b (K ++ [b]) _ k (by rw [e]; simp) ht' (by simp; omega) (by simpa using hx) hR (by omega)]
      simp [dd, hb]
theorem cOuter (l : List S67) (hl : l.length ≤ 1000000) : ∀ (R P : List S67) (prev : S67) (k : Nat), l = P ++ prev :: R → R.length + 2 ≤ k →
    impl_Pt_79.l0 k l ((P.length + 1 : Nat) : Int) = some (P ++ prev :: dd prev R) := by
  intro R
  induction R with
  | nil =>
    intro P prev k e hk
    obtain ⟨k, rfl⟩ : ∃ m, k = m + 1 := ⟨k - 1, by omega⟩
    have hRl : l.length = P.length + 1 := by rw [e]; simp
    rw [impl_Pt_79.l0, if_neg (by omega), e]; simp [dd]
  | cons b R ih =>
    intro P prev k e hk
    simp only [List.length_cons] at hk
    obtain ⟨k, rfl⟩ : ∃ m, k = m + 1 := ⟨k - 1, by omega⟩
    have hRl : l.length = P.length + 1 + (R.length + 1) := by rw [e]; simp; omega
    have e1 : wrap64 (((P.length + 1 : Nat) : Int) - 1) = (P.length : Int) := by rw [wrap_in (by omega) (by omega)]; omega
    have r1 : rd_T67 l (P.length : Int) = prev := by rw [e]; exact rd67_at P prev _
    have r2 : rd_T67 l ((P.length + 1 : Nat) : Int) = b := by
      have := rd67_at (P ++ [prev]) b R
      simp only [List.length_append, List.length_singleton] at this
      rw [e]; simpa [List.append_assoc] using this
    rw [impl_Pt_79.l0, if_pos (by omega), if_pos (by omega), e1, if_pos (by omega), if_pos (by omega), r1, r2, eqB67d]
    by_cases hb : b = prev
    · rw [if_pos (by simp [hb]), if_pos (by omega), Int.toNat_natCast]
      have hd : l.drop (P.length + 1) = b :: R := by rw [e]; simp [List.drop_append]
      have := cInner (b :: R) R [] b (P ++ [prev]) l k rfl (by rw [e]; simp [List.take_append, List.take_of_length_le]) (by simp; omega) hl (by simp; omega) (by omega)
      simp only [List.length_append, List.length_singleton, List.length_nil, Nat.zero_add] at this
      rw [hd, show (1 : Int) = ((1 : Nat) : Int) from rfl, this]
      simp [dd, hb]
    · rw [if_neg (by simp [hb])]
      have e2 : wrap64 (((P.length + 1 : Nat) : Int) + 1) = (((P ++ [prev]).length + 1 : Nat) : Int) := by rw [wrap_in (by omega) (by omega)]; simp
      rw [e2, ih (P ++ [prev]) b k (by rw [e]; simp) (by omega)]
      simp [dd, hb]
def ddAll : List S67 → List S67
  | [] => []
  | a :: l => a :: dd a l
theorem compact_eq (l : List S67) (hl : l.length ≤ 1000000) {k : Nat} (hk : l.length + 2 ≤ k) : impl_Pt_79.f k l = some (ddAll l) := by
  unfold impl_Pt_79.f
  match l with
  | [] => rw [if_pos (by decide)]; rfl
  | [a] => rw [if_pos (show (([a] : List S67).length : Int) < 2 by simp)]; rfl
  | a :: b :: l =>
    rw [if_neg (by simp only [List.length_cons]; omega)]
    exact cOuter (a :: b :: l) hl (b :: l) [] a k rfl (by simp only [List.length_cons] at hk ⊢; omega)
theorem dd_spec : ∀ (l : List S67) (prev : S67), (prev :: l).Pairwise (fun x y => (!(lt67 y x)) = true) → (dd prev l).Pairwise ltP ∧ (∀ x ∈ dd prev l, ltP prev x) ∧ ∀ x, x ∈ dd prev l ↔ x ∈ l ∧ x ≠ prev
  | [], prev, _ => ⟨List.Pairwise.nil, by simp [dd], by simp [dd]⟩
  | b :: l, prev, h => by
    obtain ⟨h1, h2⟩ := List.pairwise_cons.1 h
    obtain ⟨d1, d2, d3⟩ := dd_spec l b h2
    have hb := h1 b (by simp)
    simp only [lt67, Bool.not_eq_true', decide_eq_false_iff_not] at hb
    by_cases e : b = prev
    · subst e
      have : dd b (b :: l) = dd b l := by simp [dd]
      rw [this]
      refine ⟨d1, d2, fun x => ?_⟩
      rw [d3 x, List.mem_cons]
      constructor
      · exact fun q => ⟨.inr q.1, q.2⟩
      · rintro ⟨q | q, r⟩
        · exact absurd q r
        · exact ⟨q, r⟩
    · have hlt : ltP prev b := by
        rcases ltP_tri prev b with q | q | q
        · exact q
        · exact absurd q.symm e
        · exact absurd q hb
      have : dd prev (b :: l) = b :: dd b l := by simp [dd, e]
      rw [this]
      refine ⟨List.pairwise_cons.2 ⟨d2, d1⟩, ?_, fun x => ?_⟩
      · intro x hx
        rcases List.mem_cons.1 hx with rfl | hx
        · exact hlt
        · exact ltP_trans hlt (d2 x hx)
      · rw [List.mem_cons, d3 x, List.mem_cons]
        constructor
        · rintro (q | q)
          · subst q; exact ⟨.inl rfl, e⟩
          · refine ⟨.inr q.1, ?_⟩
            intro q2
            subst q2
            have := d2 x ((d3 x).2 q)
            exact ltP_irr (ltP_trans hlt this)
        · rintro ⟨q | q, r⟩
          · exact .inl q
          · by_cases q2 : x = b
            · exact .inl q2
            · exact .inr ⟨q, q2⟩
theorem ddAll_sorted (l : List S67) : ddAll (l.mergeSort fun x y => !(lt67 y x)) = srt l := by
  have hp := List.mergeSort_perm l (fun x y => !(lt67 y x))
  have hs : (l.mergeSort fun x y => !(lt67 y x)).Pairwise (fun x y => (!(lt67 y x)) = true) := by
    apply List.pairwise_mergeSort
    · intro a b c h1 h2
      simp only [lt67, Bool.not_eq_true', decide_eq_false_iff_not] at *
      omega
    · intro a b
      simp only [lt67, Bool.or_eq_true, Bool.not_eq_true', decide_eq_false_iff_not]
      omega
  have hm : ∀ x, x ∈ (l.mergeSort fun x y => !(lt67 y x)) ↔ x ∈ l := fun x => hp.mem_iff
  generalize (l.mergeSort fun x y => !(lt67 y x)) = m at hs hm
  apply sorted_uniq
  · cases m with
    | nil => exact List.Pairwise.nil
    | cons a m =>
      obtain ⟨d1, d2, d3⟩ := dd_spec m a hs
      exact List.pairwise_cons.2 ⟨d2, d1⟩
  · exact srt_sorted l
  · intro x
    rw [srt_mem, ← hm x]
    cases m with
    | nil => simp [ddAll]
    | cons a m =>
      obtain ⟨d1, d2, d3⟩ := dd_spec m a hs
      rw [ddAll, List.mem_cons, d3 x, List.mem_cons]
      by_cases e : x = a <;> simp [e]
/-! the geometry -/
def lp (x y : Int) : Prop := 0 < x ∨ (x = 0 ∧ 0 < y)
def ln (x y : Int) : Prop := 0 < x ∨ (x = 0 ∧ 0 ≤ y)
theorem lp_ln {x y : Int} (h : lp x y) : ln x y := by unfold lp at h; unfold ln; omega
def xp (a b c d : Int) : Int := a * d - b * c

theorem mpos {a b : Int} (h : 0 < a) (k : 0 < a * b) : 0 < b := by
  rcases Int.lt_or_le 0 b with q | q
  · exact q
  · have := Int.mul_nonpos_of_nonneg_of_nonpos (Int.le_of_lt h) q; omega
theorem mnn {a b : Int} (h : 0 < a) (k : 0 ≤ a * b) : 0 ≤ b := by
  rcases Int.lt_or_le b 0 with q | q
  · have := Int.mul_neg_of_pos_of_neg h q; omega
  · exact q

theorem wtrans {ux uy vx vy wx wy : Int} (hu : ln ux uy) (hv : lp vx vy) (hw : ln wx wy) (h1 : 0 ≤ xp ux uy vx vy) (h2 : 0 ≤ xp vx vy wx wy) : 0 ≤ xp ux uy wx wy := by
  unfold xp at *
  rcases hv with v | ⟨rfl, v⟩
  · have e : vx * (ux * wy - uy * wx) = (ux * vy - uy * vx) * wx + (vx * wy - vy * wx) * ux := by grind
    have a := Int.mul_nonneg h1 (show 0 ≤ wx by unfold ln at hw; omega)
    have b := Int.mul_nonneg h2 (show 0 ≤ ux by unfold ln at hu; omega)
    exact mnn v (by omega)
  · have : 0 ≤ vy * (-wx) := by grind
    have := mnn v this
    have w0 : wx = 0 := by unfold ln at hw; omega
    subst w0
    have a := Int.mul_nonneg (show 0 ≤ ux by unfold ln at hu; omega) (show 0 ≤ wy by unfold ln at hw; omega)
    omega

theorem strans1 {ux uy vx vy wx wy : Int} (hu : lp ux uy) (hv : lp vx vy) (hw : lp wx wy) (h1 : 0 < xp ux uy vx vy) (h2 : 0 ≤ xp vx vy wx wy) : 0 < xp ux uy wx wy := by
  unfold xp at *
  have ux0 : 0 < ux := by
    rcases hu with u | ⟨rfl, u⟩
    · exact u
    · exfalso
      have : 0 ≤ uy * vx := Int.mul_nonneg (by omega) (by unfold lp at hv; omega)
      omega
  rcases hv with v | ⟨rfl, v⟩
  · have e : vx * (ux * wy - uy * wx) = (ux * vy - uy * vx) * wx + (vx * wy - vy * wx) * ux := by grind
    rcases hw with w | ⟨rfl, w⟩
    · have a := Int.mul_pos h1 w
      have b := Int.mul_nonneg h2 (show 0 ≤ ux by omega)
      exact mpos v (by omega)
    · have := Int.mul_pos ux0 w; omega
  · have : 0 ≤ vy * (-wx) := by grind
    have := mnn v this
    have w0 : wx = 0 := by unfold lp at hw; omega
    subst w0
    have a := Int.mul_pos ux0 (show 0 < wy by unfold lp at hw; omega)
    omega

theorem strans2 {ux uy vx vy wx wy : Int} (hu : lp ux uy) (hv : lp vx vy) (hw : lp wx wy) (h1 : 0 ≤ xp ux uy vx vy) (h2 : 0 < xp vx vy wx wy) : 0 < xp ux uy wx wy := by
  unfold xp at *
  have vx0 : 0 < vx := by
    rcases hv with v | ⟨rfl, v⟩
    · exact v
    · exfalso
      have : 0 ≤ vy * wx := Int.mul_nonneg (by omega) (by unfold lp at hw; omega)
      omega
  have ux0 : 0 < ux := by
    rcases hu with u | ⟨rfl, u⟩
    · exact u
    · exfalso
      have : 0 < uy * vx := Int.mul_pos (by omega) vx0
      omega
  have e : vx * (ux * wy - uy * wx) = (ux * vy - uy * vx) * wx + (vx * wy - vy * wx) * ux := by grind
  have a := Int.mul_nonneg (show 0 ≤ ux * vy - uy * vx by omega) (show 0 ≤ wx by unfold lp at hw; omega)
  have b := Int.mul_pos h2 ux0
  exact mpos vx0 (by omega)
def cr (a b c : S67) : Int := xp (b.f0 - a.f0) (b.f1 - a.f1) (c.f0 - a.f0) (c.f1 - a.f1)
def lt2 (a b : S67) : Prop := lp (b.f0 - a.f0) (b.f1 - a.f1)
theorem tri (a b : S67) : lt2 a b ∨ a = b ∨ lt2 b a := by
  cases a with | mk a0 a1 => cases b with | mk b0 b1 =>
  simp only [lt2, lp, S67.mk.injEq]; omega
theorem lt2_trans {a b c : S67} (h : lt2 a b) (k : lt2 b c) : lt2 a c := by
  simp only [lt2, lp] at *; omega
theorem lt2_irr {a : S67} (h : lt2 a a) : False := by
  simp only [lt2, lp] at *; omega
theorem cr_aa (a b : S67) : cr a b a = 0 := by simp only [cr, xp]; grind
theorem cr_ab (a b : S67) : cr a b b = 0 := by simp only [cr, xp]; grind
theorem cr_last (a b c : S67) : cr a b c = xp (b.f0 - a.f0) (b.f1 - a.f1) (c.f0 - b.f0) (c.f1 - b.f1) := by simp only [cr, xp]; grind
theorem cr_back (a b c : S67) : cr a b c = xp (b.f0 - c.f0) (b.f1 - c.f1) (b.f0 - a.f0) (b.f1 - a.f1) := by simp only [cr, xp]; grind
theorem cr_swap (a b c : S67) : cr a c b = - cr a b c := by simp only [cr, xp]; grind
theorem cr_four (z s t p : S67) : cr z s p = cr z s t + xp (s.f0 - z.f0) (s.f1 - z.f1) (p.f0 - t.f0) (p.f1 - t.f1) := by simp only [cr, xp]; grind

def pop : List S67 → S67 → List S67
  | t :: s :: r, p => if cr s t p ≤ 0 then pop (s :: r) p else t :: s :: r
  | [a], _ => [a]
  | [], _ => []
def Good (Q : List S67) : List S67 → Prop
  | x :: y :: r => lt2 y x ∧ (∀ q ∈ Q, 0 ≤ cr y x q) ∧ (∀ z, r.head? = some z → 0 < cr z y x) ∧ Good Q (y :: r)
  | _ => True

theorem good_more {Q : List S67} {p : S67} : ∀ (r : List S67) (t s : S67), Good Q (t :: s :: r) → lt2 t p → 0 < cr s t p → Good (p :: Q) (t :: s :: r)
  | [], t, s, h, l, c => by
    obtain ⟨h1, h2, h3, _⟩ := h
    refine ⟨h1, ?_, h3, trivial⟩
    intro q hq
    rcases List.mem_cons.1 hq with rfl | hq
    · omega
    · exact h2 q hq
  | z :: r, t, s, h, l, c => by
    obtain ⟨h1, h2, h3, h4⟩ := h
    have k := h3 z rfl
    refine ⟨h1, ?_, h3, good_more r s z h4 (lt2_trans h1 l) ?_⟩
    · intro q hq
      rcases List.mem_cons.1 hq with rfl | hq
      · omega
      · exact h2 q hq
    · rw [cr_four z s t p]
      have e := k
      rw [cr_last] at e
      rw [cr_last] at c
      have := strans1 (h4.1) h1 l e (by omega)
      omega

theorem pop_good {Q : List S67} {p p0 : S67} (hp0 : ∀ q ∈ Q, q = p0 ∨ lt2 p0 q) (hlt : ∀ q ∈ Q, lt2 q p) : ∀ (st : List S67), Good Q st → st.getLast? = some p0 → (∀ t ∈ st, t ∈ Q) → (∀ t, st.head? = some t → ∀ q ∈ Q, lt2 t q → 0 ≤ cr t p q) → Good (p :: Q) (p :: pop st p)
  | [], _, hl, _, _ => by simp at hl
  | [s], _, hl, hm, hh => by
    have e : s = p0 := by simpa using hl
    subst e
    refine ⟨hlt _ (hm _ (by simp)), ?_, by simp, trivial⟩
    intro q hq
    rcases List.mem_cons.1 hq with rfl | hq
    · rw [cr_ab]; omega
    · rcases hp0 q hq with rfl | h
      · rw [cr_aa]; omega
      · exact hh s rfl q hq h
  | t :: s :: r, hg, hl, hm, hh => by
    rw [pop]
    obtain ⟨h1, h2, h3, h4⟩ := hg
    have ht := hlt t (hm t (by simp))
    have hs := hlt s (hm s (by simp))
    split
    · rename_i c
      refine pop_good hp0 hlt (s :: r) h4 (by simpa using hl) (fun x hx => hm x (List.mem_cons_of_mem _ hx)) ?_
      intro x hx q hq lx
      obtain rfl : s = x := by simpa using hx
      have a := h2 q hq
      rw [cr_swap] at c
      exact wtrans (lp_ln hs) h1 (lp_ln lx) (by unfold cr at c; omega) a
    · rename_i c
      refine ⟨ht, ?_, ?_, good_more r t s ⟨h1, h2, h3, h4⟩ ht (by omega)⟩
      · intro q hq
        rcases List.mem_cons.1 hq with rfl | hq
        · rw [cr_ab]; omega
        · rcases tri q t with l | rfl | l
          · have a := h2 q hq
            rw [cr_back] at a
            have c' : 0 ≤ cr s t p := by omega
            rw [cr_last] at c'
            have := wtrans (lp_ln l) h1 (lp_ln ht) a c'
            have e : cr t p q = xp (t.f0 - q.f0) (t.f1 - q.f1) (p.f0 - t.f0) (p.f1 - t.f1) := by simp only [cr, xp]; grind
            omega
          · rw [cr_aa]; omega
          · exact hh t rfl q hq l
      · intro z hz
        obtain rfl : s = z := by simpa using hz
        omega

theorem pop_suffix (p : S67) : ∀ st : List S67, pop st p <:+ st
  | [] => by simp [pop]
  | [a] => by simp [pop]
  | t :: s :: r => by
    rw [pop]; split
    · exact (pop_suffix p (s :: r)).trans (List.suffix_cons _ _)
    · exact List.suffix_refl _
theorem pop_ne (p : S67) : ∀ st : List S67, st ≠ [] → pop st p ≠ []
  | [], h => absurd rfl h
  | [a], _ => by simp [pop]
  | t :: s :: r, _ => by
    rw [pop]; split
    · exact pop_ne p (s :: r) (by simp)
    · simp
theorem pop_last (p : S67) : ∀ st : List S67, (pop st p).getLast? = st.getLast?
  | [] => by simp [pop]
  | [a] => by simp [pop]
  | t :: s :: r => by
    rw [pop]; split
    · rw [pop_last p (s :: r)]; simp
    · rfl
def chainR (l st : List S67) : List S67 := l.foldl (fun st p => p :: pop st p) st

structure Inv (p0 : S67) (Q st : List S67) : Prop where
  ne : st ≠ []
  good : Good Q st
  last : st.getLast? = some p0
  sub : ∀ t ∈ st, t ∈ Q
  min : ∀ q ∈ Q, q = p0 ∨ lt2 p0 q
  max : ∀ t, st.head? = some t → ∀ q ∈ Q, ¬ lt2 t q

theorem inv_step {p0 p : S67} {Q st : List S67} (I : Inv p0 Q st) (hlt : ∀ q ∈ Q, lt2 q p) : Inv p0 (p :: Q) (p :: pop st p) where
  ne := by simp
  good := pop_good I.min hlt st I.good I.last I.sub (fun t h q hq l => absurd l (I.max t h q hq))
  last := by
    have := pop_ne p st I.ne
    have e := pop_last p st
    rw [I.last] at e
    cases hx : pop st p with
    | nil => exact absurd hx this
    | cons a b => rw [hx] at e; rw [List.getLast?_cons_cons]; exact e
  sub := by
    intro t ht
    rcases List.mem_cons.1 ht with rfl | ht
    · simp
    · exact List.mem_cons_of_mem _ (I.sub t ((pop_suffix p st).subset ht))
  min := by
    intro q hq
    rcases List.mem_cons.1 hq with rfl | hq
    · right; exact hlt p0 (I.sub p0 (List.mem_of_getLast? I.last))
    · exact I.min q hq
  max := by
    intro t ht q hq l
    obtain rfl : p = t := by simpa using ht
    rcases List.mem_cons.1 hq with rfl | hq
    · exact lt2_irr l
    · exact lt2_irr (lt2_trans l (hlt q hq))

theorem chain_inv {p0 : S67} : ∀ (l Q st : List S67), Inv p0 Q st → (∀ q ∈ Q, ∀ p ∈ l, lt2 q p) → l.Pairwise lt2 → Inv p0 (l.reverse ++ Q) (chainR l st)
  | [], Q, st, I, _, _ => by simpa [chainR] using I
  | p :: l, Q, st, I, h, s => by
    obtain ⟨s1, s2⟩ := List.pairwise_cons.1 s
    have := chain_inv l (p :: Q) (p :: pop st p) (inv_step I (fun q hq => h q hq p (by simp))) (by
      intro q hq x hx
      rcases List.mem_cons.1 hq with rfl | hq
      · exact s1 x hx
      · exact h q hq x (List.mem_cons_of_mem _ hx)) s2
    rw [List.reverse_cons, List.append_assoc]
    exact this
theorem chain_start (p0 : S67) : Inv p0 [p0] [p0] where
  ne := by simp
  good := trivial
  last := rfl
  sub := by simp
  min := by simp
  max := by
    intro t ht q hq l
    obtain rfl : p0 = t := by simpa using ht
    obtain rfl : q = p0 := by simpa using hq
    exact lt2_irr l
/-! the chains -/
theorem mulb {x y : Int} (hx : -20000000 ≤ x ∧ x ≤ 20000000) (hy : -20000000 ≤ y ∧ y ≤ 20000000) : -400000000000000 ≤ x * y ∧ x * y ≤ 400000000000000 := by
  have h1 := Int.mul_nonneg (show 0 ≤ 20000000 - x by omega) (show 0 ≤ 20000000 + y by omega)
  have h2 := Int.mul_nonneg (show 0 ≤ 20000000 + x by omega) (show 0 ≤ 20000000 - y by omega)
  have h3 := Int.mul_nonneg (show 0 ≤ 20000000 - x by omega) (show 0 ≤ 20000000 - y by omega)
  have h4 := Int.mul_nonneg (show 0 ≤ 20000000 + x by omega) (show 0 ≤ 20000000 + y by omega)
  have e1 : (20000000 - x) * (20000000 + y) = 400000000000000 + 20000000 * y - 20000000 * x - x * y := by grind
  have e2 : (20000000 + x) * (20000000 - y) = 400000000000000 - 20000000 * y + 20000000 * x - x * y := by grind
  have e3 : (20000000 - x) * (20000000 - y) = 400000000000000 - 20000000 * y - 20000000 * x + x * y := by grind
  have e4 : (20000000 + x) * (20000000 + y) = 400000000000000 + 20000000 * y + 20000000 * x + x * y := by grind
  omega
theorem cross_cr {a b c : S67} (ha : ptOk a.f0 a.f1 = true) (hb : ptOk b.f0 b.f1 = true) (hc : ptOk c.f0 c.f1 = true) : crossW a.f0 a.f1 b.f0 b.f1 c.f0 c.f1 = cr a b c := by
  rw [ptOk_iff] at ha hb hc
  unfold crossW cr xp
  rw [wrap_in (x := b.f0 - a.f0) (by omega) (by omega), wrap_in (x := c.f1 - a.f1) (by omega) (by omega), wrap_in (x := b.f1 - a.f1) (by omega) (by omega), wrap_in (x := c.f0 - a.f0) (by omega) (by omega)]
  have h1 := mulb (x := b.f0 - a.f0) (y := c.f1 - a.f1) (by omega) (by omega)
  have h2 := mulb (x := b.f1 - a.f1) (y := c.f0 - a.f0) (by omega) (by omega)
  rw [wrap_in (x := (b.f0 - a.f0) * (c.f1 - a.f1)) (by omega) (by omega), wrap_in (x := (b.f1 - a.f1) * (c.f0 - a.f0)) (by omega) (by omega), wrap_in (by omega) (by omega)]
theorem sgn_le (n : Int) : sgn n ≤ 0 ↔ n ≤ 0 := by unfold sgn; split <;> (try split) <;> omega
theorem pop_sub (p : S67) (st : List S67) : ∀ x ∈ pop st p, x ∈ st := fun x hx => (pop_suffix p st).subset hx
theorem pop_len (p : S67) (st : List S67) : (pop st p).length ≤ st.length := (pop_suffix p st).length_le
theorem iChain_loop (l : List S67) (hl : l.length ≤ 1000000) (hok : ∀ p ∈ l, ptOk p.f0 p.f1 = true) : ∀ k,
    (∀ (rest pre st : List S67), l = pre ++ rest → (∀ p ∈ st, ptOk p.f0 p.f1 = true) → st.length ≤ pre.length → 3 * rest.length + st.length + 2 ≤ k →
      impl_chainOf.l0 k st.reverse l (l.length : Int) (pre.length : Int) = some (chainR rest st).reverse) ∧
    (∀ (p : S67) (rest pre st : List S67), l = pre ++ p :: rest → (∀ p ∈ st, ptOk p.f0 p.f1 = true) → st.length ≤ pre.length → 3 * rest.length + 2 + st.length + 2 ≤ k →
      impl_chainOf.l1 k st.reverse l (l.length : Int) (pre.length : Int) p.f0 p.f1 = some (chainR rest (p :: pop st p)).reverse) := by
  intro k
  induction k with
  | zero => exact ⟨fun _ _ _ _ _ _ h => by omega, fun _ _ _ _ _ _ _ h => by omega⟩
  | succ k ih =>
    obtain ⟨ih0, ih1⟩ := ih
    refine ⟨?_, ?_⟩
    · intro rest pre st e hst hsl hk
      rw [impl_chainOf.l0]
      cases rest with
      | nil => rw [if_neg (by rw [e]; simp)]; rfl
      | cons p rest =>
        simp only [List.length_cons] at hk
        have hll : pre.length + (rest.length + 1) = l.length := by rw [e]; simp
        have hr : rd_T67 l (pre.length : Int) = p := by rw [e]; exact rd67_at pre p rest
        rw [if_pos (by omega), if_pos (by omega), if_pos (by omega), hr, ih1 p rest pre st e hst hsl (by omega)]
        rfl
    · intro p rest pre st e hst hsl hk
      have hll : pre.length + (rest.length + 1) = l.length := by rw [e]; simp
      have hp : ptOk p.f0 p.f1 = true := hok p (by rw [e]; simp)
      have e2 : wrap64 ((pre.length : Int) + 1) = ((pre ++ [p]).length : Int) := by rw [wrap_in (by omega) (by omega)]; simp
      have push : ∀ st' : List S67, (∀ p ∈ st', ptOk p.f0 p.f1 = true) → st'.length ≤ st.length → impl_chainOf.l0 k (st'.reverse ++ [(⟨p.f0, p.f1⟩ : S67)]) l (l.length : Int) (wrap64 ((pre.length : Int) + 1)) = some (chainR rest (p :: st')).reverse := by
        intro st' h1 h2
        have := ih0 rest (pre ++ [p]) (p :: st') (by rw [e]; simp) (by intro q hq; rcases List.mem_cons.1 hq with rfl | hq; exact hp; exact h1 q hq) (by simp; omega) (by simp only [List.length_cons]; omega)
        rw [e2, ← this, List.reverse_cons]
      rw [impl_chainOf.l1]
      match st, hst, hsl, hk, push with
      | [], hst, hsl, hk, push => rw [if_neg (by simp), if_pos (by simp), push [] (by simp) (by simp)]; rfl
      | [t], hst, hsl, hk, push => rw [if_neg (by simp), if_pos (by simp), push [t] hst (by simp)]; rfl
      | t :: s :: r, hst, hsl, hk, push =>
        have hL : (t :: s :: r).reverse.length = r.length + 2 := by simp
        have w2 : wrap64 (((t :: s :: r).reverse.length : Int) - 2) = (r.length : Int) := by simp only [List.length_cons] at hsl; rw [hL, wrap_in (by omega) (by omega)]; omega
        have w1 : wrap64 (((t :: s :: r).reverse.length : Int) - 1) = ((r.length + 1 : Nat) : Int) := by simp only [List.length_cons] at hsl; rw [hL, wrap_in (by omega) (by omega)]; omega
        have r2 : rd_T67 (t :: s :: r).reverse (r.length : Int) = s := by
          have := rd67_at r.reverse s [t]
          simp only [List.length_reverse] at this
          simpa using this
        have r1 : rd_T67 (t :: s :: r).reverse ((r.length + 1 : Nat) : Int) = t := by
          have := rd67_at (r.reverse ++ [s]) t []
          simp only [List.length_append, List.length_reverse, List.length_singleton] at this
          simpa using this
        rw [if_pos (by rw [hL]; omega), w2, if_pos (by omega), if_pos (by rw [hL]; omega), w1, if_pos (by omega), if_pos (by rw [hL]; omega), r1, r2, impl_turn_eq, Option.bind_some,
          cross_cr (hst s (by simp)) (hst t (by simp)) hp]
        simp only [List.length_cons] at hsl hk
        by_cases hc : cr s t p ≤ 0
        · have ht : (t :: s :: r).reverse.take (r.length + 1) = (s :: r).reverse := by
            rw [List.reverse_cons, List.take_append_of_le_length (by simp), List.take_of_length_le (by simp)]
          rw [if_pos ((sgn_le _).2 hc), if_pos (by rw [hL]; omega), Int.toNat_natCast, ht, ih1 p rest pre (s :: r) e (fun q hq => hst q (List.mem_cons_of_mem _ hq)) (by simp only [List.length_cons]; omega) (by simp only [List.length_cons]; omega)]
          rw [show pop (t :: s :: r) p = pop (s :: r) p by rw [pop, if_pos hc]]
        · rw [if_neg (fun q => hc ((sgn_le _).1 q)), if_pos (by rw [hL]; omega), push (t :: s :: r) hst (Nat.le_refl _)]
          rw [show pop (t :: s :: r) p = t :: s :: r by rw [pop, if_neg hc]]
def chainF (l : List S67) : List S67 := (chainR l []).reverse
theorem impl_chain_eq (l : List S67) (hl : l.length ≤ 1000000) (hok : ∀ p ∈ l, ptOk p.f0 p.f1 = true) {k : Nat} (hk : 3 * l.length + 2 ≤ k) : impl_chainOf.f k l = some (chainF l) := by
  unfold impl_chainOf.f
  exact (iChain_loop l hl hok k).1 l [] [] rfl (by simp) (Nat.le_refl _) (by simpa using hk)
theorem sChain_loop (l : List S67) (hl : l.length ≤ 1000000) (hok : ∀ p ∈ l, ptOk p.f0 p.f1 = true) : ∀ k,
    (∀ (rest pre st : List S67), l = pre ++ rest → (∀ p ∈ st, ptOk p.f0 p.f1 = true) → st.length ≤ pre.length → 3 * rest.length + st.length + 2 ≤ k →
      spec_l9Chain.l0 k l st.reverse (pre.length : Int) = some (chainR rest st).reverse) ∧
    (∀ (p : S67) (rest pre st : List S67), l = pre ++ p :: rest → (∀ p ∈ st, ptOk p.f0 p.f1 = true) → st.length ≤ pre.length → 3 * rest.length + 2 + st.length + 2 ≤ k →
      spec_l9Chain.l1 k l st.reverse (pre.length : Int) = some (chainR rest (p :: pop st p)).reverse) := by
  intro k
  induction k with
  | zero => exact ⟨fun _ _ _ _ _ _ h => by omega, fun _ _ _ _ _ _ _ h => by omega⟩
  | succ k ih =>
    obtain ⟨ih0, ih1⟩ := ih
    refine ⟨?_, ?_⟩
    · intro rest pre st e hst hsl hk
      rw [spec_l9Chain.l0]
      cases rest with
      | nil => rw [if_neg (by rw [e]; simp)]; rfl
      | cons p rest =>
        simp only [List.length_cons] at hk
        have hll : pre.length + (rest.length + 1) = l.length := by rw [e]; simp
        rw [if_pos (by omega), ih1 p rest pre st e hst hsl (by omega)]
        rfl
    · intro p rest pre st e hst hsl hk
      have hll : pre.length + (rest.length + 1) = l.length := by rw [e]; simp
      have hr : rd_T67 l (pre.length : Int) = p := by rw [e]; exact rd67_at pre p rest
      have hp : ptOk p.f0 p.f1 = true := hok p (by rw [e]; simp)
      have e2 : wrap64 ((pre.length : Int) + 1) = ((pre ++ [p]).length : Int) := by rw [wrap_in (by omega) (by omega)]; simp
      have push : ∀ st' : List S67, (∀ p ∈ st', ptOk p.f0 p.f1 = true) → st'.length ≤ st.length → spec_l9Chain.l0 k l (st'.reverse ++ [(⟨p.f0, p.f1⟩ : S67)]) (wrap64 ((pre.length : Int) + 1)) = some (chainR rest (p :: st')).reverse := by
        intro st' h1 h2
        have := ih0 rest (pre ++ [p]) (p :: st') (by rw [e]; simp) (by intro q hq; rcases List.mem_cons.1 hq with rfl | hq; exact hp; exact h1 q hq) (by simp; omega) (by simp only [List.length_cons]; omega)
        rw [e2, ← this, List.reverse_cons]
      rw [spec_l9Chain.l1]
      match st, hst, hsl, hk, push with
      | [], hst, hsl, hk, push => rw [if_neg (by simp), if_pos (by omega), if_pos (by omega), if_pos (by simp), hr, push [] (by simp) (by simp)]; rfl
      | [t], hst, hsl, hk, push => rw [if_neg (by simp), if_pos (by omega), if_pos (by omega), if_pos (by simp), hr, push [t] hst (by simp)]; rfl
      | t :: s :: r, hst, hsl, hk, push =>
        have hL : (t :: s :: r).reverse.length = r.length + 2 := by simp
        have w2 : wrap64 (((t :: s :: r).reverse.length : Int) - 2) = (r.length : Int) := by simp only [List.length_cons] at hsl; rw [hL, wrap_in (by omega) (by omega)]; omega
        have w1 : wrap64 (((t :: s :: r).reverse.length : Int) - 1) = ((r.length + 1 : Nat) : Int) := by simp only [List.length_cons] at hsl; rw [hL, wrap_in (by omega) (by omega)]; omega
        have r2 : rd_T67 (t :: s :: r).reverse (r.length : Int) = s := by
          have := rd67_at r.reverse s [t]
          simp only [List.length_reverse] at this
          simpa using this
        have r1 : rd_T67 (t :: s :: r).reverse ((r.length + 1 : Nat) : Int) = t := by
          have := rd67_at (r.reverse ++ [s]) t []
          simp only [List.length_append, List.length_reverse, List.length_singleton] at this
          simpa using this
        rw [if_pos (by rw [hL]; omega), w2, if_pos (by omega), if_pos (by rw [hL]; omega), w1, if_pos (by omega), if_pos (by rw [hL]; omega), if_pos (by omega), if_pos (by omega), r1, r2, hr, spec_l3Area_eq, Option.bind_some,
          cross_cr (hst s (by simp)) (hst t (by simp)) hp]
        simp only [List.length_cons] at hsl hk
        by_cases hc : cr s t p ≤ 0
        · have ht : (t :: s :: r).reverse.take (r.length + 1) = (s :: r).reverse := by
            rw [List.reverse_cons, List.take_append_of_le_length (by simp), List.take_of_length_le (by simp)]
          rw [if_pos hc, if_pos (by rw [hL]; omega), Int.toNat_natCast, ht, ih1 p rest pre (s :: r) e (fun q hq => hst q (List.mem_cons_of_mem _ hq)) (by simp only [List.length_cons]; omega) (by simp only [List.length_cons]; omega)]
          rw [show pop (t :: s :: r) p = pop (s :: r) p by rw [pop, if_pos hc]]
        · rw [if_neg hc, if_pos (by rw [hL]; omega), push (t :: s :: r) hst (Nat.le_refl _)]
          rw [show pop (t :: s :: r) p = t :: s :: r by rw [pop, if_neg hc]]
theorem spec_chain_eq (l : List S67) (hl : l.length ≤ 1000000) (hok : ∀ p ∈ l, ptOk p.f0 p.f1 = true) {k : Nat} (hk : 3 * l.length + 2 ≤ k) : spec_l9Chain.f k l = some (chainF l) := by
  unfold spec_l9Chain.f
  exact (sChain_loop l hl hok k).1 l [] [] rfl (by simp) (Nat.le_refl _) (by simpa using hk)
theorem chainR_len : ∀ (l st : List S67), (chainR l st).length ≤ l.length + st.length
  | [], st => by simp [chainR]
  | p :: l, st => by
    have h := chainR_len l (p :: pop st p)
    have h2 := pop_len p st
    show (chainR l (p :: pop st p)).length ≤ _
    simp only [List.length_cons] at *; omega
theorem chainR_ne : ∀ (l st : List S67), l ≠ [] ∨ st ≠ [] → chainR l st ≠ []
  | [], st, h => by simpa [chainR] using h
  | p :: l, st, _ => chainR_ne l (p :: pop st p) (.inr (by simp))
theorem chainF_len (l : List S67) : (chainF l).length ≤ l.length := by have := chainR_len l []; simpa [chainF] using this
theorem chainF_pos (l : List S67) (h : l ≠ []) : 0 < (chainF l).length := by
  have := chainR_ne l [] (.inl h)
  rw [chainF, List.length_reverse]
  exact List.length_pos_iff.2 this
/-! slices.Reverse, slices.Concat, slices.Clone -/
theorem rev_loop : ∀ (n : Nat) (M A B : List S67) (k : Nat), M.length ≤ n → A.length + M.length + B.length ≤ 1000000 → n + 1 ≤ k →
    impl_Pt_82.l0 k (A ++ M ++ B) (A.length : Int) ((A.length : Int) + M.length - 1) = some (A ++ M.reverse ++ B) := by
  intro n
  induction n using Nat.strongRecOn with
  | ind n ih =>
    intro M A B k hn hl hk
    obtain ⟨k, rfl⟩ : ∃ m, k = m + 1 := ⟨k - 1, by omega⟩
    rw [impl_Pt_82.l0]
    match M with
    | [] => rw [if_neg (by simp; omega)]; simp
    | [m] => rw [if_neg (by simp)]; simp
    | a :: b :: M =>
      obtain ⟨M', c, hM⟩ : ∃ M' c, b :: M = M' ++ [c] := ⟨(b :: M).dropLast, (b :: M).getLast (by simp), (List.dropLast_concat_getLast _).symm⟩
      rw [hM] at hn hl ⊢
      simp only [List.length_cons, List.length_append, List.length_nil] at hn hl
      have r1 : rd_T67 (A ++ a :: (M' ++ [c]) ++ B) ((A.length : Int) + ((a :: (M' ++ [c])).length : Nat) - 1) = c := by
        have := rd67_at (A ++ a :: M') c B
        rw [show ((A.length : Int) + ((a :: (M' ++ [c])).length : Nat) - 1) = ((A ++ a :: M').length : Int) by simp; omega]
        simpa [List.append_assoc] using this
      have r2 : rd_T67 (A ++ a :: (M' ++ [c]) ++ B) (A.length : Int) = a := by
        have := rd67_at A a (M' ++ [c] ++ B)
        simpa [List.append_assoc] using this
      have hlen : ((A ++ a :: (M' ++ [c]) ++ B).length : Int) = A.length + M'.length + 2 + B.length := by simp; omega
      have hlen2 : ((a :: (M' ++ [c])).length : Int) = M'.length + 2 := by simp; omega
      rw [if_pos (by omega), if_pos (by omega), if_pos (by omega), if_pos (by omega), if_pos (by omega), r1, r2]
      have e1 : wrap64 ((A.length : Int) + 1) = ((A ++ [c]).length : Int) := by rw [wrap_in (by omega) (by omega)]; simp
      have e2 : wrap64 ((A.length : Int) + ((a :: (M' ++ [c])).length : Nat) - 1 - 1) = (((A ++ [c]).length : Int) + (M'.length : Nat) - 1) := by rw [wrap_in (by omega) (by omega)]; simp; omega
      have hset : ((A ++ a :: (M' ++ [c]) ++ B).set ((A.length : Int)).toNat (⟨c.f0, c.f1⟩ : S67)).set ((A.length : Int) + ((a :: (M' ++ [c])).length : Nat) - 1).toNat (⟨a.f0, a.f1⟩ : S67) = (A ++ [c]) ++ M' ++ (a :: B) := by
        rw [show ((A.length : Int) + ((a :: (M' ++ [c])).length : Nat) - 1).toNat = (A ++ [c] ++ M').length by simp; omega, Int.toNat_natCast]
        rw [show A ++ a :: (M' ++ [c]) ++ B = A ++ a :: (M' ++ c :: B) by simp, List.set_append_right _ _ (Nat.le_refl _), Nat.sub_self]
        simp only [List.set_cons_zero]
        rw [show A ++ (⟨c.f0, c.f1⟩ : S67) :: (M' ++ c :: B) = (A ++ [c] ++ M') ++ c :: B by simp, List.set_append_right _ _ (Nat.le_refl _), Nat.sub_self]
        simp
      rw [hset, e1, e2, ih (n - 2) (by omega) M' (A ++ [c]) (a :: B) k (by omega) (by simp; omega) (by omega)]
      simp
theorem rev_eq (l : List S67) (hl : l.length ≤ 1000000) {k : Nat} (hk : l.length + 1 ≤ k) : impl_Pt_82.f k l = some l.reverse := by
  unfold impl_Pt_82.f
  have := rev_loop l.length l [] [] k (Nat.le_refl _) (by simp; omega) hk
  simp only [List.nil_append, List.append_nil, List.length_nil] at this
  rw [show wrap64 ((l.length : Int) - 1) = (((0 : Nat) : Int) + l.length - 1) by rw [wrap_in (by omega) (by omega)]; omega]
  exact this
theorem clone_eq67 (l : List S67) (hl : l.length ≤ 2000000) : impl_Pt_76.f l = some l := by
  unfold impl_Pt_76.f
  rw [Option.bind_some, if_pos (by simp; omega)]; rfl
theorem concat_eq (a b : List S67) (ha : a.length ≤ 1000000) (hb : b.length ≤ 1000000) {k : Nat} (hk : 6 ≤ k) : impl_Pt_83.f k [a, b] = some (a ++ b) := by
  obtain ⟨k, rfl⟩ : ∃ m, k = m + 3 + 3 := ⟨k - 6, by omega⟩
  have r0 : rd_L3 [a, b] 0 = a := rfl
  have r1 : rd_L3 [a, b] 1 = b := rfl
  have w1 : wrap64 (0 + 1) = 1 := by unfold wrap64; decide
  have w2 : wrap64 (1 + 1) = 2 := by unfold wrap64; decide
  have hl : (([a, b] : List (List S67)).length : Int) = 2 := rfl
  have s0 : wrap64 (0 + (a.length : Int)) = a.length := by rw [wrap_in (by omega) (by omega)]; omega
  have s1 : wrap64 ((a.length : Int) + b.length) = a.length + b.length := wrap_in (by omega) (by omega)
  unfold impl_Pt_83.f
  rw [hl, impl_Pt_83.l0, if_pos (by decide), if_pos (by decide), hl, if_pos (by decide), r0, s0, if_neg (by omega), w1]
  rw [impl_Pt_83.l0, if_pos (by decide), if_pos (by decide), hl, if_pos (by decide), r1, s1, if_neg (by omega), w2]
  rw [impl_Pt_83.l0, if_neg (by decide), impl_Pt_123.f, if_pos (by omega), Option.bind_some, hl]
  rw [impl_Pt_83.l1, if_pos (by decide), if_pos (by decide), hl, if_pos (by decide), r0, if_pos (by simp; omega), w1, List.nil_append]
  rw [impl_Pt_83.l1, if_pos (by decide), if_pos (by decide), hl, if_pos (by decide), r1, if_pos (by omega), w2]
  rw [impl_Pt_83.l1, if_neg (by decide)]
/-! both hulls -/
def hullF (S : List S67) : List S67 := if S.length < 2 then S else (chainF S).dropLast ++ (chainF S.reverse).dropLast
def hullOf (l : List S67) : List S67 := if rightP l = true then hullF (srt l) else []
theorem take_drop_last (L : List S67) (h : 0 < L.length) (hl : L.length ≤ 1000000) : 0 ≤ wrap64 ((L.length : Int) - 1) ∧ wrap64 ((L.length : Int) - 1) ≤ (L.length : Int) ∧ L.take (wrap64 ((L.length : Int) - 1)).toNat = L.dropLast := by
  have e : wrap64 ((L.length : Int) - 1) = (L.length : Int) - 1 := wrap_in (by omega) (by omega)
  rw [e]
  refine ⟨by omega, by omega, ?_⟩
  rw [List.dropLast_eq_take, show ((L.length : Int) - 1).toNat = L.length - 1 by omega]
theorem impl_hull_eq (l : List S67) (hl : l.length ≤ 2000000) {k : Nat} (hk : 2100000 < k) : impl_Hull.f k l = some (hullOf l) := by
  unfold impl_Hull.f hullOf
  rw [impl_right_eq l (by omega) (by omega), Option.bind_some]
  by_cases h : rightP l = true
  · rw [if_pos h, if_pos h, clone_eq67 l hl, Option.bind_some]
    have h5 := rightP_len h
    have hs := srt_len l
    have hok : ∀ p ∈ srt l, ptOk p.f0 p.f1 = true := fun p hp => rightP_ok h p ((srt_mem l p).1 hp)
    have hms : (l.mergeSort fun x y => !(lt67 y x)).length = l.length := List.length_mergeSort _
    rw [impl_Pt_77.f, if_pos (by omega), Option.bind_some, compact_eq _ (by omega) (by omega), ddAll_sorted, Option.bind_some]
    generalize srt l = S at hs hok
    unfold hullF
    by_cases h2 : S.length < 2
    · rw [if_pos (by omega), if_pos h2, impl_Pt_80.f, if_pos (by omega), if_pos (by omega), Option.bind_some]
      simp
    · have hne : S ≠ [] := by intro e; simp [e] at h2
      have c1 := chainF_len S
      have c2 := chainF_len S.reverse
      rw [List.length_reverse] at c2
      have p1 := chainF_pos S hne
      have p2 := chainF_pos S.reverse (by simpa using hne)
      obtain ⟨a1, a2, a3⟩ := take_drop_last (chainF S) p1 (by omega)
      obtain ⟨b1, b2, b3⟩ := take_drop_last (chainF S.reverse) p2 (by omega)
      rw [if_neg (by omega), if_neg h2, impl_chain_eq S (by omega) hok (by omega), Option.bind_some, rev_eq S (by omega) (by omega), Option.bind_some,
        impl_chain_eq S.reverse (by simp; omega) (fun p hp => hok p (by simpa using hp)) (by simp; omega), Option.bind_some, if_pos a1, if_pos a2, if_pos b1, if_pos b2, a3, b3,
        concat_eq _ _ (by simp; omega) (by simp; omega) (by omega), Option.bind_some]
  · rw [if_neg h, if_neg h]
theorem sHull_loop (S L : List S67) (hS : S.length ≤ 1000000) : ∀ (i k : Nat), i ≤ S.length →
    spec_Hull.l0 (k + i + 1) S L (S.drop i).reverse ((i : Int) - 1) = spec_Hull.l0 (k + 1) S L S.reverse (-1) := by
  intro i
  induction i with
  | zero => intro k _; simp
  | succ i ih =>
    intro k hi
    have hrd : rd_T67 S (i : Int) = S[i] := by simp [rd_T67, show i < S.length by omega]
    rw [show k + (i + 1) + 1 = (k + i + 1) + 1 by omega]
    conv => lhs; rw [spec_Hull.l0]
    have e1 : (((i + 1 : Nat) : Int) - 1) = (i : Int) := by omega
    rw [e1, if_pos (by omega), if_pos (by omega), if_pos (by omega), if_pos (by simp; omega), hrd, wrap_in (by omega) (by omega)]
    have e2 : (S.drop (i + 1)).reverse ++ [(⟨S[i].f0, S[i].f1⟩ : S67)] = (S.drop i).reverse := by
      rw [List.drop_eq_getElem_cons (show i < S.length by omega), List.reverse_cons]
    rw [e2]
    exact ih k (by omega)
theorem spec_hull_eq (l : List S67) (hl : l.length ≤ 2000000) {k : Nat} (hk : 2100000 < k) : spec_Hull.f k l = some (hullOf l) := by
  unfold spec_Hull.f hullOf
  rw [spec_right_eq l (by omega) (by omega), Option.bind_some]
  by_cases h : rightP l = true
  · rw [if_pos h, if_pos h]
    have h5 := rightP_len h
    have hs := srt_len l
    have hok : ∀ p ∈ srt l, ptOk p.f0 p.f1 = true := fun p hp => rightP_ok h p ((srt_mem l p).1 hp)
    have hpw := srt_sorted l
    rw [spec_sorted_eq l h5 (by omega), Option.bind_some]
    generalize srt l = S at hs hok hpw
    unfold hullF
    by_cases h3 : S.length < 3
    · rw [if_pos (by omega)]
      match S with
      | [] => rfl
      | [a] => rfl
      | [a, b] => simp [chainF, chainR, pop]
      | a :: b :: c :: S => simp at h3; omega
    · have hne : S ≠ [] := by intro e; simp [e] at h3
      have c1 := chainF_len S
      have c2 := chainF_len S.reverse
      rw [List.length_reverse] at c2
      have p1 := chainF_pos S hne
      have p2 := chainF_pos S.reverse (by simpa using hne)
      obtain ⟨a1, a2, a3⟩ := take_drop_last (chainF S) p1 (by omega)
      obtain ⟨b1, b2, b3⟩ := take_drop_last (chainF S.reverse) p2 (by omega)
      rw [if_neg (by omega), if_neg (by omega), spec_chain_eq S (by omega) hok (by omega), Option.bind_some]
      obtain ⟨m, rfl⟩ : ∃ m, k = m + S.length + 1 := ⟨k - S.length - 1, by omega⟩
      have := sHull_loop S (chainF S) (by omega) S.length m (Nat.le_refl _)
      rw [List.drop_length, List.reverse_nil] at this
      rw [show wrap64 ((S.length : Int) - 1) = (S.length : Int) - 1 from wrap_in (by omega) (by omega), this, spec_Hull.l0, if_neg (by decide)]
      rw [spec_chain_eq S.reverse (by simp; omega) (fun p hp => hok p (by simpa using hp)) (by simp; omega), Option.bind_some, if_pos a1, if_pos a2, Option.bind_some, if_pos b1, if_pos b2, Option.bind_some, a3, b3, if_pos (by simp; omega)]
  · rw [if_neg h, if_neg h]
/-! marks -/
theorem hullF_len (S : List S67) : (hullF S).length ≤ 2 * S.length := by
  unfold hullF
  split
  · omega
  · have c1 := chainF_len S
    have c2 := chainF_len S.reverse
    rw [List.length_reverse] at c2
    simp; omega
theorem hullOf_len (l : List S67) : (hullOf l).length ≤ 2 * l.length := by
  unfold hullOf
  split
  · have := hullF_len (srt l); have := srt_len l; omega
  · simp
/-! The hull's hull, its corners and sides. -/
def EdI (Q W : List S67) : Prop := ∀ i a b, W[i]? = some a → W[i + 1]? = some b → ∀ q ∈ Q, 0 ≤ cr a b q
def TrI (W : List S67) : Prop := ∀ i a b c, W[i]? = some a → W[i + 1]? = some b → W[i + 2]? = some c → 0 < cr a b c
structure Lo (S F : List S67) : Prop where
  ne : F ≠ []
  inc : F.Pairwise lt2
  sub : ∀ x ∈ F, x ∈ S
  ed : EdI S F
  tr : TrI F
  hd : ∀ x, F.head? = some x → ∀ q ∈ S, q = x ∨ lt2 x q
  lst : ∀ x, F.getLast? = some x → ∀ q ∈ S, q = x ∨ lt2 q x
theorem ltP_lt2 (a b : S67) : ltP a b ↔ lt2 a b := by unfold ltP lt2 lp; omega
theorem good_at {Q : List S67} : ∀ (st : List S67), Good Q st → ∀ i x y, st[i]? = some x → st[i + 1]? = some y → lt2 y x ∧ (∀ q ∈ Q, 0 ≤ cr y x q) ∧ ∀ z, st[i + 2]? = some z → 0 < cr z y x
  | [], _, i, x, y, h, _ => by simp at h
  | [a], _, i, x, y, _, h => by simp at h
  | a :: b :: r, hg, 0, x, y, h1, h2 => by
    obtain ⟨g1, g2, g3, _⟩ := hg
    have e1 : a = x := by simpa using h1
    have e2 : b = y := by simpa using h2
    subst e1; subst e2
    refine ⟨g1, g2, fun z hz => g3 z ?_⟩
    cases r with
    | nil => simp at hz
    | cons c r => simpa using hz
  | a :: b :: r, hg, i + 1, x, y, h1, h2 => good_at (b :: r) hg.2.2.2 i x y (by simpa using h1) (by simpa using h2)
theorem chain_pair : ∀ (F : List S67), (∀ i a b, F[i]? = some a → F[i + 1]? = some b → lt2 a b) → F.Pairwise lt2
  | [], _ => List.Pairwise.nil
  | [a], _ => by simp
  | a :: b :: r, h => by
    have ih := chain_pair (b :: r) (fun i x y h1 h2 => h (i + 1) x y (by simpa using h1) (by simpa using h2))
    have hab := h 0 a b rfl rfl
    refine List.pairwise_cons.2 ⟨?_, ih⟩
    intro x hx
    rcases List.mem_cons.1 hx with rfl | hx
    · exact hab
    · exact lt2_trans hab ((List.pairwise_cons.1 ih).1 x hx)
theorem lo_chain (S : List S67) (hS : S.Pairwise lt2) (hne : S ≠ []) : Lo S (chainF S) := by
  cases S with
  | nil => exact absurd rfl hne
  | cons p0 S =>
    obtain ⟨s1, s2⟩ := List.pairwise_cons.1 hS
    have I := chain_inv S [p0] [p0] (chain_start p0) (by intro q hq p hp; have : q = p0 := (by simpa using hq); rw [this]; exact s1 p hp) s2
    have e : chainR (p0 :: S) [] = chainR S [p0] := rfl
    have hQ : ∀ q, q ∈ S.reverse ++ [p0] ↔ q ∈ p0 :: S := by intro q; simp [or_comm]
    have hF : chainF (p0 :: S) = (chainR S [p0]).reverse := by rw [chainF, e]
    rw [hF]
    generalize chainR S [p0] = st at I
    have hidx : ∀ j, (st.reverse)[j]? = if j < st.length then st[st.length - 1 - j]? else none := by
      intro j
      by_cases h : j < st.length
      · rw [if_pos h, List.getElem?_reverse h]
      · rw [if_neg h]; exact List.getElem?_eq_none (by simp; omega)
    have two : ∀ i a b, (st.reverse)[i]? = some a → (st.reverse)[i + 1]? = some b → i + 1 < st.length ∧ st[st.length - 2 - i]? = some b ∧ st[st.length - 2 - i + 1]? = some a := by
      intro i a b h1 h2
      rw [hidx] at h1 h2
      by_cases h : i + 1 < st.length
      · rw [if_pos (by omega)] at h1
        rw [if_pos h] at h2
        exact ⟨h, by rw [show st.length - 2 - i = st.length - 1 - (i + 1) by omega]; exact h2, by rw [show st.length - 2 - i + 1 = st.length - 1 - i by omega]; exact h1⟩
      · rw [if_neg h] at h2; cases h2
    refine ⟨by simpa using I.ne, ?_, ?_, ?_, ?_, ?_, ?_⟩
    · apply chain_pair
      intro i a b h1 h2
      obtain ⟨_, h3, h4⟩ := two i a b h1 h2
      exact (good_at st I.good _ _ _ h3 h4).1
    · intro x hx
      exact (hQ x).1 (I.sub x (by simpa using hx))
    · intro i a b h1 h2 q hq
      obtain ⟨_, h3, h4⟩ := two i a b h1 h2
      exact (good_at st I.good _ _ _ h3 h4).2.1 q ((hQ q).2 hq)
    · intro i a b c h1 h2 h3
      obtain ⟨k1, h4, h5⟩ := two (i + 1) b c h2 h3
      obtain ⟨_, h6, h7⟩ := two i a b h1 h2
      refine (good_at st I.good _ _ _ h4 h5).2.2 a ?_
      rw [show st.length - 2 - (i + 1) + 2 = st.length - 2 - i + 1 by omega]; exact h7
    · intro x hx q hq
      have hl : st.getLast? = some x := by simpa [List.head?_reverse] using hx
      rw [I.last] at hl
      have : p0 = x := by simpa using hl
      subst this
      exact I.min q ((hQ q).2 hq)
    · intro x hx q hq
      have hl : st.head? = some x := by simpa [List.getLast?_reverse] using hx
      have := I.max x hl q ((hQ q).2 hq)
      rcases tri q x with h | h | h
      · exact .inr h
      · exact .inl h
      · exact absurd h this
theorem uniq_chain : ∀ (A B : List S67), A.Pairwise lt2 → B.Pairwise lt2 → A.head? = B.head? → A.getLast? = B.getLast? → EdI B A → EdI A B → TrI A → TrI B → A = B
  | [], [], _, _, _, _, _, _, _, _ => rfl
  | [], b :: B, _, _, h, _, _, _, _, _ => by simp at h
  | a :: A, [], _, _, h, _, _, _, _, _ => by simp at h
  | [p], [q], _, _, h, _, _, _, _, _ => by simpa using h
  | [p], q :: b :: B, _, hB, h, hl, _, _, _, _ => by
    have e : p = q := by simpa using h
    subst e
    have hm : p ∈ b :: B := by
      rw [List.getLast?_cons_cons] at hl
      have : (b :: B).getLast? = some p := by rw [← hl]; rfl
      exact List.mem_of_getLast? this
    exact absurd ((List.pairwise_cons.1 hB).1 p hm) lt2_irr
  | p :: a :: A, [q], hA, _, h, hl, _, _, _, _ => by
    have e : p = q := by simpa using h
    subst e
    have hm : p ∈ a :: A := by
      rw [List.getLast?_cons_cons] at hl
      have : (a :: A).getLast? = some p := by rw [hl]; rfl
      exact List.mem_of_getLast? this
    exact absurd ((List.pairwise_cons.1 hA).1 p hm) lt2_irr
  | p :: a :: A, q :: b :: B, hA, hB, h, hl, eA, eB, tA, tB => by
    have e : p = q := by simpa using h
    subst e
    obtain ⟨a1, a2⟩ := List.pairwise_cons.1 hA
    obtain ⟨b1, b2⟩ := List.pairwise_cons.1 hB
    rw [List.getLast?_cons_cons, List.getLast?_cons_cons] at hl
    have key : ∀ (a b : S67) (A B : List S67), (a :: A).Pairwise lt2 → (b :: B).Pairwise lt2 → (∀ x ∈ a :: A, lt2 p x) → (∀ x ∈ b :: B, lt2 p x) → (a :: A).getLast? = (b :: B).getLast? →
        (∀ q ∈ p :: b :: B, 0 ≤ cr p a q) → EdI (p :: b :: B) (p :: a :: A) → TrI (p :: a :: A) → 0 ≤ cr p b a → lt2 a b → False := by
      intro a b A B hA hB pa pb hl h1 eA tA h2 hab
      have c0 : cr p a b = 0 := by have := h1 b (by simp); have := cr_swap p a b; omega
      cases A with
      | nil =>
        have hm : a ∈ b :: B := List.mem_of_getLast? (by rw [← hl]; rfl)
        rcases List.mem_cons.1 hm with e | hm
        · subst e; exact lt2_irr hab
        · exact lt2_irr (lt2_trans hab ((List.pairwise_cons.1 hB).1 a hm))
      | cons c A =>
        have t := tA 0 p a c rfl rfl rfl
        have d := eA 1 a c rfl rfl b (by simp)
        rw [cr_last] at c0 t
        have := strans1 (pa a (by simp)) ((List.pairwise_cons.1 hA).1 c (by simp)) hab t (by unfold cr at d; exact d)
        omega
    have hab : a = b := by
      have x1 := eA 0 p a rfl rfl
      have x2 := eB 0 p b rfl rfl
      rcases tri a b with q | q | q
      · exact (key a b A B a2 b2 a1 b1 hl x1 eA tA (x2 a (by simp)) q).elim
      · exact q
      · exact (key b a B A b2 a2 b1 a1 hl.symm x2 eB tB (x1 b (by simp)) q).elim
    subst hab
    rw [uniq_chain (a :: A) (a :: B) a2 b2 rfl hl (fun i x y h1 h2 q hq => eA (i + 1) x y (by simpa using h1) (by simpa using h2) q (List.mem_cons_of_mem _ hq))
      (fun i x y h1 h2 q hq => eB (i + 1) x y (by simpa using h1) (by simpa using h2) q (List.mem_cons_of_mem _ hq))
      (fun i x y z h1 h2 h3 => tA (i + 1) x y z (by simpa using h1) (by simpa using h2) (by simpa using h3))
      (fun i x y z h1 h2 h3 => tB (i + 1) x y z (by simpa using h1) (by simpa using h2) (by simpa using h3))]
theorem uniq_lo {S S' F F' : List S67} (h : Lo S F) (h' : Lo S' F') (k1 : ∀ x ∈ F, x ∈ S') (k2 : ∀ x ∈ F', x ∈ S) : F = F' := by
  have sub1 : ∀ x ∈ F, x ∈ S' := k1
  have hh : F.head? = F'.head? := by
    cases hF : F with
    | nil => exact absurd hF h.ne
    | cons a A => cases hF' : F' with
      | nil => exact absurd hF' h'.ne
      | cons b B =>
        have x1 := h.hd a (by rw [hF]; rfl) b (k2 b (by rw [hF']; simp))
        have x2 := h'.hd b (by rw [hF']; rfl) a (k1 a (by rw [hF]; simp))
        have : a = b := by
          rcases x1 with e | e
          · exact e.symm
          · rcases x2 with e2 | e2
            · exact e2
            · exact absurd (lt2_trans e e2) lt2_irr
        simp [this]
  have hl : F.getLast? = F'.getLast? := by
    have y1 := List.getLast?_eq_some_getLast h.ne
    have y2 := List.getLast?_eq_some_getLast h'.ne
    rw [y1, y2]
    have x1 := h.lst _ y1 (F'.getLast h'.ne) (k2 _ (List.getLast_mem h'.ne))
    have x2 := h'.lst _ y2 (F.getLast h.ne) (k1 _ (List.getLast_mem h.ne))
    rcases x1 with e | e
    · rw [e]
    · rcases x2 with e2 | e2
      · rw [e2]
      · exact absurd (lt2_trans e e2) lt2_irr
  exact uniq_chain F F' h.inc h'.inc hh hl (fun i a b h1 h2 q hq => h.ed i a b h1 h2 q (k2 q hq)) (fun i a b h1 h2 q hq => h'.ed i a b h1 h2 q (k1 q hq)) h.tr h'.tr
def neg (p : S67) : S67 := ⟨-p.f0, -p.f1⟩
theorem neg_neg (p : S67) : neg (neg p) = p := by cases p; simp [neg]
theorem cr_neg (a b c : S67) : cr (neg a) (neg b) (neg c) = cr a b c := by simp only [cr, xp, neg]; grind
theorem lt2_neg (a b : S67) : lt2 (neg a) (neg b) ↔ lt2 b a := by simp only [lt2, lp, neg]; omega
theorem pop_neg (p : S67) : ∀ st : List S67, pop (st.map neg) (neg p) = (pop st p).map neg
  | [] => rfl
  | [a] => rfl
  | t :: s :: r => by
    have ih := pop_neg p (s :: r)
    simp only [List.map_cons] at ih ⊢
    rw [pop, cr_neg]
    conv => rhs; rw [pop]
    split
    · exact ih
    · rfl
theorem chainR_neg : ∀ (l st : List S67), chainR (l.map neg) (st.map neg) = (chainR l st).map neg
  | [], st => rfl
  | p :: l, st => by
    show chainR (l.map neg) (neg p :: pop (st.map neg) (neg p)) = (chainR l (p :: pop st p)).map neg
    rw [pop_neg, ← chainR_neg l (p :: pop st p)]; rfl
theorem chainF_neg (l : List S67) : chainF (l.map neg) = (chainF l).map neg := by
  unfold chainF
  have := chainR_neg l []
  simp only [List.map_nil] at this
  rw [this, List.map_reverse]
theorem neg_sorted {S : List S67} (h : S.Pairwise lt2) : (S.reverse.map neg).Pairwise lt2 := by
  rw [List.pairwise_map, List.pairwise_reverse]
  exact h.imp (fun q => (lt2_neg _ _).2 q)
theorem lo_up (S : List S67) (hS : S.Pairwise lt2) (hne : S ≠ []) : Lo (S.map neg) ((chainF S.reverse).map neg) := by
  have h := lo_chain (S.reverse.map neg) (neg_sorted hS) (by simpa using hne)
  rw [chainF_neg] at h
  have hm : ∀ x, x ∈ S.reverse.map neg ↔ x ∈ S.map neg := by intro x; simp
  exact ⟨h.ne, h.inc, fun x hx => (hm x).1 (h.sub x hx), fun i a b h1 h2 q hq => h.ed i a b h1 h2 q ((hm q).2 hq), h.tr, fun x hx q hq => h.hd x hx q ((hm q).2 hq), fun x hx q hq => h.lst x hx q ((hm q).2 hq)⟩
theorem par_zero {ux uy ax ay bx by_ : Int} (hu : lp ux uy) (h1 : xp ux uy ax ay = 0) (h2 : xp ux uy bx by_ = 0) : xp ax ay bx by_ = 0 := by
  unfold xp at *
  have e : ux * (ax * by_ - ay * bx) = ax * (ux * by_ - uy * bx) - bx * (ux * ay - uy * ax) := by grind
  have e2 : uy * (ax * by_ - ay * bx) = ay * (ux * by_ - uy * bx) - by_ * (ux * ay - uy * ax) := by grind
  rw [h1, h2] at e e2
  simp only [Int.mul_zero, Int.sub_zero] at e e2
  rcases hu with u | ⟨_, u⟩
  · rcases Int.mul_eq_zero.1 e with h | h
    · omega
    · exact h
  · rcases Int.mul_eq_zero.1 e2 with h | h
    · omega
    · exact h
theorem joint {Q : List S67} {pm a b : S67} (hpm : ∀ q ∈ Q, q = pm ∨ lt2 q pm) (ha : lt2 a pm) (hb : lt2 b pm) (h1 : ∀ q ∈ Q, 0 ≤ cr a pm q) (h2 : ∀ q ∈ Q, 0 ≤ cr pm b q) (h0 : cr a pm b = 0) :
    ∀ x ∈ Q, ∀ y ∈ Q, ∀ z ∈ Q, cr x y z = 0 := by
  have k : ∀ q ∈ Q, xp (pm.f0 - a.f0) (pm.f1 - a.f1) (pm.f0 - q.f0) (pm.f1 - q.f1) = 0 := by
    intro q hq
    have t : ln (pm.f0 - q.f0) (pm.f1 - q.f1) := by
      rcases hpm q hq with e | e
      · subst e; right; constructor <;> omega
      · exact lp_ln e
    have e1 : cr a pm b = - xp (pm.f0 - a.f0) (pm.f1 - a.f1) (pm.f0 - b.f0) (pm.f1 - b.f1) := by simp only [cr, xp]; grind
    have e2 : cr a pm q = - xp (pm.f0 - a.f0) (pm.f1 - a.f1) (pm.f0 - q.f0) (pm.f1 - q.f1) := by simp only [cr, xp]; grind
    have e3 : cr pm b q = xp (pm.f0 - b.f0) (pm.f1 - b.f1) (pm.f0 - q.f0) (pm.f1 - q.f1) := by simp only [cr, xp]; grind
    have g1 := h1 q hq
    have g2 := h2 q hq
    rw [e1] at h0; rw [e2] at g1; rw [e3] at g2
    have := wtrans (lp_ln ha) hb t (by omega) g2
    omega
  intro x hx y hy z hz
  have kx := k x hx
  have ky := k y hy
  have kz := k z hz
  have hy2 : xp (pm.f0 - a.f0) (pm.f1 - a.f1) (y.f0 - x.f0) (y.f1 - x.f1) = 0 := by
    have : xp (pm.f0 - a.f0) (pm.f1 - a.f1) (y.f0 - x.f0) (y.f1 - x.f1) = xp (pm.f0 - a.f0) (pm.f1 - a.f1) (pm.f0 - x.f0) (pm.f1 - x.f1) - xp (pm.f0 - a.f0) (pm.f1 - a.f1) (pm.f0 - y.f0) (pm.f1 - y.f1) := by simp only [xp]; grind
    omega
  have hz2 : xp (pm.f0 - a.f0) (pm.f1 - a.f1) (z.f0 - x.f0) (z.f1 - x.f1) = 0 := by
    have : xp (pm.f0 - a.f0) (pm.f1 - a.f1) (z.f0 - x.f0) (z.f1 - x.f1) = xp (pm.f0 - a.f0) (pm.f1 - a.f1) (pm.f0 - x.f0) (pm.f1 - x.f1) - xp (pm.f0 - a.f0) (pm.f1 - a.f1) (pm.f0 - z.f0) (pm.f1 - z.f1) := by simp only [xp]; grind
    omega
  exact par_zero ha hy2 hz2
/-- The walk around: the lower chain, then the upper one. -/
def At (L H : List S67) (i : Nat) : Option S67 := if i + 1 < L.length then L[i]? else H[i + 1 - L.length]?
structure Two (S L H : List S67) : Prop where
  lo : Lo S L
  up : Lo (S.map neg) (H.map neg)
  l2 : 2 ≤ L.length
  h2 : 2 ≤ H.length
  top : L[L.length - 1]? = H[0]?
  bot : H[H.length - 1]? = L[0]?
theorem two_hull (S : List S67) (hS : S.Pairwise lt2) (h2 : 2 ≤ S.length) : Two S (chainF S) (chainF S.reverse) := by
  have hne : S ≠ [] := by intro e; simp [e] at h2
  have lo := lo_chain S hS hne
  have up := lo_up S hS hne
  generalize chainF S = L at lo
  generalize chainF S.reverse = H at up
  have hHne : H ≠ [] := by have := up.ne; simpa using this
  obtain ⟨s0, s1, S', rfl⟩ : ∃ a b r, S = a :: b :: r := by
    match S, h2 with
    | a :: b :: r, _ => exact ⟨a, b, r, rfl⟩
  have hs01 : lt2 s0 s1 := (List.pairwise_cons.1 hS).1 s1 (by simp)
  have upm : ∀ x ∈ H, x ∈ s0 :: s1 :: S' := by
    intro x hx
    have := up.sub (neg x) (List.mem_map_of_mem hx)
    obtain ⟨y, hy, e⟩ := List.mem_map.1 this
    have : y = x := by rw [← neg_neg y, e, neg_neg]
    rw [← this]; exact hy
  have two : ∀ (F Q : List S67), Lo Q F → ∀ a b, a ∈ Q → b ∈ Q → lt2 a b → 2 ≤ F.length := by
    intro F Q h a b ha hb hab
    match F, h with
    | [], h => exact absurd rfl h.ne
    | [x], h =>
      have x1 := h.hd x rfl a ha
      have x2 := h.lst x rfl b hb
      exfalso
      rcases x1 with e | e <;> rcases x2 with e2 | e2
      · subst e; subst e2; exact lt2_irr hab
      · subst e; exact lt2_irr (lt2_trans hab e2)
      · subst e2; exact lt2_irr (lt2_trans hab e)
      · exact lt2_irr (lt2_trans (lt2_trans hab e2) e)
    | x :: y :: r, _ => simp
  have l2 := two L _ lo s0 s1 (by simp) (by simp) hs01
  have h2' := two (H.map neg) _ up (neg s1) (neg s0) (by simp) (by simp) ((lt2_neg _ _).2 hs01)
  rw [List.length_map] at h2'
  have last : ∀ F : List S67, F.getLast? = F[F.length - 1]? := fun F => List.getLast?_eq_getElem?
  have e1 : ∃ x, L[L.length - 1]? = some x ∧ H[0]? = some x := by
    have g1 : L[L.length - 1]? = some (L[L.length - 1]'(by omega)) := List.getElem?_eq_getElem _
    have g2 : H[0]? = some (H[0]'(by omega)) := List.getElem?_eq_getElem _
    refine ⟨_, g1, ?_⟩
    rw [g2]
    have x1 := lo.lst _ (by rw [last]; exact g1) H[0] (upm _ (List.getElem_mem _))
    have x2 := up.hd (neg H[0]) (by rw [List.head?_eq_getElem?, List.getElem?_map, g2]; rfl) (neg (L[L.length - 1]'(by omega))) (List.mem_map_of_mem (lo.sub _ (List.getElem_mem _)))
    rcases x1 with e | e
    · rw [e]
    · rcases x2 with e2 | e2
      · have := congrArg neg e2; rw [neg_neg, neg_neg] at this; rw [this]
      · exact absurd (lt2_trans e ((lt2_neg _ _).1 e2)) lt2_irr
  have e2 : ∃ x, H[H.length - 1]? = some x ∧ L[0]? = some x := by
    have g1 : H[H.length - 1]? = some (H[H.length - 1]'(by omega)) := List.getElem?_eq_getElem _
    have g2 : L[0]? = some (L[0]'(by omega)) := List.getElem?_eq_getElem _
    refine ⟨_, g1, ?_⟩
    rw [g2]
    have x1 := up.lst (neg (H[H.length - 1]'(by omega))) (by rw [last, List.length_map, List.getElem?_map, g1]; rfl) (neg L[0]) (List.mem_map_of_mem (lo.sub _ (List.getElem_mem _)))
    have x2 := lo.hd L[0] (by rw [List.head?_eq_getElem?]; exact g2) (H[H.length - 1]'(by omega)) (upm _ (List.getElem_mem _))
    rcases x2 with e | e
    · rw [e]
    · rcases x1 with e2 | e2
      · have := congrArg neg e2; rw [neg_neg, neg_neg] at this; rw [this]
      · exact absurd (lt2_trans e ((lt2_neg _ _).1 e2)) lt2_irr
  obtain ⟨x, e1, e1'⟩ := e1
  obtain ⟨y, e2, e2'⟩ := e2
  exact ⟨lo, up, l2, h2', by rw [e1, e1'], by rw [e2, e2']⟩
theorem up_edge {S H : List S67} (up : Lo (S.map neg) (H.map neg)) : ∀ i a b, H[i]? = some a → H[i + 1]? = some b → lt2 b a ∧ ∀ q ∈ S, 0 ≤ cr a b q := by
  intro i a b h1 h2
  have g1 : (H.map neg)[i]? = some (neg a) := by rw [List.getElem?_map, h1]; rfl
  have g2 : (H.map neg)[i + 1]? = some (neg b) := by rw [List.getElem?_map, h2]; rfl
  constructor
  · have p := List.pairwise_iff_getElem.1 up.inc i (i + 1) (List.getElem?_eq_some_iff.1 g1).1 (List.getElem?_eq_some_iff.1 g2).1 (by omega)
    rw [(List.getElem?_eq_some_iff.1 g1).2, (List.getElem?_eq_some_iff.1 g2).2] at p
    exact (lt2_neg _ _).1 p
  · intro q hq
    have := up.ed i _ _ g1 g2 (neg q) (List.mem_map_of_mem hq)
    rwa [cr_neg] at this
theorem up_tri {S H : List S67} (up : Lo (S.map neg) (H.map neg)) : TrI H := by
  intro i a b c h1 h2 h3
  have := up.tr i (neg a) (neg b) (neg c) (by rw [List.getElem?_map, h1]; rfl) (by rw [List.getElem?_map, h2]; rfl) (by rw [List.getElem?_map, h3]; rfl)
  rwa [cr_neg] at this
theorem lo_edge {S L : List S67} (lo : Lo S L) : ∀ i a b, L[i]? = some a → L[i + 1]? = some b → lt2 a b ∧ ∀ q ∈ S, 0 ≤ cr a b q := by
  intro i a b h1 h2
  refine ⟨?_, lo.ed i a b h1 h2⟩
  have p := List.pairwise_iff_getElem.1 lo.inc i (i + 1) (List.getElem?_eq_some_iff.1 h1).1 (List.getElem?_eq_some_iff.1 h2).1 (by omega)
  rwa [(List.getElem?_eq_some_iff.1 h1).2, (List.getElem?_eq_some_iff.1 h2).2] at p
theorem up_mem {S H : List S67} (up : Lo (S.map neg) (H.map neg)) : ∀ x ∈ H, x ∈ S := by
  intro x hx
  have := up.sub (neg x) (List.mem_map_of_mem hx)
  obtain ⟨y, hy, e⟩ := List.mem_map.1 this
  have : y = x := by rw [← neg_neg y, e, neg_neg]
  rw [← this]; exact hy
theorem at_edge {S L H : List S67} (T : Two S L H) {i : Nat} {a b : S67} (hi : i + 2 < L.length + H.length) (h1 : At L H i = some a) (h2 : At L H (i + 1) = some b) : ∀ q ∈ S, 0 ≤ cr a b q := by
  have l2 := T.l2
  unfold At at h1 h2
  by_cases c : i + 1 < L.length
  · rw [if_pos c] at h1
    by_cases c2 : i + 1 + 1 < L.length
    · rw [if_pos c2] at h2
      exact (lo_edge T.lo i a b h1 h2).2
    · rw [if_neg c2, show i + 1 + 1 - L.length = 0 by omega, ← T.top, show L.length - 1 = i + 1 by omega] at h2
      exact (lo_edge T.lo i a b h1 h2).2
  · rw [if_neg c] at h1
    rw [if_neg (by omega), show i + 1 + 1 - L.length = (i + 1 - L.length) + 1 by omega] at h2
    exact (up_edge T.up _ a b h1 h2).2
theorem not_flat {S L H : List S67} (T : Two S L H) (hn : 4 < L.length + H.length) : ¬ ∀ x ∈ S, ∀ y ∈ S, ∀ z ∈ S, cr x y z = 0 := by
  intro h
  rcases (show 3 ≤ L.length ∨ 3 ≤ H.length by omega) with c | c
  · have t := T.lo.tr 0 (L[0]'(by omega)) (L[1]'(by omega)) (L[2]'(by omega)) (List.getElem?_eq_getElem _) (List.getElem?_eq_getElem _) (List.getElem?_eq_getElem _)
    have := h _ (T.lo.sub _ (List.getElem_mem (show 0 < L.length by omega))) _ (T.lo.sub _ (List.getElem_mem (show 1 < L.length by omega))) _ (T.lo.sub _ (List.getElem_mem (show 2 < L.length by omega)))
    omega
  · have t := up_tri T.up 0 (H[0]'(by omega)) (H[1]'(by omega)) (H[2]'(by omega)) (List.getElem?_eq_getElem _) (List.getElem?_eq_getElem _) (List.getElem?_eq_getElem _)
    have := h _ (up_mem T.up _ (List.getElem_mem (show 0 < H.length by omega))) _ (up_mem T.up _ (List.getElem_mem (show 1 < H.length by omega))) _ (up_mem T.up _ (List.getElem_mem (show 2 < H.length by omega)))
    omega
theorem top_joint {S L H : List S67} (T : Two S L H) (hn : 4 < L.length + H.length) {a p b : S67} (h1 : L[L.length - 2]? = some a) (h2 : L[L.length - 1]? = some p) (h3 : H[1]? = some b) : 0 < cr a p b := by
  have l2 := T.l2
  have h4 : H[0]? = some p := by rw [← T.top]; exact h2
  obtain ⟨la, ea⟩ := lo_edge T.lo (L.length - 2) a p h1 (by rw [show L.length - 2 + 1 = L.length - 1 by omega]; exact h2)
  obtain ⟨lb, eb⟩ := up_edge T.up 0 p b h4 h3
  have hb := up_mem T.up b (List.mem_of_getElem? h3)
  have c := ea b hb
  by_cases c0 : cr a p b = 0
  · exact absurd (joint (fun q hq => T.lo.lst p (by rw [List.getLast?_eq_getElem?]; exact h2) q hq) la lb ea eb c0) (not_flat T hn)
  · omega
theorem bot_joint {S L H : List S67} (T : Two S L H) (hn : 4 < L.length + H.length) {a p b : S67} (h1 : H[H.length - 2]? = some a) (h2 : H[H.length - 1]? = some p) (h3 : L[1]? = some b) : 0 < cr a p b := by
  have l2 := T.h2
  have h4 : L[0]? = some p := by rw [← T.bot]; exact h2
  obtain ⟨la, ea⟩ := up_edge T.up (H.length - 2) a p h1 (by rw [show H.length - 2 + 1 = H.length - 1 by omega]; exact h2)
  obtain ⟨lb, eb⟩ := lo_edge T.lo 0 p b h4 h3
  have hb := T.lo.sub b (List.mem_of_getElem? h3)
  have c := ea b hb
  by_cases c0 : cr a p b = 0
  · exfalso
    have hneg : ∀ q ∈ S.map neg, ∃ y ∈ S, neg y = q := fun q hq => by obtain ⟨y, hy, e⟩ := List.mem_map.1 hq; exact ⟨y, hy, e⟩
    have J := joint (Q := S.map neg) (pm := neg p) (a := neg a) (b := neg b)
      (fun q hq => T.up.lst (neg p) (by rw [List.getLast?_eq_getElem?, List.length_map, List.getElem?_map, h2]; rfl) q hq)
      ((lt2_neg _ _).2 la) ((lt2_neg _ _).2 lb)
      (fun q hq => by obtain ⟨y, hy, rfl⟩ := hneg q hq; rw [cr_neg]; exact ea y hy)
      (fun q hq => by obtain ⟨y, hy, rfl⟩ := hneg q hq; rw [cr_neg]; exact eb y hy)
      (by rw [cr_neg]; exact c0)
    exact not_flat T hn (fun x hx y hy z hz => by
      have := J (neg x) (List.mem_map_of_mem hx) (neg y) (List.mem_map_of_mem hy) (neg z) (List.mem_map_of_mem hz)
      rwa [cr_neg] at this)
  · omega
theorem at_tri {S L H : List S67} (T : Two S L H) (hn : 4 < L.length + H.length) {i : Nat} {a b c : S67} (h1 : At L H i = some a) (h2 : At L H (i + 1) = some b) (h3 : At L H (i + 2) = some c) : 0 < cr a b c := by
  have l2 := T.l2
  unfold At at h1 h2 h3
  by_cases c1 : i + 1 < L.length
  · rw [if_pos c1] at h1
    by_cases c2 : i + 1 + 1 < L.length
    · rw [if_pos c2] at h2
      by_cases c3 : i + 2 + 1 < L.length
      · rw [if_pos c3] at h3
        exact T.lo.tr i a b c h1 h2 h3
      · rw [if_neg c3, show i + 2 + 1 - L.length = 0 by omega, ← T.top, show L.length - 1 = i + 2 by omega] at h3
        exact T.lo.tr i a b c h1 h2 h3
    · rw [if_neg c2, show i + 1 + 1 - L.length = 0 by omega, ← T.top] at h2
      rw [if_neg (by omega), show i + 2 + 1 - L.length = 1 by omega] at h3
      exact top_joint T hn (by rw [show L.length - 2 = i by omega]; exact h1) h2 h3
  · rw [if_neg c1] at h1
    rw [if_neg (by omega), show i + 1 + 1 - L.length = (i + 1 - L.length) + 1 by omega] at h2
    rw [if_neg (by omega), show i + 2 + 1 - L.length = (i + 1 - L.length) + 2 by omega] at h3
    exact up_tri T.up _ a b c h1 h2 h3
theorem at_get {L H : List S67} (l2 : 2 ≤ L.length) {i : Nat} (hi : i + 2 < L.length + H.length) : (L.dropLast ++ H.dropLast)[i]? = At L H i := by
  unfold At
  by_cases c : i + 1 < L.length
  · rw [if_pos c, List.getElem?_append_left (by rw [List.length_dropLast]; omega), List.getElem?_dropLast, if_pos (by omega)]
  · rw [if_neg c, List.getElem?_append_right (by rw [List.length_dropLast]; omega), List.length_dropLast, List.getElem?_dropLast, if_pos (by omega), show i - (L.length - 1) = i + 1 - L.length by omega]
theorem at_end {S L H : List S67} (T : Two S L H) : At L H (L.length + H.length - 2) = At L H 0 := by
  have l2 := T.l2
  have h2 := T.h2
  unfold At
  rw [if_neg (by omega), if_pos (by omega), show L.length + H.length - 2 + 1 - L.length = H.length - 1 by omega]
  exact T.bot
theorem hull_ring {S L H : List S67} (T : Two S L H) {n i : Nat} (hn : n = L.length + H.length - 2) (hi : i < n) {a b : S67} (h1 : (L.dropLast ++ H.dropLast)[i]? = some a) (h2 : (L.dropLast ++ H.dropLast)[(i + 1) % n]? = some b) :
    (∀ q ∈ S, 0 ≤ cr a b q) ∧ ∀ c, 2 < n → (L.dropLast ++ H.dropLast)[(i + 2) % n]? = some c → 0 < cr a b c := by
  have l2 := T.l2
  have hh2 := T.h2
  rw [at_get l2 (by omega)] at h1
  by_cases c : i + 1 < n
  · rw [Nat.mod_eq_of_lt c, at_get l2 (by omega)] at h2
    refine ⟨at_edge T (by omega) h1 h2, fun x hn2 hx => ?_⟩
    by_cases c2 : i + 2 < n
    · rw [Nat.mod_eq_of_lt c2, at_get l2 (by omega)] at hx
      exact at_tri T (by omega) h1 h2 hx
    · rw [show i + 2 = n by omega, Nat.mod_self, at_get l2 (by omega), ← at_end T, show L.length + H.length - 2 = i + 2 by omega] at hx
      exact at_tri T (by omega) h1 h2 hx
  · rw [show i + 1 = n by omega, Nat.mod_self, at_get l2 (by omega)] at h2
    have h2' : At L H (i + 1) = some b := by rw [← at_end T] at h2; rw [show i + 1 = L.length + H.length - 2 by omega]; exact h2
    refine ⟨at_edge T (by omega) h1 h2', fun x hn2 hx => ?_⟩
    rw [show i + 2 = n + 1 by omega, Nat.add_mod_left, Nat.mod_eq_of_lt (by omega), at_get l2 (by omega)] at hx
    have e0 : At L H 0 = L[0]? := by unfold At; rw [if_pos (by omega)]
    have e1 : At L H 1 = L[1]? := by
      unfold At
      by_cases q : 1 + 1 < L.length
      · rw [if_pos q]
      · rw [if_neg q, show 1 + 1 - L.length = 0 by omega, ← T.top, show L.length - 1 = 1 by omega]
    have e3 : At L H i = H[H.length - 2]? := by unfold At; rw [if_neg (by omega), show i + 1 - L.length = H.length - 2 by omega]
    rw [e0, ← T.bot] at h2
    exact bot_joint T (by omega) (by rw [← e3]; exact h1) h2 (by rw [← e1]; exact hx)
theorem drop_mem {L : List S67} {x : S67} (h : x ∈ L) : x ∈ L.dropLast ∨ L[L.length - 1]? = some x := by
  obtain ⟨j, hj, e⟩ := List.getElem_of_mem h
  by_cases c : j < L.length - 1
  · left
    have : L.dropLast[j]? = some x := by rw [List.getElem?_dropLast, if_pos c, List.getElem?_eq_getElem hj, e]
    exact List.mem_of_getElem? this
  · right
    have : j = L.length - 1 := by omega
    subst this
    rw [List.getElem?_eq_getElem hj, e]
theorem head_drop {H : List S67} (h2 : 2 ≤ H.length) {x : S67} (h : H[0]? = some x) : x ∈ H.dropLast := by
  have : H.dropLast[0]? = some x := by rw [List.getElem?_dropLast, if_pos (by omega), h]
  exact List.mem_of_getElem? this
theorem hull_has {S L H : List S67} (T : Two S L H) : (∀ x ∈ L, x ∈ L.dropLast ++ H.dropLast) ∧ (∀ x ∈ H, x ∈ L.dropLast ++ H.dropLast) ∧ ∀ x ∈ L.dropLast ++ H.dropLast, x ∈ S := by
  refine ⟨fun x hx => ?_, fun x hx => ?_, fun x hx => ?_⟩
  · rcases drop_mem hx with h | h
    · exact List.mem_append_left _ h
    · rw [T.top] at h; exact List.mem_append_right _ (head_drop T.h2 h)
  · rcases drop_mem hx with h | h
    · exact List.mem_append_right _ h
    · rw [T.bot] at h; exact List.mem_append_left _ (head_drop T.l2 h)
  · rcases List.mem_append.1 hx with h | h
    · exact T.lo.sub x (List.dropLast_subset _ h)
    · exact up_mem T.up x (List.dropLast_subset _ h)
theorem srt_lt2 (l : List S67) : (srt l).Pairwise lt2 := (srt_sorted l).imp (fun h => (ltP_lt2 _ _).1 h)
theorem neg_map (F : List S67) : (F.map neg).map neg = F := by
  rw [List.map_map]; conv => rhs; rw [← List.map_id F]
  exact List.map_congr_left (fun x _ => neg_neg x)
theorem hull_again (S : List S67) (hS : S.Pairwise lt2) : hullF (srt (hullF S)) = hullF S := by
  by_cases c : S.length < 2
  · have e : hullF S = S := by unfold hullF; rw [if_pos c]
    rw [e]
    have : srt S = S := by
      match S, c with
      | [], _ => rfl
      | [a], _ => rfl
      | a :: b :: r, c => simp at c; omega
    rw [this]; exact e
  · have T := two_hull S hS (by omega)
    have e : hullF S = (chainF S).dropLast ++ (chainF S.reverse).dropLast := by unfold hullF; rw [if_neg c]
    rw [e]
    generalize chainF S = L at T
    generalize chainF S.reverse = H at T
    obtain ⟨m1, m2, m3⟩ := hull_has T
    generalize hg : L.dropLast ++ H.dropLast = h at m1 m2 m3
    have hs := srt_lt2 h
    have hm := srt_mem h
    have hne : srt h ≠ [] := by
      intro q
      have : L[0]'(by have := T.l2; omega) ∈ srt h := (hm _).2 (m1 _ (List.getElem_mem _))
      rw [q] at this; cases this
    have lo' := lo_chain (srt h) hs hne
    have up' := lo_up (srt h) hs hne
    have eL : L = chainF (srt h) := uniq_lo T.lo lo' (fun x hx => (hm x).2 (m1 x hx)) (fun x hx => m3 x ((hm x).1 (lo'.sub x hx)))
    have eH : H = chainF (srt h).reverse := by
      have := uniq_lo T.up up' (fun x hx => by
          obtain ⟨y, hy, rfl⟩ := List.mem_map.1 hx
          exact List.mem_map_of_mem ((hm y).2 (m2 y hy)))
        (fun x hx => by
          obtain ⟨y, hy, rfl⟩ := List.mem_map.1 (up'.sub x hx)
          exact List.mem_map_of_mem (m3 y ((hm y).1 hy)))
      rw [← neg_map H, this, neg_map]
    have hlen := chainF_len (srt h)
    rw [← eL] at hlen
    have l2 := T.l2
    unfold hullF
    rw [if_neg (by omega), ← eL, ← eH]; exact hg

theorem turn_ok {a b c : S67} (ha : ptOk a.f0 a.f1 = true) (hb : ptOk b.f0 b.f1 = true) (hc : ptOk c.f0 c.f1 = true) : turnW a.f0 a.f1 b.f0 b.f1 c.f0 c.f1 = sgn (cr a b c) := by
  unfold turnW tk
  rw [if_pos ha, if_pos hb, if_pos hc]
  simp only []
  rw [cross_cr ha hb hc]
theorem seg_ok {a b c : S67} (ha : ptOk a.f0 a.f1 = true) (hb : ptOk b.f0 b.f1 = true) (hc : ptOk c.f0 c.f1 = true) (h0 : cr a b c = 0) (hab : lt2 a b) (h1 : c = a ∨ lt2 a c) (h2 : c = b ∨ lt2 c b) : onSegT a.f0 a.f1 b.f0 b.f1 c.f0 c.f1 = true := by
  unfold onSegT tk
  rw [if_pos ha, if_pos hb, if_pos hc]
  simp only []
  unfold onSegW betw
  rw [cross_cr ha hb hc, h0]
  have k : min a.f0 b.f0 ≤ c.f0 ∧ c.f0 ≤ max a.f0 b.f0 ∧ min a.f1 b.f1 ≤ c.f1 ∧ c.f1 ≤ max a.f1 b.f1 := by
    rcases h1 with rfl | h1
    · omega
    rcases h2 with rfl | h2
    · omega
    unfold lt2 lp at hab h1 h2
    unfold cr xp at h0
    by_cases e : a.f0 = b.f0
    · omega
    · have u : 0 < b.f0 - a.f0 := by omega
      have v : 0 ≤ c.f0 - a.f0 := by omega
      have w : 0 ≤ b.f0 - c.f0 := by omega
      have e1 : (b.f0 - a.f0) * (c.f1 - a.f1) = (b.f1 - a.f1) * (c.f0 - a.f0) := by omega
      have e2 : (b.f0 - a.f0) * (b.f1 - c.f1) = (b.f1 - a.f1) * (b.f0 - c.f0) := by grind
      rcases Int.le_total 0 (b.f1 - a.f1) with y | y
      · have p1 := mnn u (e1 ▸ Int.mul_nonneg y v)
        have p2 := mnn u (e2 ▸ Int.mul_nonneg y w)
        omega
      · have y' : 0 ≤ a.f1 - b.f1 := by omega
        have p1 : 0 ≤ a.f1 - c.f1 := mnn u (by
          have : (b.f0 - a.f0) * (a.f1 - c.f1) = (a.f1 - b.f1) * (c.f0 - a.f0) := by grind
          rw [this]; exact Int.mul_nonneg y' v)
        have p2 : 0 ≤ c.f1 - b.f1 := mnn u (by
          have : (b.f0 - a.f0) * (c.f1 - b.f1) = (a.f1 - b.f1) * (b.f0 - c.f0) := by grind
          rw [this]; exact Int.mul_nonneg y' w)
        omega
  obtain ⟨k1, k2, k3, k4⟩ := k
  simp [k1, k2, k3, k4]
theorem cr_turn (a b c : S67) : cr b a c = - cr a b c := by simp only [cr, xp]; grind
theorem hull_two {S L H : List S67} (T : Two S L H) (hn : L.length + H.length - 2 = 2) : ∃ a b, L.dropLast ++ H.dropLast = [a, b] ∧ lt2 a b ∧ ∀ q ∈ S, cr a b q = 0 ∧ (q = a ∨ lt2 a q) ∧ (q = b ∨ lt2 q b) := by
  have l2 := T.l2
  have h2 := T.h2
  obtain ⟨a, b, rfl⟩ : ∃ a b, L = [a, b] := by
    match L, (show L.length = 2 by omega) with
    | [a, b], _ => exact ⟨a, b, rfl⟩
  obtain ⟨c, d, rfl⟩ : ∃ a b, H = [a, b] := by
    match H, (show H.length = 2 by simp at hn l2 h2 ⊢; omega) with
    | [a, b], _ => exact ⟨a, b, rfl⟩
  have t := T.top
  have e := T.bot
  have t1 : b = c := by simpa using t
  have e1 : d = a := by simpa using e
  subst t1; subst e1
  obtain ⟨x1, x2⟩ := lo_edge T.lo 0 d b rfl rfl
  obtain ⟨y1, y2⟩ := up_edge T.up 0 b d rfl rfl
  refine ⟨d, b, rfl, x1, fun q hq => ⟨?_, T.lo.hd d rfl q hq, T.lo.lst b rfl q hq⟩⟩
  have := x2 q hq
  have := y2 q hq
  rw [cr_turn] at this
  omega
theorem draw9_loop {l : List Int} (hl : l.length ≤ 140737488351232) : ∀ (n : Nat) (P : List S67) (i h : Int) (k : Nat), St l i → n + 2 ≤ k → P.length + n ≤ 1000000 →
    ∃ R i' h', spec_l9Draw.l0 k P (n : Int) l i h = some (R, i', h') ∧ R.length = P.length + n
  | 0, P, i, h, k, s, hk, hP => by
    obtain ⟨k, rfl⟩ : ∃ j, k = j + 1 := ⟨k - 1, by omega⟩
    rw [spec_l9Draw.l0, if_neg (by omega)]
    exact ⟨P, i, h, rfl, rfl⟩
  | n + 1, P, i, h, k, s, hk, hP => by
    obtain ⟨k, rfl⟩ : ∃ j, k = j + 1 := ⟨k - 1, by omega⟩
    rw [spec_l9Draw.l0, if_pos (by omega)]
    obtain ⟨x, y, i1, h1, e1, s1⟩ := draw3_ok hl (h := h) (k := k) (by omega) s
    rw [e1]; simp only [Option.bind_some, spec_l3Pt_eq]
    obtain ⟨b, i2, h2, e2, s2⟩ := once_ok hl (h := h1) 40 s1
    rw [e2]; simp only [Option.bind_some]
    have ew : wrap64 (((n + 1 : Nat) : Int) - 1) = (n : Int) := by rw [wrap_in (by omega) (by omega)]; omega
    have hP1 : P.length < 8796093022208 := by omega
    cases b
    · rw [if_neg (by decide), if_pos hP1, ew]
      obtain ⟨R, i', h', e, hR⟩ := draw9_loop hl n (P ++ [(⟨(tk x y).1, (tk x y).2⟩ : S67)]) i2 h2 k s2 (by omega) (by simp; omega)
      exact ⟨R, i', h', e, by rw [hR]; simp; omega⟩
    · rw [if_pos rfl, if_pos hP1, ew]
      obtain ⟨R, i', h', e, hR⟩ := draw9_loop hl n (P ++ [(⟨10000001, 0⟩ : S67)]) i2 h2 k s2 (by omega) (by simp; omega)
      exact ⟨R, i', h', e, by rw [hR]; simp; omega⟩
theorem srt_rep (n : Nat) (z : S67) : (srt (List.replicate n z)).length ≤ 1 := by
  have h := srt_sorted (List.replicate n z)
  have m := srt_mem (List.replicate n z)
  generalize srt (List.replicate n z) = S at h m
  match S with
  | [] => simp
  | [a] => simp
  | a :: b :: r =>
    have ea : a = z := List.eq_of_mem_replicate ((m a).1 (by simp))
    have eb : b = z := List.eq_of_mem_replicate ((m b).1 (by simp))
    exact (ltP_irr (x := z) (by have := (List.pairwise_cons.1 h).1 b (by simp); rwa [ea, eb] at this)).elim
theorem drawHull_ok (l : List Int) (hl : l.length ≤ 1048576) {k : Nat} (hk : 1100000 ≤ k) : ∃ L, spec_DrawHull.f k l = some L ∧ L.length ≤ 501 ∧ (srt L).length ≤ 30 := by
  obtain ⟨h, e⟩ := new_ok l (by omega) (show l.length < k by omega)
  unfold spec_DrawHull.f
  rw [e]; simp only [Option.bind_some]
  obtain ⟨b, i1, h1, e1, s1⟩ := once_ok (l := l) (by omega) (h := h) 60 (st0 l)
  rw [e1]; simp only [Option.bind_some]
  cases b
  · rw [if_neg (by decide)]
    have es : ∃ m, spec_l1Size.f l 30 = some m ∧ m ≤ 30 ∧ 3 ≤ m := by
      unfold spec_l1Size.f
      have e0 : wrap64 ((l.length : Int) / 12) = (l.length : Int) / 12 := wrap_in (by omega) (by omega)
      have e1 : wrap64 (3 + (l.length : Int) / 12) = 3 + (l.length : Int) / 12 := wrap_in (by omega) (by omega)
      rw [e0, e1]
      split
      · exact ⟨_, rfl, by omega, by omega⟩
      · exact ⟨_, rfl, by omega, by omega⟩
    obtain ⟨m, em, m1, m2⟩ := es
    rw [em]; simp only [Option.bind_some]
    unfold spec_l9Draw.f
    obtain ⟨x, i2, h2, e2, s2, x0, x1, _⟩ := below_ok (l := l) (by omega) (h := h1) (n := m) s1
    rw [e2]; simp only [Option.bind_some]
    have hx := x1 (by omega)
    obtain ⟨n, rfl⟩ := Int.eq_ofNat_of_zero_le x0
    obtain ⟨R, i', h', e3, hR⟩ := draw9_loop (l := l) (by omega) n [] i2 h2 k s2 (by omega) (by simp; omega)
    have hR' : R.length = n := by simpa using hR
    rw [e3]; simp only [Option.bind_some]
    exact ⟨R, rfl, by omega, by have := srt_len R; omega⟩
  · rw [if_pos rfl]
    obtain ⟨x, i2, h2, e2, s2, x0, x1, _⟩ := below_ok (l := l) (by omega) (h := h1) (n := 2) s1
    rw [e2]; simp only [Option.bind_some]
    have hx := x1 (by omega)
    rw [wrap_in (by omega) (by omega), if_pos (by omega), if_pos (by omega)]
    exact ⟨_, rfl, by simp; omega, by have := srt_rep (500 + x).toNat z67; omega⟩
theorem rd_some {h : List S67} {i : Nat} (hi : i < h.length) : h[i]? = some (rd_T67 h (i : Int)) := by
  unfold rd_T67; rw [Int.toNat_natCast, List.getD_eq_getElem?_getD, List.getElem?_eq_getElem hi]; rfl
theorem rd_mem {h : List S67} {i : Nat} (hi : i < h.length) : rd_T67 h (i : Int) ∈ h := List.mem_of_getElem? (rd_some hi)
theorem tmodN (i n : Nat) : Int.tmod ((i : Nat) : Int) (n : Int) = ((i % n : Nat) : Int) := (Int.ofNat_tmod i n).symm
theorem samePts_loop (x : List S67) (hx : x.length ≤ 1000000) : ∀ (d i k : Nat), i + d = x.length → d + 1 ≤ k → laws_samePts.l0 k x x (i : Int) = some true
  | 0, i, k, h, hk => by
    obtain ⟨k, rfl⟩ : ∃ j, k = j + 1 := ⟨k - 1, by omega⟩
    rw [laws_samePts.l0, if_neg (by omega)]
  | d + 1, i, k, h, hk => by
    obtain ⟨k, rfl⟩ : ∃ j, k = j + 1 := ⟨k - 1, by omega⟩
    rw [laws_samePts.l0, if_pos (by omega), if_pos (by omega), if_pos (by omega), if_neg (by simp), wrap_in (by omega) (by omega)]
    exact samePts_loop x hx d (i + 1) k (by omega) (by omega)
theorem samePts_refl (x : List S67) (hx : x.length ≤ 1000000) {k : Nat} (hk : x.length + 1 ≤ k) : laws_samePts.f k x x = some true := by
  unfold laws_samePts.f; rw [if_pos rfl]; exact samePts_loop x hx x.length 0 k (by omega) hk
theorem hl1 {L h : List S67} {n i : Nat} (hL : L.length ≤ 1000000) (hn : n = h.length) (hs : n ≤ 1000000) (hi : i < n)
    (ed : ∀ q ∈ L, 0 ≤ turnW (rd_T67 h (i : Int)).f0 (rd_T67 h (i : Int)).f1 (rd_T67 h (((i + 1) % n : Nat) : Int)).f0 (rd_T67 h (((i + 1) % n : Nat) : Int)).f1 q.f0 q.f1) :
    ∀ (d j k : Nat), j + d = L.length → laws_FnHulls.l1 (k + d + 1) L h (n : Int) (i : Int) (j : Int) = laws_FnHulls.l0 k L h (n : Int) ((i + 1 : Nat) : Int)
  | 0, j, k, e => by
    rw [laws_FnHulls.l1, if_neg (by omega), wrap_in (by omega) (by omega)]; rfl
  | d + 1, j, k, e => by
    have hm : (i + 1) % n < n := Nat.mod_lt _ (by omega)
    have e1 : wrap64 ((i : Int) + 1) = ((i + 1 : Nat) : Int) := wrap_in (by omega) (by omega)
    have e2 : wrap64 ((j : Int) + 1) = ((j + 1 : Nat) : Int) := wrap_in (by omega) (by omega)
    rw [show k + (d + 1) + 1 = (k + d + 1) + 1 by omega, laws_FnHulls.l1, e1, tmodN, e2, if_pos (by omega), if_pos (by omega), if_pos (by omega), if_neg (by omega), if_pos (by omega), if_pos (by omega), if_pos (by omega), impl_Turn_eq, Option.bind_some]
    have := ed _ (rd_mem (show j < L.length by omega))
    rw [if_neg (by omega)]
    exact hl1 hL hn hs hi ed d (j + 1) k (by omega)
theorem hl0 {L h : List S67} {n : Nat} (hL : L.length ≤ 1000000) (hn : n = h.length) (hs : n ≤ 1000000) (h2 : 2 < n)
    (ed : ∀ i : Nat, i < n → ∀ q ∈ L, 0 ≤ turnW (rd_T67 h (i : Int)).f0 (rd_T67 h (i : Int)).f1 (rd_T67 h (((i + 1) % n : Nat) : Int)).f0 (rd_T67 h (((i + 1) % n : Nat) : Int)).f1 q.f0 q.f1)
    (tr : ∀ i : Nat, i < n → turnW (rd_T67 h (i : Int)).f0 (rd_T67 h (i : Int)).f1 (rd_T67 h (((i + 1) % n : Nat) : Int)).f0 (rd_T67 h (((i + 1) % n : Nat) : Int)).f1 (rd_T67 h (((i + 2) % n : Nat) : Int)).f0 (rd_T67 h (((i + 2) % n : Nat) : Int)).f1 = 1) :
    ∀ (d i k : Nat), i + d = n → laws_FnHulls.l0 (k + d * (L.length + 3) + 2) L h (n : Int) (i : Int) = laws_FnHulls.l2 k L h (n : Int) 0
  | 0, i, k, e => by
    rw [show k + 0 * (L.length + 3) + 2 = (k + 1) + 1 by omega, laws_FnHulls.l0, if_neg (by omega), laws_FnHulls.j1, if_neg (by decide)]
  | d + 1, i, k, e => by
    have hm : (i + 1) % n < n := Nat.mod_lt _ (by omega)
    have hm2 : (i + 2) % n < n := Nat.mod_lt _ (by omega)
    have e1 : wrap64 ((i : Int) + 1) = ((i + 1 : Nat) : Int) := wrap_in (by omega) (by omega)
    have e2 : wrap64 ((i : Int) + 2) = ((i + 2 : Nat) : Int) := wrap_in (by omega) (by omega)
    have ek : k + (d + 1) * (L.length + 3) + 2 = ((k + d * (L.length + 3) + 2) + L.length + 1) + 1 + 1 := by rw [Nat.add_mul]; omega
    rw [ek, laws_FnHulls.l0, if_pos (by omega), decide_eq_true (show (n : Int) > 2 by omega), laws_FnHulls.j1, e1, e2, tmodN, tmodN, if_pos rfl, if_pos (by omega), if_pos (by omega), if_neg (by omega), if_pos (by omega), if_pos (by omega), if_pos (by omega), if_pos (by omega), impl_Turn_eq, Option.bind_some, if_pos (tr i (by omega))]
    have := hl1 hL hn hs (i := i) (by omega) (ed i (by omega)) L.length 0 (k + d * (L.length + 3) + 2) (by omega)
    rw [show (0 : Int) = ((0 : Nat) : Int) from rfl, this]
    exact hl0 hL hn hs h2 ed tr d (i + 1) k (by omega)
theorem hfin {L h : List S67} {n k : Nat} {x : Int} (hk : 2100010 < k) (hh : hullOf h = h) (hl : h.length ≤ 1000000) (h0 : 0 < n) : laws_FnHulls.j4 k L h (n : Int) x false = some true := by
  obtain ⟨k, rfl⟩ : ∃ j, k = j + 1 := ⟨k - 1, by omega⟩
  rw [laws_FnHulls.j4, if_neg (by decide), impl_hull_eq h (by omega) (by omega), hh, Option.bind_some, samePts_refl h hl (by omega), Option.bind_some, if_pos rfl, decide_eq_true (show (n : Int) > 0 by omega)]
theorem hl2 {L h : List S67} {n : Nat} (hL : L.length ≤ 1000000) (hn : n = h.length) (hh : hullOf h = h) (hl : h.length ≤ 1000000) (h0 : 0 < n)
    (sg : n = 2 → ∀ q ∈ L, onSegT (rd_T67 h 0).f0 (rd_T67 h 0).f1 (rd_T67 h 1).f0 (rd_T67 h 1).f1 q.f0 q.f1 = true) :
    ∀ (d j k : Nat), j + d = L.length → 2100020 + 2 * d ≤ k → laws_FnHulls.l2 k L h (n : Int) (j : Int) = some true
  | 0, j, k, e, hk => by
    obtain ⟨k, rfl⟩ : ∃ j, k = j + 1 := ⟨k - 1, by omega⟩
    rw [laws_FnHulls.l2, if_neg (by omega)]
    exact hfin (by omega) hh hl h0
  | d + 1, j, k, e, hk => by
    obtain ⟨k, rfl⟩ : ∃ j, k = j + 1 := ⟨k - 1, by omega⟩
    rw [laws_FnHulls.l2, if_pos (by omega)]
    by_cases c : n = 2
    · rw [show ((n : Int) == 2) = true by rw [beq_iff_eq]; omega]
      obtain ⟨k, rfl⟩ : ∃ j, k = j + 1 := ⟨k - 1, by omega⟩
      rw [laws_FnHulls.j4, if_pos rfl, if_pos (by omega), if_pos (by omega), if_pos (by omega), if_pos (by omega), impl_OnSeg_eq, Option.bind_some, if_pos (sg c _ (rd_mem (show j < L.length by omega))), wrap_in (by omega) (by omega)]
      exact hl2 hL hn hh hl h0 sg d (j + 1) k (by omega) (by omega)
    · rw [show ((n : Int) == 2) = false by rw [beq_eq_false_iff_ne]; omega]
      exact hfin (by omega) hh hl h0
theorem law_run (L : List S67) (hL : L.length ≤ 501) (hS : (srt L).length ≤ 30) (h0 : ((hullOf L).length : Int) ≠ 0) {k : Nat} (hk : 3000000 ≤ k) : laws_FnHulls.l0 k L (hullOf L) ((hullOf L).length : Int) 0 = some true := by
  have hr : rightP L = true := by
    by_cases c : rightP L = true
    · exact c
    · exact absurd (by unfold hullOf; rw [if_neg c]; rfl) h0
  have hE : hullOf L = hullF (srt L) := by unfold hullOf; rw [if_pos hr]
  have hok : ∀ q ∈ srt L, ptOk q.f0 q.f1 = true := fun q hq => rightP_ok hr q ((srt_mem L q).1 hq)
  have again := hull_again (srt L) (srt_lt2 L)
  have hlen := hullF_len (srt L)
  rw [hE] at h0 ⊢
  have hinS : ∀ x ∈ hullF (srt L), x ∈ srt L := by
    by_cases c : (srt L).length < 2
    · unfold hullF; rw [if_pos c]; exact fun x h => h
    · unfold hullF; rw [if_neg c]; exact (hull_has (two_hull (srt L) (srt_lt2 L) (by omega))).2.2
  have hh : hullOf (hullF (srt L)) = hullF (srt L) := by
    unfold hullOf
    rw [if_pos, again]
    unfold rightP
    rw [Bool.and_eq_true, List.all_eq_true]
    exact ⟨fun x hx => hok x (hinS x hx), decide_eq_true (by omega)⟩
  have hLS : ∀ q ∈ L, q ∈ srt L := fun q hq => (srt_mem L q).2 hq
  by_cases c : (srt L).length < 2
  · have e : hullF (srt L) = srt L := by unfold hullF; rw [if_pos c]
    rw [e] at h0 hh ⊢
    obtain ⟨k, rfl⟩ : ∃ j, k = j + 2 := ⟨k - 2, by omega⟩
    have e1 : laws_FnHulls.l0 (k + 2) L (srt L) ((srt L).length : Int) 0 = laws_FnHulls.l2 k L (srt L) ((srt L).length : Int) 0 := by
      rw [show k + 2 = (k + 1) + 1 by omega, laws_FnHulls.l0, if_pos (by omega), decide_eq_false (show ¬ ((srt L).length : Int) > 2 by omega), laws_FnHulls.j1, if_neg (by decide)]
    rw [e1]
    exact hl2 (by omega) rfl hh (by omega) (by omega) (fun q => by omega) L.length 0 k (by omega) (by omega)
  · have T := two_hull (srt L) (srt_lt2 L) (by omega)
    have e : hullF (srt L) = (chainF (srt L)).dropLast ++ (chainF (srt L).reverse).dropLast := by unfold hullF; rw [if_neg c]
    rw [e] at h0 hh hlen hinS ⊢
    generalize chainF (srt L) = A at *
    generalize chainF (srt L).reverse = B at *
    have ring := fun (i : Nat) => @hull_ring (srt L) A B T (A.length + B.length - 2) i
    have l2 := T.l2
    have h2 := T.h2
    have hn : A.length + B.length - 2 = (A.dropLast ++ B.dropLast).length := by simp; omega
    have two : (A.dropLast ++ B.dropLast).length = 2 → ∃ a b, A.dropLast ++ B.dropLast = [a, b] ∧ lt2 a b ∧ ∀ q ∈ srt L, cr a b q = 0 ∧ (q = a ∨ lt2 a q) ∧ (q = b ∨ lt2 q b) := fun q => hull_two T (by omega)
    generalize A.dropLast ++ B.dropLast = h at *
    rw [hn] at ring
    have n2 : 2 ≤ h.length := by omega
    have hokh : ∀ i : Nat, i < h.length → ptOk (rd_T67 h (i : Int)).f0 (rd_T67 h (i : Int)).f1 = true := fun i hi => hok _ (hinS _ (rd_mem hi))
    have sg : h.length = 2 → ∀ q ∈ L, onSegT (rd_T67 h 0).f0 (rd_T67 h 0).f1 (rd_T67 h 1).f0 (rd_T67 h 1).f1 q.f0 q.f1 = true := by
      intro q2 q hq
      obtain ⟨a, b, ee, lab, hq2⟩ := two q2
      have oa := hokh 0 (by omega)
      have ob := hokh 1 (by omega)
      obtain ⟨z1, z2, z3⟩ := hq2 q (hLS q hq)
      subst ee
      exact seg_ok oa ob (hok q (hLS q hq)) z1 lab z2 z3
    by_cases c2 : h.length = 2
    · obtain ⟨k, rfl⟩ : ∃ j, k = j + 2 := ⟨k - 2, by omega⟩
      have e1 : laws_FnHulls.l0 (k + 2) L h (h.length : Int) 0 = laws_FnHulls.l2 k L h (h.length : Int) 0 := by
        rw [show k + 2 = (k + 1) + 1 by omega, laws_FnHulls.l0, if_pos (by omega), decide_eq_false (show ¬ (h.length : Int) > 2 by omega), laws_FnHulls.j1, if_neg (by decide)]
      rw [e1]
      exact hl2 (by omega) rfl hh (by omega) (by omega) sg L.length 0 k (by omega) (by omega)
    · have hm : ∀ j, j % h.length < h.length := fun j => Nat.mod_lt _ (by omega)
      have ed : ∀ i : Nat, i < h.length → ∀ q ∈ L, 0 ≤ turnW (rd_T67 h (i : Int)).f0 (rd_T67 h (i : Int)).f1 (rd_T67 h (((i + 1) % h.length : Nat) : Int)).f0 (rd_T67 h (((i + 1) % h.length : Nat) : Int)).f1 q.f0 q.f1 := by
        intro i hi q hq
        rw [turn_ok (hokh i hi) (hokh _ (hm _)) (hok q (hLS q hq))]
        have := (ring i rfl hi (rd_some hi) (rd_some (hm _))).1 q (hLS q hq)
        unfold sgn; split <;> (try split) <;> omega
      have tr : ∀ i : Nat, i < h.length → turnW (rd_T67 h (i : Int)).f0 (rd_T67 h (i : Int)).f1 (rd_T67 h (((i + 1) % h.length : Nat) : Int)).f0 (rd_T67 h (((i + 1) % h.length : Nat) : Int)).f1 (rd_T67 h (((i + 2) % h.length : Nat) : Int)).f0 (rd_T67 h (((i + 2) % h.length : Nat) : Int)).f1 = 1 := by
        intro i hi
        rw [turn_ok (hokh i hi) (hokh _ (hm _)) (hokh _ (hm _))]
        have := (ring i rfl hi (rd_some hi) (rd_some (hm _))).2 _ (by omega) (rd_some (hm _))
        unfold sgn; rw [if_pos this]
      have hb : h.length * (L.length + 3) ≤ 60 * 504 := Nat.mul_le_mul (by omega) (by omega)
      obtain ⟨k', rfl⟩ : ∃ j, k = j + h.length * (L.length + 3) + 2 := ⟨k - h.length * (L.length + 3) - 2, by omega⟩
      have := hl0 (L := L) (h := h) (by omega) rfl (by omega) (by omega) ed tr h.length 0 k' (by omega)
      rw [show ((0 : Nat) : Int) = 0 from rfl] at this
      rw [this]
      exact hl2 (by omega) rfl hh (by omega) (by omega) sg L.length 0 k' (by omega) (by omega)
theorem FnHulls : laws_FnHulls.Pure := by
  intro l _ _ _
  refine ⟨4000000, ?_⟩
  unfold laws_FnHulls.f laws_big.f
  rw [Option.bind_some]
  by_cases c : (l.length : Int) > 1048576
  · rw [decide_eq_true c, if_pos rfl]
  · rw [decide_eq_false c, if_neg (by decide)]
    obtain ⟨L, e, hL, hS⟩ := drawHull_ok l (by omega) (show 1100000 ≤ 4000000 by decide)
    rw [e, Option.bind_some, impl_hull_eq L (by omega) (by omega), Option.bind_some, spec_hull_eq L (by omega) (by omega), Option.bind_some]
    by_cases z : ((hullOf L).length : Int) = 0
    · rw [if_pos z, z]; rfl
    · rw [if_neg z]
      exact law_run L hL hS z (by omega)

end Go.Proofs.Ytgmnphckgicadaa.Pure
