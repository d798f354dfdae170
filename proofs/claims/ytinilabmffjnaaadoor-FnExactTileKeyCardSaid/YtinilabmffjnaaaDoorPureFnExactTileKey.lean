/- The pure statement of the law FnExactTileKey. No conditions beyond that each number is one of its kind. -/
import Derived.Test.YtinilabmffjnaaaDoorQFnExactTileKeyx11
namespace Go.Proofs.YtinilabmffjnaaaDoor.Pure
open Go.RowKit Go.Proofs.YtinilabmffjnaaaDoor.PFnExactTileKey Go.Proofs.YtinilabmffjnaaaDoorW.PrintWords Go.Proofs.YtinilabmffjnaaaDoorW.PrintLast Go.Proofs.YtinilabmffjnaaaDoorW.PrintMore
set_option linter.unusedVariables false
set_option linter.unusedSimpArgs false

/-- The points that are right. -/
def ptOk (x y : Int) : Bool := decide (-10000000 ≤ x) && decide (x ≤ 10000000) && decide (-10000000 ≤ y) && decide (y ≤ 10000000)
/-- The boxes that are right. -/
def boxOk (a b c d : Int) : Bool := ptOk a b && ptOk c d && decide (a ≤ c) && decide (b ≤ d)
theorem ptOk_iff {x y : Int} : ptOk x y = true ↔ -10000000 ≤ x ∧ x ≤ 10000000 ∧ -10000000 ≤ y ∧ y ≤ 10000000 := by
  simp [ptOk, and_assoc]
theorem boxOk_iff {a b c d : Int} : boxOk a b c d = true ↔ (-10000000 ≤ a ∧ a ≤ 10000000 ∧ -10000000 ≤ b ∧ b ≤ 10000000) ∧ (-10000000 ≤ c ∧ c ≤ 10000000 ∧ -10000000 ≤ d ∧ d ≤ 10000000) ∧ a ≤ c ∧ b ≤ d := by
  simp [boxOk, ptOk_iff, and_assoc]
theorem wrap_in {x : Int} (h1 : -9223372036854775808 ≤ x) (h2 : x ≤ 9223372036854775807) : wrap64 x = x := by unfold wrap64; omega
theorem wrap_bounds (x : Int) : -9223372036854775808 ≤ wrap64 x ∧ wrap64 x ≤ 9223372036854775807 := by unfold wrap64; omega
theorem u64_in {x : Int} (h1 : 0 ≤ x) (h2 : x ≤ 18446744073709551615) : IntKind.u64.wrap x = x := by
  simp [IntKind.wrap, IntKind.bits, IntKind.signed]; omega
theorem u64_bounds (x : Int) : 0 ≤ IntKind.u64.wrap x ∧ IntKind.u64.wrap x ≤ 18446744073709551615 := by
  simp [IntKind.wrap, IntKind.bits, IntKind.signed]; omega
theorem u64_nonneg (x : Int) : 0 ≤ IntKind.u64.wrap x := (u64_bounds x).1
theorem mx_eq (a b : Int) : mx a b = max a b := by unfold mx; omega
theorem mn_eq (a b : Int) : mn a b = min a b := by unfold mn; omega
theorem spec_l1In_eq (a b c : Int) : spec_l1In.f a b c = some (decide (b ≤ a) && decide (a ≤ c)) := by
  unfold spec_l1In.f; by_cases h : b ≤ a <;> simp [h]
theorem impl_inRange_eq (a b c : Int) : impl_inRange.f a b c = some (decide (b ≤ a) && decide (a ≤ c)) := by
  unfold impl_inRange.f; by_cases h : b ≤ a <;> simp [h]
def inBox (a b c d x y : Int) : Bool := boxOk a b c d && ptOk x y && (decide (a ≤ x) && decide (x ≤ c)) && (decide (b ≤ y) && decide (y ≤ d))
def overlap (a b c d e f g h : Int) : Bool := boxOk a b c d && boxOk e f g h && decide (a ≤ g) && decide (e ≤ c) && decide (b ≤ h) && decide (f ≤ d)
def inside (a b c d e f g h : Int) : Bool := boxOk a b c d && inBox e f g h a b && inBox e f g h c d
def area (a b c d : Int) : Int := if boxOk a b c d = true then (c - a) * (d - b) else 0
theorem area_bounds (a b c d : Int) : 0 ≤ area a b c d ∧ area a b c d ≤ 400000000000000 := by
  unfold area; split
  · rename_i h
    rw [boxOk_iff] at h
    obtain ⟨⟨h1, h2, h3, h4⟩, ⟨h5, h6, h7, h8⟩, h9, h10⟩ := h
    have p1 : 0 ≤ c - a := by omega
    have p2 : 0 ≤ d - b := by omega
    refine ⟨Int.mul_nonneg p1 p2, ?_⟩
    calc (c - a) * (d - b) ≤ 20000000 * (d - b) := Int.mul_le_mul_of_nonneg_right (by omega) p2
      _ ≤ 20000000 * 20000000 := Int.mul_le_mul_of_nonneg_left (by omega) (by omega)
      _ = 400000000000000 := by decide
  · omega
theorem area_wrap {a b c d : Int} (h : boxOk a b c d = true) : wrap64 ((wrap64 (c - a)) * (wrap64 (d - b))) = area a b c d := by
  have hb := area_bounds a b c d
  have e : area a b c d = (c - a) * (d - b) := by unfold area; rw [if_pos h]
  rw [boxOk_iff] at h
  rw [wrap_in (x := c - a) (by omega) (by omega), wrap_in (x := d - b) (by omega) (by omega), ← e]
  exact wrap_in (by omega) (by omega)
/-- The tiles that are right. -/
def tileOk (z x y : Int) : Bool := decide (0 ≤ z) && decide (z ≤ 20) && (decide (0 ≤ x) && decide (x ≤ 2 ^ z.toNat - 1)) && (decide (0 ≤ y) && decide (y ≤ 2 ^ z.toNat - 1))
theorem shl1_fin : ∀ n : Fin 51, shl .i64 1 (IntKind.u64.wrap ((n.val : Nat) : Int)) = 2 ^ n.val := by decide +kernel
theorem shl1 {z : Int} (h0 : 0 ≤ z) (h1 : z ≤ 50) : shl .i64 1 (IntKind.u64.wrap z) = 2 ^ z.toNat := by
  obtain ⟨n, rfl⟩ := Int.eq_ofNat_of_zero_le h0
  exact shl1_fin ⟨n, by omega⟩
theorem pow2_le {n m : Nat} (h : n ≤ m) : (2 : Int) ^ n ≤ 2 ^ m := by
  have := Nat.pow_le_pow_right (n := 2) (by decide) h
  exact_mod_cast this
theorem pow2_pos (n : Nat) : (1 : Int) ≤ 2 ^ n := by
  have := pow2_le (Nat.zero_le n); simpa using this
theorem pow2_20 {z : Int} (h1 : z ≤ 20) : (1 : Int) ≤ 2 ^ z.toNat ∧ (2 : Int) ^ z.toNat ≤ 1048576 :=
  ⟨pow2_pos _, by have := pow2_le (n := z.toNat) (m := 20) (by omega); simpa using this⟩
theorem tile_most {z : Int} (h0 : 0 ≤ z) (h1 : z ≤ 20) : wrap64 ((shl .i64 1 (IntKind.u64.wrap z)) - 1) = 2 ^ z.toNat - 1 := by
  rw [shl1 h0 (by omega)]
  have := pow2_20 h1
  exact wrap_in (by omega) (by omega)
theorem spec_TileOk_eq (z x y : Int) : spec_TileOk.f z x y = some (tileOk z x y) := by
  unfold spec_TileOk.f tileOk; simp only [spec_l1In_eq, Option.bind_some, u64_nonneg, if_true]
  by_cases h : (decide (0 ≤ z) && decide (z ≤ 20)) = true
  · have h' := h
    simp only [Bool.and_eq_true, decide_eq_true_eq] at h'
    rw [if_pos h, h, tile_most h'.1 h'.2]
    generalize (decide (0 ≤ x) && decide (x ≤ 2 ^ z.toNat - 1)) = C
    generalize (decide (0 ≤ y) && decide (y ≤ 2 ^ z.toNat - 1)) = D
    cases C <;> cases D <;> rfl
  · rw [if_neg h]; simp only [Bool.not_eq_true] at h; rw [h]; simp
theorem impl_TileOk_eq (z x y : Int) : impl_TileOk.f z x y = some (tileOk z x y) := by
  unfold impl_TileOk.f tileOk; simp only [impl_inRange_eq, Option.bind_some, u64_nonneg, if_true]
  by_cases h : (decide (0 ≤ z) && decide (z ≤ 20)) = true
  · have h' := h
    simp only [Bool.and_eq_true, decide_eq_true_eq] at h'
    rw [if_pos h, h, tile_most h'.1 h'.2]
    generalize (decide (0 ≤ x) && decide (x ≤ 2 ^ z.toNat - 1)) = C
    generalize (decide (0 ≤ y) && decide (y ≤ 2 ^ z.toNat - 1)) = D
    cases C <;> cases D <;> rfl
  · rw [if_neg h]; simp only [Bool.not_eq_true] at h; rw [h]; simp
/-- The side of the tiles of a Z. -/
def side (z : Int) : Int := 33554432 / 2 ^ z.toNat
theorem shr_side_fin : ∀ n : Fin 21, shr .i64 33554432 (IntKind.u64.wrap ((n.val : Nat) : Int)) = 33554432 / 2 ^ n.val ∧ (32 : Int) ≤ 33554432 / 2 ^ n.val ∧ (33554432 : Int) / 2 ^ n.val ≤ 33554432 := by decide +kernel
theorem shr_side {z : Int} (h0 : 0 ≤ z) (h1 : z ≤ 20) : shr .i64 33554432 (IntKind.u64.wrap z) = side z ∧ 32 ≤ side z ∧ side z ≤ 33554432 := by
  obtain ⟨n, rfl⟩ := Int.eq_ofNat_of_zero_le h0
  exact shr_side_fin ⟨n, by omega⟩
/-- The tile of a point. -/
def tileX (x z : Int) : Int := Int.tdiv (x + 16777216) (side z)
/-- A point as it is taken. -/
def tk (x y : Int) : Int × Int := if ptOk x y = true then (x, y) else (0, 0)
theorem tk_ok (x y : Int) : ptOk (tk x y).1 (tk x y).2 = true := by
  unfold tk; split
  · assumption
  · decide
def sgn (n : Int) : Int := if n > 0 then 1 else if n < 0 then -1 else 0
theorem sgn_cmp (n : Int) : (if n < 0 then (-1 : Int) else if n > 0 then 1 else 0) = sgn n := by unfold sgn; split <;> split <;> omega
theorem sgn_0 : sgn 0 = 0 := rfl
theorem sgn_zero {n : Int} : sgn n = 0 ↔ n = 0 := by unfold sgn; split <;> (try split) <;> omega
def crossW (a b c d e f : Int) : Int := wrap64 ((wrap64 ((wrap64 (c - a)) * (wrap64 (f - b)))) - (wrap64 ((wrap64 (d - b)) * (wrap64 (e - a)))))
def betw (a b n : Int) : Bool := decide (min a b ≤ n) && decide (n ≤ max a b)
def onSegW (a b c d e f : Int) : Bool := decide (crossW a b c d e f = 0) && betw a c e && betw b d f
def onSegT (a b c d e f : Int) : Bool := onSegW (tk a b).1 (tk a b).2 (tk c d).1 (tk c d).2 (tk e f).1 (tk e f).2
def squareW (a b c d : Int) : Int := wrap64 ((wrap64 ((wrap64 (a - c)) * (wrap64 (a - c)))) + (wrap64 ((wrap64 (b - d)) * (wrap64 (b - d)))))
def gapW (a b c d x y : Int) : Int := if boxOk a b c d = true ∧ ptOk x y = true then squareW x y (max a (min x c)) (max b (min y d)) else -1
def l3MeetW (a b c d e f g h : Int) : Bool :=
  onSegW a b c d e f || onSegW a b c d g h || onSegW e f g h a b || onSegW e f g h c d ||
    (decide (wrap64 (sgn (crossW a b c d e f) * sgn (crossW a b c d g h)) < 0) && decide (wrap64 (sgn (crossW e f g h a b) * sgn (crossW e f g h c d)) < 0))
def meetW (a b c d e f g h : Int) : Bool := l3MeetW (tk a b).1 (tk a b).2 (tk c d).1 (tk c d).2 (tk e f).1 (tk e f).2 (tk g h).1 (tk g h).2
theorem u64_all : ∀ n : Int, 0 ≤ n → n < 2 ^ 64 → IntKind.u64.wrap n = n := fun n h0 h1 => u64_in h0 (by omega)
theorem u64_mod (x : Int) : IntKind.u64.wrap x = x % 18446744073709551616 := by simp [IntKind.wrap, IntKind.bits, IntKind.signed]
theorem shr_u (x : Int) {j : Nat} (hj : j ≤ 64) : shr .u64 x (IntKind.u64.wrap (j : Int)) = x / 2 ^ j := by
  rw [u64_in (by omega) (by omega)]; unfold shr; rw [Int.toNat_natCast, Nat.min_eq_left (by simp [IntKind.bits]; omega)]
theorem shl_u (x : Int) {j : Nat} (hj : j ≤ 64) : shl .u64 x (IntKind.u64.wrap (j : Int)) = IntKind.u64.wrap (x * 2 ^ j) := by
  rw [u64_in (by omega) (by omega)]; unfold shl; rw [Int.toNat_natCast, Nat.min_eq_left (by simp [IntKind.bits]; omega)]
/-- t is the place of the highest bit of s. -/
def Top (s : Int) (t : Nat) : Prop := (2 : Int) ^ t ≤ s ∧ s < 2 ^ (t + 1)
theorem top_ex {s : Int} (h : 1 ≤ s) : ∃ t, Top s t := by
  obtain ⟨n, rfl⟩ := Int.eq_ofNat_of_zero_le (show 0 ≤ s by omega)
  refine ⟨n.log2, ?_, ?_⟩
  · have := Nat.log2_self_le (n := n) (by omega); exact_mod_cast this
  · have := Nat.lt_log2_self (n := n); exact_mod_cast this
theorem top_lt {s : Int} {t m : Nat} (h : Top s t) (hs : s < 2 ^ m) : t < m := by
  by_cases hc : t < m
  · exact hc
  · have := pow2_le (n := m) (m := t) (by omega); have := h.1; omega
theorem top_le {s : Int} {t m : Nat} (h : Top s t) (hs : 2 ^ m ≤ s) : m ≤ t := by
  by_cases hc : m ≤ t
  · exact hc
  · have := pow2_le (n := t + 1) (m := m) (by omega); have := h.2; omega
theorem top_53 {s : Int} {t : Nat} (h : Top s t) (hs : s ≤ 9007199254740992) : t ≤ 53 ∧ (t = 53 → s = 9007199254740992) := by
  have h54 : t < 54 := top_lt h (by have : (2 : Int) ^ 54 = 18014398509481984 := by decide
                                    omega)
  refine ⟨by omega, fun e => ?_⟩
  subst e
  have := h.1
  have : (2 : Int) ^ 53 = 9007199254740992 := by decide
  omega
theorem bitLen_top {s : Int} {t : Nat} (h : Top s t) (ht : t ≤ 53) : (Lib.bitLen s.toNat : Int) = t + 1 := by
  have p := pow2_pos t
  have h1 := h.1
  have h2 := h.2
  obtain ⟨n, rfl⟩ := Int.eq_ofNat_of_zero_le (show 0 ≤ s by omega)
  rw [Int.toNat_natCast]
  have a1 : 2 ^ t ≤ n := by exact_mod_cast h1
  have a2 : n < 2 ^ (t + 1) := by exact_mod_cast h2
  have a3 : n < 2 ^ 64 := Nat.lt_of_lt_of_le a2 (Nat.pow_le_pow_right (by decide) (by omega))
  have e : n / 2 ^ t = 1 := by
    rw [Nat.div_eq_iff (Nat.two_pow_pos t)]
    rw [Nat.pow_succ] at a2; omega
  rw [Lib.bitLen_shift t n a1 a3, e]
  have : Lib.bitLen 1 = 1 := by decide
  rw [this]; omega
/-- The low bits of a float of s. -/
def lowW (s : Int) (t : Nat) : Int := if t ≤ 52 then (s - 2 ^ t) * 2 ^ (52 - t) else 0
theorem pow_52 {t : Nat} (h : t ≤ 52) : (2 : Int) ^ t * 2 ^ (52 - t) = 4503599627370496 := by
  rw [← Int.pow_add, show t + (52 - t) = 52 by omega]; decide
theorem low_bounds {s : Int} {t : Nat} (h : Top s t) : 0 ≤ lowW s t ∧ lowW s t < 4503599627370496 := by
  unfold lowW
  split
  · rename_i ht
    have p := pow2_pos (52 - t)
    have h1 := h.1
    have h2 := h.2
    rw [Int.pow_succ] at h2
    refine ⟨Int.mul_nonneg (by omega) (by omega), ?_⟩
    rw [← pow_52 ht]
    exact Int.mul_lt_mul_of_pos_right (by omega) (by omega)
  · decide
def flT (sg s : Int) (t : Nat) : Int := wrap64 (sg + (1023 + t) * 4503599627370496 + lowW s t)
theorem or_fields {sg : Int} {t : Nat} {y : Int} (hs : sg = 0 ∨ sg = 9223372036854775808) (ht : t ≤ 53) (y0 : 0 ≤ y) (y1 : y < 4503599627370496) :
    Go.bits .or .u64 (Go.bits .or .u64 sg (IntKind.u64.wrap ((IntKind.u64.wrap (wrap64 (1023 + (t : Int)))) * 4503599627370496))) y = sg + (1023 + t) * 4503599627370496 + y := by
  rw [wrap_in (by omega) (by omega), u64_in (x := 1023 + (t : Int)) (by omega) (by omega), u64_in (by omega) (by omega)]
  rw [bits_join .u64 64 (by decide) u64_all 63 sg ((1023 + (t : Int)) * 4503599627370496) (by omega) (by omega) (by omega) (by omega) (by omega) (by omega)]
  exact bits_join .u64 64 (by decide) u64_all 52 _ y (by omega) (by omega) (by omega) y0 (by omega) (by omega)
/-- What FloatOf computes. -/
def floatW (n : Int) : Int :=
  if n = 0 ∨ n < -9007199254740992 ∨ 9007199254740992 < n then 0
  else if n < 0 then flT 9223372036854775808 (-n) (-n).toNat.log2 else flT 0 n n.toNat.log2
theorem top_log {s : Int} (h : 1 ≤ s) : Top s s.toNat.log2 := by
  obtain ⟨n, rfl⟩ := Int.eq_ofNat_of_zero_le (show 0 ≤ s by omega)
  rw [Int.toNat_natCast]
  refine ⟨?_, ?_⟩
  · have := Nat.log2_self_le (n := n) (by omega); exact_mod_cast this
  · have := Nat.lt_log2_self (n := n); exact_mod_cast this
theorem impl_low {s : Int} {t : Nat} (h : Top s t) (ht : t ≤ 53) (h53 : t = 53 → s = 9007199254740992) :
    (IntKind.u64.wrap ((shl .u64 s (IntKind.u64.wrap (wrap64 (63 - (t : Int))))) * 2)) / 4096 = lowW s t := by
  rw [show wrap64 (63 - (t : Int)) = ((63 - t : Nat) : Int) by rw [wrap_in (by omega) (by omega)]; omega, shl_u s (by omega)]
  by_cases h52 : t ≤ 52
  · have lb := low_bounds h
    have e : s * 2 ^ (63 - t) = 9223372036854775808 + lowW s t * 2048 := by
      unfold lowW; rw [if_pos h52, show 63 - t = (52 - t) + 11 by omega, Int.pow_add, ← Int.mul_assoc]
      have := pow_52 h52
      rw [Int.sub_mul, this]
      have : (2 : Int) ^ 11 = 2048 := by decide
      rw [this]; omega
    rw [e, u64_in (x := 9223372036854775808 + lowW s t * 2048) (by omega) (by omega), u64_mod]; omega
  · obtain rfl : t = 53 := by omega
    rw [h53 rfl]; decide
/-- What Join computes. -/
def joinW (a b c d e f g h : Int) : Int × Int × Int × Int :=
  if boxOk a b c d = true then (if boxOk e f g h = true then (min a e, min b f, max c g, max d h) else (a, b, c, d))
  else (if boxOk e f g h = true then (e, f, g, h) else (0, 0, 0, 0))
def grownW (a b c d e f g h : Int) : Int := area (joinW a b c d e f g h).1 (joinW a b c d e f g h).2.1 (joinW a b c d e f g h).2.2.1 (joinW a b c d e f g h).2.2.2 - area a b c d
theorem grown_wrap (a b c d e f g h : Int) : wrap64 (area (joinW a b c d e f g h).1 (joinW a b c d e f g h).2.1 (joinW a b c d e f g h).2.2.1 (joinW a b c d e f g h).2.2.2 - area a b c d) = grownW a b c d e f g h := by
  have a1 := area_bounds a b c d
  have a2 := area_bounds (joinW a b c d e f g h).1 (joinW a b c d e f g h).2.1 (joinW a b c d e f g h).2.2.1 (joinW a b c d e f g h).2.2.2
  exact wrap_in (by omega) (by omega)
theorem tile_child {z x y : Int} (h : tileOk z x y = true) : 0 ≤ z ∧ z ≤ 20 ∧ 0 ≤ x ∧ x ≤ 1048575 ∧ 0 ≤ y ∧ y ≤ 1048575 := by
  simp only [tileOk, Bool.and_eq_true, decide_eq_true_eq] at h
  have := pow2_20 h.1.1.2
  omega
theorem side_fin : ∀ n : Fin 21, (33554432 : Int) / 2 ^ n.val * 2 ^ n.val = 33554432 := by decide +kernel
theorem side_mul {z : Int} (h0 : 0 ≤ z) (h1 : z ≤ 20) : side z * 2 ^ z.toNat = 33554432 := by
  obtain ⟨n, rfl⟩ := Int.eq_ofNat_of_zero_le h0
  exact side_fin ⟨n, by omega⟩
theorem tile_span {z x : Int} (h0 : 0 ≤ z) (h1 : z ≤ 20) (x0 : 0 ≤ x) (x1 : x ≤ 2 ^ z.toNat - 1) : 0 ≤ x * side z ∧ (x + 1) * side z = x * side z + side z ∧ x * side z + side z ≤ 33554432 ∧ 32 ≤ side z := by
  have hs := (shr_side h0 h1).2
  have e : (x + 1) * side z = x * side z + side z := by rw [Int.add_mul, Int.one_mul]
  refine ⟨Int.mul_nonneg x0 (by omega), e, ?_, hs.1⟩
  rw [← e, ← side_mul h0 h1, Int.mul_comm (side z)]
  exact Int.mul_le_mul_of_nonneg_right (by omega) (by omega)
/-- What TileBox computes. -/
def tileBoxW (z x y : Int) : Int × Int × Int × Int × Bool :=
  if tileOk z x y = true ∧ boxOk (max (x * side z - 16777216) (-10000000)) (max (y * side z - 16777216) (-10000000)) (min (x * side z - 16777216 + side z - 1) 10000000) (min (y * side z - 16777216 + side z - 1) 10000000) = true then
    (max (x * side z - 16777216) (-10000000), max (y * side z - 16777216) (-10000000), min (x * side z - 16777216 + side z - 1) 10000000, min (y * side z - 16777216 + side z - 1) 10000000, true)
  else (0, 0, 0, 0, false)
theorem tileOk_iff {z x y : Int} : tileOk z x y = true ↔ (0 ≤ z ∧ z ≤ 20) ∧ (0 ≤ x ∧ x ≤ 2 ^ z.toNat - 1) ∧ (0 ≤ y ∧ y ≤ 2 ^ z.toNat - 1) := by
  simp [tileOk, and_assoc]
/-! The decimal text of a small number. -/
def revD (m : Nat) : List Int := if h : m < 10 then [((48 + m : Nat) : Int)] else ((48 + m % 10 : Nat) : Int) :: revD (m / 10)
termination_by m
decreasing_by omega
theorem revD_small {m : Nat} (h : m < 10) : revD m = [((48 + m : Nat) : Int)] := by rw [revD, dif_pos h]
theorem revD_big {m : Nat} (h : ¬ m < 10) : revD m = ((48 + m % 10 : Nat) : Int) :: revD (m / 10) := by rw [revD, dif_neg h]
theorem revD_len : ∀ (d m : Nat), m < 10 ^ (d + 1) → (revD m).length ≤ d + 1
  | 0, m, h => by rw [revD_small (by simpa using h)]; simp
  | d + 1, m, h => by
    by_cases c : m < 10
    · rw [revD_small c]; simp
    · rw [revD_big c, List.length_cons]
      have := revD_len d (m / 10) (by rw [Nat.div_lt_iff_lt_mul (by omega)]; rw [Nat.pow_succ] at h; exact h)
      omega
theorem revD_digits : ∀ (m : Nat), strOfNums (revD m).reverse = (⟨(Lib.decDigits m).toArray⟩ : ByteArray) := by
  have key : ∀ (d m : Nat), m ≤ d → (revD m).reverse.map (fun n => UInt8.ofNat n.toNat) = Lib.decDigits m := by
    intro d
    induction d with
    | zero => intro m h; obtain rfl : m = 0 := by omega
              rw [revD_small (by omega), Lib.decDigits]; rfl
    | succ d ih =>
      intro m h
      by_cases c : m < 10
      · rw [revD_small c, Lib.decDigits, dif_pos c]; rfl
      · rw [revD_big c, Lib.decDigits, dif_neg c, List.reverse_cons, List.map_append, ih (m / 10) (by omega)]; rfl
  intro m
  have e := key m m (Nat.le_refl _)
  unfold strOfNums; rw [e]
theorem wr0 : wrap64 0 = 0 := by unfold wrap64; decide
theorem wr1 : wrap64 1 = 1 := by unfold wrap64; decide
theorem wr2 : wrap64 2 = 2 := by unfold wrap64; decide
theorem wr3 : wrap64 3 = 3 := by unfold wrap64; decide
theorem wr4 : wrap64 4 = 4 := by unfold wrap64; decide
theorem wr5 : wrap64 5 = 5 := by unfold wrap64; decide
theorem wr6 : wrap64 6 = 6 := by unfold wrap64; decide
theorem wrm : wrap64 (-1) = -1 := by unfold wrap64; decide
theorem num_trim (q : Int) {k : Nat} (hk : 3 ≤ k) : spec_l1Num.f k false [q] = some (false, if q = 0 then [] else [q]) := by
  obtain ⟨k, rfl⟩ : ∃ m, k = m + 3 := ⟨k - 3, by omega⟩
  by_cases h : q = 0
  · subst h
    simp [spec_l1Num.f, spec_l1Num.l0, rd, wr0, wr1]
  · simp [spec_l1Num.f, spec_l1Num.l0, rd, wr0, wr1, h]
theorem text_round {m : Nat} (h0 : 0 < m) (h1 : m < 4294967296) (out g : List Int) (ho : out.length < 1000) {f : Nat} (hf : 6 ≤ f) :
    spec_NumText.l0 f [(m : Int)] out false g = spec_NumText.l0 (f - 3) (if m / 10 = 0 then [] else [((m / 10 : Nat) : Int)]) (out ++ [((48 + m % 10 : Nat) : Int)]) false g := by
  obtain ⟨f, rfl⟩ : ∃ n, f = n + 1 + 1 + 1 := ⟨f - 3, by omega⟩
  have e0 : IntKind.u64.wrap (IntKind.u64.wrap ((0 : Int) * 4294967296) + IntKind.u64.wrap (m : Int)) = (m : Int) := by
    rw [u64_in (x := (m : Int)) (by omega) (by omega), u64_in (x := (0 : Int) * 4294967296) (by omega) (by omega), u64_in (by omega) (by omega)]; omega
  have e1 : IntKind.u64.wrap (Int.tdiv (m : Int) 10) % 4294967296 = ((m / 10 : Nat) : Int) := by
    rw [Int.tdiv_eq_ediv_of_nonneg (by omega), u64_in (by omega) (by omega)]; omega
  have e2 : Int.tmod (m : Int) 10 = ((m % 10 : Nat) : Int) := by
    rw [Int.tmod_eq_emod_of_nonneg (by omega)]; omega
  have e3 : IntKind.u64.wrap (48 + ((m % 10 : Nat) : Int)) % 256 = ((48 + m % 10 : Nat) : Int) := by
    rw [u64_in (by omega) (by omega)]; omega
  have er : rd [(m : Int)] 0 = (m : Int) := rfl
  simp only [spec_NumText.l0]
  rw [if_pos (show (([(m : Int)] : List Int).length : Int) > 0 by simp), show wrap64 ((([(m : Int)] : List Int).length : Int) - 1) = 0 from wr0]
  simp only [spec_NumText.l1]
  rw [if_pos (show (0 : Int) ≥ 0 by decide), if_pos (show (0 : Int) ≤ 0 by decide), if_pos (show (0 : Int) < (([(m : Int)] : List Int).length : Int) by simp), er, e0, e1, e2, show wrap64 (0 - 1) = -1 from wrm]
  rw [if_neg (show ¬ ((-1 : Int) ≥ 0) by decide), if_pos (show out.length < 140737488355328 by omega), e3,
    show ([(m : Int)] : List Int).set (0 : Int).toNat ((m / 10 : Nat) : Int) = [((m / 10 : Nat) : Int)] from rfl, num_trim _ (by omega)]
  simp only [Option.bind_some]
  rw [show f + 1 + 1 + 1 - 3 = f by omega]
  by_cases c : m / 10 = 0
  · rw [if_pos c, c]; rfl
  · rw [if_neg c, if_neg (by omega)]
theorem text_loop (g : List Int) : ∀ (d m : Nat), (revD m).length ≤ d → 0 < m → m < 4294967296 → ∀ (out : List Int) (f : Nat), out.length + d < 1000 → 3 * d + 6 ≤ f →
    ∃ f', f - 3 * d ≤ f' ∧ spec_NumText.l0 f [(m : Int)] out false g = spec_NumText.l0 f' [] (out ++ revD m) false g
  | 0, m, h, _, _, _, _, _, _ => by
    exfalso
    by_cases c : m < 10
    · rw [revD_small c] at h; simp at h
    · rw [revD_big c] at h; simp at h
  | d + 1, m, h, h0, h1, out, f, ho, hf => by
    rw [text_round h0 h1 out g (by omega) (by omega)]
    by_cases c : m < 10
    · rw [if_pos (show m / 10 = 0 by omega), revD_small c, show m % 10 = m by omega]
      exact ⟨f - 3, by omega, rfl⟩
    · rw [revD_big c, List.length_cons] at h
      obtain ⟨f', hf', e⟩ := text_loop g d (m / 10) (by omega) (by omega) (by omega) (out ++ [((48 + m % 10 : Nat) : Int)]) (f - 3) (by rw [List.length_append, List.length_singleton]; omega) (by omega)
      refine ⟨f', by omega, ?_⟩
      rw [if_neg (show ¬ m / 10 = 0 by omega), e, revD_big c, List.append_assoc]; rfl
theorem text_back (l g : List Int) (h : l.length ≤ 7) {f : Nat} (hf : 10 ≤ f) : spec_NumText.l0 f [] l false g = some (strOfNums l.reverse) := by
  obtain ⟨f, rfl⟩ : ∃ n, f = n + 10 := ⟨f - 10, by omega⟩
  match l, h with
  | [], _ => simp [spec_NumText.l0, spec_NumText.j2, spec_NumText.l2, rd, wr0, wr1, wr2, wr3, wr4, wr5, wr6]
  | [a], _ => simp [spec_NumText.l0, spec_NumText.j2, spec_NumText.l2, rd, wr0, wr1, wr2, wr3, wr4, wr5, wr6]
  | [a, b], _ => simp [spec_NumText.l0, spec_NumText.j2, spec_NumText.l2, rd, wr0, wr1, wr2, wr3, wr4, wr5, wr6]
  | [a, b, c], _ => simp [spec_NumText.l0, spec_NumText.j2, spec_NumText.l2, rd, wr0, wr1, wr2, wr3, wr4, wr5, wr6]
  | [a, b, c, d], _ => simp [spec_NumText.l0, spec_NumText.j2, spec_NumText.l2, rd, wr0, wr1, wr2, wr3, wr4, wr5, wr6]
  | [a, b, c, d, e], _ => simp [spec_NumText.l0, spec_NumText.j2, spec_NumText.l2, rd, wr0, wr1, wr2, wr3, wr4, wr5, wr6]
  | [a, b, c, d, e, x], _ => simp [spec_NumText.l0, spec_NumText.j2, spec_NumText.l2, rd, wr0, wr1, wr2, wr3, wr4, wr5, wr6]
  | [a, b, c, d, e, x, y], _ => simp [spec_NumText.l0, spec_NumText.j2, spec_NumText.l2, rd, wr0, wr1, wr2, wr3, wr4, wr5, wr6]
theorem mag_one {n : Int} (h : n ≠ 0) : spec_l1Mag.f false [n] = some [n] := by
  have e : spec_NumOk.f false [n] = some (n != 0) := by simp [spec_NumOk.f, rd, wr0]
  unfold spec_l1Mag.f
  rw [e, show (n != 0) = true by simpa using h]; rfl
theorem numText_eq {n : Nat} (hn : n < 10000000) {k : Nat} (hk : 100 ≤ k) : spec_NumText.f k false (if (n : Int) = 0 then [] else [(n : Int)]) = some (⟨(Lib.itoa (n : Int)).toArray⟩ : ByteArray) := by
  rw [Lib.itoa_nonneg]
  by_cases h : n = 0
  · subst h
    rw [show Lib.decDigits 0 = [48] by rw [Lib.decDigits]; rfl]; rfl
  · rw [if_neg (by omega)]
    unfold spec_NumText.f
    rw [mag_one (by omega)]
    simp only [Option.bind_some, List.nil_append, List.length_nil, List.length_singleton]
    rw [if_pos (by omega), if_neg (by omega)]
    have hl := revD_len 6 n (by simpa using hn)
    obtain ⟨f', hf', e⟩ := text_loop gone 7 n hl (by omega) (by omega) [] k (by simp) (by omega)
    rw [e, List.nil_append, text_back _ _ hl (by omega), revD_digits]
theorem num_two (n : Int) {k : Nat} (hk : 4 ≤ k) : spec_l1Num.f k false [n, 0] = some (false, if n = 0 then [] else [n]) := by
  obtain ⟨k, rfl⟩ : ∃ m, k = m + 4 := ⟨k - 4, by omega⟩
  by_cases h : n = 0
  · subst h
    simp [spec_l1Num.f, spec_l1Num.l0, rd, wr0, wr1]
  · simp [spec_l1Num.f, spec_l1Num.l0, rd, wr0, wr1, h]
theorem of_eq {n : Nat} (hn : n < 4294967296) {k : Nat} (hk : 4 ≤ k) : spec_Of.f k (n : Int) = some (false, if (n : Int) = 0 then [] else [(n : Int)]) := by
  unfold spec_Of.f
  rw [if_neg (by omega), u64_in (x := (n : Int)) (by omega) (by omega), decide_eq_false (show ¬ (n : Int) < 0 by omega), show (n : Int) % 4294967296 = (n : Int) by omega, show (n : Int) / 4294967296 % 4294967296 = 0 by omega, num_two _ hk]
  rfl
theorem itoa_len {n : Nat} (hn : n < 10000000) : (Lib.itoa (n : Int)).length ≤ 7 := by
  rw [Lib.itoa_nonneg]
  have e := revD_digits n
  have h := revD_len 6 n (by simpa using hn)
  have := congrArg ByteArray.size e
  rw [strOfNums_size, List.length_reverse] at this
  have s : (⟨(Lib.decDigits n).toArray⟩ : ByteArray).size = (Lib.decDigits n).length := rfl
  omega
def keyW (a b c : Int) : ByteArray := (((⟨(Lib.itoa a).toArray⟩ : ByteArray) ++ (⟨#[47]⟩ : ByteArray)) ++ (⟨(Lib.itoa b).toArray⟩ : ByteArray)) ++ (⟨#[47]⟩ : ByteArray) ++ (⟨(Lib.itoa c).toArray⟩ : ByteArray)
theorem itoa_size {n : Nat} (hn : n < 10000000) : (⟨(Lib.itoa (n : Int)).toArray⟩ : ByteArray).size ≤ 7 := itoa_len hn
theorem spec_TileKey_eq {a b c : Int} (h : tileOk a b c = true) {k : Nat} (hk : 100 ≤ k) : spec_TileKey.f k a b c = some (keyW a b c) := by
  have hc := tile_child h
  obtain ⟨a, rfl⟩ := Int.eq_ofNat_of_zero_le hc.1
  obtain ⟨b, rfl⟩ := Int.eq_ofNat_of_zero_le hc.2.2.1
  obtain ⟨c, rfl⟩ := Int.eq_ofNat_of_zero_le hc.2.2.2.2.1
  unfold spec_TileKey.f
  simp only [spec_TileOk_eq, h, Option.bind_some, if_true]
  have sa := itoa_size (n := a) (by omega)
  have sb := itoa_size (n := b) (by omega)
  have sc := itoa_size (n := c) (by omega)
  have s1 : (⟨#[47]⟩ : ByteArray).size = 1 := rfl
  rw [of_eq (n := a) (by omega) (by omega)]; simp only [Option.bind_some]
  rw [numText_eq (n := a) (by omega) hk]; simp only [Option.bind_some]
  rw [if_pos (by omega), of_eq (n := b) (by omega) (by omega)]; simp only [Option.bind_some]
  rw [numText_eq (n := b) (by omega) hk]; simp only [Option.bind_some]
  rw [if_pos (by rw [ByteArray.size_append]; omega), if_pos (by rw [ByteArray.size_append, ByteArray.size_append]; omega), of_eq (n := c) (by omega) (by omega)]; simp only [Option.bind_some]
  rw [numText_eq (n := c) (by omega) hk]; simp only [Option.bind_some]
  rw [if_pos (by rw [ByteArray.size_append, ByteArray.size_append, ByteArray.size_append]; omega)]; rfl
theorem impl_TileKey_eq {a b c : Int} (h : tileOk a b c = true) : impl_TileKey.f a b c = some (keyW a b c) := by
  have hc := tile_child h
  obtain ⟨a, rfl⟩ := Int.eq_ofNat_of_zero_le hc.1
  obtain ⟨b, rfl⟩ := Int.eq_ofNat_of_zero_le hc.2.2.1
  obtain ⟨c, rfl⟩ := Int.eq_ofNat_of_zero_le hc.2.2.2.2.1
  have it : ∀ n : Nat, n < 10000000 → strconv_Itoa_20.f (n : Int) = some (⟨(Lib.itoa (n : Int)).toArray⟩ : ByteArray) := by
    intro n hn; unfold strconv_Itoa_20.f; rw [if_pos (by omega)]
  unfold impl_TileKey.f
  simp only [impl_TileOk_eq, h, Option.bind_some, if_true]
  have sa := itoa_size (n := a) (by omega)
  have sb := itoa_size (n := b) (by omega)
  have sc := itoa_size (n := c) (by omega)
  have s1 : (⟨#[47]⟩ : ByteArray).size = 1 := rfl
  rw [it a (by omega)]; simp only [Option.bind_some]
  rw [if_pos (by omega), it b (by omega)]; simp only [Option.bind_some]
  rw [if_pos (by rw [ByteArray.size_append]; omega), if_pos (by rw [ByteArray.size_append, ByteArray.size_append]; omega), it c (by omega)]; simp only [Option.bind_some]
  rw [if_pos (by rw [ByteArray.size_append, ByteArray.size_append, ByteArray.size_append]; omega)]; rfl
theorem key_some (a b c : Int) : ((keyW a b c).toList == ([] : List UInt8)) = false := by
  have h : (keyW a b c).size ≠ 0 := by
    unfold keyW
    rw [ByteArray.size_append, ByteArray.size_append, ByteArray.size_append, ByteArray.size_append, show (⟨#[47]⟩ : ByteArray).size = 1 from rfl]; omega
  rw [ByteArray.toList_eq, beq_eq_false_iff_ne]
  intro q
  apply h
  show (keyW a b c).data.size = 0
  rw [← Array.length_toList, q]; rfl
theorem FnExactTileKey : ∀ (a0_0 : Int) (a0_1 : Int) (a0_2 : Int), (Lit.int .i64 a0_0).wf = true → (Lit.int .i64 a0_1).wf = true → (Lit.int .i64 a0_2).wf = true → ∃ k, laws_FnExactTileKey.f k a0_0 a0_1 a0_2 = some true := by
  intro a b c h1 h2 h3
  refine ⟨100, ?_⟩
  unfold laws_FnExactTileKey.f laws_toTile.f
  simp only [Option.bind_some]
  by_cases h : tileOk a b c = true
  · rw [spec_TileKey_eq h (by omega)]; simp only [Option.bind_some]
    rw [impl_TileKey_eq h]; simp only [Option.bind_some, if_true]
  · have e1 : spec_TileKey.f 100 a b c = some (⟨#[]⟩ : ByteArray) := by
      unfold spec_TileKey.f; simp only [spec_TileOk_eq, Option.bind_some]; rw [if_neg h]
    have e2 : impl_TileKey.f a b c = some (⟨#[]⟩ : ByteArray) := by
      unfold impl_TileKey.f; simp only [impl_TileOk_eq, Option.bind_some]; rw [if_neg h]
    rw [e1]; simp only [Option.bind_some, e2, if_true]

end Go.Proofs.YtinilabmffjnaaaDoor.Pure
