/- The pure statement of the law FnTiles: what the printed functions compute answers true at every input. No conditions beyond the printed bounds. -/
import Derived.Test.YtinilabmffjnaaaDoorQFnTilesx13
namespace Go.Proofs.YtinilabmffjnaaaDoor.Pure
open Go.RowKit Go.Proofs.YtinilabmffjnaaaDoor.PFnTiles Go.Proofs.YtinilabmffjnaaaDoorW.PrintWords Go.Proofs.YtinilabmffjnaaaDoorW.PrintLast Go.Proofs.YtinilabmffjnaaaDoorW.PrintMore
set_option linter.unusedVariables false
set_option linter.unusedSimpArgs false

/-- The points that are right. -/
def ptOk (x y : Int) : Bool := decide (-10000000 ≤ x) && decide (x ≤ 10000000) && decide (-10000000 ≤ y) && decide (y ≤ 10000000)
/-- The boxes that are right. -/
def boxOk (a b c d : Int) : Bool := ptOk a b && ptOk c d && decide (a ≤ c) && decide (b ≤ d)
theorem ptOk_iff {x y : Int} : ptOk x y = true ↔ -10000000 ≤ x ∧ x ≤ 10000000 ∧ -10000000 ≤ y ∧ y ≤ 10000000 := by
  simp [ptOk, and_assoc]
theorem boxOk_iff {a b c d : Int} : boxOk a b c d = true ↔ (-10000000 ≤ a ∧ a ≤ 10000000 ∧ -10000000 ≤ b ∧ b ≤ 10000000) ∧ (-10000000 ≤ c ∧ c ≤ 10000000 ∧ -10000000 ≤ d ∧ d ≤ 10000000) ∧ a ≤ c ∧ b ≤ d := by
  simp [boxOk, ptOk_iff, and_assoc]
theorem wrap_in {x : Int} (h1 : -9223372036854775808 ≤ x) (h2 : x ≤ 9223372036854775807) : wrap64 x = x := by unfold wrap64; omega
theorem wrap_bounds (x : Int) : -9223372036854775808 ≤ wrap64 x ∧ wrap64 x ≤ 9223372036854775807 := by unfold wrap64; omega
theorem u64_in {x : Int} (h1 : 0 ≤ x) (h2 : x ≤ 18446744073709551615) : IntKind.u64.wrap x = x := by
  simp [IntKind.wrap, IntKind.bits, IntKind.signed]; omega
theorem u64_bounds (x : Int) : 0 ≤ IntKind.u64.wrap x ∧ IntKind.u64.wrap x ≤ 18446744073709551615 := by
  simp [IntKind.wrap, IntKind.bits, IntKind.signed]; omega
theorem u64_nonneg (x : Int) : 0 ≤ IntKind.u64.wrap x := (u64_bounds x).1
theorem mx_eq (a b : Int) : mx a b = max a b := by unfold mx; omega
theorem mn_eq (a b : Int) : mn a b = min a b := by unfold mn; omega
theorem spec_l1In_eq (a b c : Int) : spec_l1In.f a b c = some (decide (b ≤ a) && decide (a ≤ c)) := by
  unfold spec_l1In.f; by_cases h : b ≤ a <;> simp [h]
theorem impl_inRange_eq (a b c : Int) : impl_inRange.f a b c = some (decide (b ≤ a) && decide (a ≤ c)) := by
  unfold impl_inRange.f; by_cases h : b ≤ a <;> simp [h]
theorem impl_isCoord_eq (a : Int) : impl_isCoord.f a = some (decide (-10000000 ≤ a) && decide (a ≤ 10000000)) := by
  unfold impl_isCoord.f; rw [impl_inRange_eq]; rfl
theorem spec_PtOk_eq (x y : Int) : spec_PtOk.f x y = some (ptOk x y) := by
  unfold spec_PtOk.f ptOk; simp only [spec_l1In_eq, Option.bind_some]
  by_cases h : (decide (-10000000 ≤ x) && decide (x ≤ 10000000)) = true
  · rw [if_pos h, h]; simp
  · rw [if_neg h]; simp only [Bool.not_eq_true] at h; rw [h]; simp
theorem impl_PtOk_eq (x y : Int) : impl_PtOk.f x y = some (ptOk x y) := by
  unfold impl_PtOk.f ptOk; simp only [impl_isCoord_eq, Option.bind_some]
  by_cases h : (decide (-10000000 ≤ x) && decide (x ≤ 10000000)) = true
  · rw [if_pos h, h]; simp
  · rw [if_neg h]; simp only [Bool.not_eq_true] at h; rw [h]; simp
theorem impl_BoxOk_eq (a b c d : Int) : impl_BoxOk.f a b c d = some (boxOk a b c d) := by
  unfold impl_BoxOk.f boxOk; simp only [impl_PtOk_eq, Option.bind_some]
  by_cases h : ptOk a b = true <;> by_cases h2 : ptOk c d = true <;> by_cases h3 : a ≤ c <;> simp [h, h2, h3]
def inBox (a b c d x y : Int) : Bool := boxOk a b c d && ptOk x y && (decide (a ≤ x) && decide (x ≤ c)) && (decide (b ≤ y) && decide (y ≤ d))
theorem impl_InBox_eq (a b c d x y : Int) : impl_InBox.f a b c d x y = some (inBox a b c d x y) := by
  unfold impl_InBox.f inBox; simp only [impl_BoxOk_eq, impl_PtOk_eq, impl_inRange_eq, Option.bind_some]
  generalize boxOk a b c d = A
  generalize ptOk x y = B
  generalize (decide (a ≤ x) && decide (x ≤ c)) = C
  generalize (decide (b ≤ y) && decide (y ≤ d)) = D
  cases A <;> cases B <;> cases C <;> cases D <;> rfl
def overlap (a b c d e f g h : Int) : Bool := boxOk a b c d && boxOk e f g h && decide (a ≤ g) && decide (e ≤ c) && decide (b ≤ h) && decide (f ≤ d)
def inside (a b c d e f g h : Int) : Bool := boxOk a b c d && inBox e f g h a b && inBox e f g h c d
def area (a b c d : Int) : Int := if boxOk a b c d = true then (c - a) * (d - b) else 0
theorem area_bounds (a b c d : Int) : 0 ≤ area a b c d ∧ area a b c d ≤ 400000000000000 := by
  unfold area; split
  · rename_i h
    rw [boxOk_iff] at h
    obtain ⟨⟨h1, h2, h3, h4⟩, ⟨h5, h6, h7, h8⟩, h9, h10⟩ := h
    have p1 : 0 ≤ c - a := by omega
    have p2 : 0 ≤ d - b := by omega
    refine ⟨Int.mul_nonneg p1 p2, ?_⟩
    calc (c - a) * (d - b) ≤ 20000000 * (d - b) := Int.mul_le_mul_of_nonneg_right (by omega) p2
      _ ≤ 20000000 * 20000000 := Int.mul_le_mul_of_nonneg_left (by omega) (by omega)
      _ = 400000000000000 := by decide
  · omega
theorem area_wrap {a b c d : Int} (h : boxOk a b c d = true) : wrap64 ((wrap64 (c - a)) * (wrap64 (d - b))) = area a b c d := by
  have hb := area_bounds a b c d
  have e : area a b c d = (c - a) * (d - b) := by unfold area; rw [if_pos h]
  rw [boxOk_iff] at h
  rw [wrap_in (x := c - a) (by omega) (by omega), wrap_in (x := d - b) (by omega) (by omega), ← e]
  exact wrap_in (by omega) (by omega)
/-- The tiles that are right. -/
def tileOk (z x y : Int) : Bool := decide (0 ≤ z) && decide (z ≤ 20) && (decide (0 ≤ x) && decide (x ≤ 2 ^ z.toNat - 1)) && (decide (0 ≤ y) && decide (y ≤ 2 ^ z.toNat - 1))
theorem shl1_fin : ∀ n : Fin 51, shl .i64 1 (IntKind.u64.wrap ((n.val : Nat) : Int)) = 2 ^ n.val := by decide +kernel
theorem shl1 {z : Int} (h0 : 0 ≤ z) (h1 : z ≤ 50) : shl .i64 1 (IntKind.u64.wrap z) = 2 ^ z.toNat := by
  obtain ⟨n, rfl⟩ := Int.eq_ofNat_of_zero_le h0
  exact shl1_fin ⟨n, by omega⟩
theorem pow2_le {n m : Nat} (h : n ≤ m) : (2 : Int) ^ n ≤ 2 ^ m := by
  have := Nat.pow_le_pow_right (n := 2) (by decide) h
  exact_mod_cast this
theorem pow2_pos (n : Nat) : (1 : Int) ≤ 2 ^ n := by
  have := pow2_le (Nat.zero_le n); simpa using this
theorem pow2_20 {z : Int} (h1 : z ≤ 20) : (1 : Int) ≤ 2 ^ z.toNat ∧ (2 : Int) ^ z.toNat ≤ 1048576 :=
  ⟨pow2_pos _, by have := pow2_le (n := z.toNat) (m := 20) (by omega); simpa using this⟩
theorem tile_most {z : Int} (h0 : 0 ≤ z) (h1 : z ≤ 20) : wrap64 ((shl .i64 1 (IntKind.u64.wrap z)) - 1) = 2 ^ z.toNat - 1 := by
  rw [shl1 h0 (by omega)]
  have := pow2_20 h1
  exact wrap_in (by omega) (by omega)
theorem impl_TileOk_eq (z x y : Int) : impl_TileOk.f z x y = some (tileOk z x y) := by
  unfold impl_TileOk.f tileOk; simp only [impl_inRange_eq, Option.bind_some, u64_nonneg, if_true]
  by_cases h : (decide (0 ≤ z) && decide (z ≤ 20)) = true
  · have h' := h
    simp only [Bool.and_eq_true, decide_eq_true_eq] at h'
    rw [if_pos h, h, tile_most h'.1 h'.2]
    generalize (decide (0 ≤ x) && decide (x ≤ 2 ^ z.toNat - 1)) = C
    generalize (decide (0 ≤ y) && decide (y ≤ 2 ^ z.toNat - 1)) = D
    cases C <;> cases D <;> rfl
  · rw [if_neg h]; simp only [Bool.not_eq_true] at h; rw [h]; simp
/-- The side of the tiles of a Z. -/
def side (z : Int) : Int := 33554432 / 2 ^ z.toNat
theorem shr_side_fin : ∀ n : Fin 21, shr .i64 33554432 (IntKind.u64.wrap ((n.val : Nat) : Int)) = 33554432 / 2 ^ n.val ∧ (32 : Int) ≤ 33554432 / 2 ^ n.val ∧ (33554432 : Int) / 2 ^ n.val ≤ 33554432 := by decide +kernel
theorem shr_side {z : Int} (h0 : 0 ≤ z) (h1 : z ≤ 20) : shr .i64 33554432 (IntKind.u64.wrap z) = side z ∧ 32 ≤ side z ∧ side z ≤ 33554432 := by
  obtain ⟨n, rfl⟩ := Int.eq_ofNat_of_zero_le h0
  exact shr_side_fin ⟨n, by omega⟩
theorem impl_sideOf_eq {z : Int} (h0 : 0 ≤ z) (h1 : z ≤ 20) : impl_sideOf.f z = some (side z) := by
  unfold impl_sideOf.f; rw [if_pos (u64_nonneg z), (shr_side h0 h1).1]
/-- The tile of a point. -/
def tileX (x z : Int) : Int := Int.tdiv (x + 16777216) (side z)
theorem tileX_wrap {x z : Int} (hx : -10000000 ≤ x) (hx2 : x ≤ 10000000) (h0 : 0 ≤ z) (h1 : z ≤ 20) : wrap64 (Int.tdiv (wrap64 (x + 16777216)) (side z)) = tileX x z := by
  have hs := (shr_side h0 h1).2
  rw [wrap_in (x := x + 16777216) (by omega) (by omega)]
  unfold tileX
  have hp : 0 ≤ x + 16777216 := by omega
  rw [Int.tdiv_eq_ediv_of_nonneg hp]
  have h2 : 0 ≤ (x + 16777216) / side z := Int.ediv_nonneg hp (by omega)
  have h3 : (x + 16777216) / side z ≤ x + 16777216 := Int.ediv_le_self _ hp
  exact wrap_in (by omega) (by omega)
def tileOf (x y z : Int) : Int × Int × Int × Bool := if ptOk x y = true ∧ 0 ≤ z ∧ z ≤ 20 then (z, tileX x z, tileX y z, true) else (0, 0, 0, false)
theorem impl_tileOf_eq {x y z : Int} (h : ptOk x y = true) (h0 : 0 ≤ z) (h1 : z ≤ 20) : impl_tileOf.f x y z = some (z, tileX x z, tileX y z) := by
  have hs := (shr_side h0 h1).2
  have hp := ptOk_iff.1 h
  unfold impl_tileOf.f; simp only [impl_sideOf_eq h0 h1, Option.bind_some]
  rw [if_neg (by omega), tileX_wrap hp.1 hp.2.1 h0 h1, tileX_wrap hp.2.2.1 hp.2.2.2 h0 h1]
theorem impl_TileOf_eq (x y z : Int) : impl_TileOf.f x y z = some (tileOf x y z) := by
  unfold impl_TileOf.f tileOf; simp only [impl_PtOk_eq, impl_inRange_eq, Option.bind_some]
  by_cases h : ptOk x y = true
  · rw [if_pos h]
    by_cases h2 : 0 ≤ z ∧ z ≤ 20
    · obtain ⟨h0, h1⟩ := h2
      rw [if_pos (show ptOk x y = true ∧ 0 ≤ z ∧ z ≤ 20 from ⟨h, h0, h1⟩)]
      simp only [h0, h1, decide_true, Bool.and_self, if_true, impl_tileOf_eq h h0 h1, Option.bind_some]
    · have e : (decide (0 ≤ z) && decide (z ≤ 20)) = false := by
        by_cases a : 0 ≤ z <;> by_cases b : z ≤ 20 <;> simp_all
      rw [e, if_neg (show ¬ (ptOk x y = true ∧ 0 ≤ z ∧ z ≤ 20) from fun q => h2 q.2)]; simp
  · rw [if_neg h, if_neg (fun q => h q.1)]
/-- A point as it is taken. -/
def tk (x y : Int) : Int × Int := if ptOk x y = true then (x, y) else (0, 0)
theorem tk_ok (x y : Int) : ptOk (tk x y).1 (tk x y).2 = true := by
  unfold tk; split
  · assumption
  · decide
def sgn (n : Int) : Int := if n > 0 then 1 else if n < 0 then -1 else 0
theorem sgn_cmp (n : Int) : (if n < 0 then (-1 : Int) else if n > 0 then 1 else 0) = sgn n := by unfold sgn; split <;> split <;> omega
theorem sgn_0 : sgn 0 = 0 := rfl
theorem sgn_zero {n : Int} : sgn n = 0 ↔ n = 0 := by unfold sgn; split <;> (try split) <;> omega
def crossW (a b c d e f : Int) : Int := wrap64 ((wrap64 ((wrap64 (c - a)) * (wrap64 (f - b)))) - (wrap64 ((wrap64 (d - b)) * (wrap64 (e - a)))))
def betw (a b n : Int) : Bool := decide (min a b ≤ n) && decide (n ≤ max a b)
def onSegW (a b c d e f : Int) : Bool := decide (crossW a b c d e f = 0) && betw a c e && betw b d f
def onSegT (a b c d e f : Int) : Bool := onSegW (tk a b).1 (tk a b).2 (tk c d).1 (tk c d).2 (tk e f).1 (tk e f).2
def squareW (a b c d : Int) : Int := wrap64 ((wrap64 ((wrap64 (a - c)) * (wrap64 (a - c)))) + (wrap64 ((wrap64 (b - d)) * (wrap64 (b - d)))))
def gapW (a b c d x y : Int) : Int := if boxOk a b c d = true ∧ ptOk x y = true then squareW x y (max a (min x c)) (max b (min y d)) else -1
def l3MeetW (a b c d e f g h : Int) : Bool :=
  onSegW a b c d e f || onSegW a b c d g h || onSegW e f g h a b || onSegW e f g h c d ||
    (decide (wrap64 (sgn (crossW a b c d e f) * sgn (crossW a b c d g h)) < 0) && decide (wrap64 (sgn (crossW e f g h a b) * sgn (crossW e f g h c d)) < 0))
def meetW (a b c d e f g h : Int) : Bool := l3MeetW (tk a b).1 (tk a b).2 (tk c d).1 (tk c d).2 (tk e f).1 (tk e f).2 (tk g h).1 (tk g h).2
theorem u64_all : ∀ n : Int, 0 ≤ n → n < 2 ^ 64 → IntKind.u64.wrap n = n := fun n h0 h1 => u64_in h0 (by omega)
theorem u64_mod (x : Int) : IntKind.u64.wrap x = x % 18446744073709551616 := by simp [IntKind.wrap, IntKind.bits, IntKind.signed]
theorem shr_u (x : Int) {j : Nat} (hj : j ≤ 64) : shr .u64 x (IntKind.u64.wrap (j : Int)) = x / 2 ^ j := by
  rw [u64_in (by omega) (by omega)]; unfold shr; rw [Int.toNat_natCast, Nat.min_eq_left (by simp [IntKind.bits]; omega)]
theorem shl_u (x : Int) {j : Nat} (hj : j ≤ 64) : shl .u64 x (IntKind.u64.wrap (j : Int)) = IntKind.u64.wrap (x * 2 ^ j) := by
  rw [u64_in (by omega) (by omega)]; unfold shl; rw [Int.toNat_natCast, Nat.min_eq_left (by simp [IntKind.bits]; omega)]
/-- t is the place of the highest bit of s. -/
def Top (s : Int) (t : Nat) : Prop := (2 : Int) ^ t ≤ s ∧ s < 2 ^ (t + 1)
theorem top_ex {s : Int} (h : 1 ≤ s) : ∃ t, Top s t := by
  obtain ⟨n, rfl⟩ := Int.eq_ofNat_of_zero_le (show 0 ≤ s by omega)
  refine ⟨n.log2, ?_, ?_⟩
  · have := Nat.log2_self_le (n := n) (by omega); exact_mod_cast this
  · have := Nat.lt_log2_self (n := n); exact_mod_cast this
theorem top_lt {s : Int} {t m : Nat} (h : Top s t) (hs : s < 2 ^ m) : t < m := by
  by_cases hc : t < m
  · exact hc
  · have := pow2_le (n := m) (m := t) (by omega); have := h.1; omega
theorem top_le {s : Int} {t m : Nat} (h : Top s t) (hs : 2 ^ m ≤ s) : m ≤ t := by
  by_cases hc : m ≤ t
  · exact hc
  · have := pow2_le (n := t + 1) (m := m) (by omega); have := h.2; omega
theorem top_53 {s : Int} {t : Nat} (h : Top s t) (hs : s ≤ 9007199254740992) : t ≤ 53 ∧ (t = 53 → s = 9007199254740992) := by
  have h54 : t < 54 := top_lt h (by have : (2 : Int) ^ 54 = 18014398509481984 := by decide
                                    omega)
  refine ⟨by omega, fun e => ?_⟩
  subst e
  have := h.1
  have : (2 : Int) ^ 53 = 9007199254740992 := by decide
  omega
theorem bitLen_top {s : Int} {t : Nat} (h : Top s t) (ht : t ≤ 53) : (Lib.bitLen s.toNat : Int) = t + 1 := by
  have p := pow2_pos t
  have h1 := h.1
  have h2 := h.2
  obtain ⟨n, rfl⟩ := Int.eq_ofNat_of_zero_le (show 0 ≤ s by omega)
  rw [Int.toNat_natCast]
  have a1 : 2 ^ t ≤ n := by exact_mod_cast h1
  have a2 : n < 2 ^ (t + 1) := by exact_mod_cast h2
  have a3 : n < 2 ^ 64 := Nat.lt_of_lt_of_le a2 (Nat.pow_le_pow_right (by decide) (by omega))
  have e : n / 2 ^ t = 1 := by
    rw [Nat.div_eq_iff (Nat.two_pow_pos t)]
    rw [Nat.pow_succ] at a2; omega
  rw [Lib.bitLen_shift t n a1 a3, e]
  have : Lib.bitLen 1 = 1 := by decide
  rw [this]; omega
/-- The low bits of a float of s. -/
def lowW (s : Int) (t : Nat) : Int := if t ≤ 52 then (s - 2 ^ t) * 2 ^ (52 - t) else 0
theorem pow_52 {t : Nat} (h : t ≤ 52) : (2 : Int) ^ t * 2 ^ (52 - t) = 4503599627370496 := by
  rw [← Int.pow_add, show t + (52 - t) = 52 by omega]; decide
theorem low_bounds {s : Int} {t : Nat} (h : Top s t) : 0 ≤ lowW s t ∧ lowW s t < 4503599627370496 := by
  unfold lowW
  split
  · rename_i ht
    have p := pow2_pos (52 - t)
    have h1 := h.1
    have h2 := h.2
    rw [Int.pow_succ] at h2
    refine ⟨Int.mul_nonneg (by omega) (by omega), ?_⟩
    rw [← pow_52 ht]
    exact Int.mul_lt_mul_of_pos_right (by omega) (by omega)
  · decide
def flT (sg s : Int) (t : Nat) : Int := wrap64 (sg + (1023 + t) * 4503599627370496 + lowW s t)
theorem or_fields {sg : Int} {t : Nat} {y : Int} (hs : sg = 0 ∨ sg = 9223372036854775808) (ht : t ≤ 53) (y0 : 0 ≤ y) (y1 : y < 4503599627370496) :
    Go.bits .or .u64 (Go.bits .or .u64 sg (IntKind.u64.wrap ((IntKind.u64.wrap (wrap64 (1023 + (t : Int)))) * 4503599627370496))) y = sg + (1023 + t) * 4503599627370496 + y := by
  rw [wrap_in (by omega) (by omega), u64_in (x := 1023 + (t : Int)) (by omega) (by omega), u64_in (by omega) (by omega)]
  rw [bits_join .u64 64 (by decide) u64_all 63 sg ((1023 + (t : Int)) * 4503599627370496) (by omega) (by omega) (by omega) (by omega) (by omega) (by omega)]
  exact bits_join .u64 64 (by decide) u64_all 52 _ y (by omega) (by omega) (by omega) y0 (by omega) (by omega)
/-- What FloatOf computes. -/
def floatW (n : Int) : Int :=
  if n = 0 ∨ n < -9007199254740992 ∨ 9007199254740992 < n then 0
  else if n < 0 then flT 9223372036854775808 (-n) (-n).toNat.log2 else flT 0 n n.toNat.log2
theorem top_log {s : Int} (h : 1 ≤ s) : Top s s.toNat.log2 := by
  obtain ⟨n, rfl⟩ := Int.eq_ofNat_of_zero_le (show 0 ≤ s by omega)
  rw [Int.toNat_natCast]
  refine ⟨?_, ?_⟩
  · have := Nat.log2_self_le (n := n) (by omega); exact_mod_cast this
  · have := Nat.lt_log2_self (n := n); exact_mod_cast this
theorem impl_low {s : Int} {t : Nat} (h : Top s t) (ht : t ≤ 53) (h53 : t = 53 → s = 9007199254740992) :
    (IntKind.u64.wrap ((shl .u64 s (IntKind.u64.wrap (wrap64 (63 - (t : Int))))) * 2)) / 4096 = lowW s t := by
  rw [show wrap64 (63 - (t : Int)) = ((63 - t : Nat) : Int) by rw [wrap_in (by omega) (by omega)]; omega, shl_u s (by omega)]
  by_cases h52 : t ≤ 52
  · have lb := low_bounds h
    have e : s * 2 ^ (63 - t) = 9223372036854775808 + lowW s t * 2048 := by
      unfold lowW; rw [if_pos h52, show 63 - t = (52 - t) + 11 by omega, Int.pow_add, ← Int.mul_assoc]
      have := pow_52 h52
      rw [Int.sub_mul, this]
      have : (2 : Int) ^ 11 = 2048 := by decide
      rw [this]; omega
    rw [e, u64_in (x := 9223372036854775808 + lowW s t * 2048) (by omega) (by omega), u64_mod]; omega
  · obtain rfl : t = 53 := by omega
    rw [h53 rfl]; decide
/-- What Join computes. -/
def joinW (a b c d e f g h : Int) : Int × Int × Int × Int :=
  if boxOk a b c d = true then (if boxOk e f g h = true then (min a e, min b f, max c g, max d h) else (a, b, c, d))
  else (if boxOk e f g h = true then (e, f, g, h) else (0, 0, 0, 0))
def grownW (a b c d e f g h : Int) : Int := area (joinW a b c d e f g h).1 (joinW a b c d e f g h).2.1 (joinW a b c d e f g h).2.2.1 (joinW a b c d e f g h).2.2.2 - area a b c d
theorem grown_wrap (a b c d e f g h : Int) : wrap64 (area (joinW a b c d e f g h).1 (joinW a b c d e f g h).2.1 (joinW a b c d e f g h).2.2.1 (joinW a b c d e f g h).2.2.2 - area a b c d) = grownW a b c d e f g h := by
  have a1 := area_bounds a b c d
  have a2 := area_bounds (joinW a b c d e f g h).1 (joinW a b c d e f g h).2.1 (joinW a b c d e f g h).2.2.1 (joinW a b c d e f g h).2.2.2
  exact wrap_in (by omega) (by omega)
theorem tile_child {z x y : Int} (h : tileOk z x y = true) : 0 ≤ z ∧ z ≤ 20 ∧ 0 ≤ x ∧ x ≤ 1048575 ∧ 0 ≤ y ∧ y ≤ 1048575 := by
  simp only [tileOk, Bool.and_eq_true, decide_eq_true_eq] at h
  have := pow2_20 h.1.1.2
  omega
theorem side_fin : ∀ n : Fin 21, (33554432 : Int) / 2 ^ n.val * 2 ^ n.val = 33554432 := by decide +kernel
theorem side_mul {z : Int} (h0 : 0 ≤ z) (h1 : z ≤ 20) : side z * 2 ^ z.toNat = 33554432 := by
  obtain ⟨n, rfl⟩ := Int.eq_ofNat_of_zero_le h0
  exact side_fin ⟨n, by omega⟩
theorem tile_span {z x : Int} (h0 : 0 ≤ z) (h1 : z ≤ 20) (x0 : 0 ≤ x) (x1 : x ≤ 2 ^ z.toNat - 1) : 0 ≤ x * side z ∧ (x + 1) * side z = x * side z + side z ∧ x * side z + side z ≤ 33554432 ∧ 32 ≤ side z := by
  have hs := (shr_side h0 h1).2
  have e : (x + 1) * side z = x * side z + side z := by rw [Int.add_mul, Int.one_mul]
  refine ⟨Int.mul_nonneg x0 (by omega), e, ?_, hs.1⟩
  rw [← e, ← side_mul h0 h1, Int.mul_comm (side z)]
  exact Int.mul_le_mul_of_nonneg_right (by omega) (by omega)
/-- What TileBox computes. -/
def tileBoxW (z x y : Int) : Int × Int × Int × Int × Bool :=
  if tileOk z x y = true ∧ boxOk (max (x * side z - 16777216) (-10000000)) (max (y * side z - 16777216) (-10000000)) (min (x * side z - 16777216 + side z - 1) 10000000) (min (y * side z - 16777216 + side z - 1) 10000000) = true then
    (max (x * side z - 16777216) (-10000000), max (y * side z - 16777216) (-10000000), min (x * side z - 16777216 + side z - 1) 10000000, min (y * side z - 16777216 + side z - 1) 10000000, true)
  else (0, 0, 0, 0, false)
theorem tileOk_iff {z x y : Int} : tileOk z x y = true ↔ (0 ≤ z ∧ z ≤ 20) ∧ (0 ≤ x ∧ x ≤ 2 ^ z.toNat - 1) ∧ (0 ≤ y ∧ y ≤ 2 ^ z.toNat - 1) := by
  simp [tileOk, and_assoc]
theorem impl_TileBox_eq (z x y : Int) : impl_TileBox.f z x y = some (tileBoxW z x y) := by
  unfold impl_TileBox.f tileBoxW; simp only [impl_TileOk_eq, Option.bind_some]
  by_cases h : tileOk z x y = true
  · obtain ⟨⟨z0, z1⟩, ⟨x0, x1⟩, y0, y1⟩ := tileOk_iff.1 h
    obtain ⟨a1, a2, a3, a4⟩ := tile_span z0 z1 x0 x1
    obtain ⟨b1, b2, b3, b4⟩ := tile_span z0 z1 y0 y1
    rw [if_pos h, impl_sideOf_eq z0 z1]
    simp only [Option.bind_some, mx_eq, mn_eq, impl_BoxOk_eq]
    generalize x * side z = X at *
    generalize y * side z = Y at *
    generalize side z = s at *
    rw [wrap_in (x := X) (by omega) (by omega), wrap_in (x := Y) (by omega) (by omega),
      wrap_in (x := X - 16777216) (by omega) (by omega), wrap_in (x := Y - 16777216) (by omega) (by omega), wrap_in (x := X - 16777216 + s) (by omega) (by omega), wrap_in (x := Y - 16777216 + s) (by omega) (by omega),
      wrap_in (x := X - 16777216 + s - 1) (by omega) (by omega), wrap_in (x := Y - 16777216 + s - 1) (by omega) (by omega)]
    by_cases hb : boxOk (max (X - 16777216) (-10000000)) (max (Y - 16777216) (-10000000)) (min (X - 16777216 + s - 1) 10000000) (min (Y - 16777216 + s - 1) 10000000) = true
    · rw [if_pos hb, if_pos ⟨h, hb⟩]
    · rw [if_neg hb, if_neg (fun q => hb q.2)]
  · rw [if_neg h, if_neg (fun q => h q.1)]
/-- What TileDown computes. -/
def tileDownW (z x y : Int) : List S25 :=
  if tileOk z x y = true ∧ z ≠ 20 then [⟨z + 1, 2 * x, 2 * y⟩, ⟨z + 1, 2 * x + 1, 2 * y⟩, ⟨z + 1, 2 * x, 2 * y + 1⟩, ⟨z + 1, 2 * x + 1, 2 * y + 1⟩] else []
theorem impl_TileDown_eq (z x y : Int) {k : Nat} (hk : 20 ≤ k) : impl_TileDown.f k z x y = some (tileDownW z x y) := by
  obtain ⟨k, rfl⟩ : ∃ m, k = m + 20 := ⟨k - 20, by omega⟩
  unfold impl_TileDown.f tileDownW; simp only [impl_TileOk_eq, Option.bind_some]
  by_cases h2 : z = 20
  · rw [if_pos h2, if_neg (fun q => q.2 h2)]; simp only [impl_TileDown.j0, if_true]
  · rw [if_neg h2]
    by_cases h : tileOk z x y = true
    · rw [if_pos ⟨h, h2⟩, h]
      obtain ⟨z0, z1, x0, x1, y0, y1⟩ := tile_child h
      have w1 : wrap64 (z + 1) = z + 1 := wrap_in (by omega) (by omega)
      have w2 : wrap64 (2 * x) = 2 * x := wrap_in (by omega) (by omega)
      have w3 : wrap64 (2 * y) = 2 * y := wrap_in (by omega) (by omega)
      have w4 : wrap64 (2 * x + 1) = 2 * x + 1 := wrap_in (by omega) (by omega)
      have w5 : wrap64 (2 * y + 1) = 2 * y + 1 := wrap_in (by omega) (by omega)
      have w6 : wrap64 (2 * x + 0) = 2 * x := by rw [Int.add_zero]; exact w2
      have w7 : wrap64 (2 * y + 0) = 2 * y := by rw [Int.add_zero]; exact w3
      have u0 : wrap64 1 = 1 := by unfold wrap64; decide
      have u1 : wrap64 2 = 2 := by unfold wrap64; decide
      simp [impl_TileDown.j0, impl_TileDown.l0, impl_TileDown.l1, w1, w2, w3, w4, w5, u0, u1]
    · rw [if_neg (fun q => h q.1)]; simp only [Bool.not_eq_true] at h; simp only [h, Bool.not_false, impl_TileDown.j0, if_true]
/-! The draws answer, whatever the bytes are. -/
def St (l : List Int) (i : Int) : Prop := 0 ≤ i ∧ i ≤ l.length
theorem and255 (x : Int) : 0 ≤ Go.bits .and .i64 x 255 ∧ Go.bits .and .i64 x 255 ≤ 255 := by
  have h : ((BitVec.ofInt 64 x &&& BitVec.ofInt 64 255).toNat) ≤ 255 := by
    rw [BitVec.toNat_and]
    exact Nat.le_trans Nat.and_le_right (by decide)
  have e : Go.bits .and .i64 x 255 = IntKind.i64.wrap ((BitVec.ofInt 64 x &&& BitVec.ofInt 64 255).toNat : Int) := rfl
  rw [e, IntKind.wrap_i64]
  generalize (BitVec.ofInt 64 x &&& BitVec.ofInt 64 255).toNat = m at h ⊢
  omega
theorem byte_ok {l : List Int} (hl : l.length ≤ 140737488351232) {i h : Int} (s : St l i) : ∃ b i' h', spec_l1Byte.f l i h = some (b, i', h') ∧ 0 ≤ b ∧ b ≤ 255 ∧ St l i' := by
  obtain ⟨s0, s1⟩ := s
  unfold spec_l1Byte.f
  by_cases c : i < (l.length : Int)
  · rw [if_pos c, if_pos s0]
    refine ⟨_, _, _, rfl, (and255 _).1, (and255 _).2, ?_⟩
    rw [wrap_in (by omega) (by omega)]; exact ⟨by omega, by omega⟩
  · rw [if_neg c]
    exact ⟨_, _, _, rfl, (and255 _).1, (and255 _).2, s0, s1⟩
theorem tmod_range {x n : Int} (h0 : 0 ≤ x) (hn : 0 < n) : 0 ≤ Int.tmod x n ∧ Int.tmod x n < n := by
  rw [Int.tmod_eq_emod_of_nonneg h0]
  exact ⟨Int.emod_nonneg _ (by omega), Int.emod_lt_of_pos _ hn⟩
theorem below_ok {l : List Int} (hl : l.length ≤ 140737488351232) {i h n : Int} (s : St l i) :
    ∃ x i' h', spec_l1Below.f l i h n = some (x, i', h') ∧ St l i' ∧ 0 ≤ x ∧ (0 < n → x < n) ∧ (n ≤ 0 → x = 0) := by
  unfold spec_l1Below.f
  by_cases c : n ≤ 0
  · rw [if_pos c]; exact ⟨_, _, _, rfl, s, by decide, by omega, fun _ => rfl⟩
  · rw [if_neg c]
    by_cases c2 : n ≤ 256
    · rw [if_pos c2]
      obtain ⟨b, i1, h1, e, b0, b1, s1⟩ := byte_ok hl (h := h) s
      rw [e]; simp only [Option.bind_some]; rw [if_neg (by omega)]
      have := tmod_range b0 (show 0 < n by omega)
      exact ⟨_, _, _, rfl, s1, this.1, fun _ => this.2, by omega⟩
    · rw [if_neg c2]
      obtain ⟨b, i1, h1, e, b0, b1, s1⟩ := byte_ok hl (h := h) s
      obtain ⟨b', i2, h2, e2, b0', b1', s2⟩ := byte_ok hl (h := h1) s1
      obtain ⟨b'', i3, h3, e3, b0'', b1'', s3⟩ := byte_ok hl (h := h2) s2
      rw [e]; simp only [Option.bind_some]; rw [e2]; simp only [Option.bind_some]; rw [e3]; simp only [Option.bind_some]; rw [if_neg (by omega)]
      have nn : 0 ≤ wrap64 (wrap64 (wrap64 (b * 65536) + wrap64 (b' * 256)) + b'') := by
        rw [wrap_in (x := b * 65536) (by omega) (by omega), wrap_in (x := b' * 256) (by omega) (by omega), wrap_in (x := b * 65536 + b' * 256) (by omega) (by omega), wrap_in (by omega) (by omega)]; omega
      have := tmod_range nn (show 0 < n by omega)
      exact ⟨_, _, _, rfl, s3, this.1, fun _ => this.2, by omega⟩
theorem once_ok {l : List Int} (hl : l.length ≤ 140737488351232) {i h : Int} (n : Int) (s : St l i) : ∃ b i' h', spec_l1Once.f l i h n = some (b, i', h') ∧ St l i' := by
  obtain ⟨x, i1, h1, e, s1, _⟩ := below_ok hl (h := h) (n := n) s
  unfold spec_l1Once.f; rw [e]; exact ⟨_, _, _, rfl, s1⟩
theorem int_ok {l : List Int} (hl : l.length ≤ 140737488351232) {i h : Int} (xs : List Int) (hx : 0 < xs.length) (s : St l i) : ∃ v i' h', spec_l1Int.f l i h xs = some (v, i', h') ∧ v ∈ xs ∧ St l i' := by
  obtain ⟨x, i1, h1, e, s1, x0, x1, _⟩ := below_ok hl (h := h) (n := (xs.length : Int)) s
  have hx1 := x1 (by omega)
  unfold spec_l1Int.f; rw [e]; simp only [Option.bind_some]; rw [if_pos x0, if_pos hx1]
  refine ⟨_, _, _, rfl, ?_, s1⟩
  unfold rd
  have hlt : x.toNat < xs.length := by omega
  rw [List.getD_eq_getElem?_getD, List.getElem?_eq_getElem hlt]
  exact List.getElem_mem hlt
theorem new_loop (l : List Int) (hl : l.length ≤ 140737488351232) : ∀ (d i k : Nat) (h : Int), i + d = l.length → d < k → ∃ h', spec_l1New.l0 k l h (i : Int) = some (l, 0, h') := by
  intro d
  induction d with
  | zero =>
    intro i k h hi hk
    obtain ⟨k, rfl⟩ : ∃ m, k = m + 1 := ⟨k - 1, by omega⟩
    simp only [spec_l1New.l0]; rw [if_neg (by omega)]; exact ⟨_, rfl⟩
  | succ d ih =>
    intro i k h hi hk
    obtain ⟨k, rfl⟩ : ∃ m, k = m + 1 := ⟨k - 1, by omega⟩
    simp only [spec_l1New.l0]; rw [if_pos (by omega)]
    by_cases c : (i : Int) < 4000
    · rw [if_pos c, if_pos (by omega), show wrap64 ((i : Int) + 1) = ((i + 1 : Nat) : Int) by rw [wrap_in (by omega) (by omega)]; omega]
      exact ih (i + 1) k _ (by omega) (by omega)
    · rw [if_neg c]; exact ⟨_, rfl⟩
theorem new_ok (l : List Int) (hl : l.length ≤ 140737488351232) {k : Nat} (hk : l.length < k) : ∃ h, spec_l1New.f k l = some (l, 0, h) := by
  unfold spec_l1New.f; exact new_loop l hl l.length 0 k _ (by omega) hk
theorem st0 (l : List Int) : St l 0 := ⟨by decide, by omega⟩
theorem draw3_ok {l : List Int} (hl : l.length ≤ 140737488351232) {i h : Int} {k : Nat} (hk : 1 ≤ k) (s : St l i) : ∃ x y i' h', spec_l3Draw.f k l i h = some (x, y, i', h') ∧ St l i' := by
  obtain ⟨k, rfl⟩ : ∃ m, k = m + 1 := ⟨k - 1, by omega⟩
  obtain ⟨b1, i1, h1, e1, s1, _⟩ := below_ok hl (h := h) (n := 9) s
  obtain ⟨b2, i2, h2, e2, s2, _⟩ := below_ok hl (h := h1) (n := 9) s1
  obtain ⟨b3, i3, h3, e3, s3⟩ := once_ok hl (h := h2) 8 s2
  have tail : ∀ (x y i h : Int), St l i → ∃ x' y' i' h', spec_l3Draw.j0 (k + 1) l i h x y = some (x', y', i', h') ∧ St l i' := by
    intro x y i h s
    simp only [spec_l3Draw.j0]
    obtain ⟨b4, i4, h4, e4, s4⟩ := once_ok hl (h := h) 8 s
    rw [e4]; simp only [Option.bind_some]
    cases b4
    · exact ⟨_, _, _, _, rfl, s4⟩
    · rw [if_pos rfl]
      obtain ⟨v, i5, h5, e5, _, s5⟩ := int_ok hl (h := h4) ([(-10000000), 10000000, 9999998, 7654321, (-10000001), 9223372036854775807] : List Int) (by decide) s4
      rw [e5]; exact ⟨_, _, _, _, rfl, s5⟩
  unfold spec_l3Draw.f
  rw [e1]; simp only [Option.bind_some]; rw [e2]; simp only [Option.bind_some]; rw [e3]; simp only [Option.bind_some]
  cases b3
  · exact tail _ _ _ _ s3
  · rw [if_pos rfl]
    obtain ⟨v, i5, h5, e5, _, s5⟩ := int_ok hl (h := h3) ([(-10000000), 10000000, 9999999, 1234567, 10000001, (-9223372036854775808)] : List Int) (by decide) s3
    rw [e5]; exact tail _ _ _ _ s5
/-! The decimal text of a small number. -/
def revD (m : Nat) : List Int := if h : m < 10 then [((48 + m : Nat) : Int)] else ((48 + m % 10 : Nat) : Int) :: revD (m / 10)
termination_by m
decreasing_by omega
theorem revD_small {m : Nat} (h : m < 10) : revD m = [((48 + m : Nat) : Int)] := by rw [revD, dif_pos h]
theorem revD_big {m : Nat} (h : ¬ m < 10) : revD m = ((48 + m % 10 : Nat) : Int) :: revD (m / 10) := by rw [revD, dif_neg h]
theorem revD_len : ∀ (d m : Nat), m < 10 ^ (d + 1) → (revD m).length ≤ d + 1
  | 0, m, h => by rw [revD_small (by simpa using h)]; simp
  | d + 1, m, h => by
    by_cases c : m < 10
    · rw [revD_small c]; simp
    · rw [revD_big c, List.length_cons]
      have := revD_len d (m / 10) (by rw [Nat.div_lt_iff_lt_mul (by omega)]; rw [Nat.pow_succ] at h; exact h)
      omega
theorem revD_digits : ∀ (m : Nat), strOfNums (revD m).reverse = (⟨(Lib.decDigits m).toArray⟩ : ByteArray) := by
  have key : ∀ (d m : Nat), m ≤ d → (revD m).reverse.map (fun n => UInt8.ofNat n.toNat) = Lib.decDigits m := by
    intro d
    induction d with
    | zero => intro m h; obtain rfl : m = 0 := by omega
              rw [revD_small (by omega), Lib.decDigits]; rfl
    | succ d ih =>
      intro m h
      by_cases c : m < 10
      · rw [revD_small c, Lib.decDigits, dif_pos c]; rfl
      · rw [revD_big c, Lib.decDigits, dif_neg c, List.reverse_cons, List.map_append, ih (m / 10) (by omega)]; rfl
  intro m
  have e := key m m (Nat.le_refl _)
  unfold strOfNums; rw [e]
theorem itoa_len {n : Nat} (hn : n < 10000000) : (Lib.itoa (n : Int)).length ≤ 7 := by
  rw [Lib.itoa_nonneg]
  have e := revD_digits n
  have h := revD_len 6 n (by simpa using hn)
  have := congrArg ByteArray.size e
  rw [strOfNums_size, List.length_reverse] at this
  have s : (⟨(Lib.decDigits n).toArray⟩ : ByteArray).size = (Lib.decDigits n).length := rfl
  omega
def keyW (a b c : Int) : ByteArray := (((⟨(Lib.itoa a).toArray⟩ : ByteArray) ++ (⟨#[47]⟩ : ByteArray)) ++ (⟨(Lib.itoa b).toArray⟩ : ByteArray)) ++ (⟨#[47]⟩ : ByteArray) ++ (⟨(Lib.itoa c).toArray⟩ : ByteArray)
theorem itoa_size {n : Nat} (hn : n < 10000000) : (⟨(Lib.itoa (n : Int)).toArray⟩ : ByteArray).size ≤ 7 := itoa_len hn
theorem impl_TileKey_eq {a b c : Int} (h : tileOk a b c = true) : impl_TileKey.f a b c = some (keyW a b c) := by
  have hc := tile_child h
  obtain ⟨a, rfl⟩ := Int.eq_ofNat_of_zero_le hc.1
  obtain ⟨b, rfl⟩ := Int.eq_ofNat_of_zero_le hc.2.2.1
  obtain ⟨c, rfl⟩ := Int.eq_ofNat_of_zero_le hc.2.2.2.2.1
  have it : ∀ n : Nat, n < 10000000 → strconv_Itoa_20.f (n : Int) = some (⟨(Lib.itoa (n : Int)).toArray⟩ : ByteArray) := by
    intro n hn; unfold strconv_Itoa_20.f; rw [if_pos (by omega)]
  unfold impl_TileKey.f
  simp only [impl_TileOk_eq, h, Option.bind_some, if_true]
  have sa := itoa_size (n := a) (by omega)
  have sb := itoa_size (n := b) (by omega)
  have sc := itoa_size (n := c) (by omega)
  have s1 : (⟨#[47]⟩ : ByteArray).size = 1 := rfl
  rw [it a (by omega)]; simp only [Option.bind_some]
  rw [if_pos (by omega), it b (by omega)]; simp only [Option.bind_some]
  rw [if_pos (by rw [ByteArray.size_append]; omega), if_pos (by rw [ByteArray.size_append, ByteArray.size_append]; omega), it c (by omega)]; simp only [Option.bind_some]
  rw [if_pos (by rw [ByteArray.size_append, ByteArray.size_append, ByteArray.size_append]; omega)]; rfl
theorem key_some (a b c : Int) : ((keyW a b c).toList == ([] : List UInt8)) = false := by
  have h : (keyW a b c).size ≠ 0 := by
    unfold keyW
    rw [ByteArray.size_append, ByteArray.size_append, ByteArray.size_append, ByteArray.size_append, show (⟨#[47]⟩ : ByteArray).size = 1 from rfl]; omega
  rw [ByteArray.toList_eq, beq_eq_false_iff_ne]
  intro q
  apply h
  show (keyW a b c).data.size = 0
  rw [← Array.length_toList, q]; rfl
theorem drawTileOf_ok {l : List Int} (hl : l.length ≤ 140737488351232) {k : Nat} (hk : l.length < k) : ∃ x y z, spec_DrawTileOf.f k l = some (x, y, z) ∧ -1 ≤ z ∧ z ≤ 21 := by
  obtain ⟨h, e⟩ := new_ok l hl hk
  obtain ⟨x, y, i', h', e2, s2⟩ := draw3_ok hl (h := h) (k := k) (by omega) (st0 l)
  obtain ⟨z, i2, h2, e3, _, z0, z1, _⟩ := below_ok hl (h := h') (n := 23) s2
  have z2 := z1 (by decide)
  unfold spec_DrawTileOf.f; rw [e]; simp only [Option.bind_some]; rw [e2]; simp only [Option.bind_some]; rw [e3]; simp only [Option.bind_some]
  rw [wrap_in (by omega) (by omega)]
  exact ⟨_, _, _, rfl, by omega, by omega⟩
theorem tile_in {x z : Int} (hx : -10000000 ≤ x) (hx2 : x ≤ 10000000) (h0 : 0 ≤ z) (h1 : z ≤ 20) : 0 ≤ tileX x z ∧ tileX x z ≤ 2 ^ z.toNat - 1 ∧ tileX x z * side z ≤ x + 16777216 ∧ x + 16777216 < tileX x z * side z + side z := by
  have hs := (shr_side h0 h1).2
  have hm := side_mul h0 h1
  unfold tileX
  have hp : 0 ≤ x + 16777216 := by omega
  rw [Int.tdiv_eq_ediv_of_nonneg hp]
  have a1 := Int.ediv_nonneg hp (show 0 ≤ side z by omega)
  have a2 := Int.ediv_mul_le (x + 16777216) (show side z ≠ 0 by omega)
  have a3 := Int.lt_ediv_add_one_mul_self (x + 16777216) (show 0 < side z by omega)
  rw [Int.add_mul, Int.one_mul] at a3
  refine ⟨a1, ?_, a2, a3⟩
  have a4 : (x + 16777216) / side z < 2 ^ z.toNat := by
    apply Int.ediv_lt_of_lt_mul (by omega)
    rw [Int.mul_comm, hm]; omega
  omega
theorem tile_up {x z : Int} (hx : -10000000 ≤ x) (hx2 : x ≤ 10000000) (h0 : 1 ≤ z) (h1 : z ≤ 20) : tileX x z / 2 = tileX x (z - 1) := by
  have e : side (z - 1) = side z * 2 := by
    have hm := side_mul (z := z) (by omega) h1
    have hn := side_mul (z := z - 1) (by omega) (by omega)
    obtain ⟨n, hn2⟩ := Int.eq_ofNat_of_zero_le (show 0 ≤ z - 1 by omega)
    have hz : z.toNat = n + 1 := by omega
    have hz2 : (z - 1).toNat = n := by omega
    rw [hz, Int.pow_succ] at hm
    rw [hz2] at hn
    have hp := pow2_pos n
    have : side (z - 1) * 2 ^ n = side z * 2 * 2 ^ n := by
      rw [hn, ← hm, Int.mul_comm ((2 : Int) ^ n) 2, Int.mul_assoc]
    exact Int.eq_of_mul_eq_mul_right (by omega) this
  have hp : 0 ≤ x + 16777216 := by omega
  unfold tileX
  rw [Int.tdiv_eq_ediv_of_nonneg hp, Int.tdiv_eq_ediv_of_nonneg hp, e, Int.ediv_ediv_of_nonneg (by have := (shr_side (z := z) (by omega) h1).2; omega)]
theorem tile_half {z x : Int} (h0 : 1 ≤ z) (x0 : 0 ≤ x) (x1 : x ≤ 2 ^ z.toNat - 1) : 0 ≤ x / 2 ∧ x / 2 ≤ 2 ^ (z - 1).toNat - 1 := by
  obtain ⟨n, hn2⟩ := Int.eq_ofNat_of_zero_le (show 0 ≤ z - 1 by omega)
  have hz : z.toNat = n + 1 := by omega
  have hz2 : (z - 1).toNat = n := by omega
  rw [hz, Int.pow_succ] at x1
  rw [hz2]
  omega
theorem tileBox_in {x y z : Int} (hp : ptOk x y = true) (h0 : 0 ≤ z) (h1 : z ≤ 20) : ∃ a b c d, tileBoxW z (tileX x z) (tileX y z) = (a, b, c, d, true) ∧ inBox a b c d x y = true := by
  have q := ptOk_iff.1 hp
  have t1 := tile_in q.1 q.2.1 h0 h1
  have t2 := tile_in q.2.2.1 q.2.2.2 h0 h1
  have ok : tileOk z (tileX x z) (tileX y z) = true := tileOk_iff.2 ⟨⟨h0, h1⟩, ⟨t1.1, t1.2.1⟩, t2.1, t2.2.1⟩
  unfold tileBoxW
  have t1' := t1.2.2
  have t2' := t2.2.2
  generalize tileX x z * side z = X at t1' ⊢
  generalize tileX y z * side z = Y at t2' ⊢
  have hs := (shr_side h0 h1).2
  generalize side z = s at *
  have hb : boxOk (max (X - 16777216) (-10000000)) (max (Y - 16777216) (-10000000)) (min (X - 16777216 + s - 1) 10000000) (min (Y - 16777216 + s - 1) 10000000) = true :=
    boxOk_iff.2 ⟨⟨by omega, by omega, by omega, by omega⟩, ⟨by omega, by omega, by omega, by omega⟩, by omega, by omega⟩
  rw [if_pos ⟨ok, hb⟩]
  refine ⟨_, _, _, _, rfl, ?_⟩
  unfold inBox; rw [hb, hp]; simp only [Bool.true_and, Bool.and_eq_true, decide_eq_true_eq]; omega
def eqT (p : S25) (a b c : Int) : Bool := p.f0 == a && (p.f1 == b && p.f2 == c)
theorem tiles_step {l : List S25} (hl : l.length = 4) (b : Bool) (i : Nat) (hi : i < 4) (k : Nat) (a1 a2 a3 u1 u2 u3 w1 w2 w3 : Int) :
    laws_FnTiles.l0 (k + 1) l b (i : Int) a1 a2 a3 u1 u2 u3 w1 w2 w3 = laws_FnTiles.l0 k l (b || eqT (l.getD i z25) a1 a2 a3) ((i + 1 : Nat) : Int) a1 a2 a3 u1 u2 u3 w1 w2 w3 := by
  rw [show laws_FnTiles.l0 (k + 1) l b (i : Int) a1 a2 a3 u1 u2 u3 w1 w2 w3 = (if (i : Int) < (l.length : Int) then (if b = true then (laws_FnTiles.l0 k l true (wrap64 ((i : Int) + 1)) a1 a2 a3 u1 u2 u3 w1 w2 w3) else (if 0 ≤ (i : Int) then (laws_FnTiles.l0 k l (((rd_T25 l i).f0) == a1 && (((rd_T25 l i).f1) == a2 && (((rd_T25 l i).f2) == a3))) (wrap64 ((i : Int) + 1)) a1 a2 a3 u1 u2 u3 w1 w2 w3) else (none))) else (if (u1 == w1 && (u2 == w2 && (u3 == w3))) = true then (if b = true then (some ((l.length : Int) == 4)) else (some false)) else (some false))) by simp only [laws_FnTiles.l0]]
  rw [if_pos (by omega), show wrap64 ((i : Int) + 1) = ((i + 1 : Nat) : Int) by rw [wrap_in (by omega) (by omega)]; omega]
  cases b
  · rw [if_neg (by decide), if_pos (by omega), Bool.false_or]
    have e : rd_T25 l (i : Int) = l.getD i z25 := by unfold rd_T25; rw [Int.toNat_natCast]
    rw [e]; rfl
  · rw [if_pos rfl, Bool.true_or]
theorem tiles_all {l : List S25} (hl : l.length = 4) (k : Nat) (a1 a2 a3 u1 u2 u3 : Int)
    (h : (eqT (l.getD 0 z25) a1 a2 a3 || eqT (l.getD 1 z25) a1 a2 a3 || eqT (l.getD 2 z25) a1 a2 a3 || eqT (l.getD 3 z25) a1 a2 a3) = true) :
    laws_FnTiles.l0 (k + 5) l false 0 a1 a2 a3 u1 u2 u3 u1 u2 u3 = some true := by
  have e0 := tiles_step hl false 0 (by omega) (k + 4) a1 a2 a3 u1 u2 u3 u1 u2 u3
  rw [show ((0 : Nat) : Int) = 0 from rfl] at e0
  rw [e0, tiles_step hl _ 1 (by omega) (k + 3), tiles_step hl _ 2 (by omega) (k + 2), tiles_step hl _ 3 (by omega) (k + 1), Bool.false_or, h]
  simp only [laws_FnTiles.l0]
  rw [if_neg (by omega)]
  simp [hl]
theorem FnTiles : laws_FnTiles.Pure := by
  intro l hm hl0 hw
  have hl : l.length ≤ 140737488351232 := by omega
  refine ⟨l.length + 100 + 1 + 1, ?_⟩
  unfold laws_FnTiles.f laws_big.f
  simp only [Option.bind_some]
  by_cases hb : decide ((l.length : Int) > 1048576) = true
  · rw [if_pos hb]
  · rw [if_neg hb]
    obtain ⟨x, y, z, e1, z0, z1⟩ := drawTileOf_ok hl (k := l.length + 100 + 1 + 1) (by omega)
    rw [e1]; simp only [Option.bind_some, impl_TileOf_eq, spec_PtOk_eq]
    have bad : (ptOk x y = true ∧ 0 ≤ z ∧ z ≤ 20) = False → ∀ u v w, laws_FnTiles.j0 (l.length + 100 + 1 + 1) z (tileOf x y z).2.2.2 true x y u v w = some true := by
      intro hn u v w
      have : (tileOf x y z).2.2.2 = false := by unfold tileOf; rw [if_neg (by rw [hn]; exact id)]
      simp only [laws_FnTiles.j0, if_true, this, Bool.not_false]
    by_cases hp : ptOk x y = true
    · rw [if_pos hp]
      by_cases h0 : z < 0
      · rw [if_pos h0]; exact bad (eq_false (by omega)) _ _ _
      · rw [if_neg h0]
        by_cases h1 : z > 20
        · rw [decide_eq_true h1]; exact bad (eq_false (by omega)) _ _ _
        · rw [decide_eq_false h1]
          have q := ptOk_iff.1 hp
          have t1 := tile_in (z := z) q.1 q.2.1 (by omega) (by omega)
          have t2 := tile_in (z := z) q.2.2.1 q.2.2.2 (by omega) (by omega)
          have ht : tileOf x y z = (z, tileX x z, tileX y z, true) := by unfold tileOf; rw [if_pos ⟨hp, by omega, by omega⟩]
          have ok : tileOk z (tileX x z) (tileX y z) = true := tileOk_iff.2 ⟨⟨by omega, by omega⟩, ⟨t1.1, t1.2.1⟩, t2.1, t2.2.1⟩
          obtain ⟨a, b, c, d, eb, ib⟩ := tileBox_in (z := z) hp (by omega) (by omega)
          rw [ht]
          simp only [laws_FnTiles.j0, Bool.false_eq_true, if_false, impl_TileBox_eq, eb, Option.bind_some, if_true, impl_TileOk_eq, ok, impl_InBox_eq, ib, impl_TileKey_eq ok]
          simp only [key_some]
          have tc := tile_child ok
          simp only [laws_FnTiles.j1, Bool.false_eq_true, if_false]
          by_cases hz : z = 0
          · unfold impl_TileUp.f
            rw [if_pos hz]; simp only [Option.bind_some]; rw [if_pos hz]; simp
          · have up : impl_TileUp.f z (tileX x z) (tileX y z) = some (z - 1, tileX x z / 2, tileX y z / 2) := by
              unfold impl_TileUp.f
              rw [if_neg hz]; simp only [impl_TileOk_eq, ok, Option.bind_some, if_true]
              rw [Int.tdiv_eq_ediv_of_nonneg t1.1, Int.tdiv_eq_ediv_of_nonneg t2.1, wrap_in (x := z - 1) (by omega) (by omega), wrap_in (x := tileX x z / 2) (by omega) (by omega), wrap_in (x := tileX y z / 2) (by omega) (by omega)]
            rw [up]; simp only [Option.bind_some]
            rw [if_neg hz, wrap_in (x := z - 1) (by omega) (by omega)]
            have hw2 : tileOf x y (z - 1) = (z - 1, tileX x (z - 1), tileX y (z - 1), true) := by unfold tileOf; rw [if_pos ⟨hp, by omega, by omega⟩]
            have k1 := tile_up (z := z) q.1 q.2.1 (by omega) (by omega)
            have k2 := tile_up (z := z) q.2.2.1 q.2.2.2 (by omega) (by omega)
            have g1 := tile_half (z := z) (by omega) t1.1 t1.2.1
            have g2 := tile_half (z := z) (by omega) t2.1 t2.2.1
            have oku : tileOk (z - 1) (tileX x z / 2) (tileX y z / 2) = true := tileOk_iff.2 ⟨⟨by omega, by omega⟩, g1, g2⟩
            rw [impl_TileDown_eq _ _ _ (by omega)]
            have dn : tileDownW (z - 1) (tileX x z / 2) (tileX y z / 2) = [⟨z - 1 + 1, 2 * (tileX x z / 2), 2 * (tileX y z / 2)⟩, ⟨z - 1 + 1, 2 * (tileX x z / 2) + 1, 2 * (tileX y z / 2)⟩, ⟨z - 1 + 1, 2 * (tileX x z / 2), 2 * (tileX y z / 2) + 1⟩, ⟨z - 1 + 1, 2 * (tileX x z / 2) + 1, 2 * (tileX y z / 2) + 1⟩] := by
              unfold tileDownW; rw [if_pos ⟨oku, by omega⟩]
            rw [impl_TileOf_eq, hw2, dn, ← k1, ← k2]; simp only [Option.bind_some]
            refine tiles_all rfl (l.length + 95) _ _ _ _ _ _ ?_
            simp only [List.getD_cons_zero, List.getD_cons_succ, eqT, Bool.or_eq_true, Bool.and_eq_true, beq_iff_eq]
            omega
    · rw [if_neg hp]; exact bad (eq_false (fun q => hp q.1)) _ _ _

end Go.Proofs.YtinilabmffjnaaaDoor.Pure
