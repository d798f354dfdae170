/- The pure statement of the law FnFloats: what the printed functions compute answers true at every input. No conditions beyond the printed bounds. -/
import Derived.Test.YtffcohllkoefeaaQFnFloatsx6
namespace Go.Proofs.Ytffcohllkoefeaa.Pure
open Go.RowKit Go.Proofs.Ytffcohllkoefeaa.PFnFloats Go.Proofs.YtffcohllkoefeaaW.PrintWords Go.Proofs.YtffcohllkoefeaaW.PrintLast Go.Proofs.YtffcohllkoefeaaW.PrintMore
set_option linter.unusedVariables false
set_option linter.unusedSimpArgs false

/-- The points that are right. -/
def ptOk (x y : Int) : Bool := decide (-10000000 ≤ x) && decide (x ≤ 10000000) && decide (-10000000 ≤ y) && decide (y ≤ 10000000)
/-- The boxes that are right. -/
def boxOk (a b c d : Int) : Bool := ptOk a b && ptOk c d && decide (a ≤ c) && decide (b ≤ d)
theorem ptOk_iff {x y : Int} : ptOk x y = true ↔ -10000000 ≤ x ∧ x ≤ 10000000 ∧ -10000000 ≤ y ∧ y ≤ 10000000 := by
  simp [ptOk, and_assoc]
theorem boxOk_iff {a b c d : Int} : boxOk a b c d = true ↔ (-10000000 ≤ a ∧ a ≤ 10000000 ∧ -10000000 ≤ b ∧ b ≤ 10000000) ∧ (-10000000 ≤ c ∧ c ≤ 10000000 ∧ -10000000 ≤ d ∧ d ≤ 10000000) ∧ a ≤ c ∧ b ≤ d := by
  simp [boxOk, ptOk_iff, and_assoc]
theorem wrap_in {x : Int} (h1 : -9223372036854775808 ≤ x) (h2 : x ≤ 9223372036854775807) : wrap64 x = x := by unfold wrap64; omega
theorem wrap_bounds (x : Int) : -9223372036854775808 ≤ wrap64 x ∧ wrap64 x ≤ 9223372036854775807 := by unfold wrap64; omega
theorem u64_in {x : Int} (h1 : 0 ≤ x) (h2 : x ≤ 18446744073709551615) : IntKind.u64.wrap x = x := by
  simp [IntKind.wrap, IntKind.bits, IntKind.signed]; omega
theorem u64_bounds (x : Int) : 0 ≤ IntKind.u64.wrap x ∧ IntKind.u64.wrap x ≤ 18446744073709551615 := by
  simp [IntKind.wrap, IntKind.bits, IntKind.signed]; omega
theorem u64_nonneg (x : Int) : 0 ≤ IntKind.u64.wrap x := (u64_bounds x).1
theorem mx_eq (a b : Int) : mx a b = max a b := by unfold mx; omega
theorem mn_eq (a b : Int) : mn a b = min a b := by unfold mn; omega
theorem impl_inRange_eq (a b c : Int) : impl_inRange.f a b c = some (decide (b ≤ a) && decide (a ≤ c)) := by
  unfold impl_inRange.f; by_cases h : b ≤ a <;> simp [h]
def inBox (a b c d x y : Int) : Bool := boxOk a b c d && ptOk x y && (decide (a ≤ x) && decide (x ≤ c)) && (decide (b ≤ y) && decide (y ≤ d))
def overlap (a b c d e f g h : Int) : Bool := boxOk a b c d && boxOk e f g h && decide (a ≤ g) && decide (e ≤ c) && decide (b ≤ h) && decide (f ≤ d)
def inside (a b c d e f g h : Int) : Bool := boxOk a b c d && inBox e f g h a b && inBox e f g h c d
def area (a b c d : Int) : Int := if boxOk a b c d = true then (c - a) * (d - b) else 0
theorem area_bounds (a b c d : Int) : 0 ≤ area a b c d ∧ area a b c d ≤ 400000000000000 := by
  unfold area; split
  · rename_i h
    rw [boxOk_iff] at h
    obtain ⟨⟨h1, h2, h3, h4⟩, ⟨h5, h6, h7, h8⟩, h9, h10⟩ := h
    have p1 : 0 ≤ c - a := by omega
    have p2 : 0 ≤ d - b := by omega
    refine ⟨Int.mul_nonneg p1 p2, ?_⟩
    calc (c - a) * (d - b) ≤ 20000000 * (d - b) := Int.mul_le_mul_of_nonneg_right (by omega) p2
      _ ≤ 20000000 * 20000000 := Int.mul_le_mul_of_nonneg_left (by omega) (by omega)
      _ = 400000000000000 := by decide
  · omega
theorem area_wrap {a b c d : Int} (h : boxOk a b c d = true) : wrap64 ((wrap64 (c - a)) * (wrap64 (d - b))) = area a b c d := by
  have hb := area_bounds a b c d
  have e : area a b c d = (c - a) * (d - b) := by unfold area; rw [if_pos h]
  rw [boxOk_iff] at h
  rw [wrap_in (x := c - a) (by omega) (by omega), wrap_in (x := d - b) (by omega) (by omega), ← e]
  exact wrap_in (by omega) (by omega)
/-- The tiles that are right. -/
def tileOk (z x y : Int) : Bool := decide (0 ≤ z) && decide (z ≤ 20) && (decide (0 ≤ x) && decide (x ≤ 2 ^ z.toNat - 1)) && (decide (0 ≤ y) && decide (y ≤ 2 ^ z.toNat - 1))
theorem shl1_fin : ∀ n : Fin 51, shl .i64 1 (IntKind.u64.wrap ((n.val : Nat) : Int)) = 2 ^ n.val := by decide +kernel
theorem shl1 {z : Int} (h0 : 0 ≤ z) (h1 : z ≤ 50) : shl .i64 1 (IntKind.u64.wrap z) = 2 ^ z.toNat := by
  obtain ⟨n, rfl⟩ := Int.eq_ofNat_of_zero_le h0
  exact shl1_fin ⟨n, by omega⟩
theorem pow2_le {n m : Nat} (h : n ≤ m) : (2 : Int) ^ n ≤ 2 ^ m := by
  have := Nat.pow_le_pow_right (n := 2) (by decide) h
  exact_mod_cast this
theorem pow2_pos (n : Nat) : (1 : Int) ≤ 2 ^ n := by
  have := pow2_le (Nat.zero_le n); simpa using this
theorem pow2_20 {z : Int} (h1 : z ≤ 20) : (1 : Int) ≤ 2 ^ z.toNat ∧ (2 : Int) ^ z.toNat ≤ 1048576 :=
  ⟨pow2_pos _, by have := pow2_le (n := z.toNat) (m := 20) (by omega); simpa using this⟩
theorem tile_most {z : Int} (h0 : 0 ≤ z) (h1 : z ≤ 20) : wrap64 ((shl .i64 1 (IntKind.u64.wrap z)) - 1) = 2 ^ z.toNat - 1 := by
  rw [shl1 h0 (by omega)]
  have := pow2_20 h1
  exact wrap_in (by omega) (by omega)
/-- The side of the tiles of a Z. -/
def side (z : Int) : Int := 33554432 / 2 ^ z.toNat
theorem shr_side_fin : ∀ n : Fin 21, shr .i64 33554432 (IntKind.u64.wrap ((n.val : Nat) : Int)) = 33554432 / 2 ^ n.val ∧ (32 : Int) ≤ 33554432 / 2 ^ n.val ∧ (33554432 : Int) / 2 ^ n.val ≤ 33554432 := by decide +kernel
theorem shr_side {z : Int} (h0 : 0 ≤ z) (h1 : z ≤ 20) : shr .i64 33554432 (IntKind.u64.wrap z) = side z ∧ 32 ≤ side z ∧ side z ≤ 33554432 := by
  obtain ⟨n, rfl⟩ := Int.eq_ofNat_of_zero_le h0
  exact shr_side_fin ⟨n, by omega⟩
/-- The tile of a point. -/
def tileX (x z : Int) : Int := Int.tdiv (x + 16777216) (side z)
/-- A point as it is taken. -/
def tk (x y : Int) : Int × Int := if ptOk x y = true then (x, y) else (0, 0)
theorem tk_ok (x y : Int) : ptOk (tk x y).1 (tk x y).2 = true := by
  unfold tk; split
  · assumption
  · decide
def sgn (n : Int) : Int := if n > 0 then 1 else if n < 0 then -1 else 0
theorem sgn_cmp (n : Int) : (if n < 0 then (-1 : Int) else if n > 0 then 1 else 0) = sgn n := by unfold sgn; split <;> split <;> omega
theorem sgn_0 : sgn 0 = 0 := rfl
theorem sgn_zero {n : Int} : sgn n = 0 ↔ n = 0 := by unfold sgn; split <;> (try split) <;> omega
def crossW (a b c d e f : Int) : Int := wrap64 ((wrap64 ((wrap64 (c - a)) * (wrap64 (f - b)))) - (wrap64 ((wrap64 (d - b)) * (wrap64 (e - a)))))
def betw (a b n : Int) : Bool := decide (min a b ≤ n) && decide (n ≤ max a b)
def onSegW (a b c d e f : Int) : Bool := decide (crossW a b c d e f = 0) && betw a c e && betw b d f
def onSegT (a b c d e f : Int) : Bool := onSegW (tk a b).1 (tk a b).2 (tk c d).1 (tk c d).2 (tk e f).1 (tk e f).2
def squareW (a b c d : Int) : Int := wrap64 ((wrap64 ((wrap64 (a - c)) * (wrap64 (a - c)))) + (wrap64 ((wrap64 (b - d)) * (wrap64 (b - d)))))
def gapW (a b c d x y : Int) : Int := if boxOk a b c d = true ∧ ptOk x y = true then squareW x y (max a (min x c)) (max b (min y d)) else -1
def l3MeetW (a b c d e f g h : Int) : Bool :=
  onSegW a b c d e f || onSegW a b c d g h || onSegW e f g h a b || onSegW e f g h c d ||
    (decide (wrap64 (sgn (crossW a b c d e f) * sgn (crossW a b c d g h)) < 0) && decide (wrap64 (sgn (crossW e f g h a b) * sgn (crossW e f g h c d)) < 0))
def meetW (a b c d e f g h : Int) : Bool := l3MeetW (tk a b).1 (tk a b).2 (tk c d).1 (tk c d).2 (tk e f).1 (tk e f).2 (tk g h).1 (tk g h).2
theorem u64_all : ∀ n : Int, 0 ≤ n → n < 2 ^ 64 → IntKind.u64.wrap n = n := fun n h0 h1 => u64_in h0 (by omega)
theorem u64_mod (x : Int) : IntKind.u64.wrap x = x % 18446744073709551616 := by simp [IntKind.wrap, IntKind.bits, IntKind.signed]
theorem shr_u (x : Int) {j : Nat} (hj : j ≤ 64) : shr .u64 x (IntKind.u64.wrap (j : Int)) = x / 2 ^ j := by
  rw [u64_in (by omega) (by omega)]; unfold shr; rw [Int.toNat_natCast, Nat.min_eq_left (by simp [IntKind.bits]; omega)]
theorem shl_u (x : Int) {j : Nat} (hj : j ≤ 64) : shl .u64 x (IntKind.u64.wrap (j : Int)) = IntKind.u64.wrap (x * 2 ^ j) := by
  rw [u64_in (by omega) (by omega)]; unfold shl; rw [Int.toNat_natCast, Nat.min_eq_left (by simp [IntKind.bits]; omega)]
/-- t is the place of the highest bit of s. -/
def Top (s : Int) (t : Nat) : Prop := (2 : Int) ^ t ≤ s ∧ s < 2 ^ (t + 1)
theorem top_ex {s : Int} (h : 1 ≤ s) : ∃ t, Top s t := by
  obtain ⟨n, rfl⟩ := Int.eq_ofNat_of_zero_le (show 0 ≤ s by omega)
  refine ⟨n.log2, ?_, ?_⟩
  · have := Nat.log2_self_le (n := n) (by omega); exact_mod_cast this
  · have := Nat.lt_log2_self (n := n); exact_mod_cast this
theorem top_lt {s : Int} {t m : Nat} (h : Top s t) (hs : s < 2 ^ m) : t < m := by
  by_cases hc : t < m
  · exact hc
  · have := pow2_le (n := m) (m := t) (by omega); have := h.1; omega
theorem top_le {s : Int} {t m : Nat} (h : Top s t) (hs : 2 ^ m ≤ s) : m ≤ t := by
  by_cases hc : m ≤ t
  · exact hc
  · have := pow2_le (n := t + 1) (m := m) (by omega); have := h.2; omega
theorem top_53 {s : Int} {t : Nat} (h : Top s t) (hs : s ≤ 9007199254740992) : t ≤ 53 ∧ (t = 53 → s = 9007199254740992) := by
  have h54 : t < 54 := top_lt h (by have : (2 : Int) ^ 54 = 18014398509481984 := by decide
                                    omega)
  refine ⟨by omega, fun e => ?_⟩
  subst e
  have := h.1
  have : (2 : Int) ^ 53 = 9007199254740992 := by decide
  omega
theorem bitLen_top {s : Int} {t : Nat} (h : Top s t) (ht : t ≤ 53) : (Lib.bitLen s.toNat : Int) = t + 1 := by
  have p := pow2_pos t
  have h1 := h.1
  have h2 := h.2
  obtain ⟨n, rfl⟩ := Int.eq_ofNat_of_zero_le (show 0 ≤ s by omega)
  rw [Int.toNat_natCast]
  have a1 : 2 ^ t ≤ n := by exact_mod_cast h1
  have a2 : n < 2 ^ (t + 1) := by exact_mod_cast h2
  have a3 : n < 2 ^ 64 := Nat.lt_of_lt_of_le a2 (Nat.pow_le_pow_right (by decide) (by omega))
  have e : n / 2 ^ t = 1 := by
    rw [Nat.div_eq_iff (Nat.two_pow_pos t)]
    rw [Nat.pow_succ] at a2; omega
  rw [Lib.bitLen_shift t n a1 a3, e]
  have : Lib.bitLen 1 = 1 := by decide
  rw [this]; omega
/-- The low bits of a float of s. -/
def lowW (s : Int) (t : Nat) : Int := if t ≤ 52 then (s - 2 ^ t) * 2 ^ (52 - t) else 0
theorem pow_52 {t : Nat} (h : t ≤ 52) : (2 : Int) ^ t * 2 ^ (52 - t) = 4503599627370496 := by
  rw [← Int.pow_add, show t + (52 - t) = 52 by omega]; decide
theorem low_bounds {s : Int} {t : Nat} (h : Top s t) : 0 ≤ lowW s t ∧ lowW s t < 4503599627370496 := by
  unfold lowW
  split
  · rename_i ht
    have p := pow2_pos (52 - t)
    have h1 := h.1
    have h2 := h.2
    rw [Int.pow_succ] at h2
    refine ⟨Int.mul_nonneg (by omega) (by omega), ?_⟩
    rw [← pow_52 ht]
    exact Int.mul_lt_mul_of_pos_right (by omega) (by omega)
  · decide
def flT (sg s : Int) (t : Nat) : Int := wrap64 (sg + (1023 + t) * 4503599627370496 + lowW s t)
theorem or_fields {sg : Int} {t : Nat} {y : Int} (hs : sg = 0 ∨ sg = 9223372036854775808) (ht : t ≤ 53) (y0 : 0 ≤ y) (y1 : y < 4503599627370496) :
    Go.bits .or .u64 (Go.bits .or .u64 sg (IntKind.u64.wrap ((IntKind.u64.wrap (wrap64 (1023 + (t : Int)))) * 4503599627370496))) y = sg + (1023 + t) * 4503599627370496 + y := by
  rw [wrap_in (by omega) (by omega), u64_in (x := 1023 + (t : Int)) (by omega) (by omega), u64_in (by omega) (by omega)]
  rw [bits_join .u64 64 (by decide) u64_all 63 sg ((1023 + (t : Int)) * 4503599627370496) (by omega) (by omega) (by omega) (by omega) (by omega) (by omega)]
  exact bits_join .u64 64 (by decide) u64_all 52 _ y (by omega) (by omega) (by omega) y0 (by omega) (by omega)
/-- What FloatOf computes. -/
def floatW (n : Int) : Int :=
  if n = 0 ∨ n < -9007199254740992 ∨ 9007199254740992 < n then 0
  else if n < 0 then flT 9223372036854775808 (-n) (-n).toNat.log2 else flT 0 n n.toNat.log2
theorem top_log {s : Int} (h : 1 ≤ s) : Top s s.toNat.log2 := by
  obtain ⟨n, rfl⟩ := Int.eq_ofNat_of_zero_le (show 0 ≤ s by omega)
  rw [Int.toNat_natCast]
  refine ⟨?_, ?_⟩
  · have := Nat.log2_self_le (n := n) (by omega); exact_mod_cast this
  · have := Nat.lt_log2_self (n := n); exact_mod_cast this
theorem impl_low {s : Int} {t : Nat} (h : Top s t) (ht : t ≤ 53) (h53 : t = 53 → s = 9007199254740992) :
    (IntKind.u64.wrap ((shl .u64 s (IntKind.u64.wrap (wrap64 (63 - (t : Int))))) * 2)) / 4096 = lowW s t := by
  rw [show wrap64 (63 - (t : Int)) = ((63 - t : Nat) : Int) by rw [wrap_in (by omega) (by omega)]; omega, shl_u s (by omega)]
  by_cases h52 : t ≤ 52
  · have lb := low_bounds h
    have e : s * 2 ^ (63 - t) = 9223372036854775808 + lowW s t * 2048 := by
      unfold lowW; rw [if_pos h52, show 63 - t = (52 - t) + 11 by omega, Int.pow_add, ← Int.mul_assoc]
      have := pow_52 h52
      rw [Int.sub_mul, this]
      have : (2 : Int) ^ 11 = 2048 := by decide
      rw [this]; omega
    rw [e, u64_in (x := 9223372036854775808 + lowW s t * 2048) (by omega) (by omega), u64_mod]; omega
  · obtain rfl : t = 53 := by omega
    rw [h53 rfl]; decide
theorem impl_FloatOf_eq (n : Int) {k : Nat} (hk : 1 ≤ k) : impl_FloatOf.f k n = some (floatW n) := by
  obtain ⟨k, rfl⟩ : ∃ m, k = m + 1 := ⟨k - 1, by omega⟩
  unfold impl_FloatOf.f floatW
  by_cases h0 : n = 0
  · rw [if_pos h0, if_pos (.inl h0)]; simp only [impl_FloatOf.j0, if_true]
  · rw [if_neg h0]; simp only [impl_inRange_eq, Option.bind_some]
    by_cases hb : -9007199254740992 ≤ n ∧ n ≤ 9007199254740992
    · rw [if_neg (by omega)]
      simp only [hb.1, hb.2, decide_true, Bool.and_self, Bool.not_true, impl_FloatOf.j0, Bool.false_eq_true, if_false]
      by_cases hn : n < 0
      · rw [if_pos hn, if_pos hn]
        have tp := top_log (s := -n) (by omega)
        have t53 := top_53 tp (by omega)
        generalize (-n).toNat.log2 = t at tp t53 ⊢
        rw [wrap_in (x := -n) (by omega) (by omega), u64_in (x := -n) (by omega) (by omega)]
        simp only [bits_Len64.f]
        rw [if_pos (by omega)]
        simp only [Option.bind_some]
        rw [bitLen_top tp t53.1, show wrap64 ((t : Int) + 1 - 1) = (t : Int) by rw [wrap_in (by omega) (by omega)]; omega, if_pos (u64_nonneg _), impl_low tp t53.1 t53.2, or_fields (.inr rfl) t53.1 (low_bounds tp).1 (low_bounds tp).2]
        rfl
      · rw [if_neg hn, if_neg hn]
        have tp := top_log (s := n) (by omega)
        have t53 := top_53 tp (by omega)
        generalize n.toNat.log2 = t at tp t53 ⊢
        rw [u64_in (x := n) (by omega) (by omega)]
        simp only [bits_Len64.f]
        rw [if_pos (by omega)]
        simp only [Option.bind_some]
        rw [bitLen_top tp t53.1, show wrap64 ((t : Int) + 1 - 1) = (t : Int) by rw [wrap_in (by omega) (by omega)]; omega, if_pos (u64_nonneg _), impl_low tp t53.1 t53.2, or_fields (.inl rfl) t53.1 (low_bounds tp).1 (low_bounds tp).2]
        rfl
    · have e : (decide (-9007199254740992 ≤ n) && decide (n ≤ 9007199254740992)) = false := by
        by_cases a : -9007199254740992 ≤ n <;> by_cases b : n ≤ 9007199254740992 <;> simp_all
      rw [e, if_pos (by omega)]; simp only [Bool.not_false, impl_FloatOf.j0, if_true]
/-- What IntOf computes. -/
def valW (x e : Int) : Int := (x % 4503599627370496 + 4503599627370496) * 2 / 2 ^ (53 - e).toNat
def backW (b v : Int) : Int × Bool := if floatW v = b then (v, true) else (0, false)
def intW (b : Int) : Int × Bool :=
  if (IntKind.u64.wrap b) * 2 % 18446744073709551616 = 0 then (0, true)
  else if 0 ≤ (IntKind.u64.wrap b) / 4503599627370496 % 2048 - 1023 ∧ (IntKind.u64.wrap b) / 4503599627370496 % 2048 - 1023 ≤ 53 then
    (if (IntKind.u64.wrap b) / 9223372036854775808 = 1 then backW b (-valW (IntKind.u64.wrap b) ((IntKind.u64.wrap b) / 4503599627370496 % 2048 - 1023))
     else backW b (valW (IntKind.u64.wrap b) ((IntKind.u64.wrap b) / 4503599627370496 % 2048 - 1023)))
  else (0, false)
theorem and_exp {x : Int} (h0 : 0 ≤ x) (h1 : x ≤ 18446744073709551615) : Go.bits .and .u64 (x / 4503599627370496) 2047 = x / 4503599627370496 % 2048 :=
  bits_mask .u64 64 (by decide) u64_all 11 (by decide) (x / 4503599627370496) (by omega) (by omega)
theorem and_low {x : Int} (h0 : 0 ≤ x) (h1 : x ≤ 18446744073709551615) : Go.bits .and .u64 x 4503599627370495 = x % 4503599627370496 :=
  bits_mask .u64 64 (by decide) u64_all 52 (by decide) x h0 (by omega)
theorem or_top {y : Int} (h0 : 0 ≤ y) (h1 : y < 4503599627370496) : Go.bits .or .u64 y 4503599627370496 = y + 4503599627370496 := by
  obtain ⟨a, rfl⟩ := Int.eq_ofNat_of_zero_le h0
  have e := bits_join .u64 64 (by decide) u64_all 52 4503599627370496 (a : Int) (by decide) (by decide) (by decide) (by omega) (by omega) (by omega)
  have c1 := (bits_nat .u64 64 (by decide) u64_all a 4503599627370496 (by omega) (by decide)).2
  have c2 := (bits_nat .u64 64 (by decide) u64_all 4503599627370496 a (by decide) (by omega)).2
  rw [Nat.or_comm] at c2
  have : Go.bits .or .u64 (a : Int) 4503599627370496 = Go.bits .or .u64 4503599627370496 (a : Int) := by
    rw [show (4503599627370496 : Int) = ((4503599627370496 : Nat) : Int) from rfl, c1, c2]
  rw [this, e]; omega
theorem val_bounds (x : Int) {e : Int} (h0 : 0 ≤ e) (h1 : e ≤ 53) : 0 ≤ valW x e ∧ valW x e ≤ 18014398509481984 := by
  unfold valW
  have m : 0 ≤ (x % 4503599627370496 + 4503599627370496) * 2 := by omega
  have p := pow2_pos (53 - e).toNat
  refine ⟨Int.ediv_nonneg m (by omega), ?_⟩
  have := Int.ediv_le_self (2 ^ (53 - e).toNat) m
  omega
theorem impl_IntOf_eq (b : Int) {k : Nat} (hk : 1 ≤ k) : impl_IntOf.f k b = some (intW b) := by
  unfold impl_IntOf.f intW backW
  have xb := u64_bounds b
  generalize IntKind.u64.wrap b = x at xb ⊢
  rw [u64_mod (x * 2)]
  by_cases hz : x * 2 % 18446744073709551616 = 0
  · rw [if_pos hz, if_pos hz]
  · rw [if_neg hz, if_neg hz, and_exp xb.1 xb.2, and_low xb.1 xb.2, or_top (by omega) (by omega)]
    have eb : 0 ≤ x / 4503599627370496 % 2048 ∧ x / 4503599627370496 % 2048 < 2048 := by omega
    rw [wrap_in (x := x / 4503599627370496 % 2048) (by omega) (by omega), wrap_in (x := x / 4503599627370496 % 2048 - 1023) (by omega) (by omega)]
    generalize x / 4503599627370496 % 2048 - 1023 = e
    simp only [impl_inRange_eq, Option.bind_some]
    by_cases he : 0 ≤ e ∧ e ≤ 53
    · rw [if_pos (by simp [he.1, he.2]), if_pos he, if_pos (u64_nonneg _)]
      have vb := val_bounds x he.1 he.2
      have ev : shr .u64 (IntKind.u64.wrap ((x % 4503599627370496 + 4503599627370496) * 2)) (IntKind.u64.wrap (wrap64 (53 - e))) = valW x e := by
        rw [u64_in (x := (x % 4503599627370496 + 4503599627370496) * 2) (by omega) (by omega), show wrap64 (53 - e) = (((53 - e).toNat : Nat) : Int) by rw [wrap_in (by omega) (by omega)]; omega, shr_u _ (by omega)]
        rfl
      rw [ev]
      generalize valW x e = v at vb ⊢
      rw [wrap_in (x := v) (by omega) (by omega), wrap_in (x := -v) (by omega) (by omega), impl_FloatOf_eq _ hk, impl_FloatOf_eq _ hk]
      simp only [Option.bind_some]
      by_cases hs : x / 9223372036854775808 = 1
      · rw [if_pos hs, if_pos hs]; split <;> rfl
      · rw [if_neg hs, if_neg hs]; split <;> rfl
    · have ee : (decide (0 ≤ e) && decide (e ≤ 53)) = false := by
        by_cases a : 0 ≤ e <;> by_cases b : e ≤ 53 <;> simp_all
      rw [ee, if_neg he]; rfl
/-- What Join computes. -/
def joinW (a b c d e f g h : Int) : Int × Int × Int × Int :=
  if boxOk a b c d = true then (if boxOk e f g h = true then (min a e, min b f, max c g, max d h) else (a, b, c, d))
  else (if boxOk e f g h = true then (e, f, g, h) else (0, 0, 0, 0))
def grownW (a b c d e f g h : Int) : Int := area (joinW a b c d e f g h).1 (joinW a b c d e f g h).2.1 (joinW a b c d e f g h).2.2.1 (joinW a b c d e f g h).2.2.2 - area a b c d
theorem grown_wrap (a b c d e f g h : Int) : wrap64 (area (joinW a b c d e f g h).1 (joinW a b c d e f g h).2.1 (joinW a b c d e f g h).2.2.1 (joinW a b c d e f g h).2.2.2 - area a b c d) = grownW a b c d e f g h := by
  have a1 := area_bounds a b c d
  have a2 := area_bounds (joinW a b c d e f g h).1 (joinW a b c d e f g h).2.1 (joinW a b c d e f g h).2.2.1 (joinW a b c d e f g h).2.2.2
  exact wrap_in (by omega) (by omega)
theorem side_fin : ∀ n : Fin 21, (33554432 : Int) / 2 ^ n.val * 2 ^ n.val = 33554432 := by decide +kernel
theorem side_mul {z : Int} (h0 : 0 ≤ z) (h1 : z ≤ 20) : side z * 2 ^ z.toNat = 33554432 := by
  obtain ⟨n, rfl⟩ := Int.eq_ofNat_of_zero_le h0
  exact side_fin ⟨n, by omega⟩
theorem tile_span {z x : Int} (h0 : 0 ≤ z) (h1 : z ≤ 20) (x0 : 0 ≤ x) (x1 : x ≤ 2 ^ z.toNat - 1) : 0 ≤ x * side z ∧ (x + 1) * side z = x * side z + side z ∧ x * side z + side z ≤ 33554432 ∧ 32 ≤ side z := by
  have hs := (shr_side h0 h1).2
  have e : (x + 1) * side z = x * side z + side z := by rw [Int.add_mul, Int.one_mul]
  refine ⟨Int.mul_nonneg x0 (by omega), e, ?_, hs.1⟩
  rw [← e, ← side_mul h0 h1, Int.mul_comm (side z)]
  exact Int.mul_le_mul_of_nonneg_right (by omega) (by omega)
/-- What TileBox computes. -/
def tileBoxW (z x y : Int) : Int × Int × Int × Int × Bool :=
  if tileOk z x y = true ∧ boxOk (max (x * side z - 16777216) (-10000000)) (max (y * side z - 16777216) (-10000000)) (min (x * side z - 16777216 + side z - 1) 10000000) (min (y * side z - 16777216 + side z - 1) 10000000) = true then
    (max (x * side z - 16777216) (-10000000), max (y * side z - 16777216) (-10000000), min (x * side z - 16777216 + side z - 1) 10000000, min (y * side z - 16777216 + side z - 1) 10000000, true)
  else (0, 0, 0, 0, false)
theorem tileOk_iff {z x y : Int} : tileOk z x y = true ↔ (0 ≤ z ∧ z ≤ 20) ∧ (0 ≤ x ∧ x ≤ 2 ^ z.toNat - 1) ∧ (0 ≤ y ∧ y ≤ 2 ^ z.toNat - 1) := by
  simp [tileOk, and_assoc]
/-! The draws answer, whatever the bytes are. -/
def St (l : List Int) (i : Int) : Prop := 0 ≤ i ∧ i ≤ l.length
theorem and255 (x : Int) : 0 ≤ Go.bits .and .i64 x 255 ∧ Go.bits .and .i64 x 255 ≤ 255 := by
  have h : ((BitVec.ofInt 64 x &&& BitVec.ofInt 64 255).toNat) ≤ 255 := by
    rw [BitVec.toNat_and]
    exact Nat.le_trans Nat.and_le_right (by decide)
  have e : Go.bits .and .i64 x 255 = IntKind.i64.wrap ((BitVec.ofInt 64 x &&& BitVec.ofInt 64 255).toNat : Int) := rfl
  rw [e, IntKind.wrap_i64]
  generalize (BitVec.ofInt 64 x &&& BitVec.ofInt 64 255).toNat = m at h ⊢
  omega
theorem byte_ok {l : List Int} (hl : l.length ≤ 140737488351232) {i h : Int} (s : St l i) : ∃ b i' h', spec_l1Byte.f l i h = some (b, i', h') ∧ 0 ≤ b ∧ b ≤ 255 ∧ St l i' := by
  obtain ⟨s0, s1⟩ := s
  unfold spec_l1Byte.f
  by_cases c : i < (l.length : Int)
  · rw [if_pos c, if_pos s0]
    refine ⟨_, _, _, rfl, (and255 _).1, (and255 _).2, ?_⟩
    rw [wrap_in (by omega) (by omega)]; exact ⟨by omega, by omega⟩
  · rw [if_neg c]
    exact ⟨_, _, _, rfl, (and255 _).1, (and255 _).2, s0, s1⟩
theorem tmod_range {x n : Int} (h0 : 0 ≤ x) (hn : 0 < n) : 0 ≤ Int.tmod x n ∧ Int.tmod x n < n := by
  rw [Int.tmod_eq_emod_of_nonneg h0]
  exact ⟨Int.emod_nonneg _ (by omega), Int.emod_lt_of_pos _ hn⟩
theorem below_ok {l : List Int} (hl : l.length ≤ 140737488351232) {i h n : Int} (s : St l i) :
    ∃ x i' h', spec_l1Below.f l i h n = some (x, i', h') ∧ St l i' ∧ 0 ≤ x ∧ (0 < n → x < n) ∧ (n ≤ 0 → x = 0) := by
  unfold spec_l1Below.f
  by_cases c : n ≤ 0
  · rw [if_pos c]; exact ⟨_, _, _, rfl, s, by decide, by omega, fun _ => rfl⟩
  · rw [if_neg c]
    by_cases c2 : n ≤ 256
    · rw [if_pos c2]
      obtain ⟨b, i1, h1, e, b0, b1, s1⟩ := byte_ok hl (h := h) s
      rw [e]; simp only [Option.bind_some]; rw [if_neg (by omega)]
      have := tmod_range b0 (show 0 < n by omega)
      exact ⟨_, _, _, rfl, s1, this.1, fun _ => this.2, by omega⟩
    · rw [if_neg c2]
      obtain ⟨b, i1, h1, e, b0, b1, s1⟩ := byte_ok hl (h := h) s
      obtain ⟨b', i2, h2, e2, b0', b1', s2⟩ := byte_ok hl (h := h1) s1
      obtain ⟨b'', i3, h3, e3, b0'', b1'', s3⟩ := byte_ok hl (h := h2) s2
      rw [e]; simp only [Option.bind_some]; rw [e2]; simp only [Option.bind_some]; rw [e3]; simp only [Option.bind_some]; rw [if_neg (by omega)]
      have nn : 0 ≤ wrap64 (wrap64 (wrap64 (b * 65536) + wrap64 (b' * 256)) + b'') := by
        rw [wrap_in (x := b * 65536) (by omega) (by omega), wrap_in (x := b' * 256) (by omega) (by omega), wrap_in (x := b * 65536 + b' * 256) (by omega) (by omega), wrap_in (by omega) (by omega)]; omega
      have := tmod_range nn (show 0 < n by omega)
      exact ⟨_, _, _, rfl, s3, this.1, fun _ => this.2, by omega⟩
theorem once_ok {l : List Int} (hl : l.length ≤ 140737488351232) {i h : Int} (n : Int) (s : St l i) : ∃ b i' h', spec_l1Once.f l i h n = some (b, i', h') ∧ St l i' := by
  obtain ⟨x, i1, h1, e, s1, _⟩ := below_ok hl (h := h) (n := n) s
  unfold spec_l1Once.f; rw [e]; exact ⟨_, _, _, rfl, s1⟩
theorem int_ok {l : List Int} (hl : l.length ≤ 140737488351232) {i h : Int} (xs : List Int) (hx : 0 < xs.length) (s : St l i) : ∃ v i' h', spec_l1Int.f l i h xs = some (v, i', h') ∧ v ∈ xs ∧ St l i' := by
  obtain ⟨x, i1, h1, e, s1, x0, x1, _⟩ := below_ok hl (h := h) (n := (xs.length : Int)) s
  have hx1 := x1 (by omega)
  unfold spec_l1Int.f; rw [e]; simp only [Option.bind_some]; rw [if_pos x0, if_pos hx1]
  refine ⟨_, _, _, rfl, ?_, s1⟩
  unfold rd
  have hlt : x.toNat < xs.length := by omega
  rw [List.getD_eq_getElem?_getD, List.getElem?_eq_getElem hlt]
  exact List.getElem_mem hlt
theorem new_loop (l : List Int) (hl : l.length ≤ 140737488351232) : ∀ (d i k : Nat) (h : Int), i + d = l.length → d < k → ∃ h', spec_l1New.l0 k l h (i : Int) = some (l, 0, h') := by
  intro d
  induction d with
  | zero =>
    intro i k h hi hk
    obtain ⟨k, rfl⟩ : ∃ m, k = m + 1 := ⟨k - 1, by omega⟩
    simp only [spec_l1New.l0]; rw [if_neg (by omega)]; exact ⟨_, rfl⟩
  | succ d ih =>
    intro i k h hi hk
    obtain ⟨k, rfl⟩ : ∃ m, k = m + 1 := ⟨k - 1, by omega⟩
    simp only [spec_l1New.l0]; rw [if_pos (by omega)]
    by_cases c : (i : Int) < 4000
    · rw [if_pos c, if_pos (by omega), show wrap64 ((i : Int) + 1) = ((i + 1 : Nat) : Int) by rw [wrap_in (by omega) (by omega)]; omega]
      exact ih (i + 1) k _ (by omega) (by omega)
    · rw [if_neg c]; exact ⟨_, rfl⟩
theorem new_ok (l : List Int) (hl : l.length ≤ 140737488351232) {k : Nat} (hk : l.length < k) : ∃ h, spec_l1New.f k l = some (l, 0, h) := by
  unfold spec_l1New.f; exact new_loop l hl l.length 0 k _ (by omega) hk
theorem st0 (l : List Int) : St l 0 := ⟨by decide, by omega⟩
theorem odd_ok {l : List Int} (hl : l.length ≤ 140737488351232) {i h : Int} (s : St l i) : ∃ v i' h', spec_l1Odd.f l i h = some (v, i', h') ∧ St l i' := by
  obtain ⟨v, i1, h1, e, _, s1⟩ := int_ok hl (h := h) ([(-1), 0, 1, 2, 255, 256, 65535, 2147483647, 2147483648, 4294967295, 4294967296, (-2147483648), 9223372036854775807, (-9223372036854775808)] : List Int) (by decide) s
  unfold spec_l1Odd.f; rw [e]; exact ⟨_, _, _, rfl, s1⟩
theorem drawFloatOf_ok {l : List Int} (hl : l.length ≤ 140737488351232) {k : Nat} (hk : l.length < k) : ∃ n, spec_DrawFloatOf.f k l = some n := by
  obtain ⟨h, e⟩ := new_ok l hl hk
  obtain ⟨b, i1, h1, e1, s1⟩ := once_ok hl (h := h) 2 (st0 l)
  unfold spec_DrawFloatOf.f; rw [e]; simp only [Option.bind_some]; rw [e1]; simp only [Option.bind_some]
  cases b
  · rw [if_neg (by decide)]
    obtain ⟨x, i2, h2, e2, s2, _⟩ := below_ok hl (h := h1) (n := 16777216) s1
    rw [e2]; simp only [Option.bind_some]
    obtain ⟨v, i3, h3, e3, _, _⟩ := int_ok hl (h := h2) ([9007199254740992, 9007199254740993, (-9007199254740992), 4503599627370497, 9007199254740991, wrap64 (x - 8000000)] : List Int) (by simp) s2
    rw [e3]; exact ⟨_, rfl⟩
  · rw [if_pos rfl]
    obtain ⟨v, i3, h3, e3, _⟩ := odd_ok hl (h := h1) s1
    rw [e3]; exact ⟨_, rfl⟩
theorem fl_value {sg s : Int} {t : Nat} (hs : sg = 0 ∨ sg = 9223372036854775808) (tp : Top s t) (ht : t ≤ 53) :
    IntKind.u64.wrap (flT sg s t) = sg + (1023 + t) * 4503599627370496 + lowW s t := by
  have lb := low_bounds tp
  unfold flT wrap64
  rw [u64_mod]
  rcases hs with rfl | rfl <;> omega
theorem val_back {s : Int} {t : Nat} (tp : Top s t) (t53 : t ≤ 53 ∧ (t = 53 → s = 9007199254740992)) (x : Int) (hx : x % 4503599627370496 = lowW s t) : valW x (t : Int) = s := by
  unfold valW
  rw [hx]
  by_cases h : t ≤ 52
  · have e : (lowW s t + 4503599627370496) * 2 = s * 2 ^ (53 - (t : Int)).toNat := by
      unfold lowW; rw [if_pos h, show (53 - (t : Int)).toNat = (52 - t) + 1 by omega, Int.pow_succ, ← Int.mul_assoc]
      have := pow_52 h
      rw [Int.sub_mul, this]; omega
    rw [e]; exact Int.mul_ediv_cancel _ (by have := pow2_pos (53 - (t : Int)).toNat; omega)
  · obtain rfl : t = 53 := by omega
    rw [t53.2 rfl]; unfold lowW; rw [if_neg h]; decide
theorem back_ok {n : Int} (h1 : -9007199254740992 ≤ n) (h2 : n ≤ 9007199254740992) : intW (floatW n) = (n, true) := by
  by_cases h0 : n = 0
  · subst h0; decide
  · have key : ∀ (sg s : Int) (t : Nat), (sg = 0 ∨ sg = 9223372036854775808) → Top s t → (t ≤ 53 ∧ (t = 53 → s = 9007199254740992)) → floatW n = flT sg s t → (if sg = 0 then n = s else n = -s) → intW (floatW n) = (n, true) := by
      intro sg s t hs tp t53 hf hn
      have lb := low_bounds tp
      have xv := fl_value hs tp t53.1
      rw [hf]
      unfold intW
      rw [xv]
      have hm : (sg + (1023 + (t : Int)) * 4503599627370496 + lowW s t) % 4503599627370496 = lowW s t := by rcases hs with rfl | rfl <;> omega
      have he : (sg + (1023 + (t : Int)) * 4503599627370496 + lowW s t) / 4503599627370496 % 2048 - 1023 = (t : Int) := by rcases hs with rfl | rfl <;> omega
      rw [he, val_back tp t53 _ hm, if_neg (by rcases hs with rfl | rfl <;> omega), if_pos (by omega)]
      unfold backW
      rcases hs with rfl | rfl
      · rw [if_pos rfl] at hn
        subst hn
        rw [if_neg (by omega), hf, if_pos rfl]
      · rw [if_neg (by decide)] at hn
        subst hn
        rw [if_pos (by omega), hf, if_pos rfl]
    have hb : ¬ (n = 0 ∨ n < -9007199254740992 ∨ 9007199254740992 < n) := by omega
    by_cases hn : n < 0
    · have tp := top_log (s := -n) (by omega)
      exact key 9223372036854775808 (-n) _ (.inr rfl) tp (top_53 tp (by omega)) (by unfold floatW; rw [if_neg hb, if_pos hn]) (by rw [if_neg (by decide)]; omega)
    · have tp := top_log (s := n) (by omega)
      exact key 0 n _ (.inl rfl) tp (top_53 tp (by omega)) (by unfold floatW; rw [if_neg hb, if_neg hn]) (by rw [if_pos rfl])
theorem top_uniq {s : Int} {t u : Nat} (h : Top s t) (g : Top s u) : t = u := by
  have a := top_lt h g.2
  have b := top_lt g h.2
  omega
theorem float_up {n : Int} (h1 : 0 < n) (h2 : n < 9007199254740992) : floatW n < floatW (n + 1) := by
  have tp := top_log (s := n) (by omega)
  have tq := top_log (s := n + 1) (by omega)
  have t53 := top_53 tp (by omega)
  have q53 := top_53 tq (by omega)
  have e1 : floatW n = flT 0 n n.toNat.log2 := by unfold floatW; rw [if_neg (by omega), if_neg (by omega)]
  have e2 : floatW (n + 1) = flT 0 (n + 1) (n + 1).toNat.log2 := by unfold floatW; rw [if_neg (by omega), if_neg (by omega)]
  rw [e1, e2]
  generalize n.toNat.log2 = t at tp t53 ⊢
  generalize (n + 1).toNat.log2 = u at tq q53 ⊢
  have lp := low_bounds tp
  have lq := low_bounds tq
  unfold flT
  rw [wrap_in (by omega) (by omega), wrap_in (by omega) (by omega)]
  have tu : t ≤ u := top_le tq (by have := tp.1; omega)
  by_cases hu : t = u
  · subst hu
    have h52 : t ≤ 52 := by
      by_cases c : t ≤ 52
      · exact c
      · have := t53.2 (by omega); omega
    have hl : lowW n t < lowW (n + 1) t := by
      unfold lowW; rw [if_pos h52, if_pos h52]
      exact Int.mul_lt_mul_of_pos_right (by omega) (by have := pow2_pos (52 - t); omega)
    omega
  · omega
theorem FnFloats : laws_FnFloats.Pure := by
  intro l hm hl0 hw
  have hl : l.length ≤ 140737488351232 := by omega
  refine ⟨l.length + 100, ?_⟩
  unfold laws_FnFloats.f laws_big.f
  simp only [Option.bind_some]
  by_cases hb : decide ((l.length : Int) > 1048576) = true
  · rw [if_pos hb]
  · rw [if_neg hb]
    obtain ⟨n, e⟩ := drawFloatOf_ok hl (k := l.length + 100) (by omega)
    rw [e]; simp only [Option.bind_some]
    rw [impl_FloatOf_eq n (by omega)]; simp only [Option.bind_some]
    rw [impl_IntOf_eq _ (by omega)]; simp only [Option.bind_some]
    rw [show l.length + 100 = (l.length + 99) + 1 by omega]
    by_cases h1 : n < -9007199254740992
    · have z : floatW n = 0 := by unfold floatW; rw [if_pos (by omega)]
      rw [if_pos h1, z, show intW 0 = (0, true) by decide]
      simp [laws_FnFloats.j0]
    · rw [if_neg h1]
      by_cases h2 : n > 9007199254740992
      · have z : floatW n = 0 := by unfold floatW; rw [if_pos (by omega)]
        rw [z, show intW 0 = (0, true) by decide]
        simp [laws_FnFloats.j0, h2]
      · rw [back_ok (by omega) (by omega)]
        simp only [laws_FnFloats.j0, h2, decide_false, Bool.false_eq_true, if_false, if_true, beq_self_eq_true]
        by_cases h3 : n > 0
        · rw [if_pos h3]
          by_cases h4 : n < 9007199254740992
          · rw [if_pos h4, wrap_in (x := n + 1) (by omega) (by omega), impl_FloatOf_eq _ (by omega), impl_FloatOf_eq _ (by omega)]
            simp only [Option.bind_some]
            rw [if_neg (by have := float_up h3 h4; omega)]
          · rw [if_neg h4]
        · rw [if_neg h3]

end Go.Proofs.Ytffcohllkoefeaa.Pure
