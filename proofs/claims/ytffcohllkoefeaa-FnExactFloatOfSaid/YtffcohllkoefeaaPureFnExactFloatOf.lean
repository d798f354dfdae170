/- The pure statement of the law FnExactFloatOf: what the printed functions compute answers true at every input. No conditions beyond the printed bounds. -/
import Derived.Test.YtffcohllkoefeaaQFnExactFloatOfx4
namespace Go.Proofs.Ytffcohllkoefeaa.Pure
open Go.RowKit Go.Proofs.Ytffcohllkoefeaa.PFnExactFloatOf Go.Proofs.YtffcohllkoefeaaW.PrintWords Go.Proofs.YtffcohllkoefeaaW.PrintLast Go.Proofs.YtffcohllkoefeaaW.PrintMore
set_option linter.unusedVariables false
set_option linter.unusedSimpArgs false

/-- The points that are right. -/
def ptOk (x y : Int) : Bool := decide (-10000000 ≤ x) && decide (x ≤ 10000000) && decide (-10000000 ≤ y) && decide (y ≤ 10000000)
/-- The boxes that are right. -/
def boxOk (a b c d : Int) : Bool := ptOk a b && ptOk c d && decide (a ≤ c) && decide (b ≤ d)
theorem ptOk_iff {x y : Int} : ptOk x y = true ↔ -10000000 ≤ x ∧ x ≤ 10000000 ∧ -10000000 ≤ y ∧ y ≤ 10000000 := by
  simp [ptOk, and_assoc]
theorem boxOk_iff {a b c d : Int} : boxOk a b c d = true ↔ (-10000000 ≤ a ∧ a ≤ 10000000 ∧ -10000000 ≤ b ∧ b ≤ 10000000) ∧ (-10000000 ≤ c ∧ c ≤ 10000000 ∧ -10000000 ≤ d ∧ d ≤ 10000000) ∧ a ≤ c ∧ b ≤ d := by
  simp [boxOk, ptOk_iff, and_assoc]
theorem wrap_in {x : Int} (h1 : -9223372036854775808 ≤ x) (h2 : x ≤ 9223372036854775807) : wrap64 x = x := by unfold wrap64; omega
theorem wrap_bounds (x : Int) : -9223372036854775808 ≤ wrap64 x ∧ wrap64 x ≤ 9223372036854775807 := by unfold wrap64; omega
theorem u64_in {x : Int} (h1 : 0 ≤ x) (h2 : x ≤ 18446744073709551615) : IntKind.u64.wrap x = x := by
  simp [IntKind.wrap, IntKind.bits, IntKind.signed]; omega
theorem u64_bounds (x : Int) : 0 ≤ IntKind.u64.wrap x ∧ IntKind.u64.wrap x ≤ 18446744073709551615 := by
  simp [IntKind.wrap, IntKind.bits, IntKind.signed]; omega
theorem u64_nonneg (x : Int) : 0 ≤ IntKind.u64.wrap x := (u64_bounds x).1
theorem mx_eq (a b : Int) : mx a b = max a b := by unfold mx; omega
theorem mn_eq (a b : Int) : mn a b = min a b := by unfold mn; omega
theorem spec_l1In_eq (a b c : Int) : spec_l1In.f a b c = some (decide (b ≤ a) && decide (a ≤ c)) := by
  unfold spec_l1In.f; by_cases h : b ≤ a <;> simp [h]
theorem impl_inRange_eq (a b c : Int) : impl_inRange.f a b c = some (decide (b ≤ a) && decide (a ≤ c)) := by
  unfold impl_inRange.f; by_cases h : b ≤ a <;> simp [h]
def inBox (a b c d x y : Int) : Bool := boxOk a b c d && ptOk x y && (decide (a ≤ x) && decide (x ≤ c)) && (decide (b ≤ y) && decide (y ≤ d))
def overlap (a b c d e f g h : Int) : Bool := boxOk a b c d && boxOk e f g h && decide (a ≤ g) && decide (e ≤ c) && decide (b ≤ h) && decide (f ≤ d)
def inside (a b c d e f g h : Int) : Bool := boxOk a b c d && inBox e f g h a b && inBox e f g h c d
def area (a b c d : Int) : Int := if boxOk a b c d = true then (c - a) * (d - b) else 0
theorem area_bounds (a b c d : Int) : 0 ≤ area a b c d ∧ area a b c d ≤ 400000000000000 := by
  unfold area; split
  · rename_i h
    rw [boxOk_iff] at h
    obtain ⟨⟨h1, h2, h3, h4⟩, ⟨h5, h6, h7, h8⟩, h9, h10⟩ := h
    have p1 : 0 ≤ c - a := by omega
    have p2 : 0 ≤ d - b := by omega
    refine ⟨Int.mul_nonneg p1 p2, ?_⟩
    calc (c - a) * (d - b) ≤ 20000000 * (d - b) := Int.mul_le_mul_of_nonneg_right (by omega) p2
      _ ≤ 20000000 * 20000000 := Int.mul_le_mul_of_nonneg_left (by omega) (by omega)
      _ = 400000000000000 := by decide
  · omega
theorem area_wrap {a b c d : Int} (h : boxOk a b c d = true) : wrap64 ((wrap64 (c - a)) * (wrap64 (d - b))) = area a b c d := by
  have hb := area_bounds a b c d
  have e : area a b c d = (c - a) * (d - b) := by unfold area; rw [if_pos h]
  rw [boxOk_iff] at h
  rw [wrap_in (x := c - a) (by omega) (by omega), wrap_in (x := d - b) (by omega) (by omega), ← e]
  exact wrap_in (by omega) (by omega)
/-- The tiles that are right. -/
def tileOk (z x y : Int) : Bool := decide (0 ≤ z) && decide (z ≤ 20) && (decide (0 ≤ x) && decide (x ≤ 2 ^ z.toNat - 1)) && (decide (0 ≤ y) && decide (y ≤ 2 ^ z.toNat - 1))
theorem shl1_fin : ∀ n : Fin 51, shl .i64 1 (IntKind.u64.wrap ((n.val : Nat) : Int)) = 2 ^ n.val := by decide +kernel
theorem shl1 {z : Int} (h0 : 0 ≤ z) (h1 : z ≤ 50) : shl .i64 1 (IntKind.u64.wrap z) = 2 ^ z.toNat := by
  obtain ⟨n, rfl⟩ := Int.eq_ofNat_of_zero_le h0
  exact shl1_fin ⟨n, by omega⟩
theorem pow2_le {n m : Nat} (h : n ≤ m) : (2 : Int) ^ n ≤ 2 ^ m := by
  have := Nat.pow_le_pow_right (n := 2) (by decide) h
  exact_mod_cast this
theorem pow2_pos (n : Nat) : (1 : Int) ≤ 2 ^ n := by
  have := pow2_le (Nat.zero_le n); simpa using this
theorem pow2_20 {z : Int} (h1 : z ≤ 20) : (1 : Int) ≤ 2 ^ z.toNat ∧ (2 : Int) ^ z.toNat ≤ 1048576 :=
  ⟨pow2_pos _, by have := pow2_le (n := z.toNat) (m := 20) (by omega); simpa using this⟩
theorem tile_most {z : Int} (h0 : 0 ≤ z) (h1 : z ≤ 20) : wrap64 ((shl .i64 1 (IntKind.u64.wrap z)) - 1) = 2 ^ z.toNat - 1 := by
  rw [shl1 h0 (by omega)]
  have := pow2_20 h1
  exact wrap_in (by omega) (by omega)
/-- The side of the tiles of a Z. -/
def side (z : Int) : Int := 33554432 / 2 ^ z.toNat
theorem shr_side_fin : ∀ n : Fin 21, shr .i64 33554432 (IntKind.u64.wrap ((n.val : Nat) : Int)) = 33554432 / 2 ^ n.val ∧ (32 : Int) ≤ 33554432 / 2 ^ n.val ∧ (33554432 : Int) / 2 ^ n.val ≤ 33554432 := by decide +kernel
theorem shr_side {z : Int} (h0 : 0 ≤ z) (h1 : z ≤ 20) : shr .i64 33554432 (IntKind.u64.wrap z) = side z ∧ 32 ≤ side z ∧ side z ≤ 33554432 := by
  obtain ⟨n, rfl⟩ := Int.eq_ofNat_of_zero_le h0
  exact shr_side_fin ⟨n, by omega⟩
/-- The tile of a point. -/
def tileX (x z : Int) : Int := Int.tdiv (x + 16777216) (side z)
/-- A point as it is taken. -/
def tk (x y : Int) : Int × Int := if ptOk x y = true then (x, y) else (0, 0)
theorem tk_ok (x y : Int) : ptOk (tk x y).1 (tk x y).2 = true := by
  unfold tk; split
  · assumption
  · decide
def sgn (n : Int) : Int := if n > 0 then 1 else if n < 0 then -1 else 0
theorem sgn_cmp (n : Int) : (if n < 0 then (-1 : Int) else if n > 0 then 1 else 0) = sgn n := by unfold sgn; split <;> split <;> omega
theorem sgn_0 : sgn 0 = 0 := rfl
theorem sgn_zero {n : Int} : sgn n = 0 ↔ n = 0 := by unfold sgn; split <;> (try split) <;> omega
def crossW (a b c d e f : Int) : Int := wrap64 ((wrap64 ((wrap64 (c - a)) * (wrap64 (f - b)))) - (wrap64 ((wrap64 (d - b)) * (wrap64 (e - a)))))
def betw (a b n : Int) : Bool := decide (min a b ≤ n) && decide (n ≤ max a b)
def onSegW (a b c d e f : Int) : Bool := decide (crossW a b c d e f = 0) && betw a c e && betw b d f
def onSegT (a b c d e f : Int) : Bool := onSegW (tk a b).1 (tk a b).2 (tk c d).1 (tk c d).2 (tk e f).1 (tk e f).2
def squareW (a b c d : Int) : Int := wrap64 ((wrap64 ((wrap64 (a - c)) * (wrap64 (a - c)))) + (wrap64 ((wrap64 (b - d)) * (wrap64 (b - d)))))
def gapW (a b c d x y : Int) : Int := if boxOk a b c d = true ∧ ptOk x y = true then squareW x y (max a (min x c)) (max b (min y d)) else -1
theorem u64_all : ∀ n : Int, 0 ≤ n → n < 2 ^ 64 → IntKind.u64.wrap n = n := fun n h0 h1 => u64_in h0 (by omega)
theorem u64_mod (x : Int) : IntKind.u64.wrap x = x % 18446744073709551616 := by simp [IntKind.wrap, IntKind.bits, IntKind.signed]
theorem shr_u (x : Int) {j : Nat} (hj : j ≤ 64) : shr .u64 x (IntKind.u64.wrap (j : Int)) = x / 2 ^ j := by
  rw [u64_in (by omega) (by omega)]; unfold shr; rw [Int.toNat_natCast, Nat.min_eq_left (by simp [IntKind.bits]; omega)]
theorem shl_u (x : Int) {j : Nat} (hj : j ≤ 64) : shl .u64 x (IntKind.u64.wrap (j : Int)) = IntKind.u64.wrap (x * 2 ^ j) := by
  rw [u64_in (by omega) (by omega)]; unfold shl; rw [Int.toNat_natCast, Nat.min_eq_left (by simp [IntKind.bits]; omega)]
/-- t is the place of the highest bit of s. -/
def Top (s : Int) (t : Nat) : Prop := (2 : Int) ^ t ≤ s ∧ s < 2 ^ (t + 1)
theorem top_ex {s : Int} (h : 1 ≤ s) : ∃ t, Top s t := by
  obtain ⟨n, rfl⟩ := Int.eq_ofNat_of_zero_le (show 0 ≤ s by omega)
  refine ⟨n.log2, ?_, ?_⟩
  · have := Nat.log2_self_le (n := n) (by omega); exact_mod_cast this
  · have := Nat.lt_log2_self (n := n); exact_mod_cast this
theorem top_lt {s : Int} {t m : Nat} (h : Top s t) (hs : s < 2 ^ m) : t < m := by
  by_cases hc : t < m
  · exact hc
  · have := pow2_le (n := m) (m := t) (by omega); have := h.1; omega
theorem top_le {s : Int} {t m : Nat} (h : Top s t) (hs : 2 ^ m ≤ s) : m ≤ t := by
  by_cases hc : m ≤ t
  · exact hc
  · have := pow2_le (n := t + 1) (m := m) (by omega); have := h.2; omega
theorem top_53 {s : Int} {t : Nat} (h : Top s t) (hs : s ≤ 9007199254740992) : t ≤ 53 ∧ (t = 53 → s = 9007199254740992) := by
  have h54 : t < 54 := top_lt h (by have : (2 : Int) ^ 54 = 18014398509481984 := by decide
                                    omega)
  refine ⟨by omega, fun e => ?_⟩
  subst e
  have := h.1
  have : (2 : Int) ^ 53 = 9007199254740992 := by decide
  omega
theorem bitLen_top {s : Int} {t : Nat} (h : Top s t) (ht : t ≤ 53) : (Lib.bitLen s.toNat : Int) = t + 1 := by
  have p := pow2_pos t
  have h1 := h.1
  have h2 := h.2
  obtain ⟨n, rfl⟩ := Int.eq_ofNat_of_zero_le (show 0 ≤ s by omega)
  rw [Int.toNat_natCast]
  have a1 : 2 ^ t ≤ n := by exact_mod_cast h1
  have a2 : n < 2 ^ (t + 1) := by exact_mod_cast h2
  have a3 : n < 2 ^ 64 := Nat.lt_of_lt_of_le a2 (Nat.pow_le_pow_right (by decide) (by omega))
  have e : n / 2 ^ t = 1 := by
    rw [Nat.div_eq_iff (Nat.two_pow_pos t)]
    rw [Nat.pow_succ] at a2; omega
  rw [Lib.bitLen_shift t n a1 a3, e]
  have : Lib.bitLen 1 = 1 := by decide
  rw [this]; omega
/-- The low bits of a float of s. -/
def lowW (s : Int) (t : Nat) : Int := if t ≤ 52 then (s - 2 ^ t) * 2 ^ (52 - t) else 0
theorem pow_52 {t : Nat} (h : t ≤ 52) : (2 : Int) ^ t * 2 ^ (52 - t) = 4503599627370496 := by
  rw [← Int.pow_add, show t + (52 - t) = 52 by omega]; decide
theorem low_bounds {s : Int} {t : Nat} (h : Top s t) : 0 ≤ lowW s t ∧ lowW s t < 4503599627370496 := by
  unfold lowW
  split
  · rename_i ht
    have p := pow2_pos (52 - t)
    have h1 := h.1
    have h2 := h.2
    rw [Int.pow_succ] at h2
    refine ⟨Int.mul_nonneg (by omega) (by omega), ?_⟩
    rw [← pow_52 ht]
    exact Int.mul_lt_mul_of_pos_right (by omega) (by omega)
  · decide
def flT (sg s : Int) (t : Nat) : Int := wrap64 (sg + (1023 + t) * 4503599627370496 + lowW s t)
theorem or_fields {sg : Int} {t : Nat} {y : Int} (hs : sg = 0 ∨ sg = 9223372036854775808) (ht : t ≤ 53) (y0 : 0 ≤ y) (y1 : y < 4503599627370496) :
    Go.bits .or .u64 (Go.bits .or .u64 sg (IntKind.u64.wrap ((IntKind.u64.wrap (wrap64 (1023 + (t : Int)))) * 4503599627370496))) y = sg + (1023 + t) * 4503599627370496 + y := by
  rw [wrap_in (by omega) (by omega), u64_in (x := 1023 + (t : Int)) (by omega) (by omega), u64_in (by omega) (by omega)]
  rw [bits_join .u64 64 (by decide) u64_all 63 sg ((1023 + (t : Int)) * 4503599627370496) (by omega) (by omega) (by omega) (by omega) (by omega) (by omega)]
  exact bits_join .u64 64 (by decide) u64_all 52 _ y (by omega) (by omega) (by omega) y0 (by omega) (by omega)
/-- What FloatOf computes. -/
def floatW (n : Int) : Int :=
  if n = 0 ∨ n < -9007199254740992 ∨ 9007199254740992 < n then 0
  else if n < 0 then flT 9223372036854775808 (-n) (-n).toNat.log2 else flT 0 n n.toNat.log2
theorem top_log {s : Int} (h : 1 ≤ s) : Top s s.toNat.log2 := by
  obtain ⟨n, rfl⟩ := Int.eq_ofNat_of_zero_le (show 0 ≤ s by omega)
  rw [Int.toNat_natCast]
  refine ⟨?_, ?_⟩
  · have := Nat.log2_self_le (n := n) (by omega); exact_mod_cast this
  · have := Nat.lt_log2_self (n := n); exact_mod_cast this
theorem impl_low {s : Int} {t : Nat} (h : Top s t) (ht : t ≤ 53) (h53 : t = 53 → s = 9007199254740992) :
    (IntKind.u64.wrap ((shl .u64 s (IntKind.u64.wrap (wrap64 (63 - (t : Int))))) * 2)) / 4096 = lowW s t := by
  rw [show wrap64 (63 - (t : Int)) = ((63 - t : Nat) : Int) by rw [wrap_in (by omega) (by omega)]; omega, shl_u s (by omega)]
  by_cases h52 : t ≤ 52
  · have lb := low_bounds h
    have e : s * 2 ^ (63 - t) = 9223372036854775808 + lowW s t * 2048 := by
      unfold lowW; rw [if_pos h52, show 63 - t = (52 - t) + 11 by omega, Int.pow_add, ← Int.mul_assoc]
      have := pow_52 h52
      rw [Int.sub_mul, this]
      have : (2 : Int) ^ 11 = 2048 := by decide
      rw [this]; omega
    rw [e, u64_in (x := 9223372036854775808 + lowW s t * 2048) (by omega) (by omega), u64_mod]; omega
  · obtain rfl : t = 53 := by omega
    rw [h53 rfl]; decide
theorem impl_FloatOf_eq (n : Int) {k : Nat} (hk : 1 ≤ k) : impl_FloatOf.f k n = some (floatW n) := by
  obtain ⟨k, rfl⟩ : ∃ m, k = m + 1 := ⟨k - 1, by omega⟩
  unfold impl_FloatOf.f floatW
  by_cases h0 : n = 0
  · rw [if_pos h0, if_pos (.inl h0)]; simp only [impl_FloatOf.j0, if_true]
  · rw [if_neg h0]; simp only [impl_inRange_eq, Option.bind_some]
    by_cases hb : -9007199254740992 ≤ n ∧ n ≤ 9007199254740992
    · rw [if_neg (by omega)]
      simp only [hb.1, hb.2, decide_true, Bool.and_self, Bool.not_true, impl_FloatOf.j0, Bool.false_eq_true, if_false]
      by_cases hn : n < 0
      · rw [if_pos hn, if_pos hn]
        have tp := top_log (s := -n) (by omega)
        have t53 := top_53 tp (by omega)
        generalize (-n).toNat.log2 = t at tp t53 ⊢
        rw [wrap_in (x := -n) (by omega) (by omega), u64_in (x := -n) (by omega) (by omega)]
        simp only [bits_Len64.f]
        rw [if_pos (by omega)]
        simp only [Option.bind_some]
        rw [bitLen_top tp t53.1, show wrap64 ((t : Int) + 1 - 1) = (t : Int) by rw [wrap_in (by omega) (by omega)]; omega, if_pos (u64_nonneg _), impl_low tp t53.1 t53.2, or_fields (.inr rfl) t53.1 (low_bounds tp).1 (low_bounds tp).2]
        rfl
      · rw [if_neg hn, if_neg hn]
        have tp := top_log (s := n) (by omega)
        have t53 := top_53 tp (by omega)
        generalize n.toNat.log2 = t at tp t53 ⊢
        rw [u64_in (x := n) (by omega) (by omega)]
        simp only [bits_Len64.f]
        rw [if_pos (by omega)]
        simp only [Option.bind_some]
        rw [bitLen_top tp t53.1, show wrap64 ((t : Int) + 1 - 1) = (t : Int) by rw [wrap_in (by omega) (by omega)]; omega, if_pos (u64_nonneg _), impl_low tp t53.1 t53.2, or_fields (.inl rfl) t53.1 (low_bounds tp).1 (low_bounds tp).2]
        rfl
    · have e : (decide (-9007199254740992 ≤ n) && decide (n ≤ 9007199254740992)) = false := by
        by_cases a : -9007199254740992 ≤ n <;> by_cases b : n ≤ 9007199254740992 <;> simp_all
      rw [e, if_pos (by omega)]; simp only [Bool.not_false, impl_FloatOf.j0, if_true]
theorem sfloat_loop {sg s : Int} {t : Nat} (hs : sg = 0 ∨ sg = 9223372036854775808) (tp : Top s t) (t53 : t ≤ 53 ∧ (t = 53 → s = 9007199254740992)) :
    ∀ (d j k : Nat), j + d = t → d < k → spec_FloatOf.l0 k sg s (j : Int) = some (flT sg s t) := by
  intro d
  have sb : 1 ≤ s ∧ s < 18014398509481984 := by
    have := pow2_pos t
    have h1 := tp.1
    have h2 := tp.2
    have := pow2_le (n := t + 1) (m := 54) (by omega)
    have : (2 : Int) ^ 54 = 18014398509481984 := by decide
    omega
  induction d with
  | zero =>
    intro j k hj hk
    obtain ⟨k, rfl⟩ : ∃ m, k = m + 1 := ⟨k - 1, by omega⟩
    obtain rfl : j = t := by omega
    have h2 := tp.2
    have h1 := tp.1
    have p := pow2_pos j
    have p53 : (2 : Int) ^ j ≤ 9007199254740992 := by
      have a := pow2_le t53.1
      rw [show (2 : Int) ^ 53 = 9007199254740992 by decide] at a; exact a
    simp only [spec_FloatOf.l0]
    rw [if_pos (u64_nonneg _), show wrap64 ((j : Int) + 1) = ((j + 1 : Nat) : Int) by rw [wrap_in (by omega) (by omega)]; omega, shr_u s (by omega), Int.ediv_eq_zero_of_lt (by omega) h2, if_neg (by decide), if_pos (u64_nonneg _), shl_u 1 (by omega), Int.one_mul, u64_in (x := 2 ^ j) (by omega) (by omega), u64_in (x := s - 2 ^ j) (by omega) (by omega)]
    by_cases h52 : j ≤ 52
    · rw [if_pos (by omega), if_pos (u64_nonneg _), show wrap64 (52 - (j : Int)) = ((52 - j : Nat) : Int) by rw [wrap_in (by omega) (by omega)]; omega, shl_u _ (by omega)]
      have lb := low_bounds tp
      have e : (s - 2 ^ j) * 2 ^ (52 - j) = lowW s j := by unfold lowW; rw [if_pos h52]
      rw [e, u64_in (x := lowW s j) (by omega) (by omega), or_fields hs t53.1 lb.1 lb.2]; rfl
    · obtain rfl : j = 53 := by omega
      rw [if_neg (by omega), if_pos (u64_nonneg _), t53.2 rfl]
      rw [show wrap64 (((53 : Nat) : Int) - 52) = ((1 : Nat) : Int) by unfold wrap64; decide, shr_u _ (by decide), show ((9007199254740992 : Int) - 2 ^ 53) / 2 ^ 1 = 0 by decide, or_fields (t := 53) hs (by decide) (by decide) (by decide)]
      unfold flT lowW; rw [if_neg (by decide)]
  | succ d ih =>
    intro j k hj hk
    obtain ⟨k, rfl⟩ : ∃ m, k = m + 1 := ⟨k - 1, by omega⟩
    simp only [spec_FloatOf.l0]
    have ej : wrap64 ((j : Int) + 1) = ((j + 1 : Nat) : Int) := by rw [wrap_in (by omega) (by omega)]; omega
    have hp : 0 < s / 2 ^ (j + 1) := by
      have := pow2_le (n := j + 1) (m := t) (by omega)
      have := tp.1
      have := pow2_pos (j + 1)
      exact (Int.le_ediv_iff_mul_le (by omega)).2 (by omega)
    rw [if_pos (u64_nonneg _), ej, shr_u s (by omega), if_pos hp]
    exact ih (j + 1) k (by omega) (by omega)
theorem spec_FloatOf_eq (n : Int) {k : Nat} (hk : 60 ≤ k) : spec_FloatOf.f k n = some (floatW n) := by
  obtain ⟨k, rfl⟩ : ∃ m, k = m + 2 := ⟨k - 2, by omega⟩
  unfold spec_FloatOf.f floatW
  by_cases h0 : n = 0
  · rw [if_pos h0, if_pos (.inl h0)]; simp only [spec_FloatOf.j0, if_true]
  · rw [if_neg h0]; simp only [spec_l1In_eq, Option.bind_some]
    by_cases hb : -9007199254740992 ≤ n ∧ n ≤ 9007199254740992
    · rw [if_neg (by omega)]
      simp only [hb.1, hb.2, decide_true, Bool.and_self, Bool.not_true, spec_FloatOf.j0, Bool.false_eq_true, if_false]
      by_cases hn : n < 0
      · rw [if_pos hn, if_pos hn]
        have tp := top_log (s := -n) (by omega)
        have t53 := top_53 tp (by omega)
        simp only [spec_FloatOf.j1]
        rw [wrap_in (x := -n) (by omega) (by omega), u64_in (x := -n) (by omega) (by omega)]
        exact sfloat_loop (.inr rfl) tp t53 _ 0 k (Nat.zero_add _) (by omega)
      · rw [if_neg hn, if_neg hn]
        have tp := top_log (s := n) (by omega)
        have t53 := top_53 tp (by omega)
        simp only [spec_FloatOf.j1]
        rw [u64_in (x := n) (by omega) (by omega)]
        exact sfloat_loop (.inl rfl) tp t53 _ 0 k (Nat.zero_add _) (by omega)
    · have e : (decide (-9007199254740992 ≤ n) && decide (n ≤ 9007199254740992)) = false := by
        by_cases a : -9007199254740992 ≤ n <;> by_cases b : n ≤ 9007199254740992 <;> simp_all
      rw [e, if_pos (by omega)]; simp only [Bool.not_false, spec_FloatOf.j0, if_true]
theorem FnExactFloatOf : laws_FnExactFloatOf.Pure := by
  intro n _
  refine ⟨60, ?_⟩
  unfold laws_FnExactFloatOf.f
  rw [spec_FloatOf_eq n (by decide), impl_FloatOf_eq n (by decide)]
  simp

end Go.Proofs.Ytffcohllkoefeaa.Pure
