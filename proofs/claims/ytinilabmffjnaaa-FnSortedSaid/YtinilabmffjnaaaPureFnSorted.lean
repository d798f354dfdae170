/- The pure statement of the law FnSorted: what the printed functions compute answers true at every input. No conditions beyond the printed bounds. -/
import Derived.Test.YtinilabmffjnaaaQFnSortedx19
namespace Go.Proofs.Ytinilabmffjnaaa.Pure
open Go.RowKit Go.Proofs.Ytinilabmffjnaaa.PFnSorted Go.Proofs.YtinilabmffjnaaaW.PrintWords Go.Proofs.YtinilabmffjnaaaW.PrintLast Go.Proofs.YtinilabmffjnaaaW.PrintMore
set_option linter.unusedVariables false
set_option linter.unusedSimpArgs false

/-- The points that are right. -/
def ptOk (x y : Int) : Bool := decide (-10000000 ≤ x) && decide (x ≤ 10000000) && decide (-10000000 ≤ y) && decide (y ≤ 10000000)
/-- The boxes that are right. -/
def boxOk (a b c d : Int) : Bool := ptOk a b && ptOk c d && decide (a ≤ c) && decide (b ≤ d)
theorem ptOk_iff {x y : Int} : ptOk x y = true ↔ -10000000 ≤ x ∧ x ≤ 10000000 ∧ -10000000 ≤ y ∧ y ≤ 10000000 := by
  simp [ptOk, and_assoc]
theorem boxOk_iff {a b c d : Int} : boxOk a b c d = true ↔ (-10000000 ≤ a ∧ a ≤ 10000000 ∧ -10000000 ≤ b ∧ b ≤ 10000000) ∧ (-10000000 ≤ c ∧ c ≤ 10000000 ∧ -10000000 ≤ d ∧ d ≤ 10000000) ∧ a ≤ c ∧ b ≤ d := by
  simp [boxOk, ptOk_iff, and_assoc]
theorem wrap_in {x : Int} (h1 : -9223372036854775808 ≤ x) (h2 : x ≤ 9223372036854775807) : wrap64 x = x := by unfold wrap64; omega
theorem wrap_bounds (x : Int) : -9223372036854775808 ≤ wrap64 x ∧ wrap64 x ≤ 9223372036854775807 := by unfold wrap64; omega
theorem u64_in {x : Int} (h1 : 0 ≤ x) (h2 : x ≤ 18446744073709551615) : IntKind.u64.wrap x = x := by
  simp [IntKind.wrap, IntKind.bits, IntKind.signed]; omega
theorem u64_bounds (x : Int) : 0 ≤ IntKind.u64.wrap x ∧ IntKind.u64.wrap x ≤ 18446744073709551615 := by
  simp [IntKind.wrap, IntKind.bits, IntKind.signed]; omega
theorem u64_nonneg (x : Int) : 0 ≤ IntKind.u64.wrap x := (u64_bounds x).1
theorem mx_eq (a b : Int) : mx a b = max a b := by unfold mx; omega
theorem mn_eq (a b : Int) : mn a b = min a b := by unfold mn; omega
theorem spec_l1In_eq (a b c : Int) : spec_l1In.f a b c = some (decide (b ≤ a) && decide (a ≤ c)) := by
  unfold spec_l1In.f; by_cases h : b ≤ a <;> simp [h]
theorem impl_inRange_eq (a b c : Int) : impl_inRange.f a b c = some (decide (b ≤ a) && decide (a ≤ c)) := by
  unfold impl_inRange.f; by_cases h : b ≤ a <;> simp [h]
theorem impl_isCoord_eq (a : Int) : impl_isCoord.f a = some (decide (-10000000 ≤ a) && decide (a ≤ 10000000)) := by
  unfold impl_isCoord.f; rw [impl_inRange_eq]; rfl
theorem spec_PtOk_eq (x y : Int) : spec_PtOk.f x y = some (ptOk x y) := by
  unfold spec_PtOk.f ptOk; simp only [spec_l1In_eq, Option.bind_some]
  by_cases h : (decide (-10000000 ≤ x) && decide (x ≤ 10000000)) = true
  · rw [if_pos h, h]; simp
  · rw [if_neg h]; simp only [Bool.not_eq_true] at h; rw [h]; simp
theorem impl_PtOk_eq (x y : Int) : impl_PtOk.f x y = some (ptOk x y) := by
  unfold impl_PtOk.f ptOk; simp only [impl_isCoord_eq, Option.bind_some]
  by_cases h : (decide (-10000000 ≤ x) && decide (x ≤ 10000000)) = true
  · rw [if_pos h, h]; simp
  · rw [if_neg h]; simp only [Bool.not_eq_true] at h; rw [h]; simp
theorem impl_BoxOk_eq (a b c d : Int) : impl_BoxOk.f a b c d = some (boxOk a b c d) := by
  unfold impl_BoxOk.f boxOk; simp only [impl_PtOk_eq, Option.bind_some]
  by_cases h : ptOk a b = true <;> by_cases h2 : ptOk c d = true <;> by_cases h3 : a ≤ c <;> simp [h, h2, h3]
def inBox (a b c d x y : Int) : Bool := boxOk a b c d && ptOk x y && (decide (a ≤ x) && decide (x ≤ c)) && (decide (b ≤ y) && decide (y ≤ d))
def overlap (a b c d e f g h : Int) : Bool := boxOk a b c d && boxOk e f g h && decide (a ≤ g) && decide (e ≤ c) && decide (b ≤ h) && decide (f ≤ d)
def inside (a b c d e f g h : Int) : Bool := boxOk a b c d && inBox e f g h a b && inBox e f g h c d
def area (a b c d : Int) : Int := if boxOk a b c d = true then (c - a) * (d - b) else 0
theorem area_bounds (a b c d : Int) : 0 ≤ area a b c d ∧ area a b c d ≤ 400000000000000 := by
  unfold area; split
  · rename_i h
    rw [boxOk_iff] at h
    obtain ⟨⟨h1, h2, h3, h4⟩, ⟨h5, h6, h7, h8⟩, h9, h10⟩ := h
    have p1 : 0 ≤ c - a := by omega
    have p2 : 0 ≤ d - b := by omega
    refine ⟨Int.mul_nonneg p1 p2, ?_⟩
    calc (c - a) * (d - b) ≤ 20000000 * (d - b) := Int.mul_le_mul_of_nonneg_right (by omega) p2
      _ ≤ 20000000 * 20000000 := Int.mul_le_mul_of_nonneg_left (by omega) (by omega)
      _ = 400000000000000 := by decide
  · omega
theorem area_wrap {a b c d : Int} (h : boxOk a b c d = true) : wrap64 ((wrap64 (c - a)) * (wrap64 (d - b))) = area a b c d := by
  have hb := area_bounds a b c d
  have e : area a b c d = (c - a) * (d - b) := by unfold area; rw [if_pos h]
  rw [boxOk_iff] at h
  rw [wrap_in (x := c - a) (by omega) (by omega), wrap_in (x := d - b) (by omega) (by omega), ← e]
  exact wrap_in (by omega) (by omega)
/-- The tiles that are right. -/
def tileOk (z x y : Int) : Bool := decide (0 ≤ z) && decide (z ≤ 20) && (decide (0 ≤ x) && decide (x ≤ 2 ^ z.toNat - 1)) && (decide (0 ≤ y) && decide (y ≤ 2 ^ z.toNat - 1))
theorem shl1_fin : ∀ n : Fin 51, shl .i64 1 (IntKind.u64.wrap ((n.val : Nat) : Int)) = 2 ^ n.val := by decide +kernel
theorem shl1 {z : Int} (h0 : 0 ≤ z) (h1 : z ≤ 50) : shl .i64 1 (IntKind.u64.wrap z) = 2 ^ z.toNat := by
  obtain ⟨n, rfl⟩ := Int.eq_ofNat_of_zero_le h0
  exact shl1_fin ⟨n, by omega⟩
theorem pow2_le {n m : Nat} (h : n ≤ m) : (2 : Int) ^ n ≤ 2 ^ m := by
  have := Nat.pow_le_pow_right (n := 2) (by decide) h
  exact_mod_cast this
theorem pow2_pos (n : Nat) : (1 : Int) ≤ 2 ^ n := by
  have := pow2_le (Nat.zero_le n); simpa using this
theorem pow2_20 {z : Int} (h1 : z ≤ 20) : (1 : Int) ≤ 2 ^ z.toNat ∧ (2 : Int) ^ z.toNat ≤ 1048576 :=
  ⟨pow2_pos _, by have := pow2_le (n := z.toNat) (m := 20) (by omega); simpa using this⟩
theorem tile_most {z : Int} (h0 : 0 ≤ z) (h1 : z ≤ 20) : wrap64 ((shl .i64 1 (IntKind.u64.wrap z)) - 1) = 2 ^ z.toNat - 1 := by
  rw [shl1 h0 (by omega)]
  have := pow2_20 h1
  exact wrap_in (by omega) (by omega)
/-- The side of the tiles of a Z. -/
def side (z : Int) : Int := 33554432 / 2 ^ z.toNat
theorem shr_side_fin : ∀ n : Fin 21, shr .i64 33554432 (IntKind.u64.wrap ((n.val : Nat) : Int)) = 33554432 / 2 ^ n.val ∧ (32 : Int) ≤ 33554432 / 2 ^ n.val ∧ (33554432 : Int) / 2 ^ n.val ≤ 33554432 := by decide +kernel
theorem shr_side {z : Int} (h0 : 0 ≤ z) (h1 : z ≤ 20) : shr .i64 33554432 (IntKind.u64.wrap z) = side z ∧ 32 ≤ side z ∧ side z ≤ 33554432 := by
  obtain ⟨n, rfl⟩ := Int.eq_ofNat_of_zero_le h0
  exact shr_side_fin ⟨n, by omega⟩
/-- The tile of a point. -/
def tileX (x z : Int) : Int := Int.tdiv (x + 16777216) (side z)
/-! The curve, in plain numbers. -/
theorem two_pos (b : Nat) : (0 : Int) < 2 ^ b := Int.pow_pos (by decide)
theorem four_pos (b : Nat) : (0 : Int) < 4 ^ b := Int.pow_pos (by decide)
theorem two_succ (b : Nat) : (2 : Int) ^ (b + 1) = 2 * 2 ^ b := by rw [Int.pow_succ]; omega
theorem four_succ (b : Nat) : (4 : Int) ^ (b + 1) = 4 * 4 ^ b := by rw [Int.pow_succ]; omega
def hC : Nat → Int → Int → Int
  | 0, _, _ => 0
  | b + 1, x, y =>
    if x < 2 ^ b ∧ y < 2 ^ b then hC b y x
    else if x < 2 ^ b then 4 ^ b + hC b x (y - 2 ^ b)
    else if 2 ^ b ≤ y then 2 * 4 ^ b + hC b (x - 2 ^ b) (y - 2 ^ b)
    else 3 * 4 ^ b + hC b (2 ^ b - 1 - y) (2 * 2 ^ b - 1 - x)
def hStep (h q : Int) (p : Int × Int) : Int × Int :=
  if q = 0 then (p.2, p.1) else if q = 1 then (p.1, p.2 + h) else if q = 2 then (p.1 + h, p.2 + h) else (2 * h - 1 - p.2, h - 1 - p.1)
def hP : Nat → Int → Int × Int
  | 0, _ => (0, 0)
  | b + 1, n => hStep (2 ^ b) (n / 4 ^ b % 4) (hP b n)
theorem hP_0 (n : Int) : hP 0 n = (0, 0) := rfl
theorem hP_succ (b : Nat) (n : Int) : hP (b + 1) n = hStep (2 ^ b) (n / 4 ^ b % 4) (hP b n) := rfl
theorem digit_add (b : Nat) (m n : Int) : (m * 4 ^ (b + 1) + n) / 4 ^ b % 4 = n / 4 ^ b % 4 := by
  have e : m * 4 ^ (b + 1) + n = n + (4 * m) * 4 ^ b := by
    rw [four_succ, Int.add_comm]; congr 1; rw [Int.mul_comm 4 m, Int.mul_assoc]
  rw [e, Int.add_mul_ediv_right _ _ (by have := four_pos b; omega)]
  omega
theorem hP_add : ∀ (b : Nat) (m n : Int), hP b (m * 4 ^ b + n) = hP b n := by
  intro b
  induction b with
  | zero => intro m n; rfl
  | succ b ih =>
    intro m n
    simp only [hP]
    rw [digit_add]
    have e : m * 4 ^ (b + 1) + n = (m * 4) * 4 ^ b + n := by rw [four_succ, Int.mul_assoc]
    rw [e, ih]
theorem digit_eq {b : Nat} {q c : Int} (hc0 : 0 ≤ c) (hc : c < 4 ^ b) (h0 : 0 ≤ q) (h3 : q ≤ 3) : (q * 4 ^ b + c) / 4 ^ b % 4 = q := by
  rw [Int.add_comm, Int.add_mul_ediv_right _ _ (by have := four_pos b; omega), Int.ediv_eq_zero_of_lt hc0 hc]
  omega
theorem hP_digit {b : Nat} {q c : Int} (hc0 : 0 ≤ c) (hc : c < 4 ^ b) (h0 : 0 ≤ q) (h3 : q ≤ 3) : hP (b + 1) (q * 4 ^ b + c) = hStep (2 ^ b) q (hP b c) := by
  simp only [hP]; rw [digit_eq hc0 hc h0 h3, hP_add]
theorem hP_range : ∀ (b : Nat) (n : Int), 0 ≤ (hP b n).1 ∧ (hP b n).1 < 2 ^ b ∧ 0 ≤ (hP b n).2 ∧ (hP b n).2 < 2 ^ b := by
  intro b
  induction b with
  | zero => intro n; simp [hP]
  | succ b ih =>
    intro n
    have h := ih n
    have hp := two_pos b
    simp only [hP, hStep, two_succ]
    split
    · simp only; omega
    · split
      · simp only; omega
      · split <;> simp only <;> omega
theorem hC_range : ∀ (b : Nat) (x y : Int), 0 ≤ x → x < 2 ^ b → 0 ≤ y → y < 2 ^ b → 0 ≤ hC b x y ∧ hC b x y < 4 ^ b := by
  intro b
  induction b with
  | zero => intro x y _ _ _ _; simp [hC]
  | succ b ih =>
    intro x y h0 h1 h2 h3
    rw [two_succ] at h1 h3
    have hp := four_pos b
    simp only [hC, four_succ]
    split
    · have := ih y x h2 (by omega) h0 (by omega); omega
    · split
      · have := ih x (y - 2 ^ b) h0 (by omega) (by omega) (by omega); omega
      · split
        · have := ih (x - 2 ^ b) (y - 2 ^ b) (by omega) (by omega) (by omega) (by omega); omega
        · have := ih (2 ^ b - 1 - y) (2 * 2 ^ b - 1 - x) (by omega) (by omega) (by omega) (by omega); omega
theorem hP_hC : ∀ (b : Nat) (x y : Int), 0 ≤ x → x < 2 ^ b → 0 ≤ y → y < 2 ^ b → hP b (hC b x y) = (x, y) := by
  intro b
  induction b with
  | zero => intro x y h0 h1 h2 h3; simp [hP]; simp at h1 h3; omega
  | succ b ih =>
    intro x y h0 h1 h2 h3
    rw [two_succ] at h1 h3
    simp only [hC]
    split
    · have r := hC_range b y x h2 (by omega) h0 (by omega)
      have e := hP_digit (q := 0) r.1 r.2 (by decide) (by decide)
      rw [Int.zero_mul, Int.zero_add] at e
      rw [e, ih y x h2 (by omega) h0 (by omega)]; simp [hStep]
    · split
      · have r := hC_range b x (y - 2 ^ b) h0 (by omega) (by omega) (by omega)
        have e := hP_digit (q := 1) r.1 r.2 (by decide) (by decide)
        rw [Int.one_mul] at e
        rw [e, ih x (y - 2 ^ b) h0 (by omega) (by omega) (by omega)]; simp [hStep]
      · split
        · have r := hC_range b (x - 2 ^ b) (y - 2 ^ b) (by omega) (by omega) (by omega) (by omega)
          rw [hP_digit (q := 2) r.1 r.2 (by decide) (by decide), ih (x - 2 ^ b) (y - 2 ^ b) (by omega) (by omega) (by omega) (by omega)]; simp [hStep]
        · have r := hC_range b (2 ^ b - 1 - y) (2 * 2 ^ b - 1 - x) (by omega) (by omega) (by omega) (by omega)
          rw [hP_digit (q := 3) r.1 r.2 (by decide) (by decide), ih (2 ^ b - 1 - y) (2 * 2 ^ b - 1 - x) (by omega) (by omega) (by omega) (by omega)]
          simp [hStep]; omega
/-- A number parted into its highest digit and the rest. -/
theorem part (b : Nat) (n : Int) (h0 : 0 ≤ n) (h1 : n < 4 ^ (b + 1)) : ∃ q c, n = q * 4 ^ b + c ∧ 0 ≤ c ∧ c < 4 ^ b ∧ 0 ≤ q ∧ q ≤ 3 := by
  have hp := four_pos b
  rw [four_succ] at h1
  refine ⟨n / 4 ^ b, n % 4 ^ b, (Int.ediv_mul_add_emod n (4 ^ b)).symm, Int.emod_nonneg _ (by omega), Int.emod_lt_of_pos _ hp, Int.ediv_nonneg h0 (by omega), ?_⟩
  have : n / 4 ^ b < 4 := Int.ediv_lt_of_lt_mul hp h1
  omega
theorem hC_step {b : Nat} {q : Int} {p : Int × Int} (h0 : 0 ≤ q) (h3 : q ≤ 3) (p1 : 0 ≤ p.1) (p2 : p.1 < 2 ^ b) (p3 : 0 ≤ p.2) (p4 : p.2 < 2 ^ b) :
    hC (b + 1) (hStep (2 ^ b) q p).1 (hStep (2 ^ b) q p).2 = q * 4 ^ b + hC b p.1 p.2 := by
  obtain ⟨u, v⟩ := p
  simp only at p1 p2 p3 p4
  have hq : q = 0 ∨ q = 1 ∨ q = 2 ∨ q = 3 := by omega
  simp only [hC]
  rcases hq with rfl | rfl | rfl | rfl
  · simp only [hStep, if_true]
    rw [if_pos ⟨p4, p2⟩]; omega
  · simp only [hStep, show ¬ ((1 : Int) = 0) by decide, if_false, if_true]
    rw [if_neg (by omega), if_pos p2, show v + 2 ^ b - 2 ^ b = v by omega]; omega
  · simp only [hStep, show ¬ ((2 : Int) = 0) by decide, show ¬ ((2 : Int) = 1) by decide, if_false, if_true]
    rw [if_neg (by omega), if_neg (by omega), if_pos (by omega), show v + 2 ^ b - 2 ^ b = v by omega, show u + 2 ^ b - 2 ^ b = u by omega]
  · simp only [hStep, show ¬ ((3 : Int) = 0) by decide, show ¬ ((3 : Int) = 1) by decide, show ¬ ((3 : Int) = 2) by decide, if_false]
    rw [if_neg (by omega), if_neg (by omega), if_neg (by omega), show 2 ^ b - 1 - (2 ^ b - 1 - u) = u by omega, show 2 * 2 ^ b - 1 - (2 * 2 ^ b - 1 - v) = v by omega]
theorem hC_hP : ∀ (b : Nat) (n : Int), 0 ≤ n → n < 4 ^ b → hC b (hP b n).1 (hP b n).2 = n := by
  intro b
  induction b with
  | zero => intro n h0 h1; simp [hC]; simp at h1; omega
  | succ b ih =>
    intro n h0 h1
    obtain ⟨q, c, rfl, c0, c1, q0, q3⟩ := part b n h0 h1
    have r := hP_range b c
    rw [hP_digit c0 c1 q0 q3, hC_step q0 q3 r.1 r.2.1 r.2.2.1 r.2.2.2, ih c c0 c1]
theorem hP_first : ∀ b : Nat, hP b 0 = (0, 0) := by
  intro b
  induction b with
  | zero => rfl
  | succ b ih =>
    have e := hP_digit (b := b) (q := 0) (c := 0) (by decide) (four_pos b) (by decide) (by decide)
    rw [Int.zero_mul, Int.zero_add] at e
    rw [e, ih]; simp [hStep]
theorem hP_last : ∀ b : Nat, hP b (4 ^ b - 1) = (2 ^ b - 1, 0) := by
  intro b
  induction b with
  | zero => rfl
  | succ b ih =>
    have hp := four_pos b
    have e := hP_digit (b := b) (q := 3) (c := 4 ^ b - 1) (by omega) (by omega) (by decide) (by decide)
    rw [show (4 : Int) ^ (b + 1) - 1 = 3 * 4 ^ b + (4 ^ b - 1) by rw [four_succ]; omega, e, ih, two_succ]
    simp [hStep]
/-- Two cells that follow each other are neighbours. -/
def near (p r : Int × Int) : Prop := (r.1 = p.1 ∧ (r.2 = p.2 + 1 ∨ r.2 = p.2 - 1)) ∨ (r.2 = p.2 ∧ (r.1 = p.1 + 1 ∨ r.1 = p.1 - 1))
theorem near_step {h q : Int} {p r : Int × Int} (hn : near p r) : near (hStep h q p) (hStep h q r) := by
  obtain ⟨a, b⟩ := p
  obtain ⟨c, d⟩ := r
  simp only [near] at hn
  simp only [hStep]
  split
  · simp only [near]; omega
  · split
    · simp only [near]; omega
    · split <;> simp only [near] <;> omega
theorem hP_near : ∀ (b : Nat) (n : Int), 0 ≤ n → n + 1 < 4 ^ b → near (hP b n) (hP b (n + 1)) := by
  intro b
  induction b with
  | zero => intro n h0 h1; simp at h1; omega
  | succ b ih =>
    intro n h0 h1
    obtain ⟨q, c, rfl, c0, c1, q0, q3⟩ := part b n h0 (by omega)
    by_cases hc : c + 1 < 4 ^ b
    · rw [Int.add_assoc, hP_digit c0 c1 q0 q3, hP_digit (by omega) hc q0 q3]
      exact near_step (ih c c0 hc)
    · have ec : c = 4 ^ b - 1 := by omega
      subst ec
      have hp := four_pos b
      rw [hP_digit c0 c1 q0 q3, hP_last]
      have hq : q = 0 ∨ q = 1 ∨ q = 2 := by
        rw [four_succ] at h1
        by_cases h3 : q = 3
        · subst h3; omega
        · omega
      have e2 : q * 4 ^ b + (4 ^ b - 1) + 1 = (q + 1) * 4 ^ b + 0 := by rw [Int.add_mul]; omega
      rw [e2, hP_digit (by decide) hp (by omega) (by omega), hP_first]
      rcases hq with rfl | rfl | rfl <;> simp [hStep, near] <;> omega
/-- A point as it is taken. -/
def tk (x y : Int) : Int × Int := if ptOk x y = true then (x, y) else (0, 0)
theorem tk_ok (x y : Int) : ptOk (tk x y).1 (tk x y).2 = true := by
  unfold tk; split
  · assumption
  · decide
def sgn (n : Int) : Int := if n > 0 then 1 else if n < 0 then -1 else 0
theorem sgn_cmp (n : Int) : (if n < 0 then (-1 : Int) else if n > 0 then 1 else 0) = sgn n := by unfold sgn; split <;> split <;> omega
theorem sgn_0 : sgn 0 = 0 := rfl
theorem sgn_zero {n : Int} : sgn n = 0 ↔ n = 0 := by unfold sgn; split <;> (try split) <;> omega
def crossW (a b c d e f : Int) : Int := wrap64 ((wrap64 ((wrap64 (c - a)) * (wrap64 (f - b)))) - (wrap64 ((wrap64 (d - b)) * (wrap64 (e - a)))))
theorem spec_l3Pt_eq (x y : Int) : spec_l3Pt.f x y = some (tk x y) := by
  unfold spec_l3Pt.f tk; simp only [spec_PtOk_eq, Option.bind_some]
  by_cases h : ptOk x y = true <;> simp [h]
theorem cmp_isNaN_int_eq (n : Int) : cmp_isNaN_int.f n = some false := by unfold cmp_isNaN_int.f; simp
def cmpI (a b : Int) : Int := if a < b then -1 else if a > b then 1 else 0
theorem cmp_Compare_int_eq (a b : Int) : cmp_Compare_int.f a b = some (cmpI a b) := by
  unfold cmp_Compare_int.f cmpI; simp only [cmp_isNaN_int_eq, Option.bind_some, Bool.false_eq_true, if_false]
  split
  · rfl
  · split <;> rfl
def betw (a b n : Int) : Bool := decide (min a b ≤ n) && decide (n ≤ max a b)
def onSegW (a b c d e f : Int) : Bool := decide (crossW a b c d e f = 0) && betw a c e && betw b d f
def onSegT (a b c d e f : Int) : Bool := onSegW (tk a b).1 (tk a b).2 (tk c d).1 (tk c d).2 (tk e f).1 (tk e f).2
def squareW (a b c d : Int) : Int := wrap64 ((wrap64 ((wrap64 (a - c)) * (wrap64 (a - c)))) + (wrap64 ((wrap64 (b - d)) * (wrap64 (b - d)))))
def gapW (a b c d x y : Int) : Int := if boxOk a b c d = true ∧ ptOk x y = true then squareW x y (max a (min x c)) (max b (min y d)) else -1
theorem spec_l4Min_eq (a b : Int) : spec_l4Min.f a b = some (min a b) := by unfold spec_l4Min.f; split <;> congr 1 <;> omega
theorem spec_l4Max_eq (a b : Int) : spec_l4Max.f a b = some (max a b) := by unfold spec_l4Max.f; split <;> congr 1 <;> omega
def l3MeetW (a b c d e f g h : Int) : Bool :=
  onSegW a b c d e f || onSegW a b c d g h || onSegW e f g h a b || onSegW e f g h c d ||
    (decide (wrap64 (sgn (crossW a b c d e f) * sgn (crossW a b c d g h)) < 0) && decide (wrap64 (sgn (crossW e f g h a b) * sgn (crossW e f g h c d)) < 0))
def meetW (a b c d e f g h : Int) : Bool := l3MeetW (tk a b).1 (tk a b).2 (tk c d).1 (tk c d).2 (tk e f).1 (tk e f).2 (tk g h).1 (tk g h).2
theorem i64_in {x : Int} (h1 : -9223372036854775808 ≤ x) (h2 : x ≤ 9223372036854775807) : IntKind.i64.wrap x = x := by
  rw [IntKind.wrap_i64]; omega
theorem i64_62 : ∀ n : Int, 0 ≤ n → n < 2 ^ 62 → IntKind.i64.wrap n = n := fun n h0 h1 => i64_in (by omega) (by omega)
theorem pow_4 (b : Nat) : (2 : Int) ^ (2 * b) = 4 ^ b := by rw [Int.pow_mul]; rfl
theorem two_le25 {b : Nat} (h : b ≤ 25) : (1 : Int) ≤ 2 ^ b ∧ (2 : Int) ^ b ≤ 33554432 := ⟨pow2_pos _, by have := pow2_le (n := b) (m := 25) h; simpa using this⟩
theorem four_le25 {b : Nat} (h : b ≤ 25) : (1 : Int) ≤ 4 ^ b ∧ (4 : Int) ^ b ≤ 1125899906842624 := by
  rw [← pow_4]; exact ⟨pow2_pos _, by have := pow2_le (n := 2 * b) (m := 50) (by omega); simpa using this⟩
theorem digit_bits {n : Int} (h0 : 0 ≤ n) (h1 : n < 1125899906842624) {b : Nat} (hb : b ≤ 25) :
    Go.bits .and .i64 (shr .i64 n (IntKind.u64.wrap (wrap64 (2 * (b : Int))))) 3 = n / 4 ^ b % 4 := by
  have e : shr .i64 n (IntKind.u64.wrap (wrap64 (2 * (b : Int)))) = n / 4 ^ b := by
    rw [wrap_in (by omega) (by omega), u64_in (by omega) (by omega)]
    unfold shr
    rw [show (2 * (b : Int)).toNat = 2 * b by omega, Nat.min_eq_left (by simp [IntKind.bits]; omega), pow_4]
  rw [e]
  have hp := four_pos b
  have g0 : 0 ≤ n / 4 ^ b := Int.ediv_nonneg h0 (by omega)
  have g1 : n / 4 ^ b ≤ n := Int.ediv_le_self _ h0
  exact bits_mask .i64 62 (by decide) i64_62 2 (by decide) (n / 4 ^ b) g0 (by omega)
theorem or_digit {n q : Int} (h0 : 0 ≤ n) (h1 : n < 1125899906842624) (q0 : 0 ≤ q) (q3 : q ≤ 3) : Go.bits .or .i64 (n * 4) q = n * 4 + q :=
  bits_join .i64 62 (by decide) i64_62 2 (n * 4) q (by omega) (by omega) (by omega) q0 (by omega) (by omega)
theorem shl1_nat {b : Nat} (hb : b ≤ 25) : shl .i64 1 (IntKind.u64.wrap (b : Int)) = 2 ^ b := by
  have := shl1 (z := (b : Int)) (by omega) (by omega); simpa using this
/-- What CurvePt computes. -/
def ptW (n : Int) : Int × Int × Bool :=
  if 0 ≤ n ∧ n < 1125899906842624 ∧ ptOk ((hP 25 n).1 - 10000000) ((hP 25 n).2 - 10000000) = true then ((hP 25 n).1 - 10000000, (hP 25 n).2 - 10000000, true) else (0, 0, false)
/-- What CurveOf computes. -/
def ofW (x y : Int) : Int := if ptOk x y = true then hC 25 (x + 10000000) (y + 10000000) else -1
theorem four_room {b : Nat} {n : Int} (hm : b + 1 ≤ 25) (n0 : 0 ≤ n) (n1 : n * 4 ^ (b + 1) < 1125899906842624) :
    n * 4 ^ (b + 1) = (n * 4) * 4 ^ b ∧ n * 4 + 3 < 1125899906842624 ∧ ∀ q : Int, q ≤ 3 → (n * 4 + q) * 4 ^ b < 1125899906842624 := by
  have e4 : n * 4 ^ (b + 1) = (n * 4) * 4 ^ b := by rw [four_succ, Int.mul_assoc]
  have f := four_pos b
  have c25 : (4 : Int) ^ 25 = 1125899906842624 := by decide
  have hp : (4 : Int) ^ 25 = 4 ^ (24 - b) * 4 ^ (b + 1) := by rw [← Int.pow_add]; congr 1; omega
  have fb := four_pos (b + 1)
  have hn : n < 4 ^ (24 - b) := by
    rw [← c25, hp] at n1
    exact Int.lt_of_mul_lt_mul_right n1 (by omega)
  have h5 : (n + 1) * 4 ^ (b + 1) ≤ 1125899906842624 := by
    have := Int.mul_le_mul_of_nonneg_right (show n + 1 ≤ 4 ^ (24 - b) by omega) (show (0 : Int) ≤ 4 ^ (b + 1) by omega)
    rw [← hp, c25] at this; exact this
  have h6 : (n * 4 + 4) * 4 ^ b = (n + 1) * 4 ^ (b + 1) := by rw [four_succ, ← Int.mul_assoc]; congr 1; omega
  have h7 : (n * 4 + 3) * 4 ^ b + 4 ^ b = (n * 4 + 4) * 4 ^ b := by rw [show n * 4 + 4 = (n * 4 + 3) + 1 by omega, Int.add_mul (n * 4 + 3) 1, Int.one_mul]
  have h8 : (n * 4 + 3) * 4 ^ b < 1125899906842624 := by omega
  refine ⟨e4, ?_, ?_⟩
  · have := Int.mul_le_mul_of_nonneg_left (show (1 : Int) ≤ 4 ^ b by omega) (show (0 : Int) ≤ n * 4 + 3 by omega)
    omega
  · intro q hq
    have := Int.mul_le_mul_of_nonneg_right (show n * 4 + q ≤ n * 4 + 3 by omega) (show (0 : Int) ≤ 4 ^ b by omega)
    omega
theorem icurve_loop : ∀ (m k : Nat) (x y n : Int), m ≤ 25 → 2 * m < k → 0 ≤ x → x < 2 ^ m → 0 ≤ y → y < 2 ^ m → 0 ≤ n → n * 4 ^ m < 1125899906842624 →
    impl_curveOf.l0 k x y n ((m : Int) - 1) = some (n * 4 ^ m + hC m x y) := by
  intro m
  induction m with
  | zero =>
    intro k x y n _ hk _ _ _ _ _ _
    obtain ⟨k, rfl⟩ : ∃ m, k = m + 1 := ⟨k - 1, by omega⟩
    simp only [impl_curveOf.l0]; rw [if_neg (by omega)]; simp [hC]
  | succ b ih =>
    intro k x y n hm hk h0 h1 h2 h3 n0 n1
    obtain ⟨k, rfl⟩ : ∃ m, k = m + 2 := ⟨k - 2, by omega⟩
    have p := two_le25 (b := b) (by omega)
    have f := four_pos b
    obtain ⟨e4, nb, mono⟩ := four_room hm n0 n1
    rw [two_succ] at h1 h3
    simp only [impl_curveOf.l0]
    rw [if_pos (by omega), if_pos (u64_nonneg _), show ((b + 1 : Nat) : Int) - 1 = (b : Int) by omega, shl1_nat (by omega), wrap_in (x := n * 4) (by omega) (by omega)]
    simp only [hC]
    have eb : wrap64 ((b : Int) - 1) = (b : Int) - 1 := wrap_in (by omega) (by omega)
    by_cases hx : x < 2 ^ b
    · rw [if_pos hx]
      by_cases hy : y < 2 ^ b
      · rw [if_pos ⟨hx, hy⟩]
        simp only [impl_curveOf.j1, hy, decide_true, if_true, eb]
        have m0 := mono 0 (by decide)
        rw [Int.add_zero] at m0
        rw [ih k y x (n * 4) (by omega) (by omega) h2 hy h0 hx (by omega) m0, e4]
      · rw [if_neg (fun q => hy q.2), if_pos hx]
        simp only [impl_curveOf.j1, hy, decide_false, Bool.false_eq_true, if_false, if_pos hx, eb]
        rw [or_digit n0 (by omega) (by decide) (by decide), wrap_in (x := y - 2 ^ b) (by omega) (by omega), ih k x (y - 2 ^ b) (n * 4 + 1) (by omega) (by omega) h0 hx (by omega) (by omega) (by omega) (mono 1 (by decide)), e4, Int.add_mul, Int.one_mul, Int.add_assoc]
    · rw [if_neg hx, if_neg (fun q => hx q.1), if_neg hx]
      simp only [impl_curveOf.j1, Bool.false_eq_true, if_false, if_neg hx, eb]
      by_cases hy : 2 ^ b ≤ y
      · rw [if_pos hy, if_pos hy, or_digit n0 (by omega) (by decide) (by decide), wrap_in (x := y - 2 ^ b) (by omega) (by omega), wrap_in (x := x - 2 ^ b) (by omega) (by omega), ih k (x - 2 ^ b) (y - 2 ^ b) (n * 4 + 2) (by omega) (by omega) (by omega) (by omega) (by omega) (by omega) (by omega) (mono 2 (by decide)), e4, Int.add_mul, Int.add_assoc]
      · rw [if_neg hy, if_neg hy, or_digit n0 (by omega) (by decide) (by decide), wrap_in (x := 2 ^ b - 1) (by omega) (by omega), wrap_in (x := 2 ^ b - 1 - y) (by omega) (by omega), wrap_in (x := 2 * 2 ^ b) (by omega) (by omega), wrap_in (x := 2 * 2 ^ b - 1) (by omega) (by omega), wrap_in (x := 2 * 2 ^ b - 1 - x) (by omega) (by omega),
          ih k (2 ^ b - 1 - y) (2 * 2 ^ b - 1 - x) (n * 4 + 3) (by omega) (by omega) (by omega) (by omega) (by omega) (by omega) (by omega) (mono 3 (by decide)), e4, Int.add_mul, Int.add_assoc]
theorem impl_CurveOf_eq (x y : Int) {k : Nat} (hk : 51 ≤ k) : impl_CurveOf.f k x y = some (ofW x y) := by
  unfold impl_CurveOf.f ofW; simp only [impl_PtOk_eq, Option.bind_some]
  by_cases h : ptOk x y = true
  · rw [if_pos h, if_pos h]
    have hp := ptOk_iff.1 h
    have e := icurve_loop 25 k (x + 10000000) (y + 10000000) 0 (by decide) (by omega) (by omega) (by omega) (by omega) (by omega) (by decide) (by decide)
    rw [Int.zero_mul, Int.zero_add] at e
    rw [wrap_in (x := x + 10000000) (by omega) (by omega), wrap_in (x := y + 10000000) (by omega) (by omega)]
    simp only [impl_curveOf.f]
    rw [show wrap64 (25 - 1) = ((25 : Nat) : Int) - 1 by unfold wrap64; omega, e]; rfl
  · rw [if_neg h, if_neg h]
/-- What CurveKey computes. -/
def keyW (a b c d : Int) : Int := if boxOk a b c d = true then ofW ((a + c) / 2) ((b + d) / 2) else -1
theorem impl_CurveKey_eq (a b c d : Int) {k : Nat} (hk : 51 ≤ k) : impl_CurveKey.f k a b c d = some (keyW a b c d) := by
  unfold impl_CurveKey.f keyW; simp only [impl_BoxOk_eq, Option.bind_some]
  by_cases h : boxOk a b c d = true
  · have hb := boxOk_iff.1 h
    rw [if_pos h, if_pos h, wrap_in (x := a + c) (by omega) (by omega), wrap_in (x := b + d) (by omega) (by omega), impl_CurveOf_eq _ _ hk]; rfl
  · rw [if_neg h, if_neg h]
/-- What Join computes. -/
def joinW (a b c d e f g h : Int) : Int × Int × Int × Int :=
  if boxOk a b c d = true then (if boxOk e f g h = true then (min a e, min b f, max c g, max d h) else (a, b, c, d))
  else (if boxOk e f g h = true then (e, f, g, h) else (0, 0, 0, 0))
/-- The box of the points from here on, joined to one. -/
def boW : List S73 → Int → Int → Int → Int → Int × Int × Int × Int × Bool
  | [], a, b, c, d => (a, b, c, d, true)
  | p :: r, a, b, c, d => if ptOk p.f0 p.f1 = true then boW r (min a p.f0) (min b p.f1) (max c p.f0) (max d p.f1) else (0, 0, 0, 0, false)
theorem drop_getD {α : Type} (z : α) : ∀ (l : List α) (i : Nat), i < l.length → l.drop i = l.getD i z :: l.drop (i + 1)
  | [], i, h => by simp at h
  | x :: r, 0, _ => rfl
  | x :: r, i + 1, h => by
    have := drop_getD z r i (by simpa using h)
    simpa using this
/-- What BoxOf computes. -/
def boxOfW : List S73 → Int × Int × Int × Int × Bool
  | [] => (0, 0, 0, 0, false)
  | p :: r => boW (p :: r) p.f0 p.f1 p.f0 p.f1
theorem spec_BoxOf_loop (l : List S73) (hl : l.length ≤ 140737488351232) : ∀ (d i k : Nat) (a b c e : Int), i + d = l.length → d < k →
    spec_BoxOf.l0 k l (i : Int) a b c e = some (boW (l.drop i) a b c e) := by
  intro d
  induction d with
  | zero =>
    intro i k a b c e hi hk
    obtain ⟨k, rfl⟩ : ∃ m, k = m + 1 := ⟨k - 1, by omega⟩
    simp only [spec_BoxOf.l0]; rw [if_neg (by omega), List.drop_eq_nil_of_le (by omega)]; rfl
  | succ d ih =>
    intro i k a b c e hi hk
    obtain ⟨k, rfl⟩ : ∃ m, k = m + 1 := ⟨k - 1, by omega⟩
    simp only [spec_BoxOf.l0]
    rw [if_pos (by omega), if_pos (by omega), drop_getD z73 l i (by omega)]
    have er : rd_T73 l (i : Int) = l.getD i z73 := by unfold rd_T73; rw [Int.toNat_natCast]
    rw [er]
    generalize l.getD i z73 = p
    simp only [boW, spec_PtOk_eq, spec_l4Min_eq, spec_l4Max_eq, Option.bind_some]
    by_cases hp : ptOk p.f0 p.f1 = true
    · rw [if_pos hp, if_pos hp, show wrap64 ((i : Int) + 1) = ((i + 1 : Nat) : Int) by rw [wrap_in (by omega) (by omega)]; omega]
      exact ih (i + 1) k _ _ _ _ (by omega) (by omega)
    · rw [if_neg hp, if_neg hp]
theorem spec_BoxOf_eq (l : List S73) (hl : l.length ≤ 140737488351232) {k : Nat} (hk : l.length < k) : spec_BoxOf.f k l = some (boxOfW l) := by
  unfold spec_BoxOf.f
  cases l with
  | nil => rfl
  | cons p r =>
    have hpos : (0 : Int) < ((p :: r).length : Int) := by rw [List.length_cons]; omega
    rw [if_neg (by omega), if_pos hpos]
    have e := spec_BoxOf_loop (p :: r) hl (p :: r).length 0 k p.f0 p.f1 p.f0 p.f1 (by omega) hk
    exact e
def grownW (a b c d e f g h : Int) : Int := area (joinW a b c d e f g h).1 (joinW a b c d e f g h).2.1 (joinW a b c d e f g h).2.2.1 (joinW a b c d e f g h).2.2.2 - area a b c d
theorem grown_wrap (a b c d e f g h : Int) : wrap64 (area (joinW a b c d e f g h).1 (joinW a b c d e f g h).2.1 (joinW a b c d e f g h).2.2.1 (joinW a b c d e f g h).2.2.2 - area a b c d) = grownW a b c d e f g h := by
  have a1 := area_bounds a b c d
  have a2 := area_bounds (joinW a b c d e f g h).1 (joinW a b c d e f g h).2.1 (joinW a b c d e f g h).2.2.1 (joinW a b c d e f g h).2.2.2
  exact wrap_in (by omega) (by omega)
theorem side_fin : ∀ n : Fin 21, (33554432 : Int) / 2 ^ n.val * 2 ^ n.val = 33554432 := by decide +kernel
theorem side_mul {z : Int} (h0 : 0 ≤ z) (h1 : z ≤ 20) : side z * 2 ^ z.toNat = 33554432 := by
  obtain ⟨n, rfl⟩ := Int.eq_ofNat_of_zero_le h0
  exact side_fin ⟨n, by omega⟩
theorem tile_span {z x : Int} (h0 : 0 ≤ z) (h1 : z ≤ 20) (x0 : 0 ≤ x) (x1 : x ≤ 2 ^ z.toNat - 1) : 0 ≤ x * side z ∧ (x + 1) * side z = x * side z + side z ∧ x * side z + side z ≤ 33554432 ∧ 32 ≤ side z := by
  have hs := (shr_side h0 h1).2
  have e : (x + 1) * side z = x * side z + side z := by rw [Int.add_mul, Int.one_mul]
  refine ⟨Int.mul_nonneg x0 (by omega), e, ?_, hs.1⟩
  rw [← e, ← side_mul h0 h1, Int.mul_comm (side z)]
  exact Int.mul_le_mul_of_nonneg_right (by omega) (by omega)
/-- What TileBox computes. -/
def tileBoxW (z x y : Int) : Int × Int × Int × Int × Bool :=
  if tileOk z x y = true ∧ boxOk (max (x * side z - 16777216) (-10000000)) (max (y * side z - 16777216) (-10000000)) (min (x * side z - 16777216 + side z - 1) 10000000) (min (y * side z - 16777216 + side z - 1) 10000000) = true then
    (max (x * side z - 16777216) (-10000000), max (y * side z - 16777216) (-10000000), min (x * side z - 16777216 + side z - 1) 10000000, min (y * side z - 16777216 + side z - 1) 10000000, true)
  else (0, 0, 0, 0, false)
theorem tileOk_iff {z x y : Int} : tileOk z x y = true ↔ (0 ≤ z ∧ z ≤ 20) ∧ (0 ≤ x ∧ x ≤ 2 ^ z.toNat - 1) ∧ (0 ≤ y ∧ y ≤ 2 ^ z.toNat - 1) := by
  simp [tileOk, and_assoc]
/-! The draws answer, whatever the bytes are. -/
def St (l : List Int) (i : Int) : Prop := 0 ≤ i ∧ i ≤ l.length
theorem and255 (x : Int) : 0 ≤ Go.bits .and .i64 x 255 ∧ Go.bits .and .i64 x 255 ≤ 255 := by
  have h : ((BitVec.ofInt 64 x &&& BitVec.ofInt 64 255).toNat) ≤ 255 := by
    rw [BitVec.toNat_and]
    exact Nat.le_trans Nat.and_le_right (by decide)
  have e : Go.bits .and .i64 x 255 = IntKind.i64.wrap ((BitVec.ofInt 64 x &&& BitVec.ofInt 64 255).toNat : Int) := rfl
  rw [e, IntKind.wrap_i64]
  generalize (BitVec.ofInt 64 x &&& BitVec.ofInt 64 255).toNat = m at h ⊢
  omega
theorem byte_ok {l : List Int} (hl : l.length ≤ 140737488351232) {i h : Int} (s : St l i) : ∃ b i' h', spec_l1Byte.f l i h = some (b, i', h') ∧ 0 ≤ b ∧ b ≤ 255 ∧ St l i' := by
  obtain ⟨s0, s1⟩ := s
  unfold spec_l1Byte.f
  by_cases c : i < (l.length : Int)
  · rw [if_pos c, if_pos s0]
    refine ⟨_, _, _, rfl, (and255 _).1, (and255 _).2, ?_⟩
    rw [wrap_in (by omega) (by omega)]; exact ⟨by omega, by omega⟩
  · rw [if_neg c]
    exact ⟨_, _, _, rfl, (and255 _).1, (and255 _).2, s0, s1⟩
theorem tmod_range {x n : Int} (h0 : 0 ≤ x) (hn : 0 < n) : 0 ≤ Int.tmod x n ∧ Int.tmod x n < n := by
  rw [Int.tmod_eq_emod_of_nonneg h0]
  exact ⟨Int.emod_nonneg _ (by omega), Int.emod_lt_of_pos _ hn⟩
theorem below_ok {l : List Int} (hl : l.length ≤ 140737488351232) {i h n : Int} (s : St l i) :
    ∃ x i' h', spec_l1Below.f l i h n = some (x, i', h') ∧ St l i' ∧ 0 ≤ x ∧ (0 < n → x < n) ∧ (n ≤ 0 → x = 0) := by
  unfold spec_l1Below.f
  by_cases c : n ≤ 0
  · rw [if_pos c]; exact ⟨_, _, _, rfl, s, by decide, by omega, fun _ => rfl⟩
  · rw [if_neg c]
    by_cases c2 : n ≤ 256
    · rw [if_pos c2]
      obtain ⟨b, i1, h1, e, b0, b1, s1⟩ := byte_ok hl (h := h) s
      rw [e]; simp only [Option.bind_some]; rw [if_neg (by omega)]
      have := tmod_range b0 (show 0 < n by omega)
      exact ⟨_, _, _, rfl, s1, this.1, fun _ => this.2, by omega⟩
    · rw [if_neg c2]
      obtain ⟨b, i1, h1, e, b0, b1, s1⟩ := byte_ok hl (h := h) s
      obtain ⟨b', i2, h2, e2, b0', b1', s2⟩ := byte_ok hl (h := h1) s1
      obtain ⟨b'', i3, h3, e3, b0'', b1'', s3⟩ := byte_ok hl (h := h2) s2
      rw [e]; simp only [Option.bind_some]; rw [e2]; simp only [Option.bind_some]; rw [e3]; simp only [Option.bind_some]; rw [if_neg (by omega)]
      have nn : 0 ≤ wrap64 (wrap64 (wrap64 (b * 65536) + wrap64 (b' * 256)) + b'') := by
        rw [wrap_in (x := b * 65536) (by omega) (by omega), wrap_in (x := b' * 256) (by omega) (by omega), wrap_in (x := b * 65536 + b' * 256) (by omega) (by omega), wrap_in (by omega) (by omega)]; omega
      have := tmod_range nn (show 0 < n by omega)
      exact ⟨_, _, _, rfl, s3, this.1, fun _ => this.2, by omega⟩
theorem once_ok {l : List Int} (hl : l.length ≤ 140737488351232) {i h : Int} (n : Int) (s : St l i) : ∃ b i' h', spec_l1Once.f l i h n = some (b, i', h') ∧ St l i' := by
  obtain ⟨x, i1, h1, e, s1, _⟩ := below_ok hl (h := h) (n := n) s
  unfold spec_l1Once.f; rw [e]; exact ⟨_, _, _, rfl, s1⟩
theorem int_ok {l : List Int} (hl : l.length ≤ 140737488351232) {i h : Int} (xs : List Int) (hx : 0 < xs.length) (s : St l i) : ∃ v i' h', spec_l1Int.f l i h xs = some (v, i', h') ∧ v ∈ xs ∧ St l i' := by
  obtain ⟨x, i1, h1, e, s1, x0, x1, _⟩ := below_ok hl (h := h) (n := (xs.length : Int)) s
  have hx1 := x1 (by omega)
  unfold spec_l1Int.f; rw [e]; simp only [Option.bind_some]; rw [if_pos x0, if_pos hx1]
  refine ⟨_, _, _, rfl, ?_, s1⟩
  unfold rd
  have hlt : x.toNat < xs.length := by omega
  rw [List.getD_eq_getElem?_getD, List.getElem?_eq_getElem hlt]
  exact List.getElem_mem hlt
theorem new_loop (l : List Int) (hl : l.length ≤ 140737488351232) : ∀ (d i k : Nat) (h : Int), i + d = l.length → d < k → ∃ h', spec_l1New.l0 k l h (i : Int) = some (l, 0, h') := by
  intro d
  induction d with
  | zero =>
    intro i k h hi hk
    obtain ⟨k, rfl⟩ : ∃ m, k = m + 1 := ⟨k - 1, by omega⟩
    simp only [spec_l1New.l0]; rw [if_neg (by omega)]; exact ⟨_, rfl⟩
  | succ d ih =>
    intro i k h hi hk
    obtain ⟨k, rfl⟩ : ∃ m, k = m + 1 := ⟨k - 1, by omega⟩
    simp only [spec_l1New.l0]; rw [if_pos (by omega)]
    by_cases c : (i : Int) < 4000
    · rw [if_pos c, if_pos (by omega), show wrap64 ((i : Int) + 1) = ((i + 1 : Nat) : Int) by rw [wrap_in (by omega) (by omega)]; omega]
      exact ih (i + 1) k _ (by omega) (by omega)
    · rw [if_neg c]; exact ⟨_, rfl⟩
theorem new_ok (l : List Int) (hl : l.length ≤ 140737488351232) {k : Nat} (hk : l.length < k) : ∃ h, spec_l1New.f k l = some (l, 0, h) := by
  unfold spec_l1New.f; exact new_loop l hl l.length 0 k _ (by omega) hk
theorem st0 (l : List Int) : St l 0 := ⟨by decide, by omega⟩
theorem draw3_ok {l : List Int} (hl : l.length ≤ 140737488351232) {i h : Int} {k : Nat} (hk : 1 ≤ k) (s : St l i) : ∃ x y i' h', spec_l3Draw.f k l i h = some (x, y, i', h') ∧ St l i' := by
  obtain ⟨k, rfl⟩ : ∃ m, k = m + 1 := ⟨k - 1, by omega⟩
  obtain ⟨b1, i1, h1, e1, s1, _⟩ := below_ok hl (h := h) (n := 9) s
  obtain ⟨b2, i2, h2, e2, s2, _⟩ := below_ok hl (h := h1) (n := 9) s1
  obtain ⟨b3, i3, h3, e3, s3⟩ := once_ok hl (h := h2) 8 s2
  have tail : ∀ (x y i h : Int), St l i → ∃ x' y' i' h', spec_l3Draw.j0 (k + 1) l i h x y = some (x', y', i', h') ∧ St l i' := by
    intro x y i h s
    simp only [spec_l3Draw.j0]
    obtain ⟨b4, i4, h4, e4, s4⟩ := once_ok hl (h := h) 8 s
    rw [e4]; simp only [Option.bind_some]
    cases b4
    · exact ⟨_, _, _, _, rfl, s4⟩
    · rw [if_pos rfl]
      obtain ⟨v, i5, h5, e5, _, s5⟩ := int_ok hl (h := h4) ([(-10000000), 10000000, 9999998, 7654321, (-10000001), 9223372036854775807] : List Int) (by decide) s4
      rw [e5]; exact ⟨_, _, _, _, rfl, s5⟩
  unfold spec_l3Draw.f
  rw [e1]; simp only [Option.bind_some]; rw [e2]; simp only [Option.bind_some]; rw [e3]; simp only [Option.bind_some]
  cases b3
  · exact tail _ _ _ _ s3
  · rw [if_pos rfl]
    obtain ⟨v, i5, h5, e5, _, s5⟩ := int_ok hl (h := h3) ([(-10000000), 10000000, 9999999, 1234567, 10000001, (-9223372036854775808)] : List Int) (by decide) s3
    rw [e5]; exact tail _ _ _ _ s5
theorem draw4_ok {l : List Int} (hl : l.length ≤ 140737488351232) {i h : Int} {k : Nat} (hk : 4 ≤ k) (s : St l i) : ∃ a b c d i' h', spec_l4Draw.f k l i h = some (a, b, c, d, i', h') ∧ St l i' := by
  obtain ⟨k, rfl⟩ : ∃ m, k = m + 1 := ⟨k - 1, by omega⟩
  obtain ⟨x1, y1, i1, h1, e1, s1⟩ := draw3_ok hl (h := h) (k := k + 1) (by omega) s
  obtain ⟨x2, y2, i2, h2, e2, s2⟩ := draw3_ok hl (h := h1) (k := k + 1) (by omega) s1
  have tail : ∀ (b : Bool) (p q r t i h : Int), St l i → ∃ a b' c d i' h', spec_l4Draw.j0 (k + 1) b l i h p q r t = some (a, b', c, d, i', h') ∧ St l i' := by
    intro b p q r t i h s
    simp only [spec_l4Draw.j0]
    cases b
    · exact ⟨_, _, _, _, _, _, rfl, s⟩
    · rw [if_pos rfl]
      obtain ⟨x3, y3, i3, h3, e3, s3⟩ := draw3_ok hl (h := h) (k := k) (by omega) s
      obtain ⟨x4, y4, i4, h4, e4, s4⟩ := draw3_ok hl (h := h3) (k := k) (by omega) s3
      rw [e3]; simp only [Option.bind_some]; rw [e4]; exact ⟨_, _, _, _, _, _, rfl, s4⟩
  unfold spec_l4Draw.f
  rw [e1]; simp only [Option.bind_some, spec_l3Pt_eq]; rw [e2]; simp only [Option.bind_some, spec_l3Pt_eq]
  rw [spec_BoxOf_eq _ (by simp) (by simp; omega)]; simp only [Option.bind_some]
  split
  · obtain ⟨b3, i3, h3, e3, s3⟩ := once_ok hl (h := h2) 10 s2
    rw [e3]; simp only [Option.bind_some]; exact tail _ _ _ _ _ _ _ s3
  · exact tail _ _ _ _ _ _ _ s2
theorem dropAt {α : Type} (z : α) : ∀ (l : List α) (i : Nat), i < l.length → l.drop i = l.getD i z :: l.drop (i + 1)
  | [], i, h => by simp at h
  | x :: r, 0, _ => rfl
  | x :: r, i + 1, h => by
    have := dropAt z r i (by simpa using h)
    simpa using this
theorem getDin {α : Type} (z : α) {l : List α} {i : Nat} (h : i < l.length) : l.getD i z ∈ l := by
  rw [List.getD_eq_getElem?_getD, List.getElem?_eq_getElem h]; exact List.getElem_mem h
/-! The stable sort of places by their keys: what each of its functions makes of a row. -/
def rk (K : List Int) (x : Int) : Int := rd K x * 1000 + x
def okx (K : List Int) (x : Int) : Prop := 0 ≤ x ∧ x < (K.length : Int)
def Srt (K : List Int) (X : List Int) : Prop := X.Pairwise (fun x y => rk K x < rk K y)
def Tie (K : List Int) (x y : Int) : Prop := rd K x = rd K y → x < y
theorem one_eq (K : List Int) {x y : Int} (hx : okx K x) (hy : okx K y) : ∃ c, impl_CurveSortOne.f x y K = some c ∧ (c < 0 ↔ rd K x < rd K y) := by
  have e : ∀ a : Int, cmp_isNaN_int.f a = some false := fun a => by unfold cmp_isNaN_int.f; simp
  unfold impl_CurveSortOne.f
  rw [if_pos hx.1, if_pos hx.2, if_pos hy.1, if_pos hy.2]
  unfold cmp_Compare_int.f
  rw [e, Option.bind_some, e, Option.bind_some, if_neg (by decide), if_neg (by decide)]
  by_cases h1 : rd K x < rd K y
  · rw [if_pos h1]; exact ⟨-1, rfl, by omega⟩
  · rw [if_neg h1]
    by_cases h2 : rd K x > rd K y
    · rw [if_pos h2]; exact ⟨1, rfl, by omega⟩
    · rw [if_neg h2]; exact ⟨0, rfl, by omega⟩
theorem rk_iff {K : List Int} (hK : K.length ≤ 500) {x y : Int} (hx : okx K x) (hy : okx K y) (t : Tie K x y) : rd K y < rd K x ↔ rk K y < rk K x := by
  unfold rk
  obtain ⟨h1, h2⟩ := hx
  obtain ⟨h3, h4⟩ := hy
  by_cases h : rd K x = rd K y
  · have := t h; omega
  · omega
theorem rk_not {K : List Int} (hK : K.length ≤ 500) {x y : Int} (hx : okx K x) (hy : okx K y) (t : Tie K x y) (h : ¬ rk K y < rk K x) : rk K x < rk K y := by
  unfold rk at *
  obtain ⟨h1, h2⟩ := hx
  obtain ⟨h3, h4⟩ := hy
  by_cases h : rd K x = rd K y
  · have := t h; omega
  · omega
/-- The comparing call where x lies ahead of y. -/
theorem cmp_back {K : List Int} (hK : K.length ≤ 500) {x y : Int} (hx : okx K x) (hy : okx K y) (t : Tie K x y) : ∃ c, impl_CurveSortOne.f y x K = some c ∧ (c < 0 ↔ rk K y < rk K x) := by
  obtain ⟨c, e, h⟩ := one_eq K hy hx
  exact ⟨c, e, h.trans (rk_iff hK hx hy t)⟩
theorem rdp {L P T : List Int} {u i : Int} (hL : L = P ++ u :: T) (hi : i = (P.length : Int)) : rd L i = u := by
  subst hL; subst hi; unfold rd; rw [Int.toNat_natCast]; simp
theorem setp {L P T : List Int} {u i : Int} (v : Int) (hL : L = P ++ u :: T) (hi : i = (P.length : Int)) : L.set i.toNat v = P ++ v :: T := by
  subst hL; subst hi; rw [Int.toNat_natCast, List.set_append_right _ _ (Nat.le_refl _), Nat.sub_self]; rfl
theorem swap2 (P M S : List Int) (u v : Int) {i j : Int} (hi : i = (P.length : Int)) (hj : j = (P.length : Int) + 1 + (M.length : Int)) :
    ((P ++ u :: (M ++ v :: S)).set i.toNat (rd (P ++ u :: (M ++ v :: S)) j)).set j.toNat (rd (P ++ u :: (M ++ v :: S)) i) = P ++ v :: (M ++ u :: S) := by
  rw [rdp (P := P ++ u :: M) (T := S) (u := v) (by simp) (by simp; omega), rdp (P := P) (T := M ++ v :: S) (u := u) rfl hi, setp v rfl hi,
    setp (P := P ++ v :: M) (T := S) (u := v) u (by simp) (by simp; omega)]
  simp
/-- The same, the later place named first. -/
theorem swap2' (P M S : List Int) (u v : Int) {i j : Int} (hi : i = (P.length : Int)) (hj : j = (P.length : Int) + 1 + (M.length : Int)) :
    ((P ++ u :: (M ++ v :: S)).set j.toNat (rd (P ++ u :: (M ++ v :: S)) i)).set i.toNat (rd (P ++ u :: (M ++ v :: S)) j) = P ++ v :: (M ++ u :: S) := by
  rw [rdp (P := P ++ u :: M) (T := S) (u := v) (i := j) (by simp) (by simp; omega), rdp (P := P) (T := M ++ v :: S) (u := u) (i := i) rfl hi,
    setp (P := P ++ u :: M) (T := S) (u := v) u (by simp) (by simp; omega), setp (P := P) (T := M ++ u :: S) (u := u) v (by simp) hi]
theorem swapR : ∀ (U V P M S : List Int) (a b n i : Int), U.length = V.length → a + i = (P.length : Int) → b + i = (P.length : Int) + (U.length : Int) + (M.length : Int) → n = i + (U.length : Int) → 0 ≤ a → 0 ≤ b → 0 ≤ i → (P ++ U ++ M ++ V ++ S).length ≤ 1000000 →
    ∃ k0, ∀ k, k0 ≤ k → slices_swapRangeCmpFunc_int.l0 k (P ++ U ++ M ++ V ++ S) a b n i = some (P ++ V ++ M ++ U ++ S)
  | [], V, P, M, S, a, b, n, i, hl, ha, hb, hn, a0, b0, i0, hL => by
    have : V = [] := List.length_eq_zero_iff.1 hl.symm
    subst this
    refine ⟨1, fun k hk => ?_⟩
    obtain ⟨k, rfl⟩ : ∃ m, k = m + 1 := ⟨k - 1, by omega⟩
    rw [slices_swapRangeCmpFunc_int.l0, if_neg (by simp at hn; omega)]
  | u :: U, [], P, M, S, a, b, n, i, hl, _, _, _, _, _, _, _ => by simp at hl
  | u :: U, v :: V, P, M, S, a, b, n, i, hl, ha, hb, hn, a0, b0, i0, hL => by
    simp only [List.length_cons, List.length_append] at hl hb hn hL
    obtain ⟨k0, ih⟩ := swapR U V (P ++ [v]) (M ++ [u]) S a b n (i + 1) (by omega) (by simp; omega) (by simp; omega) (by omega) a0 b0 (by omega) (by simp; omega)
    refine ⟨k0 + 1, fun k hk => ?_⟩
    obtain ⟨k, rfl⟩ : ∃ m, k = m + 1 := ⟨k - 1, by omega⟩
    have e : P ++ u :: U ++ M ++ v :: V ++ S = P ++ u :: ((U ++ M) ++ v :: (V ++ S)) := by simp
    have el : ((P ++ u :: ((U ++ M) ++ v :: (V ++ S))).length : Int) = (P.length : Int) + 1 + U.length + M.length + 1 + V.length + S.length := by simp; omega
    have w1 : wrap64 (a + i) = a + i := wrap_in (by omega) (by omega)
    have w2 : wrap64 (b + i) = b + i := wrap_in (by omega) (by omega)
    have w3 : wrap64 (i + 1) = i + 1 := wrap_in (by omega) (by omega)
    rw [slices_swapRangeCmpFunc_int.l0, if_pos (by omega), w1, w2, w3, e, el, if_pos (by omega), if_pos (by omega), if_pos (by omega), if_pos (by omega),
      swap2 P (U ++ M) (V ++ S) u v (i := a + i) (j := b + i) (by omega) (by simp; omega)]
    have := ih k (by omega)
    have e1 : P ++ [v] ++ U ++ (M ++ [u]) ++ V ++ S = P ++ v :: (U ++ M ++ u :: (V ++ S)) := by simp
    have e2 : P ++ [v] ++ V ++ (M ++ [u]) ++ U ++ S = P ++ v :: V ++ M ++ u :: U ++ S := by simp
    rw [e1, e2] at this
    exact this
/-- slices.swapRange: two pieces of one length change places. -/
theorem swapRange_eq (K : List Int) (U V P M S : List Int) {a b n : Int} (hl : U.length = V.length) (ha : a = (P.length : Int)) (hb : b = (P.length : Int) + (U.length : Int) + (M.length : Int)) (hn : n = (U.length : Int)) (hL : (P ++ U ++ M ++ V ++ S).length ≤ 1000000) :
    ∃ k0, ∀ k, k0 ≤ k → slices_swapRangeCmpFunc_int.f k (P ++ U ++ M ++ V ++ S) a b n K = some (P ++ V ++ M ++ U ++ S) := by
  unfold slices_swapRangeCmpFunc_int.f
  exact swapR U V P M S a b n 0 hl (by omega) (by omega) (by omega) (by omega) (by omega) (by omega) hL
theorem rot_loop (K : List Int) : ∀ (d : Nat) (U V P S : List Int) (m i j : Int), U.length + V.length ≤ d → i = (U.length : Int) → j = (V.length : Int) → m = (P.length : Int) + (U.length : Int) → 1 ≤ U.length → 1 ≤ V.length → (P ++ U ++ V ++ S).length ≤ 1000000 →
    ∃ k0, ∀ k, k0 ≤ k → slices_rotateCmpFunc_int.l0 k (P ++ U ++ V ++ S) m K i j = some (P ++ V ++ U ++ S) := by
  intro d
  induction d with
  | zero => intro U V P S m i j hd _ _ _ h1; omega
  | succ d ih =>
    intro U V P S m i j hd hi hj hm hU hV hL
    simp only [List.length_append] at hL
    have w1 : wrap64 (m - i) = m - i := wrap_in (by omega) (by omega)
    by_cases c : U.length = V.length
    · obtain ⟨k1, h1⟩ := swapRange_eq K U V P [] S (a := m - i) (b := m) (n := i) c (by omega) (by simp; omega) hi (by simp; omega)
      rw [List.append_nil, List.append_nil] at h1
      refine ⟨k1 + 1, fun k hk => ?_⟩
      obtain ⟨k, rfl⟩ : ∃ m, k = m + 1 := ⟨k - 1, by omega⟩
      rw [slices_rotateCmpFunc_int.l0, if_pos (by omega), w1, h1 k (by omega), Option.bind_some]
    · by_cases c2 : V.length < U.length
      · have hU1 : (U.take V.length).length = V.length := by rw [List.length_take]; omega
        have hU2 : (U.drop V.length).length = U.length - V.length := List.length_drop
        obtain ⟨k1, h1⟩ := swapRange_eq K (U.take V.length) V P (U.drop V.length) S (a := m - i) (b := m) (n := j) hU1 (by omega) (by omega) (by omega) (by simp; omega)
        have e1 : P ++ U.take V.length ++ U.drop V.length ++ V ++ S = P ++ U ++ V ++ S := by rw [List.append_assoc P, List.take_append_drop]
        rw [e1] at h1
        obtain ⟨k2, h2⟩ := ih (U.drop V.length) (U.take V.length) (P ++ V) S m (i - j) j (by omega) (by omega) (by omega) (by simp; omega) (by omega) (by omega) (by simp; omega)
        have e2 : P ++ V ++ U.take V.length ++ U.drop V.length ++ S = P ++ V ++ U ++ S := by rw [List.append_assoc (P ++ V), List.take_append_drop]
        rw [e2] at h2
        refine ⟨k1 + k2 + 1, fun k hk => ?_⟩
        obtain ⟨k, rfl⟩ : ∃ m, k = m + 1 := ⟨k - 1, by omega⟩
        rw [slices_rotateCmpFunc_int.l0, if_neg (by omega), if_pos (by omega), w1, h1 k (by omega), Option.bind_some, show wrap64 (i - j) = i - j from wrap_in (by omega) (by omega)]
        exact h2 k (by omega)
      · have hV1 : (V.take (V.length - U.length)).length = V.length - U.length := by rw [List.length_take]; omega
        have hV2 : (V.drop (V.length - U.length)).length = U.length := by rw [List.length_drop]; omega
        obtain ⟨k1, h1⟩ := swapRange_eq K U (V.drop (V.length - U.length)) P (V.take (V.length - U.length)) S (a := m - i) (b := m + j - i) (n := i) hV2.symm (by omega) (by omega) (by omega) (by simp; omega)
        have e1 : P ++ U ++ V.take (V.length - U.length) ++ V.drop (V.length - U.length) ++ S = P ++ U ++ V ++ S := by rw [List.append_assoc (P ++ U), List.take_append_drop]
        rw [e1] at h1
        obtain ⟨k2, h2⟩ := ih (V.drop (V.length - U.length)) (V.take (V.length - U.length)) P (U ++ S) m i (j - i) (by omega) (by omega) (by omega) (by omega) (by omega) (by omega) (by simp; omega)
        have e2 : P ++ V.drop (V.length - U.length) ++ V.take (V.length - U.length) ++ (U ++ S) = P ++ V.drop (V.length - U.length) ++ V.take (V.length - U.length) ++ U ++ S := by simp
        have e3 : P ++ V.take (V.length - U.length) ++ V.drop (V.length - U.length) ++ (U ++ S) = P ++ V ++ U ++ S := by rw [List.append_assoc P, List.take_append_drop, List.append_assoc (P ++ V)]
        rw [e2, e3] at h2
        refine ⟨k1 + k2 + 1, fun k hk => ?_⟩
        obtain ⟨k, rfl⟩ : ∃ m, k = m + 1 := ⟨k - 1, by omega⟩
        rw [slices_rotateCmpFunc_int.l0, if_neg (by omega), if_neg (by omega), w1, show wrap64 (m + j) = m + j from wrap_in (by omega) (by omega), show wrap64 (m + j - i) = m + j - i from wrap_in (by omega) (by omega), h1 k (by omega), Option.bind_some, show wrap64 (j - i) = j - i from wrap_in (by omega) (by omega)]
        exact h2 k (by omega)
/-- slices.rotate: two neighbouring pieces change places. -/
theorem rotate_eq (K : List Int) (U V P S : List Int) {a m b : Int} (ha : a = (P.length : Int)) (hm : m = a + (U.length : Int)) (hb : b = m + (V.length : Int)) (hU : 1 ≤ U.length) (hV : 1 ≤ V.length) (hL : (P ++ U ++ V ++ S).length ≤ 1000000) :
    ∃ k0, ∀ k, k0 ≤ k → slices_rotateCmpFunc_int.f k (P ++ U ++ V ++ S) a m b K = some (P ++ V ++ U ++ S) := by
  unfold slices_rotateCmpFunc_int.f
  have hL2 := hL
  simp only [List.length_append] at hL2
  rw [show wrap64 (m - a) = m - a from wrap_in (by omega) (by omega), show wrap64 (b - m) = b - m from wrap_in (by omega) (by omega)]
  exact rot_loop K _ U V P S m (m - a) (b - m) (Nat.le_refl _) (by omega) (by omega) (by omega) hU hV hL
theorem srt_app {K X Y : List Int} : Srt K (X ++ Y) ↔ Srt K X ∧ Srt K Y ∧ ∀ x ∈ X, ∀ y ∈ Y, rk K x < rk K y := List.pairwise_append
theorem srt_cons {K Y : List Int} {x : Int} : Srt K (x :: Y) ↔ (∀ y ∈ Y, rk K x < rk K y) ∧ Srt K Y := List.pairwise_cons
theorem ins_inner (K : List Int) (hK : K.length ≤ 500) (a b i : Int) (Z : List Int) : ∀ (d : Nat) (Y1 Y2 P : List Int) (y j : Int), Y1.length = d → Srt K (Y1 ++ Y2) → (∀ x ∈ Y1, Tie K x y) → (∀ x ∈ Y2, rk K y < rk K x) → (∀ x ∈ Y1, okx K x) → okx K y → a = (P.length : Int) → j = a + (Y1.length : Int) → (P ++ Y1 ++ y :: (Y2 ++ Z)).length ≤ 1000000 →
    ∃ W, W.Perm (Y1 ++ y :: Y2) ∧ Srt K W ∧ ∃ t, ∀ k, slices_insertionSortCmpFunc_int.l1 (k + t) (P ++ Y1 ++ y :: (Y2 ++ Z)) a b K i j = slices_insertionSortCmpFunc_int.l0 k (P ++ W ++ Z) a b K (wrap64 (i + 1)) := by
  intro d
  induction d with
  | zero =>
    intro Y1 Y2 P y j hd hs _ h2 _ _ ha hj _
    obtain rfl : Y1 = [] := List.length_eq_zero_iff.1 hd
    refine ⟨y :: Y2, by simp, srt_cons.2 ⟨h2, by simpa using hs⟩, 1, fun k => ?_⟩
    rw [slices_insertionSortCmpFunc_int.l1, if_neg (by simp at hj; omega)]; simp
  | succ d ih =>
    intro Y1 Y2 P y j hd hs ht h2 ho hy ha hj hL
    obtain ⟨Y, x, rfl⟩ : ∃ Y x, Y1 = Y ++ [x] := by
      rcases List.eq_nil_or_concat Y1 with h | ⟨Y, x, h⟩
      · rw [h] at hd; cases hd
      · exact ⟨Y, x, by simpa using h⟩
    simp only [List.length_append, List.length_cons, List.length_nil] at hd hj hL
    have hx := ho x (by simp)
    have e : P ++ (Y ++ [x]) ++ y :: (Y2 ++ Z) = (P ++ Y) ++ x :: ([] ++ y :: (Y2 ++ Z)) := by simp
    have el : (((P ++ Y) ++ x :: ([] ++ y :: (Y2 ++ Z))).length : Int) = (P.length : Int) + Y.length + 2 + Y2.length + Z.length := by simp; omega
    have w1 : wrap64 (j - 1) = j - 1 := wrap_in (by omega) (by omega)
    have r1 : rd ((P ++ Y) ++ x :: ([] ++ y :: (Y2 ++ Z))) j = y := rdp (P := P ++ Y ++ [x]) (T := Y2 ++ Z) (by simp) (by simp; omega)
    have r2 : rd ((P ++ Y) ++ x :: ([] ++ y :: (Y2 ++ Z))) (j - 1) = x := rdp (P := P ++ Y) (T := [] ++ y :: (Y2 ++ Z)) rfl (by simp; omega)
    have sw := swap2' (P ++ Y) [] (Y2 ++ Z) x y (i := j - 1) (j := j) (by simp; omega) (by simp; omega)
    obtain ⟨c, e1, hc⟩ := cmp_back hK hx hy (ht x (by simp))
    rw [List.append_assoc, List.singleton_append] at hs
    have hs' := srt_app.1 hs
    have hs2 := srt_cons.1 hs'.2.1
    by_cases hlt : rk K y < rk K x
    · obtain ⟨W, p, s, t, h⟩ := ih Y (x :: Y2) P y (j - 1) (by omega) hs (fun z q => ht z (by simp [q])) (fun z q => by
        rcases List.mem_cons.1 q with rfl | q
        · exact hlt
        · exact h2 z q) (fun z q => ho z (by simp [q])) hy ha (by omega) (by simp; omega)
      refine ⟨W, p.trans ?_, s, t + 1, fun k => ?_⟩
      · rw [List.append_assoc, List.singleton_append]
        exact List.Perm.append_left _ (List.Perm.swap _ _ _)
      · rw [show k + (t + 1) = (k + t) + 1 from rfl, slices_insertionSortCmpFunc_int.l1, if_pos (by omega), e, el, w1, if_pos (by omega), if_pos (by omega), if_pos (by omega), if_pos (by omega), sw, r1, r2, e1, Option.bind_some, if_pos (hc.2 hlt), ← h k]
        simp
    · have hxy := rk_not hK hx hy (ht x (by simp)) hlt
      refine ⟨Y ++ x :: y :: Y2, by simp, ?_, 1, fun k => ?_⟩
      · rw [srt_app]
        refine ⟨hs'.1, srt_cons.2 ⟨fun z q => ?_, srt_cons.2 ⟨h2, hs2.2⟩⟩, fun z q z' q' => ?_⟩
        · rcases List.mem_cons.1 q with rfl | q
          · exact hxy
          · exact hs2.1 z q
        · rcases List.mem_cons.1 q' with rfl | q'
          · exact hs'.2.2 z q _ (by simp)
          · rcases List.mem_cons.1 q' with rfl | q'
            · have := hs'.2.2 z q x (by simp); omega
            · exact hs'.2.2 z q _ (by simp [q'])
      · rw [slices_insertionSortCmpFunc_int.l1, if_pos (by omega), e, el, w1, if_pos (by omega), if_pos (by omega), if_pos (by omega), if_pos (by omega), r1, r2, e1, Option.bind_some, if_neg (fun q => hlt (hc.1 q))]
        simp
theorem ins_outer (K : List Int) (hK : K.length ≤ 500) (a b : Int) (P S : List Int) (ha : a = (P.length : Int)) : ∀ (Z Y : List Int) (i : Int), Srt K Y → Z.Pairwise (Tie K) → (∀ x ∈ Y, ∀ z ∈ Z, Tie K x z) → (∀ x ∈ Y, okx K x) → (∀ z ∈ Z, okx K z) → i = a + (Y.length : Int) → b = i + (Z.length : Int) → (P ++ Y ++ Z ++ S).length ≤ 1000000 →
    ∃ W, W.Perm (Y ++ Z) ∧ Srt K W ∧ ∃ k0, ∀ k, k0 ≤ k → slices_insertionSortCmpFunc_int.l0 k (P ++ Y ++ Z ++ S) a b K i = some (P ++ W ++ S)
  | [], Y, i, hs, _, _, _, _, hi, hb, hL => by
    refine ⟨Y, by simp, hs, 1, fun k hk => ?_⟩
    obtain ⟨k, rfl⟩ : ∃ m, k = m + 1 := ⟨k - 1, by omega⟩
    rw [slices_insertionSortCmpFunc_int.l0, if_neg (by simp at hb; omega)]; simp
  | y :: Z, Y, i, hs, hz, ht, hoY, hoZ, hi, hb, hL => by
    simp only [List.length_cons, List.length_append] at hb hL
    rw [List.pairwise_cons] at hz
    obtain ⟨W, p, s, t, h⟩ := ins_inner K hK a b i (Z ++ S) _ Y [] P y i rfl (by simpa using hs) (fun x q => ht x q y (by simp)) (fun x q => by cases q) hoY (hoZ y (by simp)) ha hi (by simp; omega)
    have wl := p.length_eq
    simp only [List.length_append, List.length_cons, List.length_nil] at wl
    have hm : ∀ z, z ∈ W ↔ z ∈ Y ∨ z = y := fun z => by rw [p.mem_iff]; simp
    obtain ⟨W2, p2, s2, k0, h0⟩ := ins_outer K hK a b P S ha Z W (i + 1) s hz.2 (fun x q z r => by
      rcases (hm x).1 q with q | rfl
      · exact ht x q z (by simp [r])
      · exact hz.1 z r) (fun x q => by
      rcases (hm x).1 q with q | rfl
      · exact hoY x q
      · exact hoZ _ (by simp)) (fun z q => hoZ z (by simp [q])) (by omega) (by omega) (by simp; omega)
    refine ⟨W2, p2.trans ?_, s2, k0 + t + 1, fun k hk => ?_⟩
    · have := List.Perm.append_right Z p
      simpa using this
    · obtain ⟨k, rfl⟩ : ∃ m, k = m + t + 1 := ⟨k - t - 1, by omega⟩
      have e : P ++ Y ++ y :: Z ++ S = P ++ Y ++ y :: ([] ++ (Z ++ S)) := by simp
      rw [slices_insertionSortCmpFunc_int.l0, if_pos (by omega), e, h k, show wrap64 (i + 1) = i + 1 from wrap_in (by omega) (by omega), ← List.append_assoc]
      exact h0 k (by omega)
/-- slices.insertionSort: a piece whose equal keys lie in the order of the places. -/
theorem insert_eq (K : List Int) (hK : K.length ≤ 500) (P X S : List Int) {a b : Int} (ha : a = (P.length : Int)) (hb : b = a + (X.length : Int)) (hx : X.Pairwise (Tie K)) (ho : ∀ x ∈ X, okx K x) (hL : (P ++ X ++ S).length ≤ 1000000) :
    ∃ W, W.Perm X ∧ Srt K W ∧ ∃ k0, ∀ k, k0 ≤ k → slices_insertionSortCmpFunc_int.f k (P ++ X ++ S) a b K = some (P ++ W ++ S) := by
  have hL2 := hL
  simp only [List.length_append] at hL2
  unfold slices_insertionSortCmpFunc_int.f
  rw [show wrap64 (a + 1) = a + 1 from wrap_in (by omega) (by omega)]
  cases X with
  | nil =>
    refine ⟨[], List.Perm.refl _, List.Pairwise.nil, 1, fun k hk => ?_⟩
    obtain ⟨k, rfl⟩ : ∃ m, k = m + 1 := ⟨k - 1, by omega⟩
    rw [slices_insertionSortCmpFunc_int.l0, if_neg (by simp at hb; omega)]
  | cons x X =>
    rw [List.pairwise_cons] at hx
    simp only [List.length_cons] at hb
    obtain ⟨W, p, s, k0, h⟩ := ins_outer K hK a b P S ha X [x] (a + 1) (List.pairwise_singleton _ _) hx.2 (fun y q z r => by rw [List.mem_singleton] at q; subst q; exact hx.1 z r) (fun y q => by rw [List.mem_singleton] at q; subst q; exact ho _ (by simp)) (fun z q => ho z (by simp [q])) (by simp) (by omega) (by simpa using hL)
    refine ⟨W, by simpa using p, s, k0, fun k hk => ?_⟩
    have := h k hk
    simpa using this
theorem half_eq {x : Int} (h0 : 0 ≤ x) (h1 : x ≤ 4000000) : wrap64 ((IntKind.u64.wrap (wrap64 x)) / 2) = x / 2 := by
  rw [show wrap64 x = x from wrap_in (by omega) (by omega), u64_in h0 (by omega)]
  exact wrap_in (by omega) (by omega)
/-- One element of a sorted piece: what lies ahead of it, what behind. -/
theorem srt_at {K V : List Int} (h : Srt K V) {q : Nat} (hq : q < V.length) : (∀ x ∈ V.take q, rk K x < rk K (V.getD q 0)) ∧ (∀ x ∈ V.drop (q + 1), rk K (V.getD q 0) < rk K x) ∧ V.take (q + 1) = V.take q ++ [V.getD q 0] ∧ V.drop q = V.getD q 0 :: V.drop (q + 1) := by
  have e := dropAt 0 V q hq
  have e2 : V = V.take q ++ (V.getD q 0 :: V.drop (q + 1)) := by rw [← e, List.take_append_drop]
  have h' := h
  rw [e2] at h'
  obtain ⟨_, h3, h4⟩ := srt_app.1 h'
  refine ⟨fun x hx => h4 x hx _ (by simp), (srt_cons.1 h3).1, ?_, e⟩
  rw [List.take_add_one, List.getD_eq_getElem?_getD, List.getElem?_eq_getElem hq]; rfl
theorem sym1_search (K : List Int) (hK : K.length ≤ 500) (P V S : List Int) (u : Int) (hs : Srt K V) (ht : ∀ x ∈ V, Tie K u x) (hu : okx K u) (ho : ∀ x ∈ V, okx K x) {a m : Int} (ha : a = (P.length : Int)) (hm : m = a + 1) (hL : (P ++ u :: (V ++ S)).length ≤ 1000000) :
    ∀ (d p q : Nat), q - p ≤ d → p ≤ q → q ≤ V.length → (∀ x ∈ V.take p, rk K x < rk K u) → (∀ x ∈ V.drop q, rk K u < rk K x) →
    ∃ t, t ≤ V.length ∧ (∀ x ∈ V.take t, rk K x < rk K u) ∧ (∀ x ∈ V.drop t, rk K u < rk K x) ∧ ∃ s, ∀ k, slices_symMergeCmpFunc_int.l0 (k + s) (P ++ u :: (V ++ S)) a K (m + (p : Int)) (m + (q : Int)) = slices_symMergeCmpFunc_int.l1 k (P ++ u :: (V ++ S)) (m + (t : Int)) a := by
  intro d
  have el : ((P ++ u :: (V ++ S)).length : Int) = (P.length : Int) + 1 + V.length + S.length := by simp; omega
  simp only [List.length_append, List.length_cons] at hL
  have done : ∀ p, p ≤ V.length → (∀ x ∈ V.take p, rk K x < rk K u) → (∀ x ∈ V.drop p, rk K u < rk K x) → ∃ t, t ≤ V.length ∧ (∀ x ∈ V.take t, rk K x < rk K u) ∧ (∀ x ∈ V.drop t, rk K u < rk K x) ∧ ∃ s, ∀ k, slices_symMergeCmpFunc_int.l0 (k + s) (P ++ u :: (V ++ S)) a K (m + (p : Int)) (m + (p : Int)) = slices_symMergeCmpFunc_int.l1 k (P ++ u :: (V ++ S)) (m + (t : Int)) a :=
    fun p hp h1 h2 => ⟨p, hp, h1, h2, 1, fun k => by rw [slices_symMergeCmpFunc_int.l0, if_neg (by omega)]⟩
  induction d with
  | zero =>
    intro p q hd hpq hq h1 h2
    obtain rfl : p = q := by omega
    exact done p hq h1 h2
  | succ d ih =>
    intro p q hd hpq hq h1 h2
    by_cases c : p = q
    · subst c; exact done p hq h1 h2
    · obtain ⟨x1, x2, x3, x4⟩ := srt_at hs (show (p + q) / 2 < V.length by omega)
      have hin := getDin (z := 0) (show (p + q) / 2 < V.length by omega)
      have eh : wrap64 ((IntKind.u64.wrap (wrap64 (m + (p : Int) + (m + (q : Int))))) / 2) = m + (((p + q) / 2 : Nat) : Int) := by
        rw [half_eq (by omega) (by omega)]; omega
      have r1 : rd (P ++ u :: (V ++ S)) (m + (((p + q) / 2 : Nat) : Int)) = V.getD ((p + q) / 2) 0 := by
        refine rdp (P := P ++ u :: V.take ((p + q) / 2)) (T := V.drop ((p + q) / 2 + 1) ++ S) ?_ ?_
        · rw [List.append_assoc, List.cons_append, ← List.cons_append (a := V.getD ((p + q) / 2) 0), ← x4, ← List.append_assoc (V.take _), List.take_append_drop]
        · rw [List.length_append, List.length_cons, List.length_take]; omega
      have r2 : rd (P ++ u :: (V ++ S)) a = u := rdp (P := P) (T := V ++ S) rfl ha
      obtain ⟨cc, e1, hc⟩ := cmp_back hK hu (ho _ hin) (ht _ hin)
      have step : ∀ k, slices_symMergeCmpFunc_int.l0 (k + 1) (P ++ u :: (V ++ S)) a K (m + (p : Int)) (m + (q : Int)) = if cc < 0 then slices_symMergeCmpFunc_int.l0 k (P ++ u :: (V ++ S)) a K (m + (((p + q) / 2 + 1 : Nat) : Int)) (m + (q : Int)) else slices_symMergeCmpFunc_int.l0 k (P ++ u :: (V ++ S)) a K (m + (p : Int)) (m + (((p + q) / 2 : Nat) : Int)) := by
        intro k
        rw [slices_symMergeCmpFunc_int.l0, if_pos (by omega), eh, el, if_pos (by omega), if_pos (by omega), if_pos (by omega), if_pos (by omega), r1, r2, e1, Option.bind_some,
          show wrap64 (m + (((p + q) / 2 : Nat) : Int) + 1) = m + (((p + q) / 2 + 1 : Nat) : Int) by rw [wrap_in (by omega) (by omega)]; omega]
      by_cases hlt : rk K (V.getD ((p + q) / 2) 0) < rk K u
      · obtain ⟨t, ht1, ht2, ht3, s, hs1⟩ := ih ((p + q) / 2 + 1) q (by omega) (by omega) hq (fun x hx => by
          rw [x3] at hx
          rcases List.mem_append.1 hx with hx | hx
          · have := x1 x hx; omega
          · rw [List.mem_singleton] at hx; subst hx; exact hlt) h2
        refine ⟨t, ht1, ht2, ht3, s + 1, fun k => ?_⟩
        rw [show k + (s + 1) = (k + s) + 1 from rfl, step, if_pos (hc.2 hlt)]
        exact hs1 k
      · have hgt := rk_not hK hu (ho _ hin) (ht _ hin) hlt
        obtain ⟨t, ht1, ht2, ht3, s, hs1⟩ := ih p ((p + q) / 2) (by omega) (by omega) (by omega) h1 (fun x hx => by
          rw [x4] at hx
          rcases List.mem_cons.1 hx with rfl | hx
          · exact hgt
          · have := x2 x hx; omega)
        refine ⟨t, ht1, ht2, ht3, s + 1, fun k => ?_⟩
        rw [show k + (s + 1) = (k + s) + 1 from rfl, step, if_neg (fun q => hlt (hc.1 q))]
        exact hs1 k
theorem sym1_move (K : List Int) (i : Int) (B : List Int) (u : Int) : ∀ (R P : List Int) (x : Int), x = (P.length : Int) → i - 1 = (P.length : Int) + (R.length : Int) → (P ++ u :: (R ++ B)).length ≤ 1000000 →
    ∃ k0, ∀ k, k0 ≤ k → slices_symMergeCmpFunc_int.l1 k (P ++ u :: (R ++ B)) i x = some (P ++ (R ++ u :: B))
  | [], P, x, hx, hi, hL => by
    refine ⟨1, fun k hk => ?_⟩
    obtain ⟨k, rfl⟩ : ∃ m, k = m + 1 := ⟨k - 1, by omega⟩
    simp only [List.length_append, List.length_cons, List.length_nil] at hi hL
    rw [slices_symMergeCmpFunc_int.l1, show wrap64 (i - 1) = i - 1 from wrap_in (by omega) (by omega), if_neg (by omega)]; rfl
  | v :: R, P, x, hx, hi, hL => by
    simp only [List.length_append, List.length_cons] at hi hL
    obtain ⟨k0, h⟩ := sym1_move K i B u R (P ++ [v]) (x + 1) (by simp; omega) (by simp; omega) (by simp; omega)
    refine ⟨k0 + 1, fun k hk => ?_⟩
    obtain ⟨k, rfl⟩ : ∃ m, k = m + 1 := ⟨k - 1, by omega⟩
    have e : P ++ u :: (v :: R ++ B) = P ++ u :: ([] ++ v :: (R ++ B)) := by simp
    have el : ((P ++ u :: ([] ++ v :: (R ++ B))).length : Int) = (P.length : Int) + 2 + R.length + B.length := by simp; omega
    have sw := swap2 P [] (R ++ B) u v (i := x) (j := x + 1) hx (by simp; omega)
    rw [slices_symMergeCmpFunc_int.l1, show wrap64 (i - 1) = i - 1 from wrap_in (by omega) (by omega), show wrap64 (x + 1) = x + 1 from wrap_in (by omega) (by omega), if_pos (by omega), e, el, if_pos (by omega), if_pos (by omega), if_pos (by omega), if_pos (by omega), sw]
    have := h k (by omega)
    simpa using this
theorem sym2_search (K : List Int) (hK : K.length ≤ 500) (P U S : List Int) (v : Int) (hs : Srt K U) (ht : ∀ x ∈ U, Tie K x v) (hv : okx K v) (ho : ∀ x ∈ U, okx K x) {a m : Int} (ha : a = (P.length : Int)) (hm : m = a + (U.length : Int)) (hL : (P ++ U ++ v :: S).length ≤ 1000000) :
    ∀ (d p q : Nat), q - p ≤ d → p ≤ q → q ≤ U.length → (∀ x ∈ U.take p, rk K x < rk K v) → (∀ x ∈ U.drop q, rk K v < rk K x) →
    ∃ t, t ≤ U.length ∧ (∀ x ∈ U.take t, rk K x < rk K v) ∧ (∀ x ∈ U.drop t, rk K v < rk K x) ∧ ∃ s, ∀ k, slices_symMergeCmpFunc_int.l2 (k + s) (P ++ U ++ v :: S) m K (a + (p : Int)) (a + (q : Int)) = slices_symMergeCmpFunc_int.l3 k (P ++ U ++ v :: S) (a + (t : Int)) m := by
  intro d
  have el : ((P ++ U ++ v :: S).length : Int) = (P.length : Int) + 1 + U.length + S.length := by simp; omega
  simp only [List.length_append, List.length_cons] at hL
  have done : ∀ p, p ≤ U.length → (∀ x ∈ U.take p, rk K x < rk K v) → (∀ x ∈ U.drop p, rk K v < rk K x) → ∃ t, t ≤ U.length ∧ (∀ x ∈ U.take t, rk K x < rk K v) ∧ (∀ x ∈ U.drop t, rk K v < rk K x) ∧ ∃ s, ∀ k, slices_symMergeCmpFunc_int.l2 (k + s) (P ++ U ++ v :: S) m K (a + (p : Int)) (a + (p : Int)) = slices_symMergeCmpFunc_int.l3 k (P ++ U ++ v :: S) (a + (t : Int)) m :=
    fun p hp h1 h2 => ⟨p, hp, h1, h2, 1, fun k => by rw [slices_symMergeCmpFunc_int.l2, if_neg (by omega)]⟩
  induction d with
  | zero =>
    intro p q hd hpq hq h1 h2
    obtain rfl : p = q := by omega
    exact done p hq h1 h2
  | succ d ih =>
    intro p q hd hpq hq h1 h2
    by_cases c : p = q
    · subst c; exact done p hq h1 h2
    · obtain ⟨x1, x2, x3, x4⟩ := srt_at hs (show (p + q) / 2 < U.length by omega)
      have hin := getDin (z := 0) (show (p + q) / 2 < U.length by omega)
      have eh : wrap64 ((IntKind.u64.wrap (wrap64 (a + (p : Int) + (a + (q : Int))))) / 2) = a + (((p + q) / 2 : Nat) : Int) := by
        rw [half_eq (by omega) (by omega)]; omega
      have r1 : rd (P ++ U ++ v :: S) (a + (((p + q) / 2 : Nat) : Int)) = U.getD ((p + q) / 2) 0 := by
        refine rdp (P := P ++ U.take ((p + q) / 2)) (T := U.drop ((p + q) / 2 + 1) ++ v :: S) ?_ ?_
        · rw [← List.cons_append, ← x4, List.append_assoc P U, List.append_assoc P (U.take _), ← List.append_assoc (U.take _), List.take_append_drop]
        · rw [List.length_append, List.length_take]; omega
      have r2 : rd (P ++ U ++ v :: S) m = v := rdp (P := P ++ U) (T := S) rfl (by simp; omega)
      obtain ⟨cc, e1, hc⟩ := cmp_back hK (ho _ hin) hv (ht _ hin)
      have step : ∀ k, slices_symMergeCmpFunc_int.l2 (k + 1) (P ++ U ++ v :: S) m K (a + (p : Int)) (a + (q : Int)) = if cc < 0 then slices_symMergeCmpFunc_int.l2 k (P ++ U ++ v :: S) m K (a + (p : Int)) (a + (((p + q) / 2 : Nat) : Int)) else slices_symMergeCmpFunc_int.l2 k (P ++ U ++ v :: S) m K (a + (((p + q) / 2 + 1 : Nat) : Int)) (a + (q : Int)) := by
        intro k
        rw [slices_symMergeCmpFunc_int.l2, if_pos (by omega), eh, el, if_pos (by omega), if_pos (by omega), if_pos (by omega), if_pos (by omega), r1, r2, e1, Option.bind_some,
          show wrap64 (a + (((p + q) / 2 : Nat) : Int) + 1) = a + (((p + q) / 2 + 1 : Nat) : Int) by rw [wrap_in (by omega) (by omega)]; omega]
      by_cases hlt : rk K v < rk K (U.getD ((p + q) / 2) 0)
      · obtain ⟨t, ht1, ht2, ht3, s, hs1⟩ := ih p ((p + q) / 2) (by omega) (by omega) (by omega) h1 (fun x hx => by
          rw [x4] at hx
          rcases List.mem_cons.1 hx with rfl | hx
          · exact hlt
          · have := x2 x hx; omega)
        refine ⟨t, ht1, ht2, ht3, s + 1, fun k => ?_⟩
        rw [show k + (s + 1) = (k + s) + 1 from rfl, step, if_pos (hc.2 hlt)]
        exact hs1 k
      · have hgt := rk_not hK (ho _ hin) hv (ht _ hin) hlt
        obtain ⟨t, ht1, ht2, ht3, s, hs1⟩ := ih ((p + q) / 2 + 1) q (by omega) (by omega) hq (fun x hx => by
          rw [x3] at hx
          rcases List.mem_append.1 hx with hx | hx
          · have := x1 x hx; omega
          · rw [List.mem_singleton] at hx; subst hx; exact hgt) h2
        refine ⟨t, ht1, ht2, ht3, s + 1, fun k => ?_⟩
        rw [show k + (s + 1) = (k + s) + 1 from rfl, step, if_neg (fun q => hlt (hc.1 q))]
        exact hs1 k
theorem sym2_move (i : Int) (v : Int) : ∀ (d : Nat) (R Q S : List Int) (x : Int), R.length = d → x = (Q.length : Int) + (R.length : Int) → i = (Q.length : Int) → (Q ++ R ++ v :: S).length ≤ 1000000 →
    ∃ k0, ∀ k, k0 ≤ k → slices_symMergeCmpFunc_int.l3 k (Q ++ R ++ v :: S) i x = some (Q ++ v :: (R ++ S)) := by
  intro d
  induction d with
  | zero =>
    intro R Q S x hd hx hi hL
    obtain rfl : R = [] := List.length_eq_zero_iff.1 hd
    refine ⟨1, fun k hk => ?_⟩
    obtain ⟨k, rfl⟩ : ∃ m, k = m + 1 := ⟨k - 1, by omega⟩
    simp only [List.length_nil] at hx
    rw [slices_symMergeCmpFunc_int.l3, if_neg (by omega)]; simp
  | succ d ih =>
    intro R Q S x hd hx hi hL
    obtain ⟨R, y, rfl⟩ : ∃ Y z, R = Y ++ [z] := by
      rcases List.eq_nil_or_concat R with h | ⟨Y, z, h⟩
      · rw [h] at hd; cases hd
      · exact ⟨Y, z, by simpa using h⟩
    simp only [List.length_append, List.length_cons, List.length_nil] at hd hx hL
    obtain ⟨k0, h⟩ := ih R Q (y :: S) (x - 1) (by omega) (by omega) hi (by simp; omega)
    refine ⟨k0 + 1, fun k hk => ?_⟩
    obtain ⟨k, rfl⟩ : ∃ m, k = m + 1 := ⟨k - 1, by omega⟩
    have e : Q ++ (R ++ [y]) ++ v :: S = (Q ++ R) ++ y :: ([] ++ v :: S) := by simp
    have el : (((Q ++ R) ++ y :: ([] ++ v :: S)).length : Int) = (Q.length : Int) + R.length + 2 + S.length := by simp; omega
    have sw := swap2' (Q ++ R) [] S y v (i := x - 1) (j := x) (by simp; omega) (by simp; omega)
    rw [slices_symMergeCmpFunc_int.l3, show wrap64 (x - 1) = x - 1 from wrap_in (by omega) (by omega), if_pos (by omega), e, el, if_pos (by omega), if_pos (by omega), if_pos (by omega), if_pos (by omega), sw]
    have := h k (by omega)
    simpa using this
theorem sym4_search (K : List Int) (hK : K.length ≤ 500) (P U V S : List Int) (ht : ∀ x ∈ U, ∀ y ∈ V, Tie K x y) (hoU : ∀ x ∈ U, okx K x) (hoV : ∀ x ∈ V, okx K x) {a m b mid n pp : Int} (w p0 q0 : Nat) (ha : a = (P.length : Int)) (hm : m = a + (U.length : Int)) (hpp : pp = a + m + (w : Int)) (hmid : mid = a + (w : Int) + 1) (hL : (P ++ U ++ (V ++ S)).length ≤ 1000000)
    (hw : ∀ c, p0 ≤ c → c < q0 → c < U.length ∧ c ≤ w ∧ w - c < V.length) :
    ∀ (d p q : Nat), q - p ≤ d → p0 ≤ p → p ≤ q → q ≤ q0 → (p0 < p → rk K (U.getD (p - 1) 0) < rk K (V.getD (w - (p - 1)) 0)) → (q < q0 → rk K (V.getD (w - q) 0) < rk K (U.getD q 0)) →
    ∃ t, p0 ≤ t ∧ t ≤ q0 ∧ (p0 < t → rk K (U.getD (t - 1) 0) < rk K (V.getD (w - (t - 1)) 0)) ∧ (t < q0 → rk K (V.getD (w - t) 0) < rk K (U.getD t 0)) ∧ ∃ s, ∀ k, slices_symMergeCmpFunc_int.l4 (k + s) (P ++ U ++ (V ++ S)) a m b K mid n (a + (p : Int)) (a + (q : Int)) pp = slices_symMergeCmpFunc_int.l4 (k + 1) (P ++ U ++ (V ++ S)) a m b K mid n (a + (t : Int)) (a + (t : Int)) pp := by
  intro d
  have el : ((P ++ U ++ (V ++ S)).length : Int) = (P.length : Int) + U.length + V.length + S.length := by simp; omega
  simp only [List.length_append] at hL
  induction d with
  | zero =>
    intro p q hd hp hpq hq h1 h2
    obtain rfl : p = q := by omega
    exact ⟨p, hp, hq, h1, h2, 1, fun k => rfl⟩
  | succ d ih =>
    intro p q hd hp hpq hq h1 h2
    by_cases c : p = q
    · subst c; exact ⟨p, hp, hq, h1, h2, 1, fun k => rfl⟩
    · obtain ⟨b1, b2, b3⟩ := hw ((p + q) / 2) (by omega) (by omega)
      have hinU := getDin (z := 0) b1
      have hinV := getDin (z := 0) b3
      have eh : wrap64 ((IntKind.u64.wrap (wrap64 (a + (p : Int) + (a + (q : Int))))) / 2) = a + (((p + q) / 2 : Nat) : Int) := by
        rw [half_eq (by omega) (by omega)]; omega
      have ep : wrap64 (pp - (a + (((p + q) / 2 : Nat) : Int))) = m + ((w - (p + q) / 2 : Nat) : Int) := by
        rw [wrap_in (by omega) (by omega)]; omega
      have r1 : rd (P ++ U ++ (V ++ S)) (a + (((p + q) / 2 : Nat) : Int)) = U.getD ((p + q) / 2) 0 := by
        refine rdp (P := P ++ U.take ((p + q) / 2)) (T := U.drop ((p + q) / 2 + 1) ++ (V ++ S)) ?_ ?_
        · rw [← List.cons_append, ← dropAt 0 U _ b1, List.append_assoc P U, List.append_assoc P (U.take _), ← List.append_assoc (U.take _), List.take_append_drop]
        · rw [List.length_append, List.length_take]; omega
      have r2 : rd (P ++ U ++ (V ++ S)) (m + ((w - (p + q) / 2 : Nat) : Int)) = V.getD (w - (p + q) / 2) 0 := by
        refine rdp (P := P ++ U ++ V.take (w - (p + q) / 2)) (T := V.drop (w - (p + q) / 2 + 1) ++ S) ?_ ?_
        · rw [← List.cons_append, ← dropAt 0 V _ b3, List.append_assoc (P ++ U) (V.take _), ← List.append_assoc (V.take _), List.take_append_drop]
        · rw [List.length_append, List.length_append, List.length_take]; omega
      obtain ⟨cc, e1, hc⟩ := cmp_back hK (hoU _ hinU) (hoV _ hinV) (ht _ hinU _ hinV)
      have step : ∀ k, slices_symMergeCmpFunc_int.l4 (k + 1) (P ++ U ++ (V ++ S)) a m b K mid n (a + (p : Int)) (a + (q : Int)) pp = if cc < 0 then slices_symMergeCmpFunc_int.l4 k (P ++ U ++ (V ++ S)) a m b K mid n (a + (p : Int)) (a + (((p + q) / 2 : Nat) : Int)) pp else slices_symMergeCmpFunc_int.l4 k (P ++ U ++ (V ++ S)) a m b K mid n (a + (((p + q) / 2 + 1 : Nat) : Int)) (a + (q : Int)) pp := by
        intro k
        rw [slices_symMergeCmpFunc_int.l4, if_pos (by omega), eh, ep, el, if_pos (by omega), if_pos (by omega), if_pos (by omega), if_pos (by omega), r1, r2, e1, Option.bind_some,
          show wrap64 (a + (((p + q) / 2 : Nat) : Int) + 1) = a + (((p + q) / 2 + 1 : Nat) : Int) by rw [wrap_in (by omega) (by omega)]; omega]
      by_cases hlt : rk K (V.getD (w - (p + q) / 2) 0) < rk K (U.getD ((p + q) / 2) 0)
      · obtain ⟨t, t1, t2, t3, t4, s, hs1⟩ := ih p ((p + q) / 2) (by omega) hp (by omega) (by omega) h1 (fun _ => hlt)
        refine ⟨t, t1, t2, t3, t4, s + 1, fun k => ?_⟩
        rw [show k + (s + 1) = (k + s) + 1 from rfl, step, if_pos (hc.2 hlt)]
        exact hs1 k
      · have hgt := rk_not hK (hoU _ hinU) (hoV _ hinV) (ht _ hinU _ hinV) hlt
        obtain ⟨t, t1, t2, t3, t4, s, hs1⟩ := ih ((p + q) / 2 + 1) q (by omega) (by omega) (by omega) hq (fun _ => by simpa using hgt) h2
        refine ⟨t, t1, t2, t3, t4, s + 1, fun k => ?_⟩
        rw [show k + (s + 1) = (k + s) + 1 from rfl, step, if_neg (fun q => hlt (hc.1 q))]
        exact hs1 k
theorem srt_take {K V : List Int} (h : Srt K V) (e : Nat) : Srt K (V.take e) := h.sublist (List.take_sublist _ _)
theorem srt_drop {K V : List Int} (h : Srt K V) (e : Nat) : Srt K (V.drop e) := h.sublist (List.drop_sublist _ _)
/-- Two pieces: where the last of the one's head lies below the first of the other's tail, all do. -/
theorem srt_cross {K U V : List Int} (hU : Srt K U) (hV : Srt K V) (p e : Nat) (h : 0 < e → p < U.length → e ≤ V.length → rk K (V.getD (e - 1) 0) < rk K (U.getD p 0)) (he : e ≤ V.length) : ∀ x ∈ V.take e, ∀ y ∈ U.drop p, rk K x < rk K y := by
  intro x hx y hy
  by_cases c : p < U.length
  · by_cases c2 : 0 < e
    · have h1 := h c2 c he
      obtain ⟨x1, _, x3, _⟩ := srt_at hV (show e - 1 < V.length by omega)
      obtain ⟨_, y2, _, y4⟩ := srt_at hU c
      rw [show e - 1 + 1 = e by omega] at x3
      rw [x3] at hx
      rw [y4] at hy
      have hx' : rk K x ≤ rk K (V.getD (e - 1) 0) := by
        rcases List.mem_append.1 hx with q | q
        · have := x1 x q; omega
        · rw [List.mem_singleton] at q; subst q; omega
      have hy' : rk K (U.getD p 0) ≤ rk K y := by
        rcases List.mem_cons.1 hy with rfl | q
        · omega
        · have := y2 y q; omega
      omega
    · obtain rfl : e = 0 := by omega
      cases hx
  · rw [List.drop_eq_nil_of_le (by omega)] at hy; cases hy
set_option maxHeartbeats 8000000 in
theorem sym_ok (K : List Int) (hK : K.length ≤ 500) : ∀ (d : Nat) (U V P S : List Int) (a m b : Int), U.length + V.length ≤ d → 1 ≤ U.length → 1 ≤ V.length → a = (P.length : Int) → m = a + (U.length : Int) → b = m + (V.length : Int) → Srt K U → Srt K V → (∀ x ∈ U, ∀ y ∈ V, Tie K x y) → (∀ x ∈ U, okx K x) → (∀ x ∈ V, okx K x) → (P ++ U ++ (V ++ S)).length ≤ 1000000 →
    ∃ W, W.Perm (U ++ V) ∧ Srt K W ∧ ∃ k0, ∀ k, k0 ≤ k → slices_symMergeCmpFunc_int.f k (P ++ U ++ (V ++ S)) a m b K = some (P ++ (W ++ S)) := by
  intro d
  induction d with
  | zero => intro U V P S a m b hd h1; omega
  | succ d ih =>
    intro U V P S a m b hd hU1 hV1 ha hm hb hU hV ht hoU hoV hL
    have hL0 := hL
    simp only [List.length_append] at hL0
    have w1 : wrap64 (m - a) = m - a := wrap_in (by omega) (by omega)
    have w2 : wrap64 (b - m) = b - m := wrap_in (by omega) (by omega)
    by_cases c1 : U.length = 1
    · obtain ⟨u, rfl⟩ : ∃ u, U = [u] := List.length_eq_one_iff.1 c1
      have e : P ++ [u] ++ (V ++ S) = P ++ u :: (V ++ S) := by simp
      rw [e] at hL ⊢
      obtain ⟨t, t1, t2, t3, s, hs⟩ := sym1_search K hK P V S u hV (fun x hx => ht u (by simp) x hx) (hoU u (by simp)) hoV ha (by simp at hm; omega) hL _ 0 V.length (Nat.le_refl _) (Nat.zero_le _) (Nat.le_refl _) (by simp) (by simp)
      have e2 : P ++ u :: (V ++ S) = P ++ u :: (V.take t ++ (V.drop t ++ S)) := by rw [← List.append_assoc (V.take t), List.take_append_drop]
      simp only [List.length_cons, List.length_nil] at hm
      obtain ⟨k0, h0⟩ := sym1_move K (m + (t : Int)) (V.drop t ++ S) u (V.take t) P a ha (by rw [List.length_take]; omega) (by rw [← e2]; exact hL)
      refine ⟨V.take t ++ u :: V.drop t, ?_, ?_, k0 + s + 1, fun k hk => ?_⟩
      · refine List.perm_middle.trans ?_
        rw [List.take_append_drop]; simp
      · rw [srt_app]
        refine ⟨srt_take hV t, srt_cons.2 ⟨t3, srt_drop hV t⟩, fun x hx y hy => ?_⟩
        have hx1 := t2 x hx
        rcases List.mem_cons.1 hy with rfl | hy
        · exact hx1
        · have := t3 y hy; omega
      · obtain ⟨k, rfl⟩ : ∃ m, k = m + s + 1 := ⟨k - s - 1, by omega⟩
        rw [slices_symMergeCmpFunc_int.f, if_pos (by omega)]
        have h2 := hs k
        rw [show m + ((0 : Nat) : Int) = m by omega, show m + (V.length : Int) = b by omega] at h2
        rw [h2, e2, h0 k (by omega)]
        simp
    by_cases c2 : V.length = 1
    · obtain ⟨v, rfl⟩ : ∃ u, V = [u] := List.length_eq_one_iff.1 c2
      have e : P ++ U ++ ([v] ++ S) = P ++ U ++ v :: S := by simp
      rw [e] at hL ⊢
      obtain ⟨t, t1, t2, t3, s, hs⟩ := sym2_search K hK P U S v hU (fun x hx => ht x hx v (by simp)) (hoV v (by simp)) hoU ha hm hL _ 0 U.length (Nat.le_refl _) (Nat.zero_le _) (Nat.le_refl _) (by simp) (by simp)
      have e2 : P ++ U ++ v :: S = (P ++ U.take t) ++ U.drop t ++ v :: S := by rw [List.append_assoc P (U.take t), List.take_append_drop]
      obtain ⟨k0, h0⟩ := sym2_move (a + (t : Int)) v _ (U.drop t) (P ++ U.take t) S m rfl (by rw [List.length_append, List.length_take, List.length_drop]; omega) (by rw [List.length_append, List.length_take]; omega) (by rw [← e2]; exact hL)
      refine ⟨U.take t ++ v :: U.drop t, ?_, ?_, k0 + s + 1, fun k hk => ?_⟩
      · refine List.perm_middle.trans ?_
        rw [List.take_append_drop]; exact (List.perm_append_singleton v U).symm
      · rw [srt_app]
        refine ⟨srt_take hU t, srt_cons.2 ⟨t3, srt_drop hU t⟩, fun x hx y hy => ?_⟩
        have hx1 := t2 x hx
        rcases List.mem_cons.1 hy with rfl | hy
        · exact hx1
        · have := t3 y hy; omega
      · obtain ⟨k, rfl⟩ : ∃ m, k = m + s + 1 := ⟨k - s - 1, by omega⟩
        simp only [List.length_cons, List.length_nil] at hb
        rw [slices_symMergeCmpFunc_int.f, if_neg (by omega), if_pos (by omega)]
        have h2 := hs k
        rw [show a + ((0 : Nat) : Int) = a by omega, show a + (U.length : Int) = m by omega] at h2
        rw [h2, e2, h0 k (by omega)]
        simp
    obtain ⟨h, hh⟩ : ∃ h, h = (U.length + V.length) / 2 := ⟨_, rfl⟩
    obtain ⟨w, hw⟩ : ∃ w, w = h - 1 := ⟨_, rfl⟩
    have emid : wrap64 ((IntKind.u64.wrap (wrap64 (a + b))) / 2) = a + (h : Int) := by rw [half_eq (by omega) (by omega)]; omega
    have en : wrap64 (a + (h : Int) + m) = a + (h : Int) + m := wrap_in (by omega) (by omega)
    have ep : wrap64 (a + (h : Int) + m - 1) = a + m + (w : Int) := by rw [wrap_in (by omega) (by omega)]; omega
    obtain ⟨p0, q0, hp0, hf⟩ : ∃ p0 q0 : Nat, (U.length > h ∧ p0 = h - V.length ∧ q0 = h ∨ ¬ U.length > h ∧ p0 = 0 ∧ q0 = U.length) ∧ ∀ k, slices_symMergeCmpFunc_int.f (k + 2) (P ++ U ++ (V ++ S)) a m b K = slices_symMergeCmpFunc_int.l4 k (P ++ U ++ (V ++ S)) a m b K (a + (h : Int)) (a + (h : Int) + m) (a + (p0 : Int)) (a + (q0 : Int)) (a + m + (w : Int)) := by
      by_cases c : U.length > h
      · refine ⟨h - V.length, h, .inl ⟨c, rfl, rfl⟩, fun k => ?_⟩
        rw [slices_symMergeCmpFunc_int.f, if_neg (by omega), if_neg (by omega), emid, if_pos (by omega), en, slices_symMergeCmpFunc_int.j4, ep, show wrap64 (a + (h : Int) + m - b) = a + ((h - V.length : Nat) : Int) by rw [wrap_in (by omega) (by omega)]; omega]
      · refine ⟨0, U.length, .inr ⟨c, rfl, rfl⟩, fun k => ?_⟩
        rw [slices_symMergeCmpFunc_int.f, if_neg (by omega), if_neg (by omega), emid, if_neg (by omega), en, slices_symMergeCmpFunc_int.j4, ep, show a + ((0 : Nat) : Int) = a by omega, ← hm]
    obtain ⟨t, t1, t2, t3, t4, s, hs⟩ := sym4_search K hK P U V S ht hoU hoV (b := b) (mid := a + (h : Int)) (n := a + (h : Int) + m) (pp := a + m + (w : Int)) w p0 q0 ha hm rfl (by omega) hL (fun c q1 q2 => by omega) _ p0 q0 (Nat.le_refl _) (Nat.le_refl _) (by omega) (Nat.le_refl _) (fun q => by omega) (fun q => by omega)
    obtain ⟨e, he⟩ : ∃ e, e = h - t := ⟨_, rfl⟩
    have heV : e ≤ V.length := by omega
    have htU : t ≤ U.length := by omega
    have x1 := srt_cross hU hV t e (fun q1 q2 _ => by have := t4 (by omega); rwa [show w - t = e - 1 by omega] at this) heV
    have x2 := srt_cross hV hU e t (fun q1 q2 _ => by have := t3 (by omega); rwa [show w - (t - 1) = e by omega] at this) htU
    have lU1 : (U.take t).length = t := by rw [List.length_take]; omega
    have lV1 : (V.take e).length = e := by rw [List.length_take]; omega
    have lU2 : (U.drop t).length = U.length - t := List.length_drop
    have lV2 : (V.drop e).length = V.length - e := List.length_drop
    have eU := List.take_append_drop t U
    have eV := List.take_append_drop e V
    have sU1 := srt_take hU t
    have sU2 := srt_drop hU t
    have sV1 := srt_take hV e
    have sV2 := srt_drop hV e
    have hUU := (srt_app.1 (by rw [eU]; exact hU : Srt K (U.take t ++ U.drop t))).2.2
    have hVV := (srt_app.1 (by rw [eV]; exact hV : Srt K (V.take e ++ V.drop e))).2.2
    have mU1 : ∀ x ∈ U.take t, x ∈ U := fun x q => List.mem_of_mem_take q
    have mU2 : ∀ x ∈ U.drop t, x ∈ U := fun x q => List.mem_of_mem_drop q
    have mV1 : ∀ x ∈ V.take e, x ∈ V := fun x q => List.mem_of_mem_take q
    have mV2 : ∀ x ∈ V.drop e, x ∈ V := fun x q => List.mem_of_mem_drop q
    have hperm : (U.take t ++ V.take e ++ (U.drop t ++ V.drop e)).Perm (U ++ V) := by
      conv => rhs; rw [← eU, ← eV]
      rw [List.append_assoc, List.append_assoc]
      refine List.Perm.append_left _ ?_
      rw [← List.append_assoc, ← List.append_assoc]
      exact List.Perm.append_right _ List.perm_append_comm
    have eend : wrap64 (a + (h : Int) + m - (a + (t : Int))) = m + (e : Int) := by rw [wrap_in (by omega) (by omega)]; omega
    -- the list, its four pieces named
    have eL : P ++ U ++ (V ++ S) = (P ++ U.take t) ++ U.drop t ++ V.take e ++ (V.drop e ++ S) := by
      conv => lhs; rw [← eU, ← eV]
      simp only [List.append_assoc]
    clear hU hV
    generalize hA : U.take t = U1 at *
    generalize hB : U.drop t = U2 at *
    generalize hC : V.take e = V1 at *
    generalize hD : V.drop e = V2 at *
    clear hA hB hC hD
    have hrot : ∃ k1, ∀ k, k1 ≤ k → slices_symMergeCmpFunc_int.l4 (k + 2) (P ++ U ++ (V ++ S)) a m b K (a + (h : Int)) (a + (h : Int) + m) (a + (t : Int)) (a + (t : Int)) (a + m + (w : Int)) = slices_symMergeCmpFunc_int.j7 k (P ++ U1 ++ (V1 ++ (U2 ++ (V2 ++ S)))) a b K (a + (h : Int)) (a + (t : Int)) (m + (e : Int)) := by
      by_cases cc : t < U.length ∧ 0 < e
      · obtain ⟨k1, h1⟩ := rotate_eq K U2 V1 (P ++ U1) (V2 ++ S) (a := a + (t : Int)) (m := m) (b := m + (e : Int)) (by rw [List.length_append]; omega) (by omega) (by omega) (by omega) (by omega) (by rw [← eL]; exact hL)
        refine ⟨k1, fun k hk => ?_⟩
        rw [slices_symMergeCmpFunc_int.l4, if_neg (by omega), eend, if_pos (by omega), decide_eq_true (by omega), slices_symMergeCmpFunc_int.j6, if_pos rfl, eL, h1 k hk, Option.bind_some]
        simp only [List.append_assoc]
      · have e0 : P ++ U ++ (V ++ S) = P ++ U1 ++ (V1 ++ (U2 ++ (V2 ++ S))) := by
          rw [eL]
          by_cases c0 : t < U.length
          · obtain rfl : V1 = [] := List.length_eq_zero_iff.1 (by omega)
            simp only [List.append_assoc, List.nil_append]
          · obtain rfl : U2 = [] := List.length_eq_zero_iff.1 (by omega)
            simp only [List.append_assoc, List.nil_append]
        refine ⟨0, fun k hk => ?_⟩
        rw [slices_symMergeCmpFunc_int.l4, if_neg (by omega), eend, e0]
        by_cases c0 : t < U.length
        · rw [if_pos (by omega), decide_eq_false (by omega), slices_symMergeCmpFunc_int.j6, if_neg (by decide)]
        · rw [if_neg (by omega), slices_symMergeCmpFunc_int.j6, if_neg (by decide)]
    obtain ⟨k1, h1⟩ := hrot
    -- the first half
    have hW1 : ∃ W1, W1.Perm (U1 ++ V1) ∧ Srt K W1 ∧ ∃ k2, ∀ k, k2 ≤ k → slices_symMergeCmpFunc_int.j7 (k + 2) (P ++ U1 ++ (V1 ++ (U2 ++ (V2 ++ S)))) a b K (a + (h : Int)) (a + (t : Int)) (m + (e : Int)) =
        (if a + (h : Int) < m + (e : Int) then (if m + (e : Int) < b then ((slices_symMergeCmpFunc_int.f k (P ++ (W1 ++ (U2 ++ (V2 ++ S)))) (a + (h : Int)) (m + (e : Int)) b K).bind fun t280 => some t280) else some (P ++ (W1 ++ (U2 ++ (V2 ++ S))))) else some (P ++ (W1 ++ (U2 ++ (V2 ++ S))))) := by
      by_cases cc : 0 < t ∧ 0 < e
      · obtain ⟨W1, pm, sr, k2, h2⟩ := ih U1 V1 P (U2 ++ (V2 ++ S)) a (a + (t : Int)) (a + (h : Int)) (by omega) (by omega) (by omega) ha (by omega) (by omega) sU1 sV1 (fun x q y r => ht x (mU1 x q) y (mV1 y r)) (fun x q => hoU x (mU1 x q)) (fun x q => hoV x (mV1 x q)) (by simp only [List.length_append]; omega)
        refine ⟨W1, pm, sr, k2, fun k hk => ?_⟩
        rw [slices_symMergeCmpFunc_int.j7, if_pos (by omega), decide_eq_true (by omega), slices_symMergeCmpFunc_int.j8, if_pos rfl, h2 k hk, Option.bind_some]
      · refine ⟨U1 ++ V1, List.Perm.refl _, ?_, 0, fun k _ => ?_⟩
        · by_cases c0 : 0 < t
          · obtain rfl : V1 = [] := List.length_eq_zero_iff.1 (by omega)
            rw [List.append_nil]; exact sU1
          · obtain rfl : U1 = [] := List.length_eq_zero_iff.1 (by omega)
            rw [List.nil_append]; exact sV1
        · have e0 : P ++ U1 ++ (V1 ++ (U2 ++ (V2 ++ S))) = P ++ (U1 ++ V1 ++ (U2 ++ (V2 ++ S))) := by simp only [List.append_assoc]
          rw [e0]
          by_cases c0 : 0 < t
          · rw [slices_symMergeCmpFunc_int.j7, if_pos (by omega), decide_eq_false (by omega), slices_symMergeCmpFunc_int.j8, if_neg (by decide)]
          · rw [slices_symMergeCmpFunc_int.j7, if_neg (by omega), slices_symMergeCmpFunc_int.j8, if_neg (by decide)]
    obtain ⟨W1, pm1, sr1, k2, h2⟩ := hW1
    have lW1 := pm1.length_eq
    rw [List.length_append] at lW1
    have hW2 : ∃ W2, W2.Perm (U2 ++ V2) ∧ Srt K W2 ∧ ∃ k3, ∀ k, k3 ≤ k → (if a + (h : Int) < m + (e : Int) then (if m + (e : Int) < b then ((slices_symMergeCmpFunc_int.f k (P ++ (W1 ++ (U2 ++ (V2 ++ S)))) (a + (h : Int)) (m + (e : Int)) b K).bind fun t280 => some t280) else some (P ++ (W1 ++ (U2 ++ (V2 ++ S))))) else some (P ++ (W1 ++ (U2 ++ (V2 ++ S))))) = some (P ++ (W1 ++ (W2 ++ S))) := by
      by_cases cc : t < U.length ∧ e < V.length
      · obtain ⟨W2, pm, sr, k3, h3⟩ := ih U2 V2 (P ++ W1) S (a + (h : Int)) (m + (e : Int)) b (by omega) (by omega) (by omega) (by rw [List.length_append]; omega) (by omega) (by omega) sU2 sV2 (fun x q y r => ht x (mU2 x q) y (mV2 y r)) (fun x q => hoU x (mU2 x q)) (fun x q => hoV x (mV2 x q)) (by simp only [List.length_append]; omega)
        refine ⟨W2, pm, sr, k3, fun k hk => ?_⟩
        have e0 : P ++ (W1 ++ (U2 ++ (V2 ++ S))) = P ++ W1 ++ U2 ++ (V2 ++ S) := by simp only [List.append_assoc]
        rw [if_pos (by omega), if_pos (by omega), e0, h3 k hk, Option.bind_some, List.append_assoc]
      · refine ⟨U2 ++ V2, List.Perm.refl _, ?_, 0, fun k _ => ?_⟩
        · by_cases c0 : t < U.length
          · obtain rfl : V2 = [] := List.length_eq_zero_iff.1 (by omega)
            rw [List.append_nil]; exact sU2
          · obtain rfl : U2 = [] := List.length_eq_zero_iff.1 (by omega)
            rw [List.nil_append]; exact sV2
        · have e0 : P ++ (W1 ++ (U2 ++ (V2 ++ S))) = P ++ (W1 ++ (U2 ++ V2 ++ S)) := by simp only [List.append_assoc]
          rw [e0]
          by_cases c0 : t < U.length
          · rw [if_pos (by omega), if_neg (by omega)]
          · rw [if_neg (by omega)]
    obtain ⟨W2, pm2, sr2, k3, h3⟩ := hW2
    refine ⟨W1 ++ W2, (pm1.append pm2).trans hperm, srt_app.2 ⟨sr1, sr2, fun x hx y hy => ?_⟩, k1 + k2 + k3 + s + 10, fun k hk => ?_⟩
    · rw [pm1.mem_iff, List.mem_append] at hx
      rw [pm2.mem_iff, List.mem_append] at hy
      rcases hx with hx | hx <;> rcases hy with hy | hy
      · exact hUU x hx y hy
      · exact x2 x hx y hy
      · exact x1 x hx y hy
      · exact hVV x hx y hy
    · obtain ⟨k, rfl⟩ : ∃ q, k = (q + 3) + s + 2 := ⟨k - s - 5, by omega⟩
      rw [hf, hs (k + 3), show k + 3 + 1 = (k + 2) + 2 from rfl, h1 (k + 2) (by omega), h2 k (by omega), h3 k (by omega), List.append_assoc]

def iota : Nat → Nat → List Int
  | _, 0 => []
  | o, n + 1 => (o : Int) :: iota (o + 1) n
theorem iota_len : ∀ (n o : Nat), (iota o n).length = n
  | 0, o => rfl
  | n + 1, o => by simp only [iota, List.length_cons, iota_len n (o + 1)]
theorem iota_mem : ∀ (n o : Nat) (x : Int), x ∈ iota o n ↔ (o : Int) ≤ x ∧ x < (o : Int) + (n : Int)
  | 0, o, x => by simp only [iota, List.not_mem_nil, false_iff]; omega
  | n + 1, o, x => by
    simp only [iota, List.mem_cons, iota_mem n (o + 1) x]; omega
theorem iota_app : ∀ (m n o : Nat), iota o (m + n) = iota o m ++ iota (o + m) n
  | 0, n, o => by simp [iota]
  | m + 1, n, o => by
    rw [show m + 1 + n = (m + n) + 1 by omega]
    simp only [iota, List.cons_append, iota_app m n (o + 1), show o + 1 + m = o + (m + 1) by omega]
theorem iota_up : ∀ (n o : Nat), (iota o n).Pairwise (fun x y => x < y)
  | 0, o => List.Pairwise.nil
  | n + 1, o => by
    simp only [iota]
    exact List.pairwise_cons.2 ⟨fun y hy => by rw [iota_mem] at hy; omega, iota_up n (o + 1)⟩
theorem iota_ok {K : List Int} {o n : Nat} (h : o + n ≤ K.length) {c : List Int} (pc : c.Perm (iota o n)) : ∀ x ∈ c, okx K x := fun x hx => by
  rw [pc.mem_iff, iota_mem] at hx
  exact ⟨by omega, by omega⟩
/-- A row of sorted blocks (the last one may be shorter): block by block the places from o on. -/
def Blk (K : List Int) (bs : Nat) : Nat → Nat → List Int → Prop
  | 0, o, L => Srt K L ∧ L.length ≤ bs ∧ L.Perm (iota o L.length)
  | f + 1, o, L => ∃ c R, L = c ++ R ∧ c.length = bs ∧ Srt K c ∧ c.Perm (iota o bs) ∧ Blk K bs f (o + bs) R
theorem st_ins (K : List Int) (hK : K.length ≤ 500) : ∀ (d len : Nat) (D : List Int) (a : Nat), len ≤ d → D.length = a → a + len = K.length →
    ∃ f R, R.length = len ∧ Blk K 20 f a R ∧ ∃ t k0, ∀ k, k0 ≤ k → slices_stableCmpFunc_int.l0 (k + t) (D ++ iota a len) (K.length : Int) K 20 (a : Int) ((a : Int) + 20) = slices_stableCmpFunc_int.l1 k (D ++ R) (K.length : Int) K 20 := by
  intro d
  induction d with
  | zero =>
    intro len D a hd hD hn
    obtain rfl : len = 0 := by omega
    obtain ⟨W, pm, sr, k0, h0⟩ := insert_eq K hK D [] [] (a := (a : Int)) (b := (K.length : Int)) (by omega) (by simp; omega) List.Pairwise.nil (fun x q => by cases q) (by simp; omega)
    obtain rfl : W = [] := List.length_eq_zero_iff.1 (by rw [pm.length_eq]; rfl)
    refine ⟨0, [], rfl, ⟨sr, by simp, List.Perm.refl _⟩, 1, k0, fun k hk => ?_⟩
    rw [slices_stableCmpFunc_int.l0, if_neg (by omega)]
    have := h0 k hk
    simp only [List.append_nil] at this
    simp only [iota, List.append_nil]
    rw [this, Option.bind_some]
  | succ d ih =>
    intro len D a hd hD hn
    have tie : ∀ n, (iota a n).Pairwise (Tie K) := fun n => (iota_up n a).imp (fun {x y} (h : x < y) => (fun _ => h : Tie K x y))
    by_cases c : 20 ≤ len
    · have e : iota a len = iota a 20 ++ iota (a + 20) (len - 20) := by rw [← iota_app]; congr 1; omega
      obtain ⟨W, pm, sr, k0, h0⟩ := insert_eq K hK D (iota a 20) (iota (a + 20) (len - 20)) (a := (a : Int)) (b := (a : Int) + 20) (by omega) (by rw [iota_len]; rfl) (tie 20) (iota_ok (o := a) (n := 20) (by omega) (List.Perm.refl _)) (by simp only [List.length_append, iota_len]; omega)
      have lW := pm.length_eq
      rw [iota_len] at lW
      obtain ⟨f, R, lR, bR, t, k1, h1⟩ := ih (len - 20) (D ++ W) (a + 20) (by omega) (by rw [List.length_append]; omega) (by omega)
      refine ⟨f + 1, W ++ R, by rw [List.length_append]; omega, ⟨W, R, rfl, lW, sr, pm, bR⟩, t + 1, k0 + k1, fun k hk => ?_⟩
      rw [show k + (t + 1) = (k + t) + 1 from rfl, slices_stableCmpFunc_int.l0, if_pos (by omega), e, ← List.append_assoc, h0 (k + t) (by omega), Option.bind_some, show wrap64 ((a : Int) + 20 + 20) = ((a + 20 : Nat) : Int) + 20 by rw [wrap_in (by omega) (by omega)]; omega]
      have := h1 k (by omega)
      rw [← List.append_assoc D W R, show ((a : Int) + 20) = ((a + 20 : Nat) : Int) by omega]
      exact this
    · obtain ⟨W, pm, sr, k0, h0⟩ := insert_eq K hK D (iota a len) [] (a := (a : Int)) (b := (K.length : Int)) (by omega) (by rw [iota_len]; omega) (tie len) (iota_ok (o := a) (n := len) (by omega) (List.Perm.refl _)) (by simp only [List.length_append, iota_len]; simp; omega)
      have lW := pm.length_eq
      rw [iota_len] at lW
      refine ⟨0, W, lW, ⟨sr, by omega, by rw [lW]; exact pm⟩, 1, k0, fun k hk => ?_⟩
      rw [slices_stableCmpFunc_int.l0, if_neg (by omega)]
      have := h0 k hk
      simp only [List.append_nil] at this
      rw [this, Option.bind_some]
theorem tie_of {K : List Int} {o n o' n' : Nat} {c c' : List Int} (h : o + n ≤ o') (pc : c.Perm (iota o n)) (pc' : c'.Perm (iota o' n')) : ∀ x ∈ c, ∀ y ∈ c', Tie K x y := fun x hx y hy _ => by
  rw [pc.mem_iff, iota_mem] at hx
  rw [pc'.mem_iff, iota_mem] at hy
  omega
theorem perm_iota {o m n : Nat} {W c c' : List Int} (h : W.Perm (c ++ c')) (pc : c.Perm (iota o m)) (pc' : c'.Perm (iota (o + m) n)) : W.Perm (iota o (m + n)) := by
  rw [iota_app]; exact h.trans (pc.append pc')
/-- One round of merges: blocks of bs become blocks of 2 bs. -/
theorem st_merge (K : List Int) (hK : K.length ≤ 500) (bs : Nat) (h1 : 1 ≤ bs) (h5 : bs ≤ 500) : ∀ (d f : Nat) (L D : List Int) (a : Nat), L.length ≤ d → Blk K bs f a L → D.length = a → a + L.length = K.length →
    ∃ f' R, R.length = L.length ∧ Blk K (2 * bs) f' a R ∧ ∃ t k0, ∀ k, k0 ≤ k → slices_stableCmpFunc_int.l2 (k + t) (D ++ L) (K.length : Int) K (bs : Int) (a : Int) ((a : Int) + 2 * (bs : Int)) = slices_stableCmpFunc_int.l1 k (D ++ R) (K.length : Int) K ((2 * bs : Nat) : Int) := by
  have wm : wrap64 ((bs : Int) * 2) = ((2 * bs : Nat) : Int) := by rw [wrap_in (by omega) (by omega)]; omega
  intro d
  induction d with
  | zero =>
    intro f L D a hd hB hD hn
    obtain rfl : L = [] := List.length_eq_zero_iff.1 (by omega)
    refine ⟨0, [], rfl, ⟨List.Pairwise.nil, by simp, List.Perm.refl _⟩, 1, 0, fun k _ => ?_⟩
    simp only [List.length_nil] at hn
    rw [slices_stableCmpFunc_int.l2, if_neg (by omega), show wrap64 ((a : Int) + (bs : Int)) = (a : Int) + (bs : Int) from wrap_in (by omega) (by omega), if_neg (by omega), wm]
  | succ d ih =>
    intro f L D a hd hB hD hn
    have w1 : wrap64 ((a : Int) + (bs : Int)) = (a : Int) + (bs : Int) := wrap_in (by omega) (by omega)
    have w2 : wrap64 (2 * (bs : Int)) = 2 * (bs : Int) := wrap_in (by omega) (by omega)
    have w3 : wrap64 ((a : Int) + 2 * (bs : Int) + 2 * (bs : Int)) = ((a + 2 * bs : Nat) : Int) + 2 * (bs : Int) := by rw [wrap_in (by omega) (by omega)]; omega
    match f, hB with
    | 0, hB =>
      obtain ⟨b1, b2, b3⟩ := hB
      refine ⟨0, L, rfl, ⟨b1, by omega, b3⟩, 1, 0, fun k _ => ?_⟩
      rw [slices_stableCmpFunc_int.l2, if_neg (by omega), w1, if_neg (by omega), wm]
    | 1, hB =>
      obtain ⟨c, R, rfl, lc, sc, pc, b1, b2, b3⟩ := hB
      rw [List.length_append] at hn hd
      by_cases c0 : R.length = 0
      · obtain rfl : R = [] := List.length_eq_zero_iff.1 c0
        refine ⟨0, c, by simp, ⟨sc, by omega, by rw [lc]; exact pc⟩, 1, 0, fun k _ => ?_⟩
        rw [slices_stableCmpFunc_int.l2, if_neg (by omega), w1, if_neg (by omega), wm, List.append_nil]
      · obtain ⟨W, pm, sr, k0, h0⟩ := sym_ok K hK _ c R D [] (a : Int) ((a : Int) + (bs : Int)) (K.length : Int) (Nat.le_refl _) (by omega) (by omega) (by omega) (by omega) (by omega) sc b1 (tie_of (Nat.le_refl _) pc b3) (iota_ok (o := a) (n := bs) (by omega) pc) (iota_ok (o := a + bs) (n := R.length) (by omega) b3) (by simp only [List.length_append, List.length_nil]; omega)
        have lW := pm.length_eq
        rw [List.length_append] at lW
        simp only [List.append_nil] at h0
        have pW : W.Perm (iota a W.length) := by rw [lW, lc]; exact perm_iota pm pc b3
        by_cases c1 : R.length = bs
        · refine ⟨0, W, by rw [List.length_append]; exact lW, ⟨sr, by omega, pW⟩, 2, k0, fun k hk => ?_⟩
          rw [show k + 2 = (k + 1) + 1 from rfl, slices_stableCmpFunc_int.l2, if_pos (by omega), w1, show (a : Int) + 2 * (bs : Int) = (K.length : Int) by omega, ← List.append_assoc, h0 (k + 1) (by omega), Option.bind_some, slices_stableCmpFunc_int.l2, w2,
            if_neg (by rw [wrap_in (by omega) (by omega)]; omega), show wrap64 ((K.length : Int) + (bs : Int)) = (K.length : Int) + (bs : Int) from wrap_in (by omega) (by omega), if_neg (by omega), wm]
        · refine ⟨0, W, by rw [List.length_append]; exact lW, ⟨sr, by omega, pW⟩, 1, k0, fun k hk => ?_⟩
          rw [slices_stableCmpFunc_int.l2, if_neg (by omega), w1, if_pos (by omega), ← List.append_assoc, h0 k (by omega), Option.bind_some, wm]
    | f + 2, hB =>
      obtain ⟨c, R0, rfl, lc, sc, pc, c', R, rfl, lc', sc', pc', hR⟩ := hB
      rw [List.length_append, List.length_append] at hn hd
      obtain ⟨W, pm, sr, k0, h0⟩ := sym_ok K hK _ c c' D R (a : Int) ((a : Int) + (bs : Int)) ((a : Int) + 2 * (bs : Int)) (Nat.le_refl _) (by omega) (by omega) (by omega) (by omega) (by omega) sc sc' (tie_of (Nat.le_refl _) pc pc') (iota_ok (o := a) (n := bs) (by omega) pc) (iota_ok (o := a + bs) (n := bs) (by omega) pc') (by simp only [List.length_append]; omega)
      have lW := pm.length_eq
      rw [List.length_append] at lW
      obtain ⟨f', R', lR', bR', t, k1, h1⟩ := ih f R (D ++ W) (a + 2 * bs) (by omega) (by rw [show a + 2 * bs = a + bs + bs by omega]; exact hR) (by rw [List.length_append]; omega) (by omega)
      refine ⟨f' + 1, W ++ R', by rw [List.length_append, List.length_append, List.length_append]; omega, ⟨W, R', rfl, by omega, sr, by rw [show 2 * bs = bs + bs by omega]; exact perm_iota pm pc pc', bR'⟩, t + 1, k0 + k1, fun k hk => ?_⟩
      rw [show k + (t + 1) = (k + t) + 1 from rfl, slices_stableCmpFunc_int.l2, if_pos (by omega), w1, w2, ← List.append_assoc, h0 (k + t) (by omega), Option.bind_some, w3]
      have := h1 k (by omega)
      rw [← List.append_assoc, ← List.append_assoc, show (a : Int) + 2 * (bs : Int) = ((a + 2 * bs : Nat) : Int) by omega]
      exact this
theorem st_rounds (K : List Int) (hK : K.length ≤ 500) : ∀ (d bs f : Nat) (L : List Int), K.length - bs ≤ d → 1 ≤ bs → Blk K bs f 0 L → L.length = K.length →
    ∃ r, Srt K r ∧ r.Perm (iota 0 K.length) ∧ ∃ k0, ∀ k, k0 ≤ k → slices_stableCmpFunc_int.l1 k L (K.length : Int) K (bs : Int) = some r := by
  intro d
  induction d with
  | zero =>
    intro bs f L hd h1 hB hl
    have hend : Srt K L ∧ L.Perm (iota 0 K.length) := by
      match f, hB with
      | 0, hB => exact ⟨hB.1, by rw [← hl]; exact hB.2.2⟩
      | f + 1, hB =>
        obtain ⟨c, R, rfl, lc, sc, pc, _⟩ := hB
        rw [List.length_append] at hl
        obtain rfl : R = [] := List.length_eq_zero_iff.1 (by omega)
        simp only [List.length_nil] at hl
        rw [List.append_nil]
        exact ⟨sc, by rw [show K.length = bs by omega]; exact pc⟩
    refine ⟨L, hend.1, hend.2, 1, fun k hk => ?_⟩
    obtain ⟨k, rfl⟩ : ∃ m, k = m + 1 := ⟨k - 1, by omega⟩
    rw [slices_stableCmpFunc_int.l1, if_neg (by omega)]
  | succ d ih =>
    intro bs f L hd h1 hB hl
    by_cases c : bs < K.length
    · obtain ⟨f', R, lR, bR, t, k0, h0⟩ := st_merge K hK bs h1 (by omega) _ f L [] 0 (Nat.le_refl _) hB rfl (by omega)
      obtain ⟨r, sr, pr, k1, h2⟩ := ih (2 * bs) f' R (by omega) (by omega) bR (by omega)
      refine ⟨r, sr, pr, k0 + k1 + t + 1, fun k hk => ?_⟩
      obtain ⟨k, rfl⟩ : ∃ m, k = m + t + 1 := ⟨k - t - 1, by omega⟩
      rw [slices_stableCmpFunc_int.l1, if_pos (by omega), show wrap64 (2 * (bs : Int)) = 2 * (bs : Int) from wrap_in (by omega) (by omega)]
      have := h0 k (by omega)
      simp only [List.nil_append] at this
      rw [show ((0 : Nat) : Int) = 0 from rfl, Int.zero_add] at this
      rw [this]
      exact h2 k (by omega)
    · exact ih bs f L (by omega) h1 hB hl
/-- The stable sort of all places. -/
theorem stable_ok (K : List Int) (hK : K.length ≤ 500) : ∃ r, Srt K r ∧ r.Perm (iota 0 K.length) ∧ ∃ k0, ∀ k, k0 ≤ k → slices_SortStableFunc_int_int.f k (iota 0 K.length) K = some r := by
  obtain ⟨f, R, lR, bR, t, k0, h0⟩ := st_ins K hK _ K.length [] 0 (Nat.le_refl _) rfl (by omega)
  obtain ⟨r, sr, pr, k1, h1⟩ := st_rounds K hK _ 20 f R (Nat.le_refl _) (by omega) bR lR
  refine ⟨r, sr, pr, k0 + k1 + t, fun k hk => ?_⟩
  obtain ⟨k, rfl⟩ : ∃ m, k = m + t := ⟨k - t, by omega⟩
  unfold slices_SortStableFunc_int_int.f slices_stableCmpFunc_int.f
  rw [iota_len]
  have := h0 k (by omega)
  simp only [List.nil_append] at this
  rw [show ((0 : Nat) : Int) = 0 from rfl, Int.zero_add] at this
  rw [this, show (20 : Int) = ((20 : Nat) : Int) from rfl, h1 k (by omega), Option.bind_some]
abbrev IBx := S75
def keyB (b : IBx) : Int := keyW b.f0.f0 b.f0.f1 b.f1.f0 b.f1.f1
def keysB (L : List IBx) : List Int := L.map keyB
theorem keysB_len (L : List IBx) : (keysB L).length = L.length := List.length_map ..
theorem keysB_at (L : List IBx) {x : Int} (h0 : 0 ≤ x) (h1 : x < (L.length : Int)) : rd (keysB L) x = keyB (rd_T75 L x) := by
  unfold rd rd_T75 keysB
  rw [List.getD_eq_getElem?_getD, List.getD_eq_getElem?_getD, List.getElem?_map, List.getElem?_eq_getElem (show x.toNat < L.length by omega)]; rfl
theorem cs_loop (L : List IBx) (hL : L.length ≤ 500) : ∀ (R P : List IBx), L = P ++ R → ∃ r, Srt (keysB L) r ∧ r.Perm (iota 0 L.length) ∧ ∃ k0, ∀ k, k0 ≤ k → impl_CurveSort.l0 k (iota 0 P.length ++ List.replicate R.length 0) L (L.length : Int) (P.length : Int) (P.map keyB ++ List.replicate R.length 0) = some r
  | [], P, e => by
    rw [List.append_nil] at e
    subst e
    obtain ⟨r, sr, pr, k0, h0⟩ := stable_ok (keysB L) (by rw [keysB_len]; exact hL)
    rw [keysB_len] at pr h0
    refine ⟨r, sr, pr, k0 + 1, fun k hk => ?_⟩
    obtain ⟨k, rfl⟩ : ∃ m, k = m + 1 := ⟨k - 1, by omega⟩
    rw [impl_CurveSort.l0, if_neg (by omega)]
    simp only [List.length_nil, List.replicate_zero, List.append_nil]
    rw [show L.map keyB = keysB L from rfl, h0 k (by omega), Option.bind_some]
  | b :: R, P, e => by
    obtain ⟨r, sr, pr, k0, h0⟩ := cs_loop L hL R (P ++ [b]) (by rw [e]; simp)
    have ll : L.length = P.length + R.length + 1 := by rw [e]; simp; omega
    refine ⟨r, sr, pr, k0 + 60, fun k hk => ?_⟩
    obtain ⟨k, rfl⟩ : ∃ m, k = m + 1 := ⟨k - 1, by omega⟩
    have ex : rd_T75 L (P.length : Int) = b := by
      unfold rd_T75; rw [Int.toNat_natCast, e]; simp
    have e1 := setp (L := iota 0 P.length ++ List.replicate (R.length + 1) 0) (P := iota 0 P.length) (T := List.replicate R.length 0) (u := 0) (i := (P.length : Int)) (P.length : Int) (by rw [List.replicate_succ]) (by rw [iota_len])
    have e2 := setp (L := P.map keyB ++ List.replicate (R.length + 1) 0) (P := P.map keyB) (T := List.replicate R.length 0) (u := 0) (i := (P.length : Int)) (keyB b) (by rw [List.replicate_succ]) (by rw [List.length_map])
    rw [List.length_cons, impl_CurveSort.l0, if_pos (by omega), if_pos (by omega), if_pos (by omega), ex, impl_CurveKey_eq _ _ _ _ (by omega), Option.bind_some, if_pos (by rw [List.length_append, List.length_map, List.length_replicate]; omega), if_pos (by rw [List.length_append, iota_len, List.length_replicate]; omega)]
    rw [show keyW b.f0.f0 b.f0.f1 b.f1.f0 b.f1.f1 = keyB b from rfl, e1, e2, show wrap64 ((P.length : Int) + 1) = ((P ++ [b]).length : Int) by rw [wrap_in (by omega) (by omega)]; simp]
    have h1 := h0 k (by omega)
    have e3 : iota 0 (P ++ [b]).length = iota 0 P.length ++ [(P.length : Int)] := by
      rw [List.length_append, List.length_singleton, iota_app]; simp [iota]
    rw [e3, List.map_append, List.append_assoc, List.append_assoc] at h1
    exact h1
/-- impl.CurveSort: the places, sorted by the boxes' keys; equal ones in their order. -/
theorem curveSort_ok (L : List IBx) (hL : L.length ≤ 500) : ∃ r, Srt (keysB L) r ∧ r.Perm (iota 0 L.length) ∧ ∃ k0, ∀ k, k0 ≤ k → impl_CurveSort.f k L = some r := by
  obtain ⟨r, sr, pr, k0, h0⟩ := cs_loop L hL L [] rfl
  refine ⟨r, sr, pr, k0, fun k hk => ?_⟩
  unfold impl_CurveSort.f
  rw [if_neg (by omega), if_pos (by omega), Int.toNat_natCast, if_pos (by omega)]
  have := h0 k hk
  simpa [iota] using this
theorem spec_l1New.mono_l : ∀ k, (∀ y0 y1 y2, LeO (spec_l1New.l0 k y0 y1 y2) (spec_l1New.l0 (k + 1) y0 y1 y2))
  | 0 => fun _ _ _ r h => by simp [spec_l1New.l0] at h
  | k + 1 => by
    have ih0 := spec_l1New.mono_l k
    · intro y0 y1 y2
      unfold spec_l1New.l0
      repeat' first
      | (with_reducible exact ih0 _ _ _)
      | (with_reducible exact LeO.refl _)
      | (with_reducible exact LeO.none _)
      | (with_reducible refine LeO.ite ?_ ?_)
      | (with_reducible refine LeO.bind ?_ (fun _ => ?_))
      | exact ih0 _ _ _
      | exact LeO.none _
      | refine LeO.ite ?_ ?_
      | refine LeO.bind ?_ (fun _ => ?_)
theorem spec_l1New.mono : ∀ a0 k, LeO (spec_l1New.f k a0) (spec_l1New.f (k + 1) a0) := by
  intro a0 k
  have ih0 := spec_l1New.mono_l k
  unfold spec_l1New.f
  repeat' first
      | (with_reducible exact ih0 _ _ _)
      | (with_reducible exact LeO.refl _)
      | (with_reducible exact LeO.none _)
      | (with_reducible refine LeO.ite ?_ ?_)
      | (with_reducible refine LeO.bind ?_ (fun _ => ?_))
      | exact ih0 _ _ _
      | exact LeO.none _
      | refine LeO.ite ?_ ?_
      | refine LeO.bind ?_ (fun _ => ?_)
theorem spec_BoxOf.mono_l : ∀ k, (∀ y0 y1 y2 y3 y4 y5, LeO (spec_BoxOf.l0 k y0 y1 y2 y3 y4 y5) (spec_BoxOf.l0 (k + 1) y0 y1 y2 y3 y4 y5))
  | 0 => fun _ _ _ _ _ _ r h => by simp [spec_BoxOf.l0] at h
  | k + 1 => by
    have ih0 := spec_BoxOf.mono_l k
    · intro y0 y1 y2 y3 y4 y5
      unfold spec_BoxOf.l0
      repeat' first
      | (with_reducible exact ih0 _ _ _ _ _ _)
      | (with_reducible exact LeO.refl _)
      | (with_reducible exact LeO.none _)
      | (with_reducible refine LeO.ite ?_ ?_)
      | (with_reducible refine LeO.bind ?_ (fun _ => ?_))
      | exact ih0 _ _ _ _ _ _
      | exact LeO.none _
      | refine LeO.ite ?_ ?_
      | refine LeO.bind ?_ (fun _ => ?_)
theorem spec_BoxOf.mono : ∀ a0 k, LeO (spec_BoxOf.f k a0) (spec_BoxOf.f (k + 1) a0) := by
  intro a0 k
  have ih0 := spec_BoxOf.mono_l k
  unfold spec_BoxOf.f
  repeat' first
      | (with_reducible exact ih0 _ _ _ _ _ _)
      | (with_reducible exact LeO.refl _)
      | (with_reducible exact LeO.none _)
      | (with_reducible refine LeO.ite ?_ ?_)
      | (with_reducible refine LeO.bind ?_ (fun _ => ?_))
      | exact ih0 _ _ _ _ _ _
      | exact LeO.none _
      | refine LeO.ite ?_ ?_
      | refine LeO.bind ?_ (fun _ => ?_)
theorem spec_l3Draw.mono_l : ∀ k, (∀ y0 y1 y2 y3 y4, LeO (spec_l3Draw.j0 k y0 y1 y2 y3 y4) (spec_l3Draw.j0 (k + 1) y0 y1 y2 y3 y4))
  | 0 => fun _ _ _ _ _ r h => by simp [spec_l3Draw.j0] at h
  | k + 1 => by
    have ih0 := spec_l3Draw.mono_l k
    · intro y0 y1 y2 y3 y4
      unfold spec_l3Draw.j0
      repeat' first
      | (with_reducible exact ih0 _ _ _ _ _)
      | (with_reducible exact LeO.refl _)
      | (with_reducible exact LeO.none _)
      | (with_reducible refine LeO.ite ?_ ?_)
      | (with_reducible refine LeO.bind ?_ (fun _ => ?_))
      | exact ih0 _ _ _ _ _
      | exact LeO.none _
      | refine LeO.ite ?_ ?_
      | refine LeO.bind ?_ (fun _ => ?_)
theorem spec_l3Draw.mono : ∀ a0 a1 a2 k, LeO (spec_l3Draw.f k a0 a1 a2) (spec_l3Draw.f (k + 1) a0 a1 a2) := by
  intro a0 a1 a2 k
  have ih0 := spec_l3Draw.mono_l k
  unfold spec_l3Draw.f
  repeat' first
      | (with_reducible exact ih0 _ _ _ _ _)
      | (with_reducible exact LeO.refl _)
      | (with_reducible exact LeO.none _)
      | (with_reducible refine LeO.ite ?_ ?_)
      | (with_reducible refine LeO.bind ?_ (fun _ => ?_))
      | exact ih0 _ _ _ _ _
      | exact LeO.none _
      | refine LeO.ite ?_ ?_
      | refine LeO.bind ?_ (fun _ => ?_)
theorem spec_l4Draw.mono_l : ∀ k, (∀ y0 y1 y2 y3 y4 y5 y6 y7, LeO (spec_l4Draw.j0 k y0 y1 y2 y3 y4 y5 y6 y7) (spec_l4Draw.j0 (k + 1) y0 y1 y2 y3 y4 y5 y6 y7))
  | 0 => fun _ _ _ _ _ _ _ _ r h => by simp [spec_l4Draw.j0] at h
  | k + 1 => by
    have ih0 := spec_l4Draw.mono_l k
    · intro y0 y1 y2 y3 y4 y5 y6 y7
      unfold spec_l4Draw.j0
      repeat' first
      | (with_reducible exact ih0 _ _ _ _ _ _ _ _)
      | (with_reducible exact spec_BoxOf.mono _ _)
      | (with_reducible exact spec_l3Draw.mono _ _ _ _)
      | (with_reducible exact LeO.refl _)
      | (with_reducible exact LeO.none _)
      | (with_reducible refine LeO.ite ?_ ?_)
      | (with_reducible refine LeO.bind ?_ (fun _ => ?_))
      | exact ih0 _ _ _ _ _ _ _ _
      | exact spec_BoxOf.mono _ _
      | exact spec_l3Draw.mono _ _ _ _
      | exact LeO.none _
      | refine LeO.ite ?_ ?_
      | refine LeO.bind ?_ (fun _ => ?_)
theorem spec_l4Draw.mono : ∀ a0 a1 a2 k, LeO (spec_l4Draw.f k a0 a1 a2) (spec_l4Draw.f (k + 1) a0 a1 a2) := by
  intro a0 a1 a2 k
  have ih0 := spec_l4Draw.mono_l k
  unfold spec_l4Draw.f
  repeat' first
      | (with_reducible exact ih0 _ _ _ _ _ _ _ _)
      | (with_reducible exact spec_BoxOf.mono _ _)
      | (with_reducible exact spec_l3Draw.mono _ _ _ _)
      | (with_reducible exact LeO.refl _)
      | (with_reducible exact LeO.none _)
      | (with_reducible refine LeO.ite ?_ ?_)
      | (with_reducible refine LeO.bind ?_ (fun _ => ?_))
      | exact ih0 _ _ _ _ _ _ _ _
      | exact spec_BoxOf.mono _ _
      | exact spec_l3Draw.mono _ _ _ _
      | exact LeO.none _
      | refine LeO.ite ?_ ?_
      | refine LeO.bind ?_ (fun _ => ?_)
theorem spec_DrawCurveSort.mono_l : ∀ k, (∀ y0 y1 y2 y3 y4, LeO (spec_DrawCurveSort.l0 k y0 y1 y2 y3 y4) (spec_DrawCurveSort.l0 (k + 1) y0 y1 y2 y3 y4))
  | 0 => fun _ _ _ _ _ r h => by simp [spec_DrawCurveSort.l0] at h
  | k + 1 => by
    have ih0 := spec_DrawCurveSort.mono_l k
    · intro y0 y1 y2 y3 y4
      unfold spec_DrawCurveSort.l0
      repeat' first
      | (with_reducible exact ih0 _ _ _ _ _)
      | (with_reducible exact spec_l1New.mono _ _)
      | (with_reducible exact spec_l4Draw.mono _ _ _ _)
      | (with_reducible exact LeO.refl _)
      | (with_reducible exact LeO.none _)
      | (with_reducible refine LeO.ite ?_ ?_)
      | (with_reducible refine LeO.bind ?_ (fun _ => ?_))
      | exact ih0 _ _ _ _ _
      | exact spec_l1New.mono _ _
      | exact spec_l4Draw.mono _ _ _ _
      | exact LeO.none _
      | refine LeO.ite ?_ ?_
      | refine LeO.bind ?_ (fun _ => ?_)
theorem spec_DrawCurveSort.mono : ∀ a0 k, LeO (spec_DrawCurveSort.f k a0) (spec_DrawCurveSort.f (k + 1) a0) := by
  intro a0 k
  have ih0 := spec_DrawCurveSort.mono_l k
  unfold spec_DrawCurveSort.f
  repeat' first
      | (with_reducible exact ih0 _ _ _ _ _)
      | (with_reducible exact spec_l1New.mono _ _)
      | (with_reducible exact spec_l4Draw.mono _ _ _ _)
      | (with_reducible exact LeO.refl _)
      | (with_reducible exact LeO.none _)
      | (with_reducible refine LeO.ite ?_ ?_)
      | (with_reducible refine LeO.bind ?_ (fun _ => ?_))
      | exact ih0 _ _ _ _ _
      | exact spec_l1New.mono _ _
      | exact spec_l4Draw.mono _ _ _ _
      | exact LeO.none _
      | refine LeO.ite ?_ ?_
      | refine LeO.bind ?_ (fun _ => ?_)

theorem size_ok {l : List Int} (hl : l.length ≤ 140737488351232) : ∃ t, spec_l1Size.f l 20 = some t ∧ 0 < t ∧ t ≤ 20 := by
  unfold spec_l1Size.f
  rw [show wrap64 ((l.length : Int) / 12) = (l.length : Int) / 12 from wrap_in (by omega) (by omega), show wrap64 (3 + (l.length : Int) / 12) = 3 + (l.length : Int) / 12 from wrap_in (by omega) (by omega)]
  split
  · exact ⟨_, rfl, by omega, by omega⟩
  · exact ⟨_, rfl, by omega, by omega⟩
theorem drawCS_loop {l : List Int} (hl : l.length ≤ 140737488351232) : ∀ (d : Nat) (k : Nat) (i h : Int) (X : List IBx), St l i → X.length + d ≤ 20 → 10 + d < k → ∃ L, spec_DrawCurveSort.l0 k X (d : Int) l i h = some L := by
  intro d
  induction d with
  | zero =>
    intro k i h X s hX hk
    obtain ⟨k, rfl⟩ : ∃ m, k = m + 1 := ⟨k - 1, by omega⟩
    obtain ⟨c, i1, h1, e1, s1⟩ := once_ok hl (h := h) 60 s
    rw [spec_DrawCurveSort.l0, if_neg (by omega), e1, Option.bind_some]
    simp only []
    cases c
    · rw [if_neg (by decide)]; exact ⟨_, rfl⟩
    · rw [if_pos rfl, if_pos (by decide)]; exact ⟨_, rfl⟩
  | succ d ih =>
    intro k i h X s hX hk
    obtain ⟨k, rfl⟩ : ∃ m, k = m + 1 := ⟨k - 1, by omega⟩
    obtain ⟨a, b, c, e, i1, h1, e1, s1⟩ := draw4_ok hl (h := h) (k := k) (by omega) s
    rw [spec_DrawCurveSort.l0, if_pos (by omega), e1, Option.bind_some]
    simp only []
    rw [if_pos (by omega), show wrap64 (((d + 1 : Nat) : Int) - 1) = (d : Int) by rw [wrap_in (by omega) (by omega)]; omega]
    exact ih k i1 h1 _ s1 (by rw [List.length_append, List.length_singleton]; omega) (by omega)
theorem drawCS_ok {l : List Int} (hl : l.length ≤ 140737488351232) {k : Nat} (hk : l.length + 100 < k) : ∃ L, spec_DrawCurveSort.f k l = some L := by
  obtain ⟨h, e⟩ := new_ok l hl (k := k) (by omega)
  obtain ⟨t, et, t0, t1⟩ := size_ok hl
  obtain ⟨x, i1, h1, e1, s1, x0, x1, _⟩ := below_ok hl (h := h) (n := t) (st0 l)
  have x20 := x1 t0
  unfold spec_DrawCurveSort.f
  rw [e, Option.bind_some, et, Option.bind_some]
  simp only []
  rw [e1, Option.bind_some]
  obtain ⟨n, rfl⟩ : ∃ n : Nat, x = (n : Int) := ⟨x.toNat, by omega⟩
  exact drawCS_loop hl n k i1 h1 [] s1 (by simp; omega) (by omega)
theorem met_loop (L : List IBx) (hL : L.length ≤ 500) (r : List Int) (sr : Srt (keysB L) r) (pr : r.Perm (iota 0 L.length)) : ∀ (d i : Nat) (met : List Bool) (k : Nat), i + d = L.length → met.length = L.length → (∀ v : Nat, met.getD v false = true → (v : Int) ∈ r.take i) → 2 * d + 60 < k →
    laws_FnSorted.l0 k L r met (i : Int) = some true := by
  have rl : r.length = L.length := by rw [pr.length_eq, iota_len]
  intro d
  induction d with
  | zero =>
    intro i met k hi hm hv hk
    obtain ⟨k, rfl⟩ : ∃ m, k = m + 1 := ⟨k - 1, by omega⟩
    rw [laws_FnSorted.l0, if_neg (by omega), rl]; simp
  | succ d ih =>
    intro i met k hi hm hv hk
    obtain ⟨k, rfl⟩ : ∃ m, k = m + 1 + 1 := ⟨k - 2, by omega⟩
    have hir : i < r.length := by omega
    obtain ⟨x1, _, x3, _⟩ := srt_at sr hir
    have ex : rd r (i : Int) = r.getD i 0 := by unfold rd; rw [Int.toNat_natCast]
    have hin := getDin (z := 0) hir
    have hok := (iota_mem _ _ _).1 (pr.mem_iff.1 hin)
    generalize hx : r.getD i 0 = x at *
    have hmet : rdOf false met x = false := by
      cases hb : rdOf false met x with
      | false => rfl
      | true =>
        have hb2 : met.getD x.toNat false = true := hb
        have h1 := x1 _ (hv _ hb2)
        rw [show ((x.toNat : Nat) : Int) = x by omega] at h1
        omega
    have hv2 : ∀ v : Nat, (met.set x.toNat true).getD v false = true → (v : Int) ∈ r.take (i + 1) := by
      intro v h
      rw [x3]
      by_cases c : x.toNat = v
      · rw [show (v : Int) = x by omega]; simp
      · rw [List.getD_eq_getElem?_getD, List.getElem?_set_ne c, ← List.getD_eq_getElem?_getD] at h
        have := hv v h
        simp [this]
    have hnext := ih (i + 1) (met.set x.toNat true) k (by omega) (by rw [List.length_set]; exact hm) hv2 (by omega)
    have ew : wrap64 ((i : Int) + 1) = ((i + 1 : Nat) : Int) := by rw [wrap_in (by omega) (by omega)]; omega
    rw [laws_FnSorted.l0, if_pos (by omega), if_pos (by omega), ex, if_neg (by omega), if_neg (by omega), if_pos (by omega), if_pos (by omega), hmet,
      laws_FnSorted.j1, if_neg (by decide), if_pos (by omega), if_pos (by omega), ex, if_pos (by omega), if_pos (by omega), Option.bind_some, ew]
    by_cases c : i = 0
    · rw [if_neg (by omega)]; exact hnext
    · have hi1 : i - 1 < r.length := by omega
      have ex1 : rd r ((i : Int) - 1) = r.getD (i - 1) 0 := by unfold rd; rw [show ((i : Int) - 1).toNat = i - 1 by omega]
      have hin1 := getDin (z := 0) hi1
      have hok1 := (iota_mem _ _ _).1 (pr.mem_iff.1 hin1)
      have hlt : rk (keysB L) (r.getD (i - 1) 0) < rk (keysB L) x := by
        refine x1 _ ?_
        rw [List.getD_eq_getElem?_getD, List.getElem?_eq_getElem hi1]
        have := List.getElem_mem (l := r.take i) (n := i - 1) (by rw [List.length_take]; omega)
        rw [List.getElem_take] at this
        exact this
      generalize r.getD (i - 1) 0 = y at *
      have ky := keysB_at L (x := y) (by omega) (by omega)
      have kx := keysB_at L (x := x) (by omega) (by omega)
      unfold rk at hlt
      rw [ky, kx] at hlt
      rw [if_pos (by omega), show wrap64 ((i : Int) - 1) = (i : Int) - 1 from wrap_in (by omega) (by omega), if_pos (by omega), if_pos (by omega), ex1, if_pos (by omega), if_pos (by omega), impl_CurveKey_eq _ _ _ _ (by omega), Option.bind_some, if_pos (by omega), impl_CurveKey_eq _ _ _ _ (by omega), Option.bind_some]
      generalize hky : rd_T75 L y = by_ at *
      generalize hkx : rd_T75 L x = bx_ at *
      rw [show keyW by_.f0.f0 by_.f0.f1 by_.f1.f0 by_.f1.f1 = keyB by_ from rfl, show keyW bx_.f0.f0 bx_.f0.f1 bx_.f1.f0 bx_.f1.f1 = keyB bx_ from rfl]
      rw [if_neg (by omega)]
      by_cases c2 : keyB by_ = keyB bx_
      · rw [if_pos c2, if_neg (by omega)]; exact hnext
      · rw [if_neg c2]; exact hnext
theorem FnSorted : laws_FnSorted.Pure := by
  intro l hm h8 _
  have hl : l.length ≤ 140737488351232 := by omega
  obtain ⟨L, hLd⟩ : ∃ L, ∀ k, l.length + 100 < k → spec_DrawCurveSort.f k l = some L := by
    obtain ⟨L, e⟩ := drawCS_ok hl (k := l.length + 101) (by omega)
    refine ⟨L, fun k hk => ?_⟩
    obtain ⟨L', e'⟩ := drawCS_ok hl (k := k) (by omega)
    have := at_rounds (g := fun n => spec_DrawCurveSort.f n l) (fun n => spec_DrawCurveSort.mono l n) (show l.length + 101 ≤ k by omega) e
    exact this
  by_cases hbig : decide ((l.length : Int) > 1048576) = true
  · refine ⟨0, ?_⟩
    unfold laws_FnSorted.f laws_big.f
    rw [Option.bind_some, if_pos hbig]
  by_cases h5 : L.length ≤ 500
  · obtain ⟨r, sr, pr, k0, h0⟩ := curveSort_ok L h5
    refine ⟨l.length + 2000 + k0, ?_⟩
    unfold laws_FnSorted.f laws_big.f
    rw [Option.bind_some, if_neg hbig, hLd _ (by omega), Option.bind_some, h0 _ (by omega), Option.bind_some, if_neg (by omega), if_pos (by omega), Int.toNat_natCast, if_pos (by omega)]
    refine met_loop L h5 r sr pr L.length 0 _ _ (by omega) (by simp) (fun v h => ?_) (by omega)
    rw [List.getD_eq_getElem?_getD, List.getElem?_replicate] at h
    split at h <;> simp at h
  · refine ⟨l.length + 2000, ?_⟩
    unfold laws_FnSorted.f laws_big.f
    rw [Option.bind_some, if_neg hbig, hLd _ (by omega), Option.bind_some, show impl_CurveSort.f (l.length + 2000) L = some [] from by unfold impl_CurveSort.f; rw [if_pos (by omega)], Option.bind_some, if_pos (by omega)]
    rfl

end Go.Proofs.Ytinilabmffjnaaa.Pure
