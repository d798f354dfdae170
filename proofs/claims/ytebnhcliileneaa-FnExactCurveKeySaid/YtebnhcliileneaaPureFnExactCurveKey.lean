/- The pure statement of the law FnExactCurveKey. No conditions beyond that each number is one of its kind. -/
import Derived.Test.YtebnhcliileneaaPFnExactCurveKeyx7
namespace Go.Proofs.Ytebnhcliileneaa.Pure
open Go.RowKit Go.Proofs.Ytebnhcliileneaa.PFnExactCurveKey Go.Proofs.YtebnhcliileneaaW.PrintWords Go.Proofs.YtebnhcliileneaaW.PrintLast Go.Proofs.YtebnhcliileneaaW.PrintMore
set_option linter.unusedVariables false
set_option linter.unusedSimpArgs false

/-- The points that are right. -/
def ptOk (x y : Int) : Bool := decide (-10000000 ≤ x) && decide (x ≤ 10000000) && decide (-10000000 ≤ y) && decide (y ≤ 10000000)
/-- The boxes that are right. -/
def boxOk (a b c d : Int) : Bool := ptOk a b && ptOk c d && decide (a ≤ c) && decide (b ≤ d)
theorem ptOk_iff {x y : Int} : ptOk x y = true ↔ -10000000 ≤ x ∧ x ≤ 10000000 ∧ -10000000 ≤ y ∧ y ≤ 10000000 := by
  simp [ptOk, and_assoc]
theorem boxOk_iff {a b c d : Int} : boxOk a b c d = true ↔ (-10000000 ≤ a ∧ a ≤ 10000000 ∧ -10000000 ≤ b ∧ b ≤ 10000000) ∧ (-10000000 ≤ c ∧ c ≤ 10000000 ∧ -10000000 ≤ d ∧ d ≤ 10000000) ∧ a ≤ c ∧ b ≤ d := by
  simp [boxOk, ptOk_iff, and_assoc]
theorem wrap_in {x : Int} (h1 : -9223372036854775808 ≤ x) (h2 : x ≤ 9223372036854775807) : wrap64 x = x := by unfold wrap64; omega
theorem wrap_bounds (x : Int) : -9223372036854775808 ≤ wrap64 x ∧ wrap64 x ≤ 9223372036854775807 := by unfold wrap64; omega
theorem u64_in {x : Int} (h1 : 0 ≤ x) (h2 : x ≤ 18446744073709551615) : IntKind.u64.wrap x = x := by
  simp [IntKind.wrap, IntKind.bits, IntKind.signed]; omega
theorem u64_bounds (x : Int) : 0 ≤ IntKind.u64.wrap x ∧ IntKind.u64.wrap x ≤ 18446744073709551615 := by
  simp [IntKind.wrap, IntKind.bits, IntKind.signed]; omega
theorem u64_nonneg (x : Int) : 0 ≤ IntKind.u64.wrap x := (u64_bounds x).1
theorem mx_eq (a b : Int) : mx a b = max a b := by unfold mx; omega
theorem mn_eq (a b : Int) : mn a b = min a b := by unfold mn; omega
theorem spec_l1In_eq (a b c : Int) : spec_l1In.f a b c = some (decide (b ≤ a) && decide (a ≤ c)) := by
  unfold spec_l1In.f; by_cases h : b ≤ a <;> simp [h]
theorem impl_inRange_eq (a b c : Int) : impl_inRange.f a b c = some (decide (b ≤ a) && decide (a ≤ c)) := by
  unfold impl_inRange.f; by_cases h : b ≤ a <;> simp [h]
theorem impl_isCoord_eq (a : Int) : impl_isCoord.f a = some (decide (-10000000 ≤ a) && decide (a ≤ 10000000)) := by
  unfold impl_isCoord.f; rw [impl_inRange_eq]; rfl
theorem spec_PtOk_eq (x y : Int) : spec_PtOk.f x y = some (ptOk x y) := by
  unfold spec_PtOk.f ptOk; simp only [spec_l1In_eq, Option.bind_some]
  by_cases h : (decide (-10000000 ≤ x) && decide (x ≤ 10000000)) = true
  · rw [if_pos h, h]; simp
  · rw [if_neg h]; simp only [Bool.not_eq_true] at h; rw [h]; simp
theorem impl_PtOk_eq (x y : Int) : impl_PtOk.f x y = some (ptOk x y) := by
  unfold impl_PtOk.f ptOk; simp only [impl_isCoord_eq, Option.bind_some]
  by_cases h : (decide (-10000000 ≤ x) && decide (x ≤ 10000000)) = true
  · rw [if_pos h, h]; simp
  · rw [if_neg h]; simp only [Bool.not_eq_true] at h; rw [h]; simp
theorem spec_BoxOk_eq (a b c d : Int) : spec_BoxOk.f a b c d = some (boxOk a b c d) := by
  unfold spec_BoxOk.f boxOk; simp only [spec_PtOk_eq, Option.bind_some]
  by_cases h : ptOk a b = true <;> by_cases h2 : ptOk c d = true <;> by_cases h3 : a ≤ c <;> simp [h, h2, h3]
theorem impl_BoxOk_eq (a b c d : Int) : impl_BoxOk.f a b c d = some (boxOk a b c d) := by
  unfold impl_BoxOk.f boxOk; simp only [impl_PtOk_eq, Option.bind_some]
  by_cases h : ptOk a b = true <;> by_cases h2 : ptOk c d = true <;> by_cases h3 : a ≤ c <;> simp [h, h2, h3]
theorem laws_toPt_eq (x y : Int) : laws_toPt.f x y = some (x, y) := rfl
theorem laws_toBox_eq (a b c d : Int) : laws_toBox.f a b c d = some (a, b, c, d) := by
  unfold laws_toBox.f; simp only [laws_toPt_eq, Option.bind_some]
def inBox (a b c d x y : Int) : Bool := boxOk a b c d && ptOk x y && (decide (a ≤ x) && decide (x ≤ c)) && (decide (b ≤ y) && decide (y ≤ d))
def overlap (a b c d e f g h : Int) : Bool := boxOk a b c d && boxOk e f g h && decide (a ≤ g) && decide (e ≤ c) && decide (b ≤ h) && decide (f ≤ d)
def inside (a b c d e f g h : Int) : Bool := boxOk a b c d && inBox e f g h a b && inBox e f g h c d
def area (a b c d : Int) : Int := if boxOk a b c d = true then (c - a) * (d - b) else 0
theorem area_bounds (a b c d : Int) : 0 ≤ area a b c d ∧ area a b c d ≤ 400000000000000 := by
  unfold area; split
  · rename_i h
    rw [boxOk_iff] at h
    obtain ⟨⟨h1, h2, h3, h4⟩, ⟨h5, h6, h7, h8⟩, h9, h10⟩ := h
    have p1 : 0 ≤ c - a := by omega
    have p2 : 0 ≤ d - b := by omega
    refine ⟨Int.mul_nonneg p1 p2, ?_⟩
    calc (c - a) * (d - b) ≤ 20000000 * (d - b) := Int.mul_le_mul_of_nonneg_right (by omega) p2
      _ ≤ 20000000 * 20000000 := Int.mul_le_mul_of_nonneg_left (by omega) (by omega)
      _ = 400000000000000 := by decide
  · omega
theorem area_wrap {a b c d : Int} (h : boxOk a b c d = true) : wrap64 ((wrap64 (c - a)) * (wrap64 (d - b))) = area a b c d := by
  have hb := area_bounds a b c d
  have e : area a b c d = (c - a) * (d - b) := by unfold area; rw [if_pos h]
  rw [boxOk_iff] at h
  rw [wrap_in (x := c - a) (by omega) (by omega), wrap_in (x := d - b) (by omega) (by omega), ← e]
  exact wrap_in (by omega) (by omega)
/-- The tiles that are right. -/
def tileOk (z x y : Int) : Bool := decide (0 ≤ z) && decide (z ≤ 20) && (decide (0 ≤ x) && decide (x ≤ 2 ^ z.toNat - 1)) && (decide (0 ≤ y) && decide (y ≤ 2 ^ z.toNat - 1))
theorem shl1_fin : ∀ n : Fin 51, shl .i64 1 (IntKind.u64.wrap ((n.val : Nat) : Int)) = 2 ^ n.val := by decide +kernel
theorem shl1 {z : Int} (h0 : 0 ≤ z) (h1 : z ≤ 50) : shl .i64 1 (IntKind.u64.wrap z) = 2 ^ z.toNat := by
  obtain ⟨n, rfl⟩ := Int.eq_ofNat_of_zero_le h0
  exact shl1_fin ⟨n, by omega⟩
theorem pow2_le {n m : Nat} (h : n ≤ m) : (2 : Int) ^ n ≤ 2 ^ m := by
  have := Nat.pow_le_pow_right (n := 2) (by decide) h
  exact_mod_cast this
theorem pow2_pos (n : Nat) : (1 : Int) ≤ 2 ^ n := by
  have := pow2_le (Nat.zero_le n); simpa using this
theorem pow2_20 {z : Int} (h1 : z ≤ 20) : (1 : Int) ≤ 2 ^ z.toNat ∧ (2 : Int) ^ z.toNat ≤ 1048576 :=
  ⟨pow2_pos _, by have := pow2_le (n := z.toNat) (m := 20) (by omega); simpa using this⟩
theorem tile_most {z : Int} (h0 : 0 ≤ z) (h1 : z ≤ 20) : wrap64 ((shl .i64 1 (IntKind.u64.wrap z)) - 1) = 2 ^ z.toNat - 1 := by
  rw [shl1 h0 (by omega)]
  have := pow2_20 h1
  exact wrap_in (by omega) (by omega)
/-- The side of the tiles of a Z. -/
def side (z : Int) : Int := 33554432 / 2 ^ z.toNat
theorem shr_side_fin : ∀ n : Fin 21, shr .i64 33554432 (IntKind.u64.wrap ((n.val : Nat) : Int)) = 33554432 / 2 ^ n.val ∧ (32 : Int) ≤ 33554432 / 2 ^ n.val ∧ (33554432 : Int) / 2 ^ n.val ≤ 33554432 := by decide +kernel
theorem shr_side {z : Int} (h0 : 0 ≤ z) (h1 : z ≤ 20) : shr .i64 33554432 (IntKind.u64.wrap z) = side z ∧ 32 ≤ side z ∧ side z ≤ 33554432 := by
  obtain ⟨n, rfl⟩ := Int.eq_ofNat_of_zero_le h0
  exact shr_side_fin ⟨n, by omega⟩
/-- The tile of a point. -/
def tileX (x z : Int) : Int := Int.tdiv (x + 16777216) (side z)
/-! The curve, in plain numbers. -/
theorem two_pos (b : Nat) : (0 : Int) < 2 ^ b := Int.pow_pos (by decide)
theorem four_pos (b : Nat) : (0 : Int) < 4 ^ b := Int.pow_pos (by decide)
theorem two_succ (b : Nat) : (2 : Int) ^ (b + 1) = 2 * 2 ^ b := by rw [Int.pow_succ]; omega
theorem four_succ (b : Nat) : (4 : Int) ^ (b + 1) = 4 * 4 ^ b := by rw [Int.pow_succ]; omega
def hC : Nat → Int → Int → Int
  | 0, _, _ => 0
  | b + 1, x, y =>
    if x < 2 ^ b ∧ y < 2 ^ b then hC b y x
    else if x < 2 ^ b then 4 ^ b + hC b x (y - 2 ^ b)
    else if 2 ^ b ≤ y then 2 * 4 ^ b + hC b (x - 2 ^ b) (y - 2 ^ b)
    else 3 * 4 ^ b + hC b (2 ^ b - 1 - y) (2 * 2 ^ b - 1 - x)
def hStep (h q : Int) (p : Int × Int) : Int × Int :=
  if q = 0 then (p.2, p.1) else if q = 1 then (p.1, p.2 + h) else if q = 2 then (p.1 + h, p.2 + h) else (2 * h - 1 - p.2, h - 1 - p.1)
def hP : Nat → Int → Int × Int
  | 0, _ => (0, 0)
  | b + 1, n => hStep (2 ^ b) (n / 4 ^ b % 4) (hP b n)
theorem hP_0 (n : Int) : hP 0 n = (0, 0) := rfl
theorem hP_succ (b : Nat) (n : Int) : hP (b + 1) n = hStep (2 ^ b) (n / 4 ^ b % 4) (hP b n) := rfl
theorem digit_add (b : Nat) (m n : Int) : (m * 4 ^ (b + 1) + n) / 4 ^ b % 4 = n / 4 ^ b % 4 := by
  have e : m * 4 ^ (b + 1) + n = n + (4 * m) * 4 ^ b := by
    rw [four_succ, Int.add_comm]; congr 1; rw [Int.mul_comm 4 m, Int.mul_assoc]
  rw [e, Int.add_mul_ediv_right _ _ (by have := four_pos b; omega)]
  omega
theorem hP_add : ∀ (b : Nat) (m n : Int), hP b (m * 4 ^ b + n) = hP b n := by
  intro b
  induction b with
  | zero => intro m n; rfl
  | succ b ih =>
    intro m n
    simp only [hP]
    rw [digit_add]
    have e : m * 4 ^ (b + 1) + n = (m * 4) * 4 ^ b + n := by rw [four_succ, Int.mul_assoc]
    rw [e, ih]
theorem digit_eq {b : Nat} {q c : Int} (hc0 : 0 ≤ c) (hc : c < 4 ^ b) (h0 : 0 ≤ q) (h3 : q ≤ 3) : (q * 4 ^ b + c) / 4 ^ b % 4 = q := by
  rw [Int.add_comm, Int.add_mul_ediv_right _ _ (by have := four_pos b; omega), Int.ediv_eq_zero_of_lt hc0 hc]
  omega
theorem hP_digit {b : Nat} {q c : Int} (hc0 : 0 ≤ c) (hc : c < 4 ^ b) (h0 : 0 ≤ q) (h3 : q ≤ 3) : hP (b + 1) (q * 4 ^ b + c) = hStep (2 ^ b) q (hP b c) := by
  simp only [hP]; rw [digit_eq hc0 hc h0 h3, hP_add]
theorem hP_range : ∀ (b : Nat) (n : Int), 0 ≤ (hP b n).1 ∧ (hP b n).1 < 2 ^ b ∧ 0 ≤ (hP b n).2 ∧ (hP b n).2 < 2 ^ b := by
  intro b
  induction b with
  | zero => intro n; simp [hP]
  | succ b ih =>
    intro n
    have h := ih n
    have hp := two_pos b
    simp only [hP, hStep, two_succ]
    split
    · simp only; omega
    · split
      · simp only; omega
      · split <;> simp only <;> omega
theorem hC_range : ∀ (b : Nat) (x y : Int), 0 ≤ x → x < 2 ^ b → 0 ≤ y → y < 2 ^ b → 0 ≤ hC b x y ∧ hC b x y < 4 ^ b := by
  intro b
  induction b with
  | zero => intro x y _ _ _ _; simp [hC]
  | succ b ih =>
    intro x y h0 h1 h2 h3
    rw [two_succ] at h1 h3
    have hp := four_pos b
    simp only [hC, four_succ]
    split
    · have := ih y x h2 (by omega) h0 (by omega); omega
    · split
      · have := ih x (y - 2 ^ b) h0 (by omega) (by omega) (by omega); omega
      · split
        · have := ih (x - 2 ^ b) (y - 2 ^ b) (by omega) (by omega) (by omega) (by omega); omega
        · have := ih (2 ^ b - 1 - y) (2 * 2 ^ b - 1 - x) (by omega) (by omega) (by omega) (by omega); omega
theorem hP_hC : ∀ (b : Nat) (x y : Int), 0 ≤ x → x < 2 ^ b → 0 ≤ y → y < 2 ^ b → hP b (hC b x y) = (x, y) := by
  intro b
  induction b with
  | zero => intro x y h0 h1 h2 h3; simp [hP]; simp at h1 h3; omega
  | succ b ih =>
    intro x y h0 h1 h2 h3
    rw [two_succ] at h1 h3
    simp only [hC]
    split
    · have r := hC_range b y x h2 (by omega) h0 (by omega)
      have e := hP_digit (q := 0) r.1 r.2 (by decide) (by decide)
      rw [Int.zero_mul, Int.zero_add] at e
      rw [e, ih y x h2 (by omega) h0 (by omega)]; simp [hStep]
    · split
      · have r := hC_range b x (y - 2 ^ b) h0 (by omega) (by omega) (by omega)
        have e := hP_digit (q := 1) r.1 r.2 (by decide) (by decide)
        rw [Int.one_mul] at e
        rw [e, ih x (y - 2 ^ b) h0 (by omega) (by omega) (by omega)]; simp [hStep]
      · split
        · have r := hC_range b (x - 2 ^ b) (y - 2 ^ b) (by omega) (by omega) (by omega) (by omega)
          rw [hP_digit (q := 2) r.1 r.2 (by decide) (by decide), ih (x - 2 ^ b) (y - 2 ^ b) (by omega) (by omega) (by omega) (by omega)]; simp [hStep]
        · have r := hC_range b (2 ^ b - 1 - y) (2 * 2 ^ b - 1 - x) (by omega) (by omega) (by omega) (by omega)
          rw [hP_digit (q := 3) r.1 r.2 (by decide) (by decide), ih (2 ^ b - 1 - y) (2 * 2 ^ b - 1 - x) (by omega) (by omega) (by omega) (by omega)]
          simp [hStep]; omega
/-- A number parted into its highest digit and the rest. -/
theorem part (b : Nat) (n : Int) (h0 : 0 ≤ n) (h1 : n < 4 ^ (b + 1)) : ∃ q c, n = q * 4 ^ b + c ∧ 0 ≤ c ∧ c < 4 ^ b ∧ 0 ≤ q ∧ q ≤ 3 := by
  have hp := four_pos b
  rw [four_succ] at h1
  refine ⟨n / 4 ^ b, n % 4 ^ b, (Int.ediv_mul_add_emod n (4 ^ b)).symm, Int.emod_nonneg _ (by omega), Int.emod_lt_of_pos _ hp, Int.ediv_nonneg h0 (by omega), ?_⟩
  have : n / 4 ^ b < 4 := Int.ediv_lt_of_lt_mul hp h1
  omega
theorem hC_step {b : Nat} {q : Int} {p : Int × Int} (h0 : 0 ≤ q) (h3 : q ≤ 3) (p1 : 0 ≤ p.1) (p2 : p.1 < 2 ^ b) (p3 : 0 ≤ p.2) (p4 : p.2 < 2 ^ b) :
    hC (b + 1) (hStep (2 ^ b) q p).1 (hStep (2 ^ b) q p).2 = q * 4 ^ b + hC b p.1 p.2 := by
  obtain ⟨u, v⟩ := p
  simp only at p1 p2 p3 p4
  have hq : q = 0 ∨ q = 1 ∨ q = 2 ∨ q = 3 := by omega
  simp only [hC]
  rcases hq with rfl | rfl | rfl | rfl
  · simp only [hStep, if_true]
    rw [if_pos ⟨p4, p2⟩]; omega
  · simp only [hStep, show ¬ ((1 : Int) = 0) by decide, if_false, if_true]
    rw [if_neg (by omega), if_pos p2, show v + 2 ^ b - 2 ^ b = v by omega]; omega
  · simp only [hStep, show ¬ ((2 : Int) = 0) by decide, show ¬ ((2 : Int) = 1) by decide, if_false, if_true]
    rw [if_neg (by omega), if_neg (by omega), if_pos (by omega), show v + 2 ^ b - 2 ^ b = v by omega, show u + 2 ^ b - 2 ^ b = u by omega]
  · simp only [hStep, show ¬ ((3 : Int) = 0) by decide, show ¬ ((3 : Int) = 1) by decide, show ¬ ((3 : Int) = 2) by decide, if_false]
    rw [if_neg (by omega), if_neg (by omega), if_neg (by omega), show 2 ^ b - 1 - (2 ^ b - 1 - u) = u by omega, show 2 * 2 ^ b - 1 - (2 * 2 ^ b - 1 - v) = v by omega]
theorem hC_hP : ∀ (b : Nat) (n : Int), 0 ≤ n → n < 4 ^ b → hC b (hP b n).1 (hP b n).2 = n := by
  intro b
  induction b with
  | zero => intro n h0 h1; simp [hC]; simp at h1; omega
  | succ b ih =>
    intro n h0 h1
    obtain ⟨q, c, rfl, c0, c1, q0, q3⟩ := part b n h0 h1
    have r := hP_range b c
    rw [hP_digit c0 c1 q0 q3, hC_step q0 q3 r.1 r.2.1 r.2.2.1 r.2.2.2, ih c c0 c1]
theorem hP_first : ∀ b : Nat, hP b 0 = (0, 0) := by
  intro b
  induction b with
  | zero => rfl
  | succ b ih =>
    have e := hP_digit (b := b) (q := 0) (c := 0) (by decide) (four_pos b) (by decide) (by decide)
    rw [Int.zero_mul, Int.zero_add] at e
    rw [e, ih]; simp [hStep]
theorem hP_last : ∀ b : Nat, hP b (4 ^ b - 1) = (2 ^ b - 1, 0) := by
  intro b
  induction b with
  | zero => rfl
  | succ b ih =>
    have hp := four_pos b
    have e := hP_digit (b := b) (q := 3) (c := 4 ^ b - 1) (by omega) (by omega) (by decide) (by decide)
    rw [show (4 : Int) ^ (b + 1) - 1 = 3 * 4 ^ b + (4 ^ b - 1) by rw [four_succ]; omega, e, ih, two_succ]
    simp [hStep]
/-- Two cells that follow each other are neighbours. -/
def near (p r : Int × Int) : Prop := (r.1 = p.1 ∧ (r.2 = p.2 + 1 ∨ r.2 = p.2 - 1)) ∨ (r.2 = p.2 ∧ (r.1 = p.1 + 1 ∨ r.1 = p.1 - 1))
theorem near_step {h q : Int} {p r : Int × Int} (hn : near p r) : near (hStep h q p) (hStep h q r) := by
  obtain ⟨a, b⟩ := p
  obtain ⟨c, d⟩ := r
  simp only [near] at hn
  simp only [hStep]
  split
  · simp only [near]; omega
  · split
    · simp only [near]; omega
    · split <;> simp only [near] <;> omega
theorem hP_near : ∀ (b : Nat) (n : Int), 0 ≤ n → n + 1 < 4 ^ b → near (hP b n) (hP b (n + 1)) := by
  intro b
  induction b with
  | zero => intro n h0 h1; simp at h1; omega
  | succ b ih =>
    intro n h0 h1
    obtain ⟨q, c, rfl, c0, c1, q0, q3⟩ := part b n h0 (by omega)
    by_cases hc : c + 1 < 4 ^ b
    · rw [Int.add_assoc, hP_digit c0 c1 q0 q3, hP_digit (by omega) hc q0 q3]
      exact near_step (ih c c0 hc)
    · have ec : c = 4 ^ b - 1 := by omega
      subst ec
      have hp := four_pos b
      rw [hP_digit c0 c1 q0 q3, hP_last]
      have hq : q = 0 ∨ q = 1 ∨ q = 2 := by
        rw [four_succ] at h1
        by_cases h3 : q = 3
        · subst h3; omega
        · omega
      have e2 : q * 4 ^ b + (4 ^ b - 1) + 1 = (q + 1) * 4 ^ b + 0 := by rw [Int.add_mul]; omega
      rw [e2, hP_digit (by decide) hp (by omega) (by omega), hP_first]
      rcases hq with rfl | rfl | rfl <;> simp [hStep, near] <;> omega
/-- A point as it is taken. -/
def tk (x y : Int) : Int × Int := if ptOk x y = true then (x, y) else (0, 0)
theorem tk_ok (x y : Int) : ptOk (tk x y).1 (tk x y).2 = true := by
  unfold tk; split
  · assumption
  · decide
def sgn (n : Int) : Int := if n > 0 then 1 else if n < 0 then -1 else 0
theorem sgn_cmp (n : Int) : (if n < 0 then (-1 : Int) else if n > 0 then 1 else 0) = sgn n := by unfold sgn; split <;> split <;> omega
theorem sgn_0 : sgn 0 = 0 := rfl
theorem sgn_zero {n : Int} : sgn n = 0 ↔ n = 0 := by unfold sgn; split <;> (try split) <;> omega
def crossW (a b c d e f : Int) : Int := wrap64 ((wrap64 ((wrap64 (c - a)) * (wrap64 (f - b)))) - (wrap64 ((wrap64 (d - b)) * (wrap64 (e - a)))))
def betw (a b n : Int) : Bool := decide (min a b ≤ n) && decide (n ≤ max a b)
def onSegW (a b c d e f : Int) : Bool := decide (crossW a b c d e f = 0) && betw a c e && betw b d f
def onSegT (a b c d e f : Int) : Bool := onSegW (tk a b).1 (tk a b).2 (tk c d).1 (tk c d).2 (tk e f).1 (tk e f).2
def squareW (a b c d : Int) : Int := wrap64 ((wrap64 ((wrap64 (a - c)) * (wrap64 (a - c)))) + (wrap64 ((wrap64 (b - d)) * (wrap64 (b - d)))))
def gapW (a b c d x y : Int) : Int := if boxOk a b c d = true ∧ ptOk x y = true then squareW x y (max a (min x c)) (max b (min y d)) else -1
def l3MeetW (a b c d e f g h : Int) : Bool :=
  onSegW a b c d e f || onSegW a b c d g h || onSegW e f g h a b || onSegW e f g h c d ||
    (decide (wrap64 (sgn (crossW a b c d e f) * sgn (crossW a b c d g h)) < 0) && decide (wrap64 (sgn (crossW e f g h a b) * sgn (crossW e f g h c d)) < 0))
def meetW (a b c d e f g h : Int) : Bool := l3MeetW (tk a b).1 (tk a b).2 (tk c d).1 (tk c d).2 (tk e f).1 (tk e f).2 (tk g h).1 (tk g h).2
theorem i64_in {x : Int} (h1 : -9223372036854775808 ≤ x) (h2 : x ≤ 9223372036854775807) : IntKind.i64.wrap x = x := by
  rw [IntKind.wrap_i64]; omega
theorem i64_62 : ∀ n : Int, 0 ≤ n → n < 2 ^ 62 → IntKind.i64.wrap n = n := fun n h0 h1 => i64_in (by omega) (by omega)
theorem pow_4 (b : Nat) : (2 : Int) ^ (2 * b) = 4 ^ b := by rw [Int.pow_mul]; rfl
theorem two_le25 {b : Nat} (h : b ≤ 25) : (1 : Int) ≤ 2 ^ b ∧ (2 : Int) ^ b ≤ 33554432 := ⟨pow2_pos _, by have := pow2_le (n := b) (m := 25) h; simpa using this⟩
theorem four_le25 {b : Nat} (h : b ≤ 25) : (1 : Int) ≤ 4 ^ b ∧ (4 : Int) ^ b ≤ 1125899906842624 := by
  rw [← pow_4]; exact ⟨pow2_pos _, by have := pow2_le (n := 2 * b) (m := 50) (by omega); simpa using this⟩
theorem digit_bits {n : Int} (h0 : 0 ≤ n) (h1 : n < 1125899906842624) {b : Nat} (hb : b ≤ 25) :
    Go.bits .and .i64 (shr .i64 n (IntKind.u64.wrap (wrap64 (2 * (b : Int))))) 3 = n / 4 ^ b % 4 := by
  have e : shr .i64 n (IntKind.u64.wrap (wrap64 (2 * (b : Int)))) = n / 4 ^ b := by
    rw [wrap_in (by omega) (by omega), u64_in (by omega) (by omega)]
    unfold shr
    rw [show (2 * (b : Int)).toNat = 2 * b by omega, Nat.min_eq_left (by simp [IntKind.bits]; omega), pow_4]
  rw [e]
  have hp := four_pos b
  have g0 : 0 ≤ n / 4 ^ b := Int.ediv_nonneg h0 (by omega)
  have g1 : n / 4 ^ b ≤ n := Int.ediv_le_self _ h0
  exact bits_mask .i64 62 (by decide) i64_62 2 (by decide) (n / 4 ^ b) g0 (by omega)
theorem or_digit {n q : Int} (h0 : 0 ≤ n) (h1 : n < 1125899906842624) (q0 : 0 ≤ q) (q3 : q ≤ 3) : Go.bits .or .i64 (n * 4) q = n * 4 + q :=
  bits_join .i64 62 (by decide) i64_62 2 (n * 4) q (by omega) (by omega) (by omega) q0 (by omega) (by omega)
theorem shl1_nat {b : Nat} (hb : b ≤ 25) : shl .i64 1 (IntKind.u64.wrap (b : Int)) = 2 ^ b := by
  have := shl1 (z := (b : Int)) (by omega) (by omega); simpa using this
/-- What CurvePt computes. -/
def ptW (n : Int) : Int × Int × Bool :=
  if 0 ≤ n ∧ n < 1125899906842624 ∧ ptOk ((hP 25 n).1 - 10000000) ((hP 25 n).2 - 10000000) = true then ((hP 25 n).1 - 10000000, (hP 25 n).2 - 10000000, true) else (0, 0, false)
/-- What CurveOf computes. -/
def ofW (x y : Int) : Int := if ptOk x y = true then hC 25 (x + 10000000) (y + 10000000) else -1
theorem four_room {b : Nat} {n : Int} (hm : b + 1 ≤ 25) (n0 : 0 ≤ n) (n1 : n * 4 ^ (b + 1) < 1125899906842624) :
    n * 4 ^ (b + 1) = (n * 4) * 4 ^ b ∧ n * 4 + 3 < 1125899906842624 ∧ ∀ q : Int, q ≤ 3 → (n * 4 + q) * 4 ^ b < 1125899906842624 := by
  have e4 : n * 4 ^ (b + 1) = (n * 4) * 4 ^ b := by rw [four_succ, Int.mul_assoc]
  have f := four_pos b
  have c25 : (4 : Int) ^ 25 = 1125899906842624 := by decide
  have hp : (4 : Int) ^ 25 = 4 ^ (24 - b) * 4 ^ (b + 1) := by rw [← Int.pow_add]; congr 1; omega
  have fb := four_pos (b + 1)
  have hn : n < 4 ^ (24 - b) := by
    rw [← c25, hp] at n1
    exact Int.lt_of_mul_lt_mul_right n1 (by omega)
  have h5 : (n + 1) * 4 ^ (b + 1) ≤ 1125899906842624 := by
    have := Int.mul_le_mul_of_nonneg_right (show n + 1 ≤ 4 ^ (24 - b) by omega) (show (0 : Int) ≤ 4 ^ (b + 1) by omega)
    rw [← hp, c25] at this; exact this
  have h6 : (n * 4 + 4) * 4 ^ b = (n + 1) * 4 ^ (b + 1) := by rw [four_succ, ← Int.mul_assoc]; congr 1; omega
  have h7 : (n * 4 + 3) * 4 ^ b + 4 ^ b = (n * 4 + 4) * 4 ^ b := by rw [show n * 4 + 4 = (n * 4 + 3) + 1 by omega, Int.add_mul (n * 4 + 3) 1, Int.one_mul]
  have h8 : (n * 4 + 3) * 4 ^ b < 1125899906842624 := by omega
  refine ⟨e4, ?_, ?_⟩
  · have := Int.mul_le_mul_of_nonneg_left (show (1 : Int) ≤ 4 ^ b by omega) (show (0 : Int) ≤ n * 4 + 3 by omega)
    omega
  · intro q hq
    have := Int.mul_le_mul_of_nonneg_right (show n * 4 + q ≤ n * 4 + 3 by omega) (show (0 : Int) ≤ 4 ^ b by omega)
    omega
theorem icurve_loop : ∀ (m k : Nat) (x y n : Int), m ≤ 25 → 2 * m < k → 0 ≤ x → x < 2 ^ m → 0 ≤ y → y < 2 ^ m → 0 ≤ n → n * 4 ^ m < 1125899906842624 →
    impl_curveOf.l0 k x y n ((m : Int) - 1) = some (n * 4 ^ m + hC m x y) := by
  intro m
  induction m with
  | zero =>
    intro k x y n _ hk _ _ _ _ _ _
    obtain ⟨k, rfl⟩ : ∃ m, k = m + 1 := ⟨k - 1, by omega⟩
    simp only [impl_curveOf.l0]; rw [if_neg (by omega)]; simp [hC]
  | succ b ih =>
    intro k x y n hm hk h0 h1 h2 h3 n0 n1
    obtain ⟨k, rfl⟩ : ∃ m, k = m + 2 := ⟨k - 2, by omega⟩
    have p := two_le25 (b := b) (by omega)
    have f := four_pos b
    obtain ⟨e4, nb, mono⟩ := four_room hm n0 n1
    rw [two_succ] at h1 h3
    simp only [impl_curveOf.l0]
    rw [if_pos (by omega), if_pos (u64_nonneg _), show ((b + 1 : Nat) : Int) - 1 = (b : Int) by omega, shl1_nat (by omega), wrap_in (x := n * 4) (by omega) (by omega)]
    simp only [hC]
    have eb : wrap64 ((b : Int) - 1) = (b : Int) - 1 := wrap_in (by omega) (by omega)
    by_cases hx : x < 2 ^ b
    · rw [if_pos hx]
      by_cases hy : y < 2 ^ b
      · rw [if_pos ⟨hx, hy⟩]
        simp only [impl_curveOf.j1, hy, decide_true, if_true, eb]
        have m0 := mono 0 (by decide)
        rw [Int.add_zero] at m0
        rw [ih k y x (n * 4) (by omega) (by omega) h2 hy h0 hx (by omega) m0, e4]
      · rw [if_neg (fun q => hy q.2), if_pos hx]
        simp only [impl_curveOf.j1, hy, decide_false, Bool.false_eq_true, if_false, if_pos hx, eb]
        rw [or_digit n0 (by omega) (by decide) (by decide), wrap_in (x := y - 2 ^ b) (by omega) (by omega), ih k x (y - 2 ^ b) (n * 4 + 1) (by omega) (by omega) h0 hx (by omega) (by omega) (by omega) (mono 1 (by decide)), e4, Int.add_mul, Int.one_mul, Int.add_assoc]
    · rw [if_neg hx, if_neg (fun q => hx q.1), if_neg hx]
      simp only [impl_curveOf.j1, Bool.false_eq_true, if_false, if_neg hx, eb]
      by_cases hy : 2 ^ b ≤ y
      · rw [if_pos hy, if_pos hy, or_digit n0 (by omega) (by decide) (by decide), wrap_in (x := y - 2 ^ b) (by omega) (by omega), wrap_in (x := x - 2 ^ b) (by omega) (by omega), ih k (x - 2 ^ b) (y - 2 ^ b) (n * 4 + 2) (by omega) (by omega) (by omega) (by omega) (by omega) (by omega) (by omega) (mono 2 (by decide)), e4, Int.add_mul, Int.add_assoc]
      · rw [if_neg hy, if_neg hy, or_digit n0 (by omega) (by decide) (by decide), wrap_in (x := 2 ^ b - 1) (by omega) (by omega), wrap_in (x := 2 ^ b - 1 - y) (by omega) (by omega), wrap_in (x := 2 * 2 ^ b) (by omega) (by omega), wrap_in (x := 2 * 2 ^ b - 1) (by omega) (by omega), wrap_in (x := 2 * 2 ^ b - 1 - x) (by omega) (by omega),
          ih k (2 ^ b - 1 - y) (2 * 2 ^ b - 1 - x) (n * 4 + 3) (by omega) (by omega) (by omega) (by omega) (by omega) (by omega) (by omega) (mono 3 (by decide)), e4, Int.add_mul, Int.add_assoc]
theorem impl_CurveOf_eq (x y : Int) {k : Nat} (hk : 51 ≤ k) : impl_CurveOf.f k x y = some (ofW x y) := by
  unfold impl_CurveOf.f ofW; simp only [impl_PtOk_eq, Option.bind_some]
  by_cases h : ptOk x y = true
  · rw [if_pos h, if_pos h]
    have hp := ptOk_iff.1 h
    have e := icurve_loop 25 k (x + 10000000) (y + 10000000) 0 (by decide) (by omega) (by omega) (by omega) (by omega) (by omega) (by decide) (by decide)
    rw [Int.zero_mul, Int.zero_add] at e
    rw [wrap_in (x := x + 10000000) (by omega) (by omega), wrap_in (x := y + 10000000) (by omega) (by omega)]
    simp only [impl_curveOf.f]
    rw [show wrap64 (25 - 1) = ((25 : Nat) : Int) - 1 by unfold wrap64; omega, e]; rfl
  · rw [if_neg h, if_neg h]
theorem scurve_loop : ∀ (m k : Nat) (x y n : Int), m ≤ 25 → 2 * m < k → 0 ≤ x → x < 2 ^ m → 0 ≤ y → y < 2 ^ m → 0 ≤ n → n * 4 ^ m < 1125899906842624 →
    spec_l10Of.l0 k x y n (m : Int) = some (n * 4 ^ m + hC m x y) := by
  intro m
  induction m with
  | zero =>
    intro k x y n _ hk _ _ _ _ _ _
    obtain ⟨k, rfl⟩ : ∃ m, k = m + 1 := ⟨k - 1, by omega⟩
    simp only [spec_l10Of.l0]; rw [if_neg (by omega)]; simp [hC]
  | succ b ih =>
    intro k x y n hm hk h0 h1 h2 h3 n0 n1
    obtain ⟨k, rfl⟩ : ∃ m, k = m + 2 := ⟨k - 2, by omega⟩
    have p := two_le25 (b := b) (by omega)
    obtain ⟨e4, nb, mono⟩ := four_room hm n0 n1
    rw [two_succ] at h1 h3
    simp only [spec_l10Of.l0]
    rw [if_pos (by omega), show wrap64 (((b + 1 : Nat) : Int) - 1) = (b : Int) by rw [wrap_in (by omega) (by omega)]; omega, if_pos (u64_nonneg _), shl1_nat (by omega)]
    simp only [hC]
    by_cases hx : x < 2 ^ b
    · rw [if_pos hx]
      by_cases hy : y < 2 ^ b
      · rw [if_pos ⟨hx, hy⟩]
        simp only [spec_l10Of.j1, hy, decide_true, if_true]
        have m0 := mono 0 (by decide)
        rw [Int.add_zero] at m0
        rw [show wrap64 (((b + 1 : Nat) : Int) - 1) = (b : Int) by rw [wrap_in (by omega) (by omega)]; omega, wrap_in (x := n * 4) (by omega) (by omega), wrap_in (x := n * 4 + 0) (by omega) (by omega), Int.add_zero, ih k y x (n * 4) (by omega) (by omega) h2 hy h0 hx (by omega) m0, e4]
      · rw [if_neg (fun q => hy q.2), if_pos hx]
        simp only [spec_l10Of.j1, hy, decide_false, Bool.false_eq_true, if_false, if_pos hx]
        rw [show wrap64 (((b + 1 : Nat) : Int) - 1) = (b : Int) by rw [wrap_in (by omega) (by omega)]; omega, wrap_in (x := n * 4) (by omega) (by omega), wrap_in (x := n * 4 + 1) (by omega) (by omega), wrap_in (x := y - 2 ^ b) (by omega) (by omega), ih k x (y - 2 ^ b) (n * 4 + 1) (by omega) (by omega) h0 hx (by omega) (by omega) (by omega) (mono 1 (by decide)), e4, Int.add_mul, Int.one_mul, Int.add_assoc]
    · rw [if_neg hx, if_neg (fun q => hx q.1), if_neg hx]
      simp only [spec_l10Of.j1, Bool.false_eq_true, if_false, if_neg hx]
      rw [show wrap64 (((b + 1 : Nat) : Int) - 1) = (b : Int) by rw [wrap_in (by omega) (by omega)]; omega]
      by_cases hy : 2 ^ b ≤ y
      · rw [if_pos hy, if_pos hy, wrap_in (x := n * 4) (by omega) (by omega), wrap_in (x := n * 4 + 2) (by omega) (by omega), wrap_in (x := y - 2 ^ b) (by omega) (by omega), wrap_in (x := x - 2 ^ b) (by omega) (by omega), ih k (x - 2 ^ b) (y - 2 ^ b) (n * 4 + 2) (by omega) (by omega) (by omega) (by omega) (by omega) (by omega) (by omega) (mono 2 (by decide)), e4, Int.add_mul, Int.add_assoc]
      · rw [if_neg hy, if_neg hy, wrap_in (x := n * 4) (by omega) (by omega), wrap_in (x := n * 4 + 3) (by omega) (by omega), wrap_in (x := 2 ^ b - 1) (by omega) (by omega), wrap_in (x := 2 ^ b - 1 - y) (by omega) (by omega), wrap_in (x := 2 * 2 ^ b) (by omega) (by omega), wrap_in (x := 2 * 2 ^ b - 1) (by omega) (by omega), wrap_in (x := 2 * 2 ^ b - 1 - x) (by omega) (by omega),
          ih k (2 ^ b - 1 - y) (2 * 2 ^ b - 1 - x) (n * 4 + 3) (by omega) (by omega) (by omega) (by omega) (by omega) (by omega) (by omega) (mono 3 (by decide)), e4, Int.add_mul, Int.add_assoc]
theorem spec_CurveOf_eq (x y : Int) {k : Nat} (hk : 51 ≤ k) : spec_CurveOf.f k x y = some (ofW x y) := by
  unfold spec_CurveOf.f ofW; simp only [spec_PtOk_eq, Option.bind_some]
  by_cases h : ptOk x y = true
  · rw [if_pos h, if_pos h]
    have hp := ptOk_iff.1 h
    have e := scurve_loop 25 k (x + 10000000) (y + 10000000) 0 (by decide) (by omega) (by omega) (by omega) (by omega) (by omega) (by decide) (by decide)
    rw [Int.zero_mul, Int.zero_add] at e
    rw [wrap_in (x := x + 10000000) (by omega) (by omega), wrap_in (x := y + 10000000) (by omega) (by omega)]
    simp only [spec_l10Of.f]
    rw [show (25 : Int) = ((25 : Nat) : Int) from rfl, e]; rfl
  · rw [if_neg h, if_neg h]
/-- What CurveKey computes. -/
def keyW (a b c d : Int) : Int := if boxOk a b c d = true then ofW ((a + c) / 2) ((b + d) / 2) else -1
theorem impl_CurveKey_eq (a b c d : Int) {k : Nat} (hk : 51 ≤ k) : impl_CurveKey.f k a b c d = some (keyW a b c d) := by
  unfold impl_CurveKey.f keyW; simp only [impl_BoxOk_eq, Option.bind_some]
  by_cases h : boxOk a b c d = true
  · have hb := boxOk_iff.1 h
    rw [if_pos h, if_pos h, wrap_in (x := a + c) (by omega) (by omega), wrap_in (x := b + d) (by omega) (by omega), impl_CurveOf_eq _ _ hk]; rfl
  · rw [if_neg h, if_neg h]
theorem spec_CurveKey_eq (a b c d : Int) {k : Nat} (hk : 51 ≤ k) : spec_CurveKey.f k a b c d = some (keyW a b c d) := by
  unfold spec_CurveKey.f keyW; simp only [spec_BoxOk_eq, spec_l10Half.f, Option.bind_some]
  by_cases h : boxOk a b c d = true
  · have hb := boxOk_iff.1 h
    rw [if_pos h, if_pos h, wrap_in (x := a + c) (by omega) (by omega), wrap_in (x := b + d) (by omega) (by omega), spec_CurveOf_eq _ _ hk]; rfl
  · rw [if_neg h, if_neg h]
/-- What Join computes. -/
def joinW (a b c d e f g h : Int) : Int × Int × Int × Int :=
  if boxOk a b c d = true then (if boxOk e f g h = true then (min a e, min b f, max c g, max d h) else (a, b, c, d))
  else (if boxOk e f g h = true then (e, f, g, h) else (0, 0, 0, 0))
def grownW (a b c d e f g h : Int) : Int := area (joinW a b c d e f g h).1 (joinW a b c d e f g h).2.1 (joinW a b c d e f g h).2.2.1 (joinW a b c d e f g h).2.2.2 - area a b c d
theorem grown_wrap (a b c d e f g h : Int) : wrap64 (area (joinW a b c d e f g h).1 (joinW a b c d e f g h).2.1 (joinW a b c d e f g h).2.2.1 (joinW a b c d e f g h).2.2.2 - area a b c d) = grownW a b c d e f g h := by
  have a1 := area_bounds a b c d
  have a2 := area_bounds (joinW a b c d e f g h).1 (joinW a b c d e f g h).2.1 (joinW a b c d e f g h).2.2.1 (joinW a b c d e f g h).2.2.2
  exact wrap_in (by omega) (by omega)
theorem side_fin : ∀ n : Fin 21, (33554432 : Int) / 2 ^ n.val * 2 ^ n.val = 33554432 := by decide +kernel
theorem side_mul {z : Int} (h0 : 0 ≤ z) (h1 : z ≤ 20) : side z * 2 ^ z.toNat = 33554432 := by
  obtain ⟨n, rfl⟩ := Int.eq_ofNat_of_zero_le h0
  exact side_fin ⟨n, by omega⟩
theorem tile_span {z x : Int} (h0 : 0 ≤ z) (h1 : z ≤ 20) (x0 : 0 ≤ x) (x1 : x ≤ 2 ^ z.toNat - 1) : 0 ≤ x * side z ∧ (x + 1) * side z = x * side z + side z ∧ x * side z + side z ≤ 33554432 ∧ 32 ≤ side z := by
  have hs := (shr_side h0 h1).2
  have e : (x + 1) * side z = x * side z + side z := by rw [Int.add_mul, Int.one_mul]
  refine ⟨Int.mul_nonneg x0 (by omega), e, ?_, hs.1⟩
  rw [← e, ← side_mul h0 h1, Int.mul_comm (side z)]
  exact Int.mul_le_mul_of_nonneg_right (by omega) (by omega)
/-- What TileBox computes. -/
def tileBoxW (z x y : Int) : Int × Int × Int × Int × Bool :=
  if tileOk z x y = true ∧ boxOk (max (x * side z - 16777216) (-10000000)) (max (y * side z - 16777216) (-10000000)) (min (x * side z - 16777216 + side z - 1) 10000000) (min (y * side z - 16777216 + side z - 1) 10000000) = true then
    (max (x * side z - 16777216) (-10000000), max (y * side z - 16777216) (-10000000), min (x * side z - 16777216 + side z - 1) 10000000, min (y * side z - 16777216 + side z - 1) 10000000, true)
  else (0, 0, 0, 0, false)
theorem tileOk_iff {z x y : Int} : tileOk z x y = true ↔ (0 ≤ z ∧ z ≤ 20) ∧ (0 ≤ x ∧ x ≤ 2 ^ z.toNat - 1) ∧ (0 ≤ y ∧ y ≤ 2 ^ z.toNat - 1) := by
  simp [tileOk, and_assoc]
theorem FnExactCurveKey : ∀ (a0_0 : Int) (a0_1 : Int) (a0_2 : Int) (a0_3 : Int), (Lit.int .i64 a0_0).wf = true → (Lit.int .i64 a0_1).wf = true → (Lit.int .i64 a0_2).wf = true → (Lit.int .i64 a0_3).wf = true → ∃ k, laws_FnExactCurveKey.f k a0_0 a0_1 a0_2 a0_3 = some true := by
  intro a b c d _ _ _ _
  refine ⟨100, ?_⟩
  unfold laws_FnExactCurveKey.f
  simp only [laws_toBox_eq, Option.bind_some]
  rw [spec_CurveKey_eq a b c d (by decide), impl_CurveKey_eq a b c d (by decide)]
  simp

end Go.Proofs.Ytebnhcliileneaa.Pure
