/- The pure statement of the law FnCurve: what the printed functions compute answers true at every input. No conditions beyond the printed bounds. -/
import Derived.Test.YtebnhcliileneaaQFnCurvex10
namespace Go.Proofs.Ytebnhcliileneaa.Pure
open Go.RowKit Go.Proofs.Ytebnhcliileneaa.PFnCurve Go.Proofs.YtebnhcliileneaaW.PrintWords Go.Proofs.YtebnhcliileneaaW.PrintLast Go.Proofs.YtebnhcliileneaaW.PrintMore
set_option linter.unusedVariables false
set_option linter.unusedSimpArgs false

/-- The points that are right. -/
def ptOk (x y : Int) : Bool := decide (-10000000 ≤ x) && decide (x ≤ 10000000) && decide (-10000000 ≤ y) && decide (y ≤ 10000000)
/-- The boxes that are right. -/
def boxOk (a b c d : Int) : Bool := ptOk a b && ptOk c d && decide (a ≤ c) && decide (b ≤ d)
theorem ptOk_iff {x y : Int} : ptOk x y = true ↔ -10000000 ≤ x ∧ x ≤ 10000000 ∧ -10000000 ≤ y ∧ y ≤ 10000000 := by
  simp [ptOk, and_assoc]
theorem boxOk_iff {a b c d : Int} : boxOk a b c d = true ↔ (-10000000 ≤ a ∧ a ≤ 10000000 ∧ -10000000 ≤ b ∧ b ≤ 10000000) ∧ (-10000000 ≤ c ∧ c ≤ 10000000 ∧ -10000000 ≤ d ∧ d ≤ 10000000) ∧ a ≤ c ∧ b ≤ d := by
  simp [boxOk, ptOk_iff, and_assoc]
theorem wrap_in {x : Int} (h1 : -9223372036854775808 ≤ x) (h2 : x ≤ 9223372036854775807) : wrap64 x = x := by unfold wrap64; omega
theorem wrap_bounds (x : Int) : -9223372036854775808 ≤ wrap64 x ∧ wrap64 x ≤ 9223372036854775807 := by unfold wrap64; omega
theorem u64_in {x : Int} (h1 : 0 ≤ x) (h2 : x ≤ 18446744073709551615) : IntKind.u64.wrap x = x := by
  simp [IntKind.wrap, IntKind.bits, IntKind.signed]; omega
theorem u64_bounds (x : Int) : 0 ≤ IntKind.u64.wrap x ∧ IntKind.u64.wrap x ≤ 18446744073709551615 := by
  simp [IntKind.wrap, IntKind.bits, IntKind.signed]; omega
theorem u64_nonneg (x : Int) : 0 ≤ IntKind.u64.wrap x := (u64_bounds x).1
theorem mx_eq (a b : Int) : mx a b = max a b := by unfold mx; omega
theorem mn_eq (a b : Int) : mn a b = min a b := by unfold mn; omega
theorem spec_l1In_eq (a b c : Int) : spec_l1In.f a b c = some (decide (b ≤ a) && decide (a ≤ c)) := by
  unfold spec_l1In.f; by_cases h : b ≤ a <;> simp [h]
theorem impl_inRange_eq (a b c : Int) : impl_inRange.f a b c = some (decide (b ≤ a) && decide (a ≤ c)) := by
  unfold impl_inRange.f; by_cases h : b ≤ a <;> simp [h]
theorem impl_isCoord_eq (a : Int) : impl_isCoord.f a = some (decide (-10000000 ≤ a) && decide (a ≤ 10000000)) := by
  unfold impl_isCoord.f; rw [impl_inRange_eq]; rfl
theorem spec_PtOk_eq (x y : Int) : spec_PtOk.f x y = some (ptOk x y) := by
  unfold spec_PtOk.f ptOk; simp only [spec_l1In_eq, Option.bind_some]
  by_cases h : (decide (-10000000 ≤ x) && decide (x ≤ 10000000)) = true
  · rw [if_pos h, h]; simp
  · rw [if_neg h]; simp only [Bool.not_eq_true] at h; rw [h]; simp
theorem impl_PtOk_eq (x y : Int) : impl_PtOk.f x y = some (ptOk x y) := by
  unfold impl_PtOk.f ptOk; simp only [impl_isCoord_eq, Option.bind_some]
  by_cases h : (decide (-10000000 ≤ x) && decide (x ≤ 10000000)) = true
  · rw [if_pos h, h]; simp
  · rw [if_neg h]; simp only [Bool.not_eq_true] at h; rw [h]; simp
def inBox (a b c d x y : Int) : Bool := boxOk a b c d && ptOk x y && (decide (a ≤ x) && decide (x ≤ c)) && (decide (b ≤ y) && decide (y ≤ d))
def overlap (a b c d e f g h : Int) : Bool := boxOk a b c d && boxOk e f g h && decide (a ≤ g) && decide (e ≤ c) && decide (b ≤ h) && decide (f ≤ d)
def inside (a b c d e f g h : Int) : Bool := boxOk a b c d && inBox e f g h a b && inBox e f g h c d
def area (a b c d : Int) : Int := if boxOk a b c d = true then (c - a) * (d - b) else 0
theorem area_bounds (a b c d : Int) : 0 ≤ area a b c d ∧ area a b c d ≤ 400000000000000 := by
  unfold area; split
  · rename_i h
    rw [boxOk_iff] at h
    obtain ⟨⟨h1, h2, h3, h4⟩, ⟨h5, h6, h7, h8⟩, h9, h10⟩ := h
    have p1 : 0 ≤ c - a := by omega
    have p2 : 0 ≤ d - b := by omega
    refine ⟨Int.mul_nonneg p1 p2, ?_⟩
    calc (c - a) * (d - b) ≤ 20000000 * (d - b) := Int.mul_le_mul_of_nonneg_right (by omega) p2
      _ ≤ 20000000 * 20000000 := Int.mul_le_mul_of_nonneg_left (by omega) (by omega)
      _ = 400000000000000 := by decide
  · omega
theorem area_wrap {a b c d : Int} (h : boxOk a b c d = true) : wrap64 ((wrap64 (c - a)) * (wrap64 (d - b))) = area a b c d := by
  have hb := area_bounds a b c d
  have e : area a b c d = (c - a) * (d - b) := by unfold area; rw [if_pos h]
  rw [boxOk_iff] at h
  rw [wrap_in (x := c - a) (by omega) (by omega), wrap_in (x := d - b) (by omega) (by omega), ← e]
  exact wrap_in (by omega) (by omega)
/-- The tiles that are right. -/
def tileOk (z x y : Int) : Bool := decide (0 ≤ z) && decide (z ≤ 20) && (decide (0 ≤ x) && decide (x ≤ 2 ^ z.toNat - 1)) && (decide (0 ≤ y) && decide (y ≤ 2 ^ z.toNat - 1))
theorem shl1_fin : ∀ n : Fin 51, shl .i64 1 (IntKind.u64.wrap ((n.val : Nat) : Int)) = 2 ^ n.val := by decide +kernel
theorem shl1 {z : Int} (h0 : 0 ≤ z) (h1 : z ≤ 50) : shl .i64 1 (IntKind.u64.wrap z) = 2 ^ z.toNat := by
  obtain ⟨n, rfl⟩ := Int.eq_ofNat_of_zero_le h0
  exact shl1_fin ⟨n, by omega⟩
theorem pow2_le {n m : Nat} (h : n ≤ m) : (2 : Int) ^ n ≤ 2 ^ m := by
  have := Nat.pow_le_pow_right (n := 2) (by decide) h
  exact_mod_cast this
theorem pow2_pos (n : Nat) : (1 : Int) ≤ 2 ^ n := by
  have := pow2_le (Nat.zero_le n); simpa using this
theorem pow2_20 {z : Int} (h1 : z ≤ 20) : (1 : Int) ≤ 2 ^ z.toNat ∧ (2 : Int) ^ z.toNat ≤ 1048576 :=
  ⟨pow2_pos _, by have := pow2_le (n := z.toNat) (m := 20) (by omega); simpa using this⟩
theorem tile_most {z : Int} (h0 : 0 ≤ z) (h1 : z ≤ 20) : wrap64 ((shl .i64 1 (IntKind.u64.wrap z)) - 1) = 2 ^ z.toNat - 1 := by
  rw [shl1 h0 (by omega)]
  have := pow2_20 h1
  exact wrap_in (by omega) (by omega)
/-- The side of the tiles of a Z. -/
def side (z : Int) : Int := 33554432 / 2 ^ z.toNat
theorem shr_side_fin : ∀ n : Fin 21, shr .i64 33554432 (IntKind.u64.wrap ((n.val : Nat) : Int)) = 33554432 / 2 ^ n.val ∧ (32 : Int) ≤ 33554432 / 2 ^ n.val ∧ (33554432 : Int) / 2 ^ n.val ≤ 33554432 := by decide +kernel
theorem shr_side {z : Int} (h0 : 0 ≤ z) (h1 : z ≤ 20) : shr .i64 33554432 (IntKind.u64.wrap z) = side z ∧ 32 ≤ side z ∧ side z ≤ 33554432 := by
  obtain ⟨n, rfl⟩ := Int.eq_ofNat_of_zero_le h0
  exact shr_side_fin ⟨n, by omega⟩
/-- The tile of a point. -/
def tileX (x z : Int) : Int := Int.tdiv (x + 16777216) (side z)
/-! The curve, in plain numbers. -/
theorem two_pos (b : Nat) : (0 : Int) < 2 ^ b := Int.pow_pos (by decide)
theorem four_pos (b : Nat) : (0 : Int) < 4 ^ b := Int.pow_pos (by decide)
theorem two_succ (b : Nat) : (2 : Int) ^ (b + 1) = 2 * 2 ^ b := by rw [Int.pow_succ]; omega
theorem four_succ (b : Nat) : (4 : Int) ^ (b + 1) = 4 * 4 ^ b := by rw [Int.pow_succ]; omega
def hC : Nat → Int → Int → Int
  | 0, _, _ => 0
  | b + 1, x, y =>
    if x < 2 ^ b ∧ y < 2 ^ b then hC b y x
    else if x < 2 ^ b then 4 ^ b + hC b x (y - 2 ^ b)
    else if 2 ^ b ≤ y then 2 * 4 ^ b + hC b (x - 2 ^ b) (y - 2 ^ b)
    else 3 * 4 ^ b + hC b (2 ^ b - 1 - y) (2 * 2 ^ b - 1 - x)
def hStep (h q : Int) (p : Int × Int) : Int × Int :=
  if q = 0 then (p.2, p.1) else if q = 1 then (p.1, p.2 + h) else if q = 2 then (p.1 + h, p.2 + h) else (2 * h - 1 - p.2, h - 1 - p.1)
def hP : Nat → Int → Int × Int
  | 0, _ => (0, 0)
  | b + 1, n => hStep (2 ^ b) (n / 4 ^ b % 4) (hP b n)
theorem hP_0 (n : Int) : hP 0 n = (0, 0) := rfl
theorem hP_succ (b : Nat) (n : Int) : hP (b + 1) n = hStep (2 ^ b) (n / 4 ^ b % 4) (hP b n) := rfl
theorem digit_add (b : Nat) (m n : Int) : (m * 4 ^ (b + 1) + n) / 4 ^ b % 4 = n / 4 ^ b % 4 := by
  have e : m * 4 ^ (b + 1) + n = n + (4 * m) * 4 ^ b := by
    rw [four_succ, Int.add_comm]; congr 1; rw [Int.mul_comm 4 m, Int.mul_assoc]
  rw [e, Int.add_mul_ediv_right _ _ (by have := four_pos b; omega)]
  omega
theorem hP_add : ∀ (b : Nat) (m n : Int), hP b (m * 4 ^ b + n) = hP b n := by
  intro b
  induction b with
  | zero => intro m n; rfl
  | succ b ih =>
    intro m n
    simp only [hP]
    rw [digit_add]
    have e : m * 4 ^ (b + 1) + n = (m * 4) * 4 ^ b + n := by rw [four_succ, Int.mul_assoc]
    rw [e, ih]
theorem digit_eq {b : Nat} {q c : Int} (hc0 : 0 ≤ c) (hc : c < 4 ^ b) (h0 : 0 ≤ q) (h3 : q ≤ 3) : (q * 4 ^ b + c) / 4 ^ b % 4 = q := by
  rw [Int.add_comm, Int.add_mul_ediv_right _ _ (by have := four_pos b; omega), Int.ediv_eq_zero_of_lt hc0 hc]
  omega
theorem hP_digit {b : Nat} {q c : Int} (hc0 : 0 ≤ c) (hc : c < 4 ^ b) (h0 : 0 ≤ q) (h3 : q ≤ 3) : hP (b + 1) (q * 4 ^ b + c) = hStep (2 ^ b) q (hP b c) := by
  simp only [hP]; rw [digit_eq hc0 hc h0 h3, hP_add]
theorem hP_range : ∀ (b : Nat) (n : Int), 0 ≤ (hP b n).1 ∧ (hP b n).1 < 2 ^ b ∧ 0 ≤ (hP b n).2 ∧ (hP b n).2 < 2 ^ b := by
  intro b
  induction b with
  | zero => intro n; simp [hP]
  | succ b ih =>
    intro n
    have h := ih n
    have hp := two_pos b
    simp only [hP, hStep, two_succ]
    split
    · simp only; omega
    · split
      · simp only; omega
      · split <;> simp only <;> omega
theorem hC_range : ∀ (b : Nat) (x y : Int), 0 ≤ x → x < 2 ^ b → 0 ≤ y → y < 2 ^ b → 0 ≤ hC b x y ∧ hC b x y < 4 ^ b := by
  intro b
  induction b with
  | zero => intro x y _ _ _ _; simp [hC]
  | succ b ih =>
    intro x y h0 h1 h2 h3
    rw [two_succ] at h1 h3
    have hp := four_pos b
    simp only [hC, four_succ]
    split
    · have := ih y x h2 (by omega) h0 (by omega); omega
    · split
      · have := ih x (y - 2 ^ b) h0 (by omega) (by omega) (by omega); omega
      · split
        · have := ih (x - 2 ^ b) (y - 2 ^ b) (by omega) (by omega) (by omega) (by omega); omega
        · have := ih (2 ^ b - 1 - y) (2 * 2 ^ b - 1 - x) (by omega) (by omega) (by omega) (by omega); omega
theorem hP_hC : ∀ (b : Nat) (x y : Int), 0 ≤ x → x < 2 ^ b → 0 ≤ y → y < 2 ^ b → hP b (hC b x y) = (x, y) := by
  intro b
  induction b with
  | zero => intro x y h0 h1 h2 h3; simp [hP]; simp at h1 h3; omega
  | succ b ih =>
    intro x y h0 h1 h2 h3
    rw [two_succ] at h1 h3
    simp only [hC]
    split
    · have r := hC_range b y x h2 (by omega) h0 (by omega)
      have e := hP_digit (q := 0) r.1 r.2 (by decide) (by decide)
      rw [Int.zero_mul, Int.zero_add] at e
      rw [e, ih y x h2 (by omega) h0 (by omega)]; simp [hStep]
    · split
      · have r := hC_range b x (y - 2 ^ b) h0 (by omega) (by omega) (by omega)
        have e := hP_digit (q := 1) r.1 r.2 (by decide) (by decide)
        rw [Int.one_mul] at e
        rw [e, ih x (y - 2 ^ b) h0 (by omega) (by omega) (by omega)]; simp [hStep]
      · split
        · have r := hC_range b (x - 2 ^ b) (y - 2 ^ b) (by omega) (by omega) (by omega) (by omega)
          rw [hP_digit (q := 2) r.1 r.2 (by decide) (by decide), ih (x - 2 ^ b) (y - 2 ^ b) (by omega) (by omega) (by omega) (by omega)]; simp [hStep]
        · have r := hC_range b (2 ^ b - 1 - y) (2 * 2 ^ b - 1 - x) (by omega) (by omega) (by omega) (by omega)
          rw [hP_digit (q := 3) r.1 r.2 (by decide) (by decide), ih (2 ^ b - 1 - y) (2 * 2 ^ b - 1 - x) (by omega) (by omega) (by omega) (by omega)]
          simp [hStep]; omega
/-- A number parted into its highest digit and the rest. -/
theorem part (b : Nat) (n : Int) (h0 : 0 ≤ n) (h1 : n < 4 ^ (b + 1)) : ∃ q c, n = q * 4 ^ b + c ∧ 0 ≤ c ∧ c < 4 ^ b ∧ 0 ≤ q ∧ q ≤ 3 := by
  have hp := four_pos b
  rw [four_succ] at h1
  refine ⟨n / 4 ^ b, n % 4 ^ b, (Int.ediv_mul_add_emod n (4 ^ b)).symm, Int.emod_nonneg _ (by omega), Int.emod_lt_of_pos _ hp, Int.ediv_nonneg h0 (by omega), ?_⟩
  have : n / 4 ^ b < 4 := Int.ediv_lt_of_lt_mul hp h1
  omega
theorem hC_step {b : Nat} {q : Int} {p : Int × Int} (h0 : 0 ≤ q) (h3 : q ≤ 3) (p1 : 0 ≤ p.1) (p2 : p.1 < 2 ^ b) (p3 : 0 ≤ p.2) (p4 : p.2 < 2 ^ b) :
    hC (b + 1) (hStep (2 ^ b) q p).1 (hStep (2 ^ b) q p).2 = q * 4 ^ b + hC b p.1 p.2 := by
  obtain ⟨u, v⟩ := p
  simp only at p1 p2 p3 p4
  have hq : q = 0 ∨ q = 1 ∨ q = 2 ∨ q = 3 := by omega
  simp only [hC]
  rcases hq with rfl | rfl | rfl | rfl
  · simp only [hStep, if_true]
    rw [if_pos ⟨p4, p2⟩]; omega
  · simp only [hStep, show ¬ ((1 : Int) = 0) by decide, if_false, if_true]
    rw [if_neg (by omega), if_pos p2, show v + 2 ^ b - 2 ^ b = v by omega]; omega
  · simp only [hStep, show ¬ ((2 : Int) = 0) by decide, show ¬ ((2 : Int) = 1) by decide, if_false, if_true]
    rw [if_neg (by omega), if_neg (by omega), if_pos (by omega), show v + 2 ^ b - 2 ^ b = v by omega, show u + 2 ^ b - 2 ^ b = u by omega]
  · simp only [hStep, show ¬ ((3 : Int) = 0) by decide, show ¬ ((3 : Int) = 1) by decide, show ¬ ((3 : Int) = 2) by decide, if_false]
    rw [if_neg (by omega), if_neg (by omega), if_neg (by omega), show 2 ^ b - 1 - (2 ^ b - 1 - u) = u by omega, show 2 * 2 ^ b - 1 - (2 * 2 ^ b - 1 - v) = v by omega]
theorem hC_hP : ∀ (b : Nat) (n : Int), 0 ≤ n → n < 4 ^ b → hC b (hP b n).1 (hP b n).2 = n := by
  intro b
  induction b with
  | zero => intro n h0 h1; simp [hC]; simp at h1; omega
  | succ b ih =>
    intro n h0 h1
    obtain ⟨q, c, rfl, c0, c1, q0, q3⟩ := part b n h0 h1
    have r := hP_range b c
    rw [hP_digit c0 c1 q0 q3, hC_step q0 q3 r.1 r.2.1 r.2.2.1 r.2.2.2, ih c c0 c1]
theorem hP_first : ∀ b : Nat, hP b 0 = (0, 0) := by
  intro b
  induction b with
  | zero => rfl
  | succ b ih =>
    have e := hP_digit (b := b) (q := 0) (c := 0) (by decide) (four_pos b) (by decide) (by decide)
    rw [Int.zero_mul, Int.zero_add] at e
    rw [e, ih]; simp [hStep]
theorem hP_last : ∀ b : Nat, hP b (4 ^ b - 1) = (2 ^ b - 1, 0) := by
  intro b
  induction b with
  | zero => rfl
  | succ b ih =>
    have hp := four_pos b
    have e := hP_digit (b := b) (q := 3) (c := 4 ^ b - 1) (by omega) (by omega) (by decide) (by decide)
    rw [show (4 : Int) ^ (b + 1) - 1 = 3 * 4 ^ b + (4 ^ b - 1) by rw [four_succ]; omega, e, ih, two_succ]
    simp [hStep]
/-- Two cells that follow each other are neighbours. -/
def near (p r : Int × Int) : Prop := (r.1 = p.1 ∧ (r.2 = p.2 + 1 ∨ r.2 = p.2 - 1)) ∨ (r.2 = p.2 ∧ (r.1 = p.1 + 1 ∨ r.1 = p.1 - 1))
theorem near_step {h q : Int} {p r : Int × Int} (hn : near p r) : near (hStep h q p) (hStep h q r) := by
  obtain ⟨a, b⟩ := p
  obtain ⟨c, d⟩ := r
  simp only [near] at hn
  simp only [hStep]
  split
  · simp only [near]; omega
  · split
    · simp only [near]; omega
    · split <;> simp only [near] <;> omega
theorem hP_near : ∀ (b : Nat) (n : Int), 0 ≤ n → n + 1 < 4 ^ b → near (hP b n) (hP b (n + 1)) := by
  intro b
  induction b with
  | zero => intro n h0 h1; simp at h1; omega
  | succ b ih =>
    intro n h0 h1
    obtain ⟨q, c, rfl, c0, c1, q0, q3⟩ := part b n h0 (by omega)
    by_cases hc : c + 1 < 4 ^ b
    · rw [Int.add_assoc, hP_digit c0 c1 q0 q3, hP_digit (by omega) hc q0 q3]
      exact near_step (ih c c0 hc)
    · have ec : c = 4 ^ b - 1 := by omega
      subst ec
      have hp := four_pos b
      rw [hP_digit c0 c1 q0 q3, hP_last]
      have hq : q = 0 ∨ q = 1 ∨ q = 2 := by
        rw [four_succ] at h1
        by_cases h3 : q = 3
        · subst h3; omega
        · omega
      have e2 : q * 4 ^ b + (4 ^ b - 1) + 1 = (q + 1) * 4 ^ b + 0 := by rw [Int.add_mul]; omega
      rw [e2, hP_digit (by decide) hp (by omega) (by omega), hP_first]
      rcases hq with rfl | rfl | rfl <;> simp [hStep, near] <;> omega
/-- A point as it is taken. -/
def tk (x y : Int) : Int × Int := if ptOk x y = true then (x, y) else (0, 0)
theorem tk_ok (x y : Int) : ptOk (tk x y).1 (tk x y).2 = true := by
  unfold tk; split
  · assumption
  · decide
def sgn (n : Int) : Int := if n > 0 then 1 else if n < 0 then -1 else 0
theorem sgn_cmp (n : Int) : (if n < 0 then (-1 : Int) else if n > 0 then 1 else 0) = sgn n := by unfold sgn; split <;> split <;> omega
theorem sgn_0 : sgn 0 = 0 := rfl
theorem sgn_zero {n : Int} : sgn n = 0 ↔ n = 0 := by unfold sgn; split <;> (try split) <;> omega
def crossW (a b c d e f : Int) : Int := wrap64 ((wrap64 ((wrap64 (c - a)) * (wrap64 (f - b)))) - (wrap64 ((wrap64 (d - b)) * (wrap64 (e - a)))))
def betw (a b n : Int) : Bool := decide (min a b ≤ n) && decide (n ≤ max a b)
def onSegW (a b c d e f : Int) : Bool := decide (crossW a b c d e f = 0) && betw a c e && betw b d f
def onSegT (a b c d e f : Int) : Bool := onSegW (tk a b).1 (tk a b).2 (tk c d).1 (tk c d).2 (tk e f).1 (tk e f).2
def squareW (a b c d : Int) : Int := wrap64 ((wrap64 ((wrap64 (a - c)) * (wrap64 (a - c)))) + (wrap64 ((wrap64 (b - d)) * (wrap64 (b - d)))))
def gapW (a b c d x y : Int) : Int := if boxOk a b c d = true ∧ ptOk x y = true then squareW x y (max a (min x c)) (max b (min y d)) else -1
def l3MeetW (a b c d e f g h : Int) : Bool :=
  onSegW a b c d e f || onSegW a b c d g h || onSegW e f g h a b || onSegW e f g h c d ||
    (decide (wrap64 (sgn (crossW a b c d e f) * sgn (crossW a b c d g h)) < 0) && decide (wrap64 (sgn (crossW e f g h a b) * sgn (crossW e f g h c d)) < 0))
def meetW (a b c d e f g h : Int) : Bool := l3MeetW (tk a b).1 (tk a b).2 (tk c d).1 (tk c d).2 (tk e f).1 (tk e f).2 (tk g h).1 (tk g h).2
theorem i64_in {x : Int} (h1 : -9223372036854775808 ≤ x) (h2 : x ≤ 9223372036854775807) : IntKind.i64.wrap x = x := by
  rw [IntKind.wrap_i64]; omega
theorem i64_62 : ∀ n : Int, 0 ≤ n → n < 2 ^ 62 → IntKind.i64.wrap n = n := fun n h0 h1 => i64_in (by omega) (by omega)
theorem pow_4 (b : Nat) : (2 : Int) ^ (2 * b) = 4 ^ b := by rw [Int.pow_mul]; rfl
theorem two_le25 {b : Nat} (h : b ≤ 25) : (1 : Int) ≤ 2 ^ b ∧ (2 : Int) ^ b ≤ 33554432 := ⟨pow2_pos _, by have := pow2_le (n := b) (m := 25) h; simpa using this⟩
theorem four_le25 {b : Nat} (h : b ≤ 25) : (1 : Int) ≤ 4 ^ b ∧ (4 : Int) ^ b ≤ 1125899906842624 := by
  rw [← pow_4]; exact ⟨pow2_pos _, by have := pow2_le (n := 2 * b) (m := 50) (by omega); simpa using this⟩
theorem digit_bits {n : Int} (h0 : 0 ≤ n) (h1 : n < 1125899906842624) {b : Nat} (hb : b ≤ 25) :
    Go.bits .and .i64 (shr .i64 n (IntKind.u64.wrap (wrap64 (2 * (b : Int))))) 3 = n / 4 ^ b % 4 := by
  have e : shr .i64 n (IntKind.u64.wrap (wrap64 (2 * (b : Int)))) = n / 4 ^ b := by
    rw [wrap_in (by omega) (by omega), u64_in (by omega) (by omega)]
    unfold shr
    rw [show (2 * (b : Int)).toNat = 2 * b by omega, Nat.min_eq_left (by simp [IntKind.bits]; omega), pow_4]
  rw [e]
  have hp := four_pos b
  have g0 : 0 ≤ n / 4 ^ b := Int.ediv_nonneg h0 (by omega)
  have g1 : n / 4 ^ b ≤ n := Int.ediv_le_self _ h0
  exact bits_mask .i64 62 (by decide) i64_62 2 (by decide) (n / 4 ^ b) g0 (by omega)
theorem or_digit {n q : Int} (h0 : 0 ≤ n) (h1 : n < 1125899906842624) (q0 : 0 ≤ q) (q3 : q ≤ 3) : Go.bits .or .i64 (n * 4) q = n * 4 + q :=
  bits_join .i64 62 (by decide) i64_62 2 (n * 4) q (by omega) (by omega) (by omega) q0 (by omega) (by omega)
theorem shl1_nat {b : Nat} (hb : b ≤ 25) : shl .i64 1 (IntKind.u64.wrap (b : Int)) = 2 ^ b := by
  have := shl1 (z := (b : Int)) (by omega) (by omega); simpa using this
/-- What CurvePt computes. -/
def ptW (n : Int) : Int × Int × Bool :=
  if 0 ≤ n ∧ n < 1125899906842624 ∧ ptOk ((hP 25 n).1 - 10000000) ((hP 25 n).2 - 10000000) = true then ((hP 25 n).1 - 10000000, (hP 25 n).2 - 10000000, true) else (0, 0, false)
/-- What CurveOf computes. -/
def ofW (x y : Int) : Int := if ptOk x y = true then hC 25 (x + 10000000) (y + 10000000) else -1
theorem four_room {b : Nat} {n : Int} (hm : b + 1 ≤ 25) (n0 : 0 ≤ n) (n1 : n * 4 ^ (b + 1) < 1125899906842624) :
    n * 4 ^ (b + 1) = (n * 4) * 4 ^ b ∧ n * 4 + 3 < 1125899906842624 ∧ ∀ q : Int, q ≤ 3 → (n * 4 + q) * 4 ^ b < 1125899906842624 := by
  have e4 : n * 4 ^ (b + 1) = (n * 4) * 4 ^ b := by rw [four_succ, Int.mul_assoc]
  have f := four_pos b
  have c25 : (4 : Int) ^ 25 = 1125899906842624 := by decide
  have hp : (4 : Int) ^ 25 = 4 ^ (24 - b) * 4 ^ (b + 1) := by rw [← Int.pow_add]; congr 1; omega
  have fb := four_pos (b + 1)
  have hn : n < 4 ^ (24 - b) := by
    rw [← c25, hp] at n1
    exact Int.lt_of_mul_lt_mul_right n1 (by omega)
  have h5 : (n + 1) * 4 ^ (b + 1) ≤ 1125899906842624 := by
    have := Int.mul_le_mul_of_nonneg_right (show n + 1 ≤ 4 ^ (24 - b) by omega) (show (0 : Int) ≤ 4 ^ (b + 1) by omega)
    rw [← hp, c25] at this; exact this
  have h6 : (n * 4 + 4) * 4 ^ b = (n + 1) * 4 ^ (b + 1) := by rw [four_succ, ← Int.mul_assoc]; congr 1; omega
  have h7 : (n * 4 + 3) * 4 ^ b + 4 ^ b = (n * 4 + 4) * 4 ^ b := by rw [show n * 4 + 4 = (n * 4 + 3) + 1 by omega, Int.add_mul (n * 4 + 3) 1, Int.one_mul]
  have h8 : (n * 4 + 3) * 4 ^ b < 1125899906842624 := by omega
  refine ⟨e4, ?_, ?_⟩
  · have := Int.mul_le_mul_of_nonneg_left (show (1 : Int) ≤ 4 ^ b by omega) (show (0 : Int) ≤ n * 4 + 3 by omega)
    omega
  · intro q hq
    have := Int.mul_le_mul_of_nonneg_right (show n * 4 + q ≤ n * 4 + 3 by omega) (show (0 : Int) ≤ 4 ^ b by omega)
    omega
theorem cellOf_loop {n : Int} (h0 : 0 ≤ n) (h1 : n < 1125899906842624) : ∀ (d b k : Nat), b + d = 25 → d < k →
    impl_cellOf.l0 k n (hP b n).1 (hP b n).2 25 (b : Int) = some (hP 25 n) := by
  intro d
  induction d with
  | zero =>
    intro b k hb hk
    obtain ⟨k, rfl⟩ : ∃ m, k = m + 1 := ⟨k - 1, by omega⟩
    obtain rfl : b = 25 := by omega
    simp only [impl_cellOf.l0]; rw [if_neg (by omega)]
  | succ d ih =>
    intro b k hb hk
    obtain ⟨k, rfl⟩ : ∃ m, k = m + 1 := ⟨k - 1, by omega⟩
    have r := hP_range b n
    have p := two_le25 (b := b) (by omega)
    have hn := ih (b + 1) k (by omega) (by omega)
    rw [hP_succ] at hn
    simp only [hStep] at hn
    simp only [impl_cellOf.l0]
    rw [if_pos (by omega), if_pos (u64_nonneg _), if_pos (u64_nonneg _), digit_bits h0 h1 (by omega), shl1_nat (by omega)]
    have eb : wrap64 ((b : Int) + 1) = ((b + 1 : Nat) : Int) := by rw [wrap_in (by omega) (by omega)]; omega
    rw [eb]
    have dq : 0 ≤ n / 4 ^ b % 4 ∧ n / 4 ^ b % 4 ≤ 3 := by omega
    generalize n / 4 ^ b % 4 = q at hn dq ⊢
    by_cases q0 : q = 0
    · rw [if_pos q0] at hn ⊢; exact hn
    · rw [if_neg q0] at hn ⊢
      by_cases q1 : q = 1
      · rw [if_pos q1] at hn ⊢; rw [wrap_in (by omega) (by omega)]; exact hn
      · rw [if_neg q1] at hn ⊢
        by_cases q2 : q = 2
        · rw [if_pos q2] at hn ⊢; rw [wrap_in (by omega) (by omega), wrap_in (by omega) (by omega)]; exact hn
        · rw [if_neg q2] at hn ⊢
          rw [wrap_in (x := 2 * 2 ^ b) (by omega) (by omega), wrap_in (x := 2 * 2 ^ b - 1) (by omega) (by omega), wrap_in (x := 2 ^ b - 1) (by omega) (by omega), wrap_in (by omega) (by omega), wrap_in (by omega) (by omega)]; exact hn
theorem impl_CurvePt_eq (n : Int) {k : Nat} (hk : 27 ≤ k) : impl_CurvePt.f k n = some (ptW n) := by
  obtain ⟨k, rfl⟩ : ∃ m, k = m + 1 := ⟨k - 1, by omega⟩
  unfold impl_CurvePt.f ptW
  by_cases h0 : n < 0
  · rw [if_pos h0, if_neg (by omega)]; simp only [impl_CurvePt.j0, if_true]
  · rw [if_neg h0]
    by_cases h1 : n ≥ 1125899906842624
    · rw [if_neg (by omega)]; simp only [impl_CurvePt.j0, h1, decide_true, if_true]
    · have e := cellOf_loop (n := n) (by omega) (by omega) 25 0 k (by omega) (by omega)
      rw [hP_0] at e
      have r := hP_range 25 n
      simp only [impl_CurvePt.j0, h1, decide_false, Bool.false_eq_true, if_false, impl_cellOf.f]
      rw [show ((0 : Nat) : Int) = 0 from rfl] at e
      rw [e]
      simp only [Option.bind_some, impl_PtOk_eq]
      rw [wrap_in (x := (hP 25 n).1 - 10000000) (by omega) (by omega), wrap_in (x := (hP 25 n).2 - 10000000) (by omega) (by omega)]
      by_cases hp : ptOk ((hP 25 n).1 - 10000000) ((hP 25 n).2 - 10000000) = true
      · rw [if_pos hp, if_pos ⟨by omega, by omega, hp⟩]
      · rw [if_neg hp, if_neg (fun q => hp q.2.2)]
theorem icurve_loop : ∀ (m k : Nat) (x y n : Int), m ≤ 25 → 2 * m < k → 0 ≤ x → x < 2 ^ m → 0 ≤ y → y < 2 ^ m → 0 ≤ n → n * 4 ^ m < 1125899906842624 →
    impl_curveOf.l0 k x y n ((m : Int) - 1) = some (n * 4 ^ m + hC m x y) := by
  intro m
  induction m with
  | zero =>
    intro k x y n _ hk _ _ _ _ _ _
    obtain ⟨k, rfl⟩ : ∃ m, k = m + 1 := ⟨k - 1, by omega⟩
    simp only [impl_curveOf.l0]; rw [if_neg (by omega)]; simp [hC]
  | succ b ih =>
    intro k x y n hm hk h0 h1 h2 h3 n0 n1
    obtain ⟨k, rfl⟩ : ∃ m, k = m + 2 := ⟨k - 2, by omega⟩
    have p := two_le25 (b := b) (by omega)
    have f := four_pos b
    obtain ⟨e4, nb, mono⟩ := four_room hm n0 n1
    rw [two_succ] at h1 h3
    simp only [impl_curveOf.l0]
    rw [if_pos (by omega), if_pos (u64_nonneg _), show ((b + 1 : Nat) : Int) - 1 = (b : Int) by omega, shl1_nat (by omega), wrap_in (x := n * 4) (by omega) (by omega)]
    simp only [hC]
    have eb : wrap64 ((b : Int) - 1) = (b : Int) - 1 := wrap_in (by omega) (by omega)
    by_cases hx : x < 2 ^ b
    · rw [if_pos hx]
      by_cases hy : y < 2 ^ b
      · rw [if_pos ⟨hx, hy⟩]
        simp only [impl_curveOf.j1, hy, decide_true, if_true, eb]
        have m0 := mono 0 (by decide)
        rw [Int.add_zero] at m0
        rw [ih k y x (n * 4) (by omega) (by omega) h2 hy h0 hx (by omega) m0, e4]
      · rw [if_neg (fun q => hy q.2), if_pos hx]
        simp only [impl_curveOf.j1, hy, decide_false, Bool.false_eq_true, if_false, if_pos hx, eb]
        rw [or_digit n0 (by omega) (by decide) (by decide), wrap_in (x := y - 2 ^ b) (by omega) (by omega), ih k x (y - 2 ^ b) (n * 4 + 1) (by omega) (by omega) h0 hx (by omega) (by omega) (by omega) (mono 1 (by decide)), e4, Int.add_mul, Int.one_mul, Int.add_assoc]
    · rw [if_neg hx, if_neg (fun q => hx q.1), if_neg hx]
      simp only [impl_curveOf.j1, Bool.false_eq_true, if_false, if_neg hx, eb]
      by_cases hy : 2 ^ b ≤ y
      · rw [if_pos hy, if_pos hy, or_digit n0 (by omega) (by decide) (by decide), wrap_in (x := y - 2 ^ b) (by omega) (by omega), wrap_in (x := x - 2 ^ b) (by omega) (by omega), ih k (x - 2 ^ b) (y - 2 ^ b) (n * 4 + 2) (by omega) (by omega) (by omega) (by omega) (by omega) (by omega) (by omega) (mono 2 (by decide)), e4, Int.add_mul, Int.add_assoc]
      · rw [if_neg hy, if_neg hy, or_digit n0 (by omega) (by decide) (by decide), wrap_in (x := 2 ^ b - 1) (by omega) (by omega), wrap_in (x := 2 ^ b - 1 - y) (by omega) (by omega), wrap_in (x := 2 * 2 ^ b) (by omega) (by omega), wrap_in (x := 2 * 2 ^ b - 1) (by omega) (by omega), wrap_in (x := 2 * 2 ^ b - 1 - x) (by omega) (by omega),
          ih k (2 ^ b - 1 - y) (2 * 2 ^ b - 1 - x) (n * 4 + 3) (by omega) (by omega) (by omega) (by omega) (by omega) (by omega) (by omega) (mono 3 (by decide)), e4, Int.add_mul, Int.add_assoc]
theorem impl_CurveOf_eq (x y : Int) {k : Nat} (hk : 51 ≤ k) : impl_CurveOf.f k x y = some (ofW x y) := by
  unfold impl_CurveOf.f ofW; simp only [impl_PtOk_eq, Option.bind_some]
  by_cases h : ptOk x y = true
  · rw [if_pos h, if_pos h]
    have hp := ptOk_iff.1 h
    have e := icurve_loop 25 k (x + 10000000) (y + 10000000) 0 (by decide) (by omega) (by omega) (by omega) (by omega) (by omega) (by decide) (by decide)
    rw [Int.zero_mul, Int.zero_add] at e
    rw [wrap_in (x := x + 10000000) (by omega) (by omega), wrap_in (x := y + 10000000) (by omega) (by omega)]
    simp only [impl_curveOf.f]
    rw [show wrap64 (25 - 1) = ((25 : Nat) : Int) - 1 by unfold wrap64; omega, e]; rfl
  · rw [if_neg h, if_neg h]
/-- What CurveKey computes. -/
def keyW (a b c d : Int) : Int := if boxOk a b c d = true then ofW ((a + c) / 2) ((b + d) / 2) else -1
/-- What Join computes. -/
def joinW (a b c d e f g h : Int) : Int × Int × Int × Int :=
  if boxOk a b c d = true then (if boxOk e f g h = true then (min a e, min b f, max c g, max d h) else (a, b, c, d))
  else (if boxOk e f g h = true then (e, f, g, h) else (0, 0, 0, 0))
def grownW (a b c d e f g h : Int) : Int := area (joinW a b c d e f g h).1 (joinW a b c d e f g h).2.1 (joinW a b c d e f g h).2.2.1 (joinW a b c d e f g h).2.2.2 - area a b c d
theorem grown_wrap (a b c d e f g h : Int) : wrap64 (area (joinW a b c d e f g h).1 (joinW a b c d e f g h).2.1 (joinW a b c d e f g h).2.2.1 (joinW a b c d e f g h).2.2.2 - area a b c d) = grownW a b c d e f g h := by
  have a1 := area_bounds a b c d
  have a2 := area_bounds (joinW a b c d e f g h).1 (joinW a b c d e f g h).2.1 (joinW a b c d e f g h).2.2.1 (joinW a b c d e f g h).2.2.2
  exact wrap_in (by omega) (by omega)
theorem side_fin : ∀ n : Fin 21, (33554432 : Int) / 2 ^ n.val * 2 ^ n.val = 33554432 := by decide +kernel
theorem side_mul {z : Int} (h0 : 0 ≤ z) (h1 : z ≤ 20) : side z * 2 ^ z.toNat = 33554432 := by
  obtain ⟨n, rfl⟩ := Int.eq_ofNat_of_zero_le h0
  exact side_fin ⟨n, by omega⟩
theorem tile_span {z x : Int} (h0 : 0 ≤ z) (h1 : z ≤ 20) (x0 : 0 ≤ x) (x1 : x ≤ 2 ^ z.toNat - 1) : 0 ≤ x * side z ∧ (x + 1) * side z = x * side z + side z ∧ x * side z + side z ≤ 33554432 ∧ 32 ≤ side z := by
  have hs := (shr_side h0 h1).2
  have e : (x + 1) * side z = x * side z + side z := by rw [Int.add_mul, Int.one_mul]
  refine ⟨Int.mul_nonneg x0 (by omega), e, ?_, hs.1⟩
  rw [← e, ← side_mul h0 h1, Int.mul_comm (side z)]
  exact Int.mul_le_mul_of_nonneg_right (by omega) (by omega)
/-- What TileBox computes. -/
def tileBoxW (z x y : Int) : Int × Int × Int × Int × Bool :=
  if tileOk z x y = true ∧ boxOk (max (x * side z - 16777216) (-10000000)) (max (y * side z - 16777216) (-10000000)) (min (x * side z - 16777216 + side z - 1) 10000000) (min (y * side z - 16777216 + side z - 1) 10000000) = true then
    (max (x * side z - 16777216) (-10000000), max (y * side z - 16777216) (-10000000), min (x * side z - 16777216 + side z - 1) 10000000, min (y * side z - 16777216 + side z - 1) 10000000, true)
  else (0, 0, 0, 0, false)
theorem tileOk_iff {z x y : Int} : tileOk z x y = true ↔ (0 ≤ z ∧ z ≤ 20) ∧ (0 ≤ x ∧ x ≤ 2 ^ z.toNat - 1) ∧ (0 ≤ y ∧ y ≤ 2 ^ z.toNat - 1) := by
  simp [tileOk, and_assoc]
/-! The draws answer, whatever the bytes are. -/
def St (l : List Int) (i : Int) : Prop := 0 ≤ i ∧ i ≤ l.length
theorem and255 (x : Int) : 0 ≤ Go.bits .and .i64 x 255 ∧ Go.bits .and .i64 x 255 ≤ 255 := by
  have h : ((BitVec.ofInt 64 x &&& BitVec.ofInt 64 255).toNat) ≤ 255 := by
    rw [BitVec.toNat_and]
    exact Nat.le_trans Nat.and_le_right (by decide)
  have e : Go.bits .and .i64 x 255 = IntKind.i64.wrap ((BitVec.ofInt 64 x &&& BitVec.ofInt 64 255).toNat : Int) := rfl
  rw [e, IntKind.wrap_i64]
  generalize (BitVec.ofInt 64 x &&& BitVec.ofInt 64 255).toNat = m at h ⊢
  omega
theorem byte_ok {l : List Int} (hl : l.length ≤ 140737488351232) {i h : Int} (s : St l i) : ∃ b i' h', spec_l1Byte.f l i h = some (b, i', h') ∧ 0 ≤ b ∧ b ≤ 255 ∧ St l i' := by
  obtain ⟨s0, s1⟩ := s
  unfold spec_l1Byte.f
  by_cases c : i < (l.length : Int)
  · rw [if_pos c, if_pos s0]
    refine ⟨_, _, _, rfl, (and255 _).1, (and255 _).2, ?_⟩
    rw [wrap_in (by omega) (by omega)]; exact ⟨by omega, by omega⟩
  · rw [if_neg c]
    exact ⟨_, _, _, rfl, (and255 _).1, (and255 _).2, s0, s1⟩
theorem tmod_range {x n : Int} (h0 : 0 ≤ x) (hn : 0 < n) : 0 ≤ Int.tmod x n ∧ Int.tmod x n < n := by
  rw [Int.tmod_eq_emod_of_nonneg h0]
  exact ⟨Int.emod_nonneg _ (by omega), Int.emod_lt_of_pos _ hn⟩
theorem below_ok {l : List Int} (hl : l.length ≤ 140737488351232) {i h n : Int} (s : St l i) :
    ∃ x i' h', spec_l1Below.f l i h n = some (x, i', h') ∧ St l i' ∧ 0 ≤ x ∧ (0 < n → x < n) ∧ (n ≤ 0 → x = 0) := by
  unfold spec_l1Below.f
  by_cases c : n ≤ 0
  · rw [if_pos c]; exact ⟨_, _, _, rfl, s, by decide, by omega, fun _ => rfl⟩
  · rw [if_neg c]
    by_cases c2 : n ≤ 256
    · rw [if_pos c2]
      obtain ⟨b, i1, h1, e, b0, b1, s1⟩ := byte_ok hl (h := h) s
      rw [e]; simp only [Option.bind_some]; rw [if_neg (by omega)]
      have := tmod_range b0 (show 0 < n by omega)
      exact ⟨_, _, _, rfl, s1, this.1, fun _ => this.2, by omega⟩
    · rw [if_neg c2]
      obtain ⟨b, i1, h1, e, b0, b1, s1⟩ := byte_ok hl (h := h) s
      obtain ⟨b', i2, h2, e2, b0', b1', s2⟩ := byte_ok hl (h := h1) s1
      obtain ⟨b'', i3, h3, e3, b0'', b1'', s3⟩ := byte_ok hl (h := h2) s2
      rw [e]; simp only [Option.bind_some]; rw [e2]; simp only [Option.bind_some]; rw [e3]; simp only [Option.bind_some]; rw [if_neg (by omega)]
      have nn : 0 ≤ wrap64 (wrap64 (wrap64 (b * 65536) + wrap64 (b' * 256)) + b'') := by
        rw [wrap_in (x := b * 65536) (by omega) (by omega), wrap_in (x := b' * 256) (by omega) (by omega), wrap_in (x := b * 65536 + b' * 256) (by omega) (by omega), wrap_in (by omega) (by omega)]; omega
      have := tmod_range nn (show 0 < n by omega)
      exact ⟨_, _, _, rfl, s3, this.1, fun _ => this.2, by omega⟩
theorem once_ok {l : List Int} (hl : l.length ≤ 140737488351232) {i h : Int} (n : Int) (s : St l i) : ∃ b i' h', spec_l1Once.f l i h n = some (b, i', h') ∧ St l i' := by
  obtain ⟨x, i1, h1, e, s1, _⟩ := below_ok hl (h := h) (n := n) s
  unfold spec_l1Once.f; rw [e]; exact ⟨_, _, _, rfl, s1⟩
theorem int_ok {l : List Int} (hl : l.length ≤ 140737488351232) {i h : Int} (xs : List Int) (hx : 0 < xs.length) (s : St l i) : ∃ v i' h', spec_l1Int.f l i h xs = some (v, i', h') ∧ v ∈ xs ∧ St l i' := by
  obtain ⟨x, i1, h1, e, s1, x0, x1, _⟩ := below_ok hl (h := h) (n := (xs.length : Int)) s
  have hx1 := x1 (by omega)
  unfold spec_l1Int.f; rw [e]; simp only [Option.bind_some]; rw [if_pos x0, if_pos hx1]
  refine ⟨_, _, _, rfl, ?_, s1⟩
  unfold rd
  have hlt : x.toNat < xs.length := by omega
  rw [List.getD_eq_getElem?_getD, List.getElem?_eq_getElem hlt]
  exact List.getElem_mem hlt
theorem new_loop (l : List Int) (hl : l.length ≤ 140737488351232) : ∀ (d i k : Nat) (h : Int), i + d = l.length → d < k → ∃ h', spec_l1New.l0 k l h (i : Int) = some (l, 0, h') := by
  intro d
  induction d with
  | zero =>
    intro i k h hi hk
    obtain ⟨k, rfl⟩ : ∃ m, k = m + 1 := ⟨k - 1, by omega⟩
    simp only [spec_l1New.l0]; rw [if_neg (by omega)]; exact ⟨_, rfl⟩
  | succ d ih =>
    intro i k h hi hk
    obtain ⟨k, rfl⟩ : ∃ m, k = m + 1 := ⟨k - 1, by omega⟩
    simp only [spec_l1New.l0]; rw [if_pos (by omega)]
    by_cases c : (i : Int) < 4000
    · rw [if_pos c, if_pos (by omega), show wrap64 ((i : Int) + 1) = ((i + 1 : Nat) : Int) by rw [wrap_in (by omega) (by omega)]; omega]
      exact ih (i + 1) k _ (by omega) (by omega)
    · rw [if_neg c]; exact ⟨_, rfl⟩
theorem new_ok (l : List Int) (hl : l.length ≤ 140737488351232) {k : Nat} (hk : l.length < k) : ∃ h, spec_l1New.f k l = some (l, 0, h) := by
  unfold spec_l1New.f; exact new_loop l hl l.length 0 k _ (by omega) hk
theorem st0 (l : List Int) : St l 0 := ⟨by decide, by omega⟩
theorem draw3_ok {l : List Int} (hl : l.length ≤ 140737488351232) {i h : Int} {k : Nat} (hk : 1 ≤ k) (s : St l i) : ∃ x y i' h', spec_l3Draw.f k l i h = some (x, y, i', h') ∧ St l i' := by
  obtain ⟨k, rfl⟩ : ∃ m, k = m + 1 := ⟨k - 1, by omega⟩
  obtain ⟨b1, i1, h1, e1, s1, _⟩ := below_ok hl (h := h) (n := 9) s
  obtain ⟨b2, i2, h2, e2, s2, _⟩ := below_ok hl (h := h1) (n := 9) s1
  obtain ⟨b3, i3, h3, e3, s3⟩ := once_ok hl (h := h2) 8 s2
  have tail : ∀ (x y i h : Int), St l i → ∃ x' y' i' h', spec_l3Draw.j0 (k + 1) l i h x y = some (x', y', i', h') ∧ St l i' := by
    intro x y i h s
    simp only [spec_l3Draw.j0]
    obtain ⟨b4, i4, h4, e4, s4⟩ := once_ok hl (h := h) 8 s
    rw [e4]; simp only [Option.bind_some]
    cases b4
    · exact ⟨_, _, _, _, rfl, s4⟩
    · rw [if_pos rfl]
      obtain ⟨v, i5, h5, e5, _, s5⟩ := int_ok hl (h := h4) ([(-10000000), 10000000, 9999998, 7654321, (-10000001), 9223372036854775807] : List Int) (by decide) s4
      rw [e5]; exact ⟨_, _, _, _, rfl, s5⟩
  unfold spec_l3Draw.f
  rw [e1]; simp only [Option.bind_some]; rw [e2]; simp only [Option.bind_some]; rw [e3]; simp only [Option.bind_some]
  cases b3
  · exact tail _ _ _ _ s3
  · rw [if_pos rfl]
    obtain ⟨v, i5, h5, e5, _, s5⟩ := int_ok hl (h := h3) ([(-10000000), 10000000, 9999999, 1234567, 10000001, (-9223372036854775808)] : List Int) (by decide) s3
    rw [e5]; exact tail _ _ _ _ s5
theorem drawCurveOf_ok {l : List Int} (hl : l.length ≤ 140737488351232) {k : Nat} (hk : l.length < k) : ∃ x y, spec_DrawCurveOf.f k l = some (x, y) := by
  obtain ⟨h, e⟩ := new_ok l hl hk
  obtain ⟨x, y, i', h', e2, _⟩ := draw3_ok hl (h := h) (k := k) (by omega) (st0 l)
  unfold spec_DrawCurveOf.f; rw [e]; simp only [Option.bind_some]; rw [e2]; exact ⟨_, _, rfl⟩
theorem near_square {a b c d : Int} (h : near (a, b) (c, d)) : (c - a) * (c - a) + (d - b) * (d - b) = 1 ∧ -1 ≤ c - a ∧ c - a ≤ 1 ∧ -1 ≤ d - b ∧ d - b ≤ 1 := by
  simp only [near] at h
  rcases h with ⟨h1, h2 | h2⟩ | ⟨h1, h2 | h2⟩ <;> subst h1 <;> subst h2
  · rw [show c - c = 0 by omega, show b + 1 - b = 1 by omega]; decide
  · rw [show c - c = 0 by omega, show b - 1 - b = -1 by omega]; decide
  · rw [show d - d = 0 by omega, show a + 1 - a = 1 by omega]; decide
  · rw [show d - d = 0 by omega, show a - 1 - a = -1 by omega]; decide
theorem of_range {x y : Int} (h : ptOk x y = true) : 0 ≤ ofW x y ∧ ofW x y < 1125899906842624 ∧ hP 25 (ofW x y) = (x + 10000000, y + 10000000) := by
  have hp := ptOk_iff.1 h
  unfold ofW; rw [if_pos h]
  have r := hC_range 25 (x + 10000000) (y + 10000000) (by omega) (by omega) (by omega) (by omega)
  rw [show (4 : Int) ^ 25 = 1125899906842624 by decide] at r
  exact ⟨r.1, r.2, hP_hC 25 _ _ (by omega) (by omega) (by omega) (by omega)⟩
theorem pt_of {x y : Int} (h : ptOk x y = true) : ptW (ofW x y) = (x, y, true) := by
  obtain ⟨r0, r1, e⟩ := of_range h
  unfold ptW; rw [e]
  simp only [show x + 10000000 - 10000000 = x by omega, show y + 10000000 - 10000000 = y by omega]
  rw [if_pos ⟨r0, r1, h⟩]
theorem FnCurve : laws_FnCurve.Pure := by
  intro l hm hl0 hw
  have hl : l.length ≤ 140737488351232 := by omega
  refine ⟨l.length + 100, ?_⟩
  unfold laws_FnCurve.f laws_big.f
  simp only [Option.bind_some]
  by_cases hb : decide ((l.length : Int) > 1048576) = true
  · rw [if_pos hb]
  · rw [if_neg hb]
    obtain ⟨x, y, e⟩ := drawCurveOf_ok hl (k := l.length + 100) (by omega)
    rw [e]; simp only [Option.bind_some]
    rw [impl_CurveOf_eq x y (by omega)]; simp only [Option.bind_some, spec_PtOk_eq]
    by_cases hp : ptOk x y = true
    · rw [if_pos hp, impl_CurvePt_eq _ (by omega)]
      simp only [Option.bind_some]
      obtain ⟨r0, r1, er⟩ := of_range hp
      rw [pt_of hp, if_neg (by omega), if_pos rfl]
      simp only [beq_self_eq_true, Bool.not_true, Bool.or_self]
      rw [show l.length + 100 = (l.length + 99) + 1 by omega]
      simp only [laws_FnCurve.j0, Bool.false_eq_true, if_false]
      have hpp := ptOk_iff.1 hp
      have h1 := hP_near 25 (ofW x y) r0
      generalize ofW x y = n at r0 r1 er h1 ⊢
      rw [wrap_in (x := n + 1) (by omega) (by omega), impl_CurvePt_eq _ (by omega)]
      simp only [Option.bind_some]
      unfold ptW
      by_cases hc : 0 ≤ n + 1 ∧ n + 1 < 1125899906842624 ∧ ptOk ((hP 25 (n + 1)).1 - 10000000) ((hP 25 (n + 1)).2 - 10000000) = true
      · rw [if_pos hc]
        simp only [if_true]
        have c25 : (4 : Int) ^ 25 = 1125899906842624 := by decide
        have hn := h1 (by omega)
        have back := hC_hP 25 (n + 1) hc.1 (by omega)
        rw [er] at hn
        generalize hP 25 (n + 1) = q at hn back hc ⊢
        obtain ⟨u, v⟩ := q
        simp only at hn back hc ⊢
        have sq := near_square hn
        have hq := ptOk_iff.1 hc.2.2
        have ea : u - 10000000 - x = u - (x + 10000000) := by omega
        have eb : v - 10000000 - y = v - (y + 10000000) := by omega
        rw [wrap_in (x := u - 10000000 - x) (by omega) (by omega), wrap_in (x := v - 10000000 - y) (by omega) (by omega), ea, eb]
        have small : ∀ a : Int, -1 ≤ a → a ≤ 1 → 0 ≤ a * a ∧ a * a ≤ 1 := by
          intro a h1 h2
          have : a = -1 ∨ a = 0 ∨ a = 1 := by omega
          rcases this with rfl | rfl | rfl <;> decide
        have s1 := small _ sq.2.1 sq.2.2.1
        have s2 := small _ sq.2.2.2.1 sq.2.2.2.2
        rw [wrap_in (x := (u - (x + 10000000)) * (u - (x + 10000000))) (by omega) (by omega), wrap_in (x := (v - (y + 10000000)) * (v - (y + 10000000))) (by omega) (by omega), sq.1, if_pos (by unfold wrap64; decide), impl_CurveOf_eq _ _ (by omega)]
        simp only [Option.bind_some, ofW, hc.2.2, if_true]
        rw [show u - 10000000 + 10000000 = u by omega, show v - 10000000 + 10000000 = v by omega, back]
        simp
      · rw [if_neg hc]; simp
    · rw [if_neg hp]
      unfold ofW; rw [if_neg hp]; simp

end Go.Proofs.Ytebnhcliileneaa.Pure
