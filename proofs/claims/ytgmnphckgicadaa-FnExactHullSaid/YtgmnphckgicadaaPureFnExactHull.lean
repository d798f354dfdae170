/- The pure statement of the law FnExactHull. No conditions beyond that each number is one of its kind and that slices are no greater than memory. -/
import Derived.Test.YtgmnphckgicadaaKinFnExactHull
namespace Go.Proofs.Ytgmnphckgicadaa.Pure
open Go.RowKit Go.Proofs.Ytgmnphckgicadaa.PFnExactHull Go.Proofs.YtgmnphckgicadaaW.PrintWords Go.Proofs.YtgmnphckgicadaaW.PrintLast Go.Proofs.YtgmnphckgicadaaW.PrintMore
set_option linter.unusedVariables false
set_option linter.unusedSimpArgs false

/-- The points that are right. -/
def ptOk (x y : Int) : Bool := decide (-10000000 ≤ x) && decide (x ≤ 10000000) && decide (-10000000 ≤ y) && decide (y ≤ 10000000)
/-- The boxes that are right. -/
def boxOk (a b c d : Int) : Bool := ptOk a b && ptOk c d && decide (a ≤ c) && decide (b ≤ d)
theorem ptOk_iff {x y : Int} : ptOk x y = true ↔ -10000000 ≤ x ∧ x ≤ 10000000 ∧ -10000000 ≤ y ∧ y ≤ 10000000 := by
  simp [ptOk, and_assoc]
theorem boxOk_iff {a b c d : Int} : boxOk a b c d = true ↔ (-10000000 ≤ a ∧ a ≤ 10000000 ∧ -10000000 ≤ b ∧ b ≤ 10000000) ∧ (-10000000 ≤ c ∧ c ≤ 10000000 ∧ -10000000 ≤ d ∧ d ≤ 10000000) ∧ a ≤ c ∧ b ≤ d := by
  simp [boxOk, ptOk_iff, and_assoc]
theorem wrap_in {x : Int} (h1 : -9223372036854775808 ≤ x) (h2 : x ≤ 9223372036854775807) : wrap64 x = x := by unfold wrap64; omega
theorem wrap_bounds (x : Int) : -9223372036854775808 ≤ wrap64 x ∧ wrap64 x ≤ 9223372036854775807 := by unfold wrap64; omega
theorem u64_in {x : Int} (h1 : 0 ≤ x) (h2 : x ≤ 18446744073709551615) : IntKind.u64.wrap x = x := by
  simp [IntKind.wrap, IntKind.bits, IntKind.signed]; omega
theorem u64_bounds (x : Int) : 0 ≤ IntKind.u64.wrap x ∧ IntKind.u64.wrap x ≤ 18446744073709551615 := by
  simp [IntKind.wrap, IntKind.bits, IntKind.signed]; omega
theorem u64_nonneg (x : Int) : 0 ≤ IntKind.u64.wrap x := (u64_bounds x).1
theorem mx_eq (a b : Int) : mx a b = max a b := by unfold mx; omega
theorem mn_eq (a b : Int) : mn a b = min a b := by unfold mn; omega
theorem spec_l1In_eq (a b c : Int) : spec_l1In.f a b c = some (decide (b ≤ a) && decide (a ≤ c)) := by
  unfold spec_l1In.f; by_cases h : b ≤ a <;> simp [h]
theorem impl_inRange_eq (a b c : Int) : impl_inRange.f a b c = some (decide (b ≤ a) && decide (a ≤ c)) := by
  unfold impl_inRange.f; by_cases h : b ≤ a <;> simp [h]
theorem impl_isCoord_eq (a : Int) : impl_isCoord.f a = some (decide (-10000000 ≤ a) && decide (a ≤ 10000000)) := by
  unfold impl_isCoord.f; rw [impl_inRange_eq]; rfl
theorem spec_PtOk_eq (x y : Int) : spec_PtOk.f x y = some (ptOk x y) := by
  unfold spec_PtOk.f ptOk; simp only [spec_l1In_eq, Option.bind_some]
  by_cases h : (decide (-10000000 ≤ x) && decide (x ≤ 10000000)) = true
  · rw [if_pos h, h]; simp
  · rw [if_neg h]; simp only [Bool.not_eq_true] at h; rw [h]; simp
theorem impl_PtOk_eq (x y : Int) : impl_PtOk.f x y = some (ptOk x y) := by
  unfold impl_PtOk.f ptOk; simp only [impl_isCoord_eq, Option.bind_some]
  by_cases h : (decide (-10000000 ≤ x) && decide (x ≤ 10000000)) = true
  · rw [if_pos h, h]; simp
  · rw [if_neg h]; simp only [Bool.not_eq_true] at h; rw [h]; simp
theorem laws_toPt_eq (x y : Int) : laws_toPt.f x y = some (x, y) := rfl
def inBox (a b c d x y : Int) : Bool := boxOk a b c d && ptOk x y && (decide (a ≤ x) && decide (x ≤ c)) && (decide (b ≤ y) && decide (y ≤ d))
def overlap (a b c d e f g h : Int) : Bool := boxOk a b c d && boxOk e f g h && decide (a ≤ g) && decide (e ≤ c) && decide (b ≤ h) && decide (f ≤ d)
def inside (a b c d e f g h : Int) : Bool := boxOk a b c d && inBox e f g h a b && inBox e f g h c d
def area (a b c d : Int) : Int := if boxOk a b c d = true then (c - a) * (d - b) else 0
theorem area_bounds (a b c d : Int) : 0 ≤ area a b c d ∧ area a b c d ≤ 400000000000000 := by
  unfold area; split
  · rename_i h
    rw [boxOk_iff] at h
    obtain ⟨⟨h1, h2, h3, h4⟩, ⟨h5, h6, h7, h8⟩, h9, h10⟩ := h
    have p1 : 0 ≤ c - a := by omega
    have p2 : 0 ≤ d - b := by omega
    refine ⟨Int.mul_nonneg p1 p2, ?_⟩
    calc (c - a) * (d - b) ≤ 20000000 * (d - b) := Int.mul_le_mul_of_nonneg_right (by omega) p2
      _ ≤ 20000000 * 20000000 := Int.mul_le_mul_of_nonneg_left (by omega) (by omega)
      _ = 400000000000000 := by decide
  · omega
theorem area_wrap {a b c d : Int} (h : boxOk a b c d = true) : wrap64 ((wrap64 (c - a)) * (wrap64 (d - b))) = area a b c d := by
  have hb := area_bounds a b c d
  have e : area a b c d = (c - a) * (d - b) := by unfold area; rw [if_pos h]
  rw [boxOk_iff] at h
  rw [wrap_in (x := c - a) (by omega) (by omega), wrap_in (x := d - b) (by omega) (by omega), ← e]
  exact wrap_in (by omega) (by omega)
/-- The tiles that are right. -/
def tileOk (z x y : Int) : Bool := decide (0 ≤ z) && decide (z ≤ 20) && (decide (0 ≤ x) && decide (x ≤ 2 ^ z.toNat - 1)) && (decide (0 ≤ y) && decide (y ≤ 2 ^ z.toNat - 1))
theorem shl1_fin : ∀ n : Fin 51, shl .i64 1 (IntKind.u64.wrap ((n.val : Nat) : Int)) = 2 ^ n.val := by decide +kernel
theorem shl1 {z : Int} (h0 : 0 ≤ z) (h1 : z ≤ 50) : shl .i64 1 (IntKind.u64.wrap z) = 2 ^ z.toNat := by
  obtain ⟨n, rfl⟩ := Int.eq_ofNat_of_zero_le h0
  exact shl1_fin ⟨n, by omega⟩
theorem pow2_le {n m : Nat} (h : n ≤ m) : (2 : Int) ^ n ≤ 2 ^ m := by
  have := Nat.pow_le_pow_right (n := 2) (by decide) h
  exact_mod_cast this
theorem pow2_pos (n : Nat) : (1 : Int) ≤ 2 ^ n := by
  have := pow2_le (Nat.zero_le n); simpa using this
theorem pow2_20 {z : Int} (h1 : z ≤ 20) : (1 : Int) ≤ 2 ^ z.toNat ∧ (2 : Int) ^ z.toNat ≤ 1048576 :=
  ⟨pow2_pos _, by have := pow2_le (n := z.toNat) (m := 20) (by omega); simpa using this⟩
theorem tile_most {z : Int} (h0 : 0 ≤ z) (h1 : z ≤ 20) : wrap64 ((shl .i64 1 (IntKind.u64.wrap z)) - 1) = 2 ^ z.toNat - 1 := by
  rw [shl1 h0 (by omega)]
  have := pow2_20 h1
  exact wrap_in (by omega) (by omega)
/-- The side of the tiles of a Z. -/
def side (z : Int) : Int := 33554432 / 2 ^ z.toNat
theorem shr_side_fin : ∀ n : Fin 21, shr .i64 33554432 (IntKind.u64.wrap ((n.val : Nat) : Int)) = 33554432 / 2 ^ n.val ∧ (32 : Int) ≤ 33554432 / 2 ^ n.val ∧ (33554432 : Int) / 2 ^ n.val ≤ 33554432 := by decide +kernel
theorem shr_side {z : Int} (h0 : 0 ≤ z) (h1 : z ≤ 20) : shr .i64 33554432 (IntKind.u64.wrap z) = side z ∧ 32 ≤ side z ∧ side z ≤ 33554432 := by
  obtain ⟨n, rfl⟩ := Int.eq_ofNat_of_zero_le h0
  exact shr_side_fin ⟨n, by omega⟩
/-- The tile of a point. -/
def tileX (x z : Int) : Int := Int.tdiv (x + 16777216) (side z)
/-- A point as it is taken. -/
def tk (x y : Int) : Int × Int := if ptOk x y = true then (x, y) else (0, 0)
theorem tk_ok (x y : Int) : ptOk (tk x y).1 (tk x y).2 = true := by
  unfold tk; split
  · assumption
  · decide
def sgn (n : Int) : Int := if n > 0 then 1 else if n < 0 then -1 else 0
theorem sgn_cmp (n : Int) : (if n < 0 then (-1 : Int) else if n > 0 then 1 else 0) = sgn n := by unfold sgn; split <;> split <;> omega
theorem sgn_0 : sgn 0 = 0 := rfl
theorem sgn_zero {n : Int} : sgn n = 0 ↔ n = 0 := by unfold sgn; split <;> (try split) <;> omega
def crossW (a b c d e f : Int) : Int := wrap64 ((wrap64 ((wrap64 (c - a)) * (wrap64 (f - b)))) - (wrap64 ((wrap64 (d - b)) * (wrap64 (e - a)))))
theorem spec_l3Area_eq (a b c d e f : Int) : spec_l3Area.f a b c d e f = some (crossW a b c d e f) := rfl
theorem impl_cross2_eq (a b c d e f : Int) : impl_cross2.f a b c d e f = some (crossW a b c d e f) := rfl
theorem cmp_isNaN_int_eq (n : Int) : cmp_isNaN_int.f n = some false := by unfold cmp_isNaN_int.f; simp
def cmpI (a b : Int) : Int := if a < b then -1 else if a > b then 1 else 0
theorem cmp_Compare_int_eq (a b : Int) : cmp_Compare_int.f a b = some (cmpI a b) := by
  unfold cmp_Compare_int.f cmpI; simp only [cmp_isNaN_int_eq, Option.bind_some, Bool.false_eq_true, if_false]
  split
  · rfl
  · split <;> rfl
theorem impl_turn_eq (a b c d e f : Int) : impl_turn.f a b c d e f = some (sgn (crossW a b c d e f)) := by
  unfold impl_turn.f; simp only [impl_cross2_eq, cmp_Compare_int_eq, Option.bind_some]
  congr 1; unfold cmpI; exact sgn_cmp _
def betw (a b n : Int) : Bool := decide (min a b ≤ n) && decide (n ≤ max a b)
def onSegW (a b c d e f : Int) : Bool := decide (crossW a b c d e f = 0) && betw a c e && betw b d f
def onSegT (a b c d e f : Int) : Bool := onSegW (tk a b).1 (tk a b).2 (tk c d).1 (tk c d).2 (tk e f).1 (tk e f).2
def squareW (a b c d : Int) : Int := wrap64 ((wrap64 ((wrap64 (a - c)) * (wrap64 (a - c)))) + (wrap64 ((wrap64 (b - d)) * (wrap64 (b - d)))))
def gapW (a b c d x y : Int) : Int := if boxOk a b c d = true ∧ ptOk x y = true then squareW x y (max a (min x c)) (max b (min y d)) else -1
def l3MeetW (a b c d e f g h : Int) : Bool :=
  onSegW a b c d e f || onSegW a b c d g h || onSegW e f g h a b || onSegW e f g h c d ||
    (decide (wrap64 (sgn (crossW a b c d e f) * sgn (crossW a b c d g h)) < 0) && decide (wrap64 (sgn (crossW e f g h a b) * sgn (crossW e f g h c d)) < 0))
def meetW (a b c d e f g h : Int) : Bool := l3MeetW (tk a b).1 (tk a b).2 (tk c d).1 (tk c d).2 (tk e f).1 (tk e f).2 (tk g h).1 (tk g h).2
/-- What Join computes. -/
def joinW (a b c d e f g h : Int) : Int × Int × Int × Int :=
  if boxOk a b c d = true then (if boxOk e f g h = true then (min a e, min b f, max c g, max d h) else (a, b, c, d))
  else (if boxOk e f g h = true then (e, f, g, h) else (0, 0, 0, 0))
def grownW (a b c d e f g h : Int) : Int := area (joinW a b c d e f g h).1 (joinW a b c d e f g h).2.1 (joinW a b c d e f g h).2.2.1 (joinW a b c d e f g h).2.2.2 - area a b c d
theorem grown_wrap (a b c d e f g h : Int) : wrap64 (area (joinW a b c d e f g h).1 (joinW a b c d e f g h).2.1 (joinW a b c d e f g h).2.2.1 (joinW a b c d e f g h).2.2.2 - area a b c d) = grownW a b c d e f g h := by
  have a1 := area_bounds a b c d
  have a2 := area_bounds (joinW a b c d e f g h).1 (joinW a b c d e f g h).2.1 (joinW a b c d e f g h).2.2.1 (joinW a b c d e f g h).2.2.2
  exact wrap_in (by omega) (by omega)
theorem side_fin : ∀ n : Fin 21, (33554432 : Int) / 2 ^ n.val * 2 ^ n.val = 33554432 := by decide +kernel
theorem side_mul {z : Int} (h0 : 0 ≤ z) (h1 : z ≤ 20) : side z * 2 ^ z.toNat = 33554432 := by
  obtain ⟨n, rfl⟩ := Int.eq_ofNat_of_zero_le h0
  exact side_fin ⟨n, by omega⟩
theorem tile_span {z x : Int} (h0 : 0 ≤ z) (h1 : z ≤ 20) (x0 : 0 ≤ x) (x1 : x ≤ 2 ^ z.toNat - 1) : 0 ≤ x * side z ∧ (x + 1) * side z = x * side z + side z ∧ x * side z + side z ≤ 33554432 ∧ 32 ≤ side z := by
  have hs := (shr_side h0 h1).2
  have e : (x + 1) * side z = x * side z + side z := by rw [Int.add_mul, Int.one_mul]
  refine ⟨Int.mul_nonneg x0 (by omega), e, ?_, hs.1⟩
  rw [← e, ← side_mul h0 h1, Int.mul_comm (side z)]
  exact Int.mul_le_mul_of_nonneg_right (by omega) (by omega)
/-- What TileBox computes. -/
def tileBoxW (z x y : Int) : Int × Int × Int × Int × Bool :=
  if tileOk z x y = true ∧ boxOk (max (x * side z - 16777216) (-10000000)) (max (y * side z - 16777216) (-10000000)) (min (x * side z - 16777216 + side z - 1) 10000000) (min (y * side z - 16777216 + side z - 1) 10000000) = true then
    (max (x * side z - 16777216) (-10000000), max (y * side z - 16777216) (-10000000), min (x * side z - 16777216 + side z - 1) 10000000, min (y * side z - 16777216 + side z - 1) 10000000, true)
  else (0, 0, 0, 0, false)
theorem tileOk_iff {z x y : Int} : tileOk z x y = true ↔ (0 ≤ z ∧ z ≤ 20) ∧ (0 ≤ x ∧ x ≤ 2 ^ z.toNat - 1) ∧ (0 ≤ y ∧ y ≤ 2 ^ z.toNat - 1) := by
  simp [tileOk, and_assoc]
theorem laws_eqPt_refl (a b : Int) : laws_eqPt.f a b a b = some true := by simp [laws_eqPt.f]
theorem szPtS_eq (l : List S103) (hl : l.length * 16 ≤ 140737488351232) (a : Int) (ha : 0 ≤ a) (hb : a ≤ 1048576) : laws_szPtS.f l a = some (if (l.length : Int) ≤ a then a - l.length else -1) := by
  unfold laws_szPtS.f
  rw [wrap_in (by omega) (by omega)]
  by_cases h : (l.length : Int) ≤ a
  · rw [if_neg (by omega), if_pos h]
  · rw [if_pos (by omega), if_neg h]
def cvPt (p : S103) : S67 := ⟨p.f0, p.f1⟩
theorem set_rep {α β : Type} (f : α → β) (P : List α) (v z : β) (n : Nat) : (P.map f ++ List.replicate (n + 1) z).set P.length v = P.map f ++ v :: List.replicate n z := by
  rw [List.replicate_succ, ← List.length_map (f := f), List.set_append_right _ _ (Nat.le_refl _), Nat.sub_self]; rfl
theorem getD_at {α : Type} (z : α) (P : List α) (r : α) (R : List α) : (P ++ r :: R).getD P.length z = r := by simp
theorem toPtS_loop : ∀ (R P : List S103) (k : Nat), (P.length + R.length) * 16 ≤ 140737488351232 → R.length < k →
    laws_toPtS.l0 k (P ++ R) (P.map cvPt ++ List.replicate R.length z67) (P.length : Int) = some ((P ++ R).map cvPt) := by
  intro R
  induction R with
  | nil =>
    intro P k hl hk
    obtain ⟨k, rfl⟩ : ∃ m, k = m + 1 := ⟨k - 1, by omega⟩
    simp only [laws_toPtS.l0]; rw [if_neg (by simp)]; simp
  | cons r R ih =>
    intro P k hl hk
    simp only [List.length_cons] at hl hk
    obtain ⟨k, rfl⟩ : ∃ m, k = m + 1 := ⟨k - 1, by omega⟩
    simp only [laws_toPtS.l0]
    rw [if_pos (by rw [List.length_append, List.length_cons]; omega), if_pos (by omega)]
    simp only [laws_toPt_eq, Option.bind_some, rd_T103, Int.toNat_natCast, getD_at]
    rw [if_pos (by rw [List.length_append, List.length_map, List.length_replicate, List.length_cons]; omega), List.length_cons, set_rep]
    have := ih (P ++ [r]) k (by simp; omega) (by omega)
    rw [show wrap64 ((P.length : Int) + 1) = ((P ++ [r]).length : Int) by rw [wrap_in (by omega) (by omega)]; simp]
    simp only [List.map_append, List.append_assoc, List.map_cons, List.map_nil, List.cons_append, List.nil_append] at this ⊢
    exact this
theorem toPtS_eq (l : List S103) (hl : l.length * 16 ≤ 140737488351232) {k : Nat} (hk : l.length < k) : laws_toPtS.f k l = some (l.map cvPt) := by
  unfold laws_toPtS.f
  rw [if_pos (by omega), if_pos (by omega), Int.toNat_natCast]
  exact toPtS_loop l [] k (by simp; omega) hk
theorem eqPtS_loop (l : List S67) (hl : l.length ≤ 140737488351232) : ∀ (d i k : Nat), i + d = l.length → d < k → laws_eqPtS.l0 k l l (i : Int) = some true := by
  intro d
  induction d with
  | zero =>
    intro i k hi hk
    obtain ⟨k, rfl⟩ : ∃ m, k = m + 1 := ⟨k - 1, by omega⟩
    simp only [laws_eqPtS.l0]; rw [if_neg (by omega)]
  | succ d ih =>
    intro i k hi hk
    obtain ⟨k, rfl⟩ : ∃ m, k = m + 1 := ⟨k - 1, by omega⟩
    simp only [laws_eqPtS.l0]
    rw [if_pos (by omega), if_pos (by omega), if_pos (by omega), laws_eqPt_refl]
    simp only [Option.bind_some, if_true]
    rw [show wrap64 ((i : Int) + 1) = ((i + 1 : Nat) : Int) by rw [wrap_in (by omega) (by omega)]; omega]
    exact ih (i + 1) k (by omega) (by omega)
theorem eqPtS_refl (l : List S67) (hl : l.length ≤ 140737488351232) {k : Nat} (hk : l.length < k) : laws_eqPtS.f k l l = some true := by
  unfold laws_eqPtS.f; rw [if_pos rfl]; exact eqPtS_loop l hl l.length 0 k (by omega) hk
/-! The hull: both sides over one sorted list, one chain. -/
theorem rd67_at (P : List S67) (r : S67) (R : List S67) : rd_T67 (P ++ r :: R) (P.length : Int) = r := by
  simp [rd_T67]
def rightP (l : List S67) : Bool := l.all (fun p => ptOk p.f0 p.f1) && decide ((l.length : Int) ≤ 500)
theorem sRight_loop : ∀ (R P : List S67) (k : Nat), P.length + R.length ≤ 140737488351232 → R.length < k → P.all (fun p => ptOk p.f0 p.f1) = true →
    spec_l9Right.l0 k (P ++ R) 500 (P.length : Int) = some (rightP (P ++ R)) := by
  intro R
  induction R with
  | nil =>
    intro P k hl hk hP
    obtain ⟨k, rfl⟩ : ∃ m, k = m + 1 := ⟨k - 1, by omega⟩
    simp only [spec_l9Right.l0]; rw [if_neg (by simp)]; simp [rightP, hP]
  | cons r R ih =>
    intro P k hl hk hP
    simp only [List.length_cons] at hl hk
    obtain ⟨k, rfl⟩ : ∃ m, k = m + 1 := ⟨k - 1, by omega⟩
    simp only [spec_l9Right.l0]
    rw [if_pos (by simp; omega), if_pos (by omega), rd67_at, spec_PtOk_eq, Option.bind_some]
    by_cases h : ptOk r.f0 r.f1 = true
    · rw [if_pos h, show wrap64 ((P.length : Int) + 1) = ((P ++ [r]).length : Int) by rw [wrap_in (by omega) (by omega)]; simp]
      have := ih (P ++ [r]) k (by simp; omega) (by omega) (by simp [hP, h])
      simpa using this
    · rw [if_neg h]; simp [rightP, h]
theorem spec_right_eq (l : List S67) (hl : l.length ≤ 140737488351232) {k : Nat} (hk : l.length < k) : spec_l9Right.f k l 500 = some (rightP l) := by
  unfold spec_l9Right.f; exact sRight_loop l [] k (by simp; omega) hk rfl
theorem iRight_loop : ∀ (R P : List S67) (k : Nat), P.length + R.length ≤ 140737488351232 → R.length < k → P.all (fun p => ptOk p.f0 p.f1) = true →
    impl_areRight.l0 k (P ++ R) (P ++ R) ((P ++ R).length : Int) (P.length : Int) = some (rightP (P ++ R)) := by
  intro R
  induction R with
  | nil =>
    intro P k hl hk hP
    obtain ⟨k, rfl⟩ : ∃ m, k = m + 1 := ⟨k - 1, by omega⟩
    simp only [impl_areRight.l0]; rw [if_neg (by simp)]; simp [rightP, hP]
  | cons r R ih =>
    intro P k hl hk hP
    simp only [List.length_cons] at hl hk
    obtain ⟨k, rfl⟩ : ∃ m, k = m + 1 := ⟨k - 1, by omega⟩
    simp only [impl_areRight.l0]
    rw [if_pos (by simp; omega), if_pos (by omega), if_pos (by simp; omega), rd67_at, impl_PtOk_eq, Option.bind_some]
    by_cases h : ptOk r.f0 r.f1 = true
    · rw [if_pos h, show wrap64 ((P.length : Int) + 1) = ((P ++ [r]).length : Int) by rw [wrap_in (by omega) (by omega)]; simp]
      have := ih (P ++ [r]) k (by simp; omega) (by omega) (by simp [hP, h])
      simpa using this
    · rw [if_neg h]; simp [rightP, h]
theorem impl_right_eq (l : List S67) (hl : l.length ≤ 140737488351232) {k : Nat} (hk : l.length < k) : impl_areRight.f k l = some (rightP l) := by
  unfold impl_areRight.f; exact iRight_loop l [] k (by simp; omega) hk rfl
theorem rightP_len {l : List S67} (h : rightP l = true) : l.length ≤ 500 := by
  simp only [rightP, Bool.and_eq_true, decide_eq_true_eq] at h; omega
theorem rightP_ok {l : List S67} (h : rightP l = true) : ∀ p ∈ l, ptOk p.f0 p.f1 = true := by
  simp only [rightP, Bool.and_eq_true, List.all_eq_true] at h; exact h.1
/-! sorted, each once -/
def ltP (x y : S67) : Prop := x.f0 < y.f0 ∨ x.f0 = y.f0 ∧ x.f1 < y.f1
instance (x y : S67) : Decidable (ltP x y) := by unfold ltP; infer_instance
theorem ltP_tri (x y : S67) : ltP x y ∨ x = y ∨ ltP y x := by
  cases x with | mk a b => cases y with | mk c d =>
  simp only [ltP, S67.mk.injEq]; omega
theorem ltP_trans {x y z : S67} (h : ltP x y) (k : ltP y z) : ltP x z := by unfold ltP at *; omega
theorem ltP_irr {x : S67} (h : ltP x x) : False := by unfold ltP at h; omega
def ins (v : S67) : List S67 → List S67
  | [] => [v]
  | x :: xs => if ltP v x then v :: x :: xs else if x.f0 = v.f0 ∧ x.f1 = v.f1 then x :: xs else x :: ins v xs
theorem ext67 {x y : S67} (h : x.f0 = y.f0) (k : x.f1 = y.f1) : x = y := by cases x; cases y; simp_all
theorem ins_mem (v : S67) : ∀ (S : List S67) (x : S67), x ∈ ins v S ↔ x = v ∨ x ∈ S
  | [], x => by simp [ins]
  | y :: S, x => by
    unfold ins
    split
    · simp
    · split
      · rename_i h
        have := ext67 h.1 h.2
        subst this
        simp
      · rw [List.mem_cons, ins_mem v S, List.mem_cons]
        constructor
        · rintro (h | h | h) <;> simp [h]
        · rintro (h | h | h) <;> simp [h]
theorem ins_sorted (v : S67) : ∀ (S : List S67), S.Pairwise ltP → (ins v S).Pairwise ltP
  | [], _ => by simp [ins]
  | y :: S, h => by
    obtain ⟨h1, h2⟩ := List.pairwise_cons.1 h
    unfold ins
    split
    · rename_i c
      refine List.pairwise_cons.2 ⟨?_, h⟩
      intro z hz
      rcases List.mem_cons.1 hz with rfl | hz
      · exact c
      · exact ltP_trans c (h1 z hz)
    · rename_i c
      split
      · exact h
      · rename_i d
        refine List.pairwise_cons.2 ⟨?_, ins_sorted v S h2⟩
        intro z hz
        rcases (ins_mem v S z).1 hz with rfl | hz
        · rcases ltP_tri y z with e | e | e
          · exact e
          · subst e; exact absurd ⟨rfl, rfl⟩ d
          · exact absurd e c
        · exact h1 z hz
theorem sorted_uniq : ∀ (A B : List S67), A.Pairwise ltP → B.Pairwise ltP → (∀ x, x ∈ A ↔ x ∈ B) → A = B
  | [], [], _, _, _ => rfl
  | [], b :: B, _, _, h => absurd ((h b).2 (by simp)) (by simp)
  | a :: A, [], _, _, h => absurd ((h a).1 (by simp)) (by simp)
  | a :: A, b :: B, hA, hB, h => by
    obtain ⟨a1, a2⟩ := List.pairwise_cons.1 hA
    obtain ⟨b1, b2⟩ := List.pairwise_cons.1 hB
    have e : a = b := by
      have x1 := (h a).1 (by simp)
      have x2 := (h b).2 (by simp)
      rcases List.mem_cons.1 x1 with e | e
      · exact e
      · rcases List.mem_cons.1 x2 with e2 | e2
        · exact e2.symm
        · exact absurd (ltP_trans (b1 a e) (a1 b e2)) ltP_irr
    subst e
    rw [sorted_uniq A B a2 b2 (fun x => by
      constructor
      · intro hx
        rcases List.mem_cons.1 ((h x).1 (List.mem_cons_of_mem _ hx)) with e | e
        · subst e; exact absurd (a1 x hx) ltP_irr
        · exact e
      · intro hx
        rcases List.mem_cons.1 ((h x).2 (List.mem_cons_of_mem _ hx)) with e | e
        · subst e; exact absurd (b1 x hx) ltP_irr
        · exact e)]
def insAll (l S : List S67) : List S67 := l.foldl (fun S v => ins v S) S
theorem insAll_spec : ∀ (l S : List S67), S.Pairwise ltP → (insAll l S).Pairwise ltP ∧ ∀ x, x ∈ insAll l S ↔ x ∈ l ∨ x ∈ S
  | [], S, h => ⟨h, by simp [insAll]⟩
  | v :: l, S, h => by
    obtain ⟨h1, h2⟩ := insAll_spec l (ins v S) (ins_sorted v S h)
    refine ⟨h1, fun x => ?_⟩
    show x ∈ insAll l (ins v S) ↔ _
    rw [h2 x, ins_mem, List.mem_cons]
    constructor
    · rintro (a | a | a) <;> simp [a]
    · rintro ((a | a) | a) <;> simp [a]
def srt (l : List S67) : List S67 := insAll l []
theorem srt_sorted (l : List S67) : (srt l).Pairwise ltP := (insAll_spec l [] List.Pairwise.nil).1
theorem srt_mem (l : List S67) (x : S67) : x ∈ srt l ↔ x ∈ l := by rw [srt, (insAll_spec l [] List.Pairwise.nil).2 x]; simp
theorem ins_len (v : S67) : ∀ (S : List S67), (ins v S).length ≤ S.length + 1
  | [] => by simp [ins]
  | y :: S => by
    unfold ins
    split
    · simp
    · split
      · simp
      · have := ins_len v S; simp only [List.length_cons]; omega
theorem insAll_len : ∀ (l S : List S67), (insAll l S).length ≤ l.length + S.length
  | [], S => by simp [insAll]
  | v :: l, S => by
    have h1 := insAll_len l (ins v S)
    have h2 := ins_len v S
    show (insAll l (ins v S)).length ≤ _
    simp only [List.length_cons]; omega
theorem srt_len (l : List S67) : (srt l).length ≤ l.length := by have := insAll_len l []; simpa [srt] using this
/-! spec.l9Sorted -/
theorem less_eq (x y : S67) : spec_l9Less.f x.f0 x.f1 y.f0 y.f1 = some (decide (ltP x y)) := by
  unfold spec_l9Less.f ltP
  by_cases h : x.f0 < y.f0
  · rw [if_pos h]; simp [h]
  · rw [if_neg h]
    by_cases h2 : x.f0 = y.f0
    · rw [if_pos h2]; simp [h2]
    · rw [if_neg h2]; simp [h, h2]
theorem eqB67 (x y : S67) : ((x.f0 == y.f0) && (x.f1 == y.f1)) = decide (x.f0 = y.f0 ∧ x.f1 = y.f1) := by
  by_cases h : x.f0 = y.f0 <;> by_cases h2 : x.f1 = y.f1 <;> simp [h, h2]
theorem eqB67' (x y : S67) : (x.f0 == y.f0 && (x.f1 == y.f1)) = true ↔ x = y := by
  cases x with | mk a b => cases y with | mk c d => simp
/-- The last loop of an insertion: what lies from the place on goes one on. -/
theorem sShift (x0 : List S67) (i : Nat) (v : S67) (hi : i < x0.length) (hv : rd_T67 x0 (i : Int) = v) : ∀ (B A C : List S67) (k : Nat), A.length + B.length + C.length + 2 ≤ 140737488351232 →
    ∀ (g : S67), spec_l9Sorted.l2 (k + B.length + 1) x0 (A ++ B ++ g :: C) (i : Int) (A.length : Int) ((A.length + B.length : Nat) : Int) = spec_l9Sorted.l0 k x0 (A ++ v :: B ++ C) (wrap64 ((i : Int) + 1)) := by
  intro B
  induction hn : B.length generalizing B with
  | zero =>
    intro A C k hl g
    have : B = [] := List.length_eq_zero_iff.1 hn
    subst this
    simp only [Nat.add_zero, spec_l9Sorted.l2]
    rw [if_neg (by simp), if_pos (by omega), if_pos (by omega), hv, if_pos (by omega), if_pos (by simp; omega)]
    simp
  | succ n ih =>
    intro A C k hl g
    obtain ⟨B', b, rfl⟩ : ∃ B' b, B = B' ++ [b] := ⟨B.dropLast, B.getLast (by intro e; simp [e] at hn), (List.dropLast_concat_getLast _).symm⟩
    have hn' : B'.length = n := by simpa using hn
    rw [show k + (n + 1) + 1 = (k + n + 1) + 1 by omega, spec_l9Sorted.l2]
    have e1 : wrap64 (((A.length + (n + 1) : Nat) : Int) - 1) = ((A.length + n : Nat) : Int) := by rw [wrap_in (by omega) (by omega)]; omega
    have hrd : rd_T67 (A ++ (B' ++ [b]) ++ g :: C) ((A.length + n : Nat) : Int) = b := by
      have := rd67_at (A ++ B') b (g :: C)
      simp only [List.length_append, hn'] at this
      simpa [List.append_assoc] using this
    rw [if_pos (by omega), e1, if_pos (by omega), if_pos (by simp; omega), if_pos (by omega), if_pos (by simp; omega), hrd]
    have hset : (A ++ (B' ++ [b]) ++ g :: C).set (((A.length + (n + 1) : Nat) : Int)).toNat ⟨b.f0, b.f1⟩ = A ++ B' ++ b :: (b :: C) := by
      rw [Int.toNat_natCast, show A ++ (B' ++ [b]) ++ g :: C = (A ++ B' ++ [b]) ++ g :: C by simp, List.set_append_right _ _ (by simp; omega)]
      simp [hn']
    rw [hset]
    have := ih B' hn' A (b :: C) k (by simp only [List.length_cons]; omega) b
    rw [this]
    simp
theorem ins_place (v : S67) : ∀ (A B : List S67), (∀ a ∈ A, ltP a v) → ins v (A ++ B) = A ++ ins v B
  | [], B, _ => rfl
  | a :: A, B, h => by
    have ha := h a (by simp)
    rw [List.cons_append, ins, if_neg (fun c => ltP_irr (ltP_trans c ha)), if_neg (fun c => by have := ext67 c.1 c.2; subst this; exact ltP_irr ha), ins_place v A B (fun x hx => h x (List.mem_cons_of_mem _ hx))]; rfl
theorem ins_front (v : S67) (B : List S67) (h : ∀ b ∈ B, ltP v b) : ins v B = v :: B := by
  cases B with
  | nil => rfl
  | cons b B => rw [ins, if_pos (h b (by simp))]
theorem sPlace (x0 : List S67) (i : Nat) (v : S67) (hi : i < x0.length) (hv : rd_T67 x0 (i : Int) = v) (S : List S67) (hS : S.Pairwise ltP) (hl : S.length + x0.length + 4 ≤ 4398046511104) :
    ∀ (A B : List S67), S = A ++ B → (∀ b ∈ B, ltP v b) → ∃ c, c ≤ A.length + S.length + 6 ∧ ∀ k, spec_l9Sorted.l1 (k + c) x0 S (i : Int) (A.length : Int) = spec_l9Sorted.l0 k x0 (ins v S) (wrap64 ((i : Int) + 1)) := by
  intro A
  induction hn : A.length generalizing A with
  | zero =>
    intro B e hB
    have : A = [] := List.length_eq_zero_iff.1 hn
    subst this
    rw [List.nil_append] at e
    subst e
    refine ⟨S.length + 4, by omega, fun k => ?_⟩
    have e0 : ((0 : Nat) : Int) = 0 := rfl
    rw [show k + (S.length + 4) = (k + S.length + 1) + 1 + 1 + 1 by omega]
    simp only [spec_l9Sorted.l1, e0]
    rw [if_neg (by omega)]
    simp only [spec_l9Sorted.j2]
    rw [if_neg (by omega)]
    simp only [spec_l9Sorted.j3, Bool.false_eq_true, if_false]
    rw [if_pos (by omega), if_pos (by omega), if_pos (by omega), hv, Option.bind_some]
    have := sShift x0 i v hi hv S [] [] k (by simp; omega) ⟨v.f0, v.f1⟩
    simp only [List.nil_append, List.length_nil, Nat.zero_add, List.append_nil, List.length_append, List.length_cons] at this ⊢
    rw [show wrap64 (((S.length + 1 : Nat) : Int) - 1) = ((S.length : Nat) : Int) by rw [wrap_in (by omega) (by omega)]; omega]
    have e0' : ((0 : Nat) : Int) = 0 := rfl
    rw [e0'] at this
    rw [this, ins_front v S hB]
  | succ n ih =>
    intro B e hB
    obtain ⟨A', a, rfl⟩ : ∃ A' a, A = A' ++ [a] := ⟨A.dropLast, A.getLast (by intro e; simp [e] at hn), (List.dropLast_concat_getLast _).symm⟩
    have hn' : A'.length = n := by simpa using hn
    have hrd : rd_T67 S (n : Int) = a := by
      rw [e]
      have := rd67_at A' a B
      rw [hn'] at this
      simpa [List.append_assoc] using this
    have hln : n + 1 + B.length = S.length := by rw [e]; simp [hn']; omega
    have e1 : wrap64 (((n + 1 : Nat) : Int) - 1) = (n : Int) := by rw [wrap_in (by omega) (by omega)]; omega
    by_cases hva : ltP v a
    · obtain ⟨c, hc, h⟩ := ih A' hn' (a :: B) (by rw [e]; simp) (fun b hb => by rcases List.mem_cons.1 hb with rfl | hb; exact hva; exact hB b hb)
      refine ⟨c + 1, by omega, fun k => ?_⟩
      rw [show k + (c + 1) = (k + c) + 1 by omega, spec_l9Sorted.l1]
      rw [if_pos (by omega), if_pos (by omega), if_pos (by omega), e1, if_pos (by omega), if_pos (by omega), hv, hrd, less_eq, Option.bind_some, if_pos (by simp [hva]), h]
    · by_cases hav : a = v
      · refine ⟨3, by omega, fun k => ?_⟩
        rw [show k + 3 = k + 1 + 1 + 1 by omega, spec_l9Sorted.l1]
        rw [if_pos (by omega), if_pos (by omega), if_pos (by omega), e1, if_pos (by omega), if_pos (by omega), hv, hrd, less_eq, Option.bind_some, if_neg (by simp [hva])]
        rw [spec_l9Sorted.j2, if_pos (by omega), e1, if_pos (by omega), if_pos (by omega), if_pos (by omega), if_pos (by omega), hv, hrd, show ((a.f0 == v.f0) && (a.f1 == v.f1)) = true by rw [hav]; simp]
        rw [spec_l9Sorted.j3, if_pos rfl]
        subst hav
        have hA' : ∀ x ∈ A', ltP x a := by
          intro x hx
          rw [e, List.append_assoc] at hS
          exact (List.pairwise_append.1 hS).2.2 x hx a (by simp)
        rw [e, List.append_assoc, ins_place a A' _ hA']
        simp [ins, ltP]
      · have hlt : ltP a v := by
          rcases ltP_tri v a with q | q | q
          · exact absurd q hva
          · exact absurd q.symm hav
          · exact q
        have hA : ∀ x ∈ A' ++ [a], ltP x v := by
          intro x hx
          rcases List.mem_append.1 hx with hx | hx
          · rw [e, List.append_assoc] at hS
            exact ltP_trans ((List.pairwise_append.1 hS).2.2 x hx a (by simp)) hlt
          · have : x = a := by simpa using hx
            subst this; exact hlt
        refine ⟨B.length + 4, by omega, fun k => ?_⟩
        rw [show k + (B.length + 4) = (k + B.length + 1) + 1 + 1 + 1 by omega, spec_l9Sorted.l1]
        rw [if_pos (by omega), if_pos (by omega), if_pos (by omega), e1, if_pos (by omega), if_pos (by omega), hv, hrd, less_eq, Option.bind_some, if_neg (by simp [hva])]
        rw [spec_l9Sorted.j2, if_pos (by omega), e1, if_pos (by omega), if_pos (by omega), if_pos (by omega), if_pos (by omega), hv, hrd, show ((a.f0 == v.f0) && (a.f1 == v.f1)) = false by rw [eqB67]; exact decide_eq_false (fun q => hav (ext67 q.1 q.2))]
        rw [spec_l9Sorted.j3, if_neg (by decide), if_pos (by omega), if_pos (by omega), if_pos (by omega), hv, Option.bind_some]
        have := sShift x0 i v hi hv B (A' ++ [a]) [] k (by simp; omega) ⟨v.f0, v.f1⟩
        simp only [List.append_nil] at this
        have e2 : wrap64 (((S ++ [(⟨v.f0, v.f1⟩ : S67)]).length : Int) - 1) = (((A' ++ [a]).length + B.length : Nat) : Int) := by
          rw [List.length_append, List.length_singleton, wrap_in (by omega) (by omega)]; simp [hn']; omega
        rw [e2, show S ++ [(⟨v.f0, v.f1⟩ : S67)] = A' ++ [a] ++ B ++ [(⟨v.f0, v.f1⟩ : S67)] by rw [e], show ((n + 1 : Nat) : Int) = ((A' ++ [a]).length : Int) by simp [hn'], this, e, ins_place v (A' ++ [a]) B hA, ins_front v B hB]
theorem sSorted_loop (x0 : List S67) (hl : x0.length ≤ 1000000) : ∀ (R P S : List S67) (k : Nat), x0 = P ++ R → S.Pairwise ltP → S.length ≤ P.length → R.length * (2 * x0.length + 8) + 1 ≤ k →
    spec_l9Sorted.l0 k x0 S (P.length : Int) = some (insAll R S) := by
  intro R
  induction R with
  | nil =>
    intro P S k e hS hSl hk
    obtain ⟨k, rfl⟩ : ∃ m, k = m + 1 := ⟨k - 1, by omega⟩
    rw [spec_l9Sorted.l0, if_neg (by rw [e]; simp)]; rfl
  | cons r R ih =>
    intro P S k e hS hSl hk
    rw [List.length_cons, Nat.succ_mul] at hk
    have hPl : P.length + (R.length + 1) = x0.length := by rw [e]; simp
    have hrd : rd_T67 x0 (P.length : Int) = r := by rw [e]; exact rd67_at P r R
    obtain ⟨M, hM⟩ : ∃ M, M = R.length * (2 * x0.length + 8) := ⟨_, rfl⟩
    rw [← hM] at hk
    obtain ⟨c, hc, h⟩ := sPlace x0 P.length r (by omega) hrd S hS (by omega) S [] (by simp) (by simp)
    obtain ⟨k, rfl⟩ : ∃ m, k = m + c + 1 := ⟨k - c - 1, by omega⟩
    rw [spec_l9Sorted.l0, if_pos (by omega), h k, show wrap64 ((P.length : Int) + 1) = ((P ++ [r]).length : Int) by rw [wrap_in (by omega) (by omega)]; simp]
    have hi := ins_len r S
    rw [ih (P ++ [r]) (ins r S) k (by rw [e]; simp) (ins_sorted r S hS) (by simp; omega) (by omega)]
    rfl
theorem spec_sorted_eq (l : List S67) (hl : l.length ≤ 500) {k : Nat} (hk : 600000 < k) : spec_l9Sorted.f k l = some (srt l) := by
  unfold spec_l9Sorted.f
  have h2 : l.length * (2 * l.length + 8) ≤ 500 * 1008 := Nat.mul_le_mul hl (by omega)
  exact sSorted_loop l (by omega) l [] [] k rfl List.Pairwise.nil (Nat.le_refl _) (by omega)
/-! slices.Compact -/
instance decEq67 : DecidableEq S67 := fun a b => decidable_of_iff (a.f0 = b.f0 ∧ a.f1 = b.f1) ⟨fun h => ext67 h.1 h.2, fun h => by subst h; exact ⟨rfl, rfl⟩⟩
/-- Of neighbours that are one, the first; behind prev. -/
def dd (prev : S67) : List S67 → List S67
  | [] => []
  | b :: l => if b = prev then dd b l else b :: dd b l
theorem neB67 (x y : S67) : ((!(x.f0 == y.f0)) || (!(x.f1 == y.f1))) = decide (x ≠ y) := by
  cases x with | mk a b => cases y with | mk c d =>
  simp only [ne_eq, S67.mk.injEq]
  by_cases h1 : a = c <;> by_cases h2 : b = d <;> simp [h1, h2]
theorem eqB67d (x y : S67) : (x.f0 == y.f0 && (x.f1 == y.f1)) = decide (x = y) := by
  cases x with | mk a b => cases y with | mk c d =>
  simp only [S67.mk.injEq]
  by_cases h1 : a = c <;> by_cases h2 : b = d <;> simp [h1, h2]
theorem cInner (R : List S67) : ∀ (R2 R1 : List S67) (prev : S67) (K x : List S67) (k : Nat), R = R1 ++ prev :: R2 → x.take K.length = K → K.length + R2.length ≤ x.length → x.length ≤ 1000000 → R.length ≤ 1000000 → R2.length + 1 ≤ k →
    impl_Pt_79.l1 k x (K.length : Int) R ((R1.length + 1 : Nat) : Int) = some (K ++ dd prev R2) := by
  intro R2
  induction R2 with
  | nil =>
    intro R1 prev K x k e ht hl hx hR hk
    obtain ⟨k, rfl⟩ : ∃ m, k = m + 1 := ⟨k - 1, by omega⟩
    have hRl : R.length = R1.length + 1 := by rw [e]; simp
    rw [impl_Pt_79.l1, if_neg (by omega), if_pos (by omega), if_pos (by simp at hl; omega), Int.toNat_natCast, ht]
    simp [dd]
  | cons b R2 ih =>
    intro R1 prev K x k e ht hl hx hR hk
    simp only [List.length_cons] at hl hk
    obtain ⟨k, rfl⟩ : ∃ m, k = m + 1 := ⟨k - 1, by omega⟩
    have hRl : R.length = R1.length + 1 + (R2.length + 1) := by rw [e]; simp; omega
    have e1 : wrap64 (((R1.length + 1 : Nat) : Int) - 1) = (R1.length : Int) := by rw [wrap_in (by omega) (by omega)]; omega
    have r1 : rd_T67 R (R1.length : Int) = prev := by rw [e]; exact rd67_at R1 prev _
    have r2 : rd_T67 R ((R1.length + 1 : Nat) : Int) = b := by
      have := rd67_at (R1 ++ [prev]) b R2
      simp only [List.length_append, List.length_singleton] at this
      rw [e]; simpa [List.append_assoc] using this
    have e2 : wrap64 (((R1.length + 1 : Nat) : Int) + 1) = (((R1 ++ [prev]).length + 1 : Nat) : Int) := by rw [wrap_in (by omega) (by omega)]; simp
    rw [impl_Pt_79.l1, if_pos (by omega), if_pos (by omega), e1, if_pos (by omega), if_pos (by omega), r1, r2, neB67]
    by_cases hb : b = prev
    · rw [if_neg (by simp [hb]), e2, ih (R1 ++ [prev]) b K x k (by rw [e]; simp) ht (by omega) hx hR (by omega)]
      simp [dd, hb]
    · rw [if_pos (by simp [hb]), if_pos (by omega), if_pos (by omega), Int.toNat_natCast, e2]
      have e3 : wrap64 ((K.length : Int) + 1) = ((K ++ [b]).length : Int) := by rw [wrap_in (by omega) (by omega)]; simp
      have ht' : (x.set K.length (⟨b.f0, b.f1⟩ : S67)).take (K ++ [b]).length = K ++ [b] := by
        rw [List.length_append, List.length_singleton, List.take_add_one, List.take_set_of_le (Nat.le_refl _), ht]
        simp [show K.length < x.length by omega]
      rw [e3, ih (R1 ++ [prev]) b (K ++ [b]) _ k (by rw [e]; simp) ht' (by simp; omega) (by simpa using hx) hR (by omega)]
      simp [dd, hb]
theorem cOuter (l : List S67) (hl : l.length ≤ 1000000) : ∀ (R P : List S67) (prev : S67) (k : Nat), l = P ++ prev :: R → R.length + 2 ≤ k →
    impl_Pt_79.l0 k l ((P.length + 1 : Nat) : Int) = some (P ++ prev :: dd prev R) := by
  intro R
  induction R with
  | nil =>
    intro P prev k e hk
    obtain ⟨k, rfl⟩ : ∃ m, k = m + 1 := ⟨k - 1, by omega⟩
    have hRl : l.length = P.length + 1 := by rw [e]; simp
    rw [impl_Pt_79.l0, if_neg (by omega), e]; simp [dd]
  | cons b R ih =>
    intro P prev k e hk
    simp only [List.length_cons] at hk
    obtain ⟨k, rfl⟩ : ∃ m, k = m + 1 := ⟨k - 1, by omega⟩
    have hRl : l.length = P.length + 1 + (R.length + 1) := by rw [e]; simp; omega
    have e1 : wrap64 (((P.length + 1 : Nat) : Int) - 1) = (P.length : Int) := by rw [wrap_in (by omega) (by omega)]; omega
    have r1 : rd_T67 l (P.length : Int) = prev := by rw [e]; exact rd67_at P prev _
    have r2 : rd_T67 l ((P.length + 1 : Nat) : Int) = b := by
      have := rd67_at (P ++ [prev]) b R
      simp only [List.length_append, List.length_singleton] at this
      rw [e]; simpa [List.append_assoc] using this
    rw [impl_Pt_79.l0, if_pos (by omega), if_pos (by omega), e1, if_pos (by omega), if_pos (by omega), r1, r2, eqB67d]
    by_cases hb : b = prev
    · rw [if_pos (by simp [hb]), if_pos (by omega), Int.toNat_natCast]
      have hd : l.drop (P.length + 1) = b :: R := by rw [e]; simp [List.drop_append]
      have := cInner (b :: R) R [] b (P ++ [prev]) l k rfl (by rw [e]; simp [List.take_append, List.take_of_length_le]) (by simp; omega) hl (by simp; omega) (by omega)
      simp only [List.length_append, List.length_singleton, List.length_nil, Nat.zero_add] at this
      rw [hd, show (1 : Int) = ((1 : Nat) : Int) from rfl, this]
      simp [dd, hb]
    · rw [if_neg (by simp [hb])]
      have e2 : wrap64 (((P.length + 1 : Nat) : Int) + 1) = (((P ++ [prev]).length + 1 : Nat) : Int) := by rw [wrap_in (by omega) (by omega)]; simp
      rw [e2, ih (P ++ [prev]) b k (by rw [e]; simp) (by omega)]
      simp [dd, hb]
def ddAll : List S67 → List S67
  | [] => []
  | a :: l => a :: dd a l
theorem compact_eq (l : List S67) (hl : l.length ≤ 1000000) {k : Nat} (hk : l.length + 2 ≤ k) : impl_Pt_79.f k l = some (ddAll l) := by
  unfold impl_Pt_79.f
  match l with
  | [] => rw [if_pos (by decide)]; rfl
  | [a] => rw [if_pos (show (([a] : List S67).length : Int) < 2 by simp)]; rfl
  | a :: b :: l =>
    rw [if_neg (by simp only [List.length_cons]; omega)]
    exact cOuter (a :: b :: l) hl (b :: l) [] a k rfl (by simp only [List.length_cons] at hk ⊢; omega)
theorem dd_spec : ∀ (l : List S67) (prev : S67), (prev :: l).Pairwise (fun x y => (!(lt67 y x)) = true) → (dd prev l).Pairwise ltP ∧ (∀ x ∈ dd prev l, ltP prev x) ∧ ∀ x, x ∈ dd prev l ↔ x ∈ l ∧ x ≠ prev
  | [], prev, _ => ⟨List.Pairwise.nil, by simp [dd], by simp [dd]⟩
  | b :: l, prev, h => by
    obtain ⟨h1, h2⟩ := List.pairwise_cons.1 h
    obtain ⟨d1, d2, d3⟩ := dd_spec l b h2
    have hb := h1 b (by simp)
    simp only [lt67, Bool.not_eq_true', decide_eq_false_iff_not] at hb
    by_cases e : b = prev
    · subst e
      have : dd b (b :: l) = dd b l := by simp [dd]
      rw [this]
      refine ⟨d1, d2, fun x => ?_⟩
      rw [d3 x, List.mem_cons]
      constructor
      · exact fun q => ⟨.inr q.1, q.2⟩
      · rintro ⟨q | q, r⟩
        · exact absurd q r
        · exact ⟨q, r⟩
    · have hlt : ltP prev b := by
        rcases ltP_tri prev b with q | q | q
        · exact q
        · exact absurd q.symm e
        · exact absurd q hb
      have : dd prev (b :: l) = b :: dd b l := by simp [dd, e]
      rw [this]
      refine ⟨List.pairwise_cons.2 ⟨d2, d1⟩, ?_, fun x => ?_⟩
      · intro x hx
        rcases List.mem_cons.1 hx with rfl | hx
        · exact hlt
        · exact ltP_trans hlt (d2 x hx)
      · rw [List.mem_cons, d3 x, List.mem_cons]
        constructor
        · rintro (q | q)
          · subst q; exact ⟨.inl rfl, e⟩
          · refine ⟨.inr q.1, ?_⟩
            intro q2
            subst q2
            have := d2 x ((d3 x).2 q)
            exact ltP_irr (ltP_trans hlt this)
        · rintro ⟨q | q, r⟩
          · exact .inl q
          · by_cases q2 : x = b
            · exact .inl q2
            · exact .inr ⟨q, q2⟩
theorem ddAll_sorted (l : List S67) : ddAll (l.mergeSort fun x y => !(lt67 y x)) = srt l := by
  have hp := List.mergeSort_perm l (fun x y => !(lt67 y x))
  have hs : (l.mergeSort fun x y => !(lt67 y x)).Pairwise (fun x y => (!(lt67 y x)) = true) := by
    apply List.pairwise_mergeSort
    · intro a b c h1 h2
      simp only [lt67, Bool.not_eq_true', decide_eq_false_iff_not] at *
      omega
    · intro a b
      simp only [lt67, Bool.or_eq_true, Bool.not_eq_true', decide_eq_false_iff_not]
      omega
  have hm : ∀ x, x ∈ (l.mergeSort fun x y => !(lt67 y x)) ↔ x ∈ l := fun x => hp.mem_iff
  generalize (l.mergeSort fun x y => !(lt67 y x)) = m at hs hm
  apply sorted_uniq
  · cases m with
    | nil => exact List.Pairwise.nil
    | cons a m =>
      obtain ⟨d1, d2, d3⟩ := dd_spec m a hs
      exact List.pairwise_cons.2 ⟨d2, d1⟩
  · exact srt_sorted l
  · intro x
    rw [srt_mem, ← hm x]
    cases m with
    | nil => simp [ddAll]
    | cons a m =>
      obtain ⟨d1, d2, d3⟩ := dd_spec m a hs
      rw [ddAll, List.mem_cons, d3 x, List.mem_cons]
      by_cases e : x = a <;> simp [e]
/-! the geometry -/
def lp (x y : Int) : Prop := 0 < x ∨ (x = 0 ∧ 0 < y)
def ln (x y : Int) : Prop := 0 < x ∨ (x = 0 ∧ 0 ≤ y)
theorem lp_ln {x y : Int} (h : lp x y) : ln x y := by unfold lp at h; unfold ln; omega
def xp (a b c d : Int) : Int := a * d - b * c

theorem mpos {a b : Int} (h : 0 < a) (k : 0 < a * b) : 0 < b := by
  rcases Int.lt_or_le 0 b with q | q
  · exact q
  · have := Int.mul_nonpos_of_nonneg_of_nonpos (Int.le_of_lt h) q; omega
theorem mnn {a b : Int} (h : 0 < a) (k : 0 ≤ a * b) : 0 ≤ b := by
  rcases Int.lt_or_le b 0 with q | q
  · have := Int.mul_neg_of_pos_of_neg h q; omega
  · exact q

theorem wtrans {ux uy vx vy wx wy : Int} (hu : ln ux uy) (hv : lp vx vy) (hw : ln wx wy) (h1 : 0 ≤ xp ux uy vx vy) (h2 : 0 ≤ xp vx vy wx wy) : 0 ≤ xp ux uy wx wy := by
  unfold xp at *
  rcases hv with v | ⟨rfl, v⟩
  · have e : vx * (ux * wy - uy * wx) = (ux * vy - uy * vx) * wx + (vx * wy - vy * wx) * ux := by grind
    have a := Int.mul_nonneg h1 (show 0 ≤ wx by unfold ln at hw; omega)
    have b := Int.mul_nonneg h2 (show 0 ≤ ux by unfold ln at hu; omega)
    exact mnn v (by omega)
  · have : 0 ≤ vy * (-wx) := by grind
    have := mnn v this
    have w0 : wx = 0 := by unfold ln at hw; omega
    subst w0
    have a := Int.mul_nonneg (show 0 ≤ ux by unfold ln at hu; omega) (show 0 ≤ wy by unfold ln at hw; omega)
    omega

theorem strans1 {ux uy vx vy wx wy : Int} (hu : lp ux uy) (hv : lp vx vy) (hw : lp wx wy) (h1 : 0 < xp ux uy vx vy) (h2 : 0 ≤ xp vx vy wx wy) : 0 < xp ux uy wx wy := by
  unfold xp at *
  have ux0 : 0 < ux := by
    rcases hu with u | ⟨rfl, u⟩
    · exact u
    · exfalso
      have : 0 ≤ uy * vx := Int.mul_nonneg (by omega) (by unfold lp at hv; omega)
      omega
  rcases hv with v | ⟨rfl, v⟩
  · have e : vx * (ux * wy - uy * wx) = (ux * vy - uy * vx) * wx + (vx * wy - vy * wx) * ux := by grind
    rcases hw with w | ⟨rfl, w⟩
    · have a := Int.mul_pos h1 w
      have b := Int.mul_nonneg h2 (show 0 ≤ ux by omega)
      exact mpos v (by omega)
    · have := Int.mul_pos ux0 w; omega
  · have : 0 ≤ vy * (-wx) := by grind
    have := mnn v this
    have w0 : wx = 0 := by unfold lp at hw; omega
    subst w0
    have a := Int.mul_pos ux0 (show 0 < wy by unfold lp at hw; omega)
    omega

theorem strans2 {ux uy vx vy wx wy : Int} (hu : lp ux uy) (hv : lp vx vy) (hw : lp wx wy) (h1 : 0 ≤ xp ux uy vx vy) (h2 : 0 < xp vx vy wx wy) : 0 < xp ux uy wx wy := by
  unfold xp at *
  have vx0 : 0 < vx := by
    rcases hv with v | ⟨rfl, v⟩
    · exact v
    · exfalso
      have : 0 ≤ vy * wx := Int.mul_nonneg (by omega) (by unfold lp at hw; omega)
      omega
  have ux0 : 0 < ux := by
    rcases hu with u | ⟨rfl, u⟩
    · exact u
    · exfalso
      have : 0 < uy * vx := Int.mul_pos (by omega) vx0
      omega
  have e : vx * (ux * wy - uy * wx) = (ux * vy - uy * vx) * wx + (vx * wy - vy * wx) * ux := by grind
  have a := Int.mul_nonneg (show 0 ≤ ux * vy - uy * vx by omega) (show 0 ≤ wx by unfold lp at hw; omega)
  have b := Int.mul_pos h2 ux0
  exact mpos vx0 (by omega)
def cr (a b c : S67) : Int := xp (b.f0 - a.f0) (b.f1 - a.f1) (c.f0 - a.f0) (c.f1 - a.f1)
def lt2 (a b : S67) : Prop := lp (b.f0 - a.f0) (b.f1 - a.f1)
theorem tri (a b : S67) : lt2 a b ∨ a = b ∨ lt2 b a := by
  cases a with | mk a0 a1 => cases b with | mk b0 b1 =>
  simp only [lt2, lp, S67.mk.injEq]; omega
theorem lt2_trans {a b c : S67} (h : lt2 a b) (k : lt2 b c) : lt2 a c := by
  simp only [lt2, lp] at *; omega
theorem lt2_irr {a : S67} (h : lt2 a a) : False := by
  simp only [lt2, lp] at *; omega
theorem cr_aa (a b : S67) : cr a b a = 0 := by simp only [cr, xp]; grind
theorem cr_ab (a b : S67) : cr a b b = 0 := by simp only [cr, xp]; grind
theorem cr_last (a b c : S67) : cr a b c = xp (b.f0 - a.f0) (b.f1 - a.f1) (c.f0 - b.f0) (c.f1 - b.f1) := by simp only [cr, xp]; grind
theorem cr_back (a b c : S67) : cr a b c = xp (b.f0 - c.f0) (b.f1 - c.f1) (b.f0 - a.f0) (b.f1 - a.f1) := by simp only [cr, xp]; grind
theorem cr_swap (a b c : S67) : cr a c b = - cr a b c := by simp only [cr, xp]; grind
theorem cr_four (z s t p : S67) : cr z s p = cr z s t + xp (s.f0 - z.f0) (s.f1 - z.f1) (p.f0 - t.f0) (p.f1 - t.f1) := by simp only [cr, xp]; grind

def pop : List S67 → S67 → List S67
  | t :: s :: r, p => if cr s t p ≤ 0 then pop (s :: r) p else t :: s :: r
  | [a], _ => [a]
  | [], _ => []
def Good (Q : List S67) : List S67 → Prop
  | x :: y :: r => lt2 y x ∧ (∀ q ∈ Q, 0 ≤ cr y x q) ∧ (∀ z, r.head? = some z → 0 < cr z y x) ∧ Good Q (y :: r)
  | _ => True

theorem good_more {Q : List S67} {p : S67} : ∀ (r : List S67) (t s : S67), Good Q (t :: s :: r) → lt2 t p → 0 < cr s t p → Good (p :: Q) (t :: s :: r)
  | [], t, s, h, l, c => by
    obtain ⟨h1, h2, h3, _⟩ := h
    refine ⟨h1, ?_, h3, trivial⟩
    intro q hq
    rcases List.mem_cons.1 hq with rfl | hq
    · omega
    · exact h2 q hq
  | z :: r, t, s, h, l, c => by
    obtain ⟨h1, h2, h3, h4⟩ := h
    have k := h3 z rfl
    refine ⟨h1, ?_, h3, good_more r s z h4 (lt2_trans h1 l) ?_⟩
    · intro q hq
      rcases List.mem_cons.1 hq with rfl | hq
      · omega
      · exact h2 q hq
    · rw [cr_four z s t p]
      have e := k
      rw [cr_last] at e
      rw [cr_last] at c
      have := strans1 (h4.1) h1 l e (by omega)
      omega

theorem pop_good {Q : List S67} {p p0 : S67} (hp0 : ∀ q ∈ Q, q = p0 ∨ lt2 p0 q) (hlt : ∀ q ∈ Q, lt2 q p) : ∀ (st : List S67), Good Q st → st.getLast? = some p0 → (∀ t ∈ st, t ∈ Q) → (∀ t, st.head? = some t → ∀ q ∈ Q, lt2 t q → 0 ≤ cr t p q) → Good (p :: Q) (p :: pop st p)
  | [], _, hl, _, _ => by simp at hl
  | [s], _, hl, hm, hh => by
    have e : s = p0 := by simpa using hl
    subst e
    refine ⟨hlt _ (hm _ (by simp)), ?_, by simp, trivial⟩
    intro q hq
    rcases List.mem_cons.1 hq with rfl | hq
    · rw [cr_ab]; omega
    · rcases hp0 q hq with rfl | h
      · rw [cr_aa]; omega
      · exact hh s rfl q hq h
  | t :: s :: r, hg, hl, hm, hh => by
    rw [pop]
    obtain ⟨h1, h2, h3, h4⟩ := hg
    have ht := hlt t (hm t (by simp))
    have hs := hlt s (hm s (by simp))
    split
    · rename_i c
      refine pop_good hp0 hlt (s :: r) h4 (by simpa using hl) (fun x hx => hm x (List.mem_cons_of_mem _ hx)) ?_
      intro x hx q hq lx
      obtain rfl : s = x := by simpa using hx
      have a := h2 q hq
      rw [cr_swap] at c
      exact wtrans (lp_ln hs) h1 (lp_ln lx) (by unfold cr at c; omega) a
    · rename_i c
      refine ⟨ht, ?_, ?_, good_more r t s ⟨h1, h2, h3, h4⟩ ht (by omega)⟩
      · intro q hq
        rcases List.mem_cons.1 hq with rfl | hq
        · rw [cr_ab]; omega
        · rcases tri q t with l | rfl | l
          · have a := h2 q hq
            rw [cr_back] at a
            have c' : 0 ≤ cr s t p := by omega
            rw [cr_last] at c'
            have := wtrans (lp_ln l) h1 (lp_ln ht) a c'
            have e : cr t p q = xp (t.f0 - q.f0) (t.f1 - q.f1) (p.f0 - t.f0) (p.f1 - t.f1) := by simp only [cr, xp]; grind
            omega
          · rw [cr_aa]; omega
          · exact hh t rfl q hq l
      · intro z hz
        obtain rfl : s = z := by simpa using hz
        omega

theorem pop_suffix (p : S67) : ∀ st : List S67, pop st p <:+ st
  | [] => by simp [pop]
  | [a] => by simp [pop]
  | t :: s :: r => by
    rw [pop]; split
    · exact (pop_suffix p (s :: r)).trans (List.suffix_cons _ _)
    · exact List.suffix_refl _
theorem pop_ne (p : S67) : ∀ st : List S67, st ≠ [] → pop st p ≠ []
  | [], h => absurd rfl h
  | [a], _ => by simp [pop]
  | t :: s :: r, _ => by
    rw [pop]; split
    · exact pop_ne p (s :: r) (by simp)
    · simp
theorem pop_last (p : S67) : ∀ st : List S67, (pop st p).getLast? = st.getLast?
  | [] => by simp [pop]
  | [a] => by simp [pop]
  | t :: s :: r => by
    rw [pop]; split
    · rw [pop_last p (s :: r)]; simp
    · rfl
def chainR (l st : List S67) : List S67 := l.foldl (fun st p => p :: pop st p) st

structure Inv (p0 : S67) (Q st : List S67) : Prop where
  ne : st ≠ []
  good : Good Q st
  last : st.getLast? = some p0
  sub : ∀ t ∈ st, t ∈ Q
  min : ∀ q ∈ Q, q = p0 ∨ lt2 p0 q
  max : ∀ t, st.head? = some t → ∀ q ∈ Q, ¬ lt2 t q

theorem inv_step {p0 p : S67} {Q st : List S67} (I : Inv p0 Q st) (hlt : ∀ q ∈ Q, lt2 q p) : Inv p0 (p :: Q) (p :: pop st p) where
  ne := by simp
  good := pop_good I.min hlt st I.good I.last I.sub (fun t h q hq l => absurd l (I.max t h q hq))
  last := by
    have := pop_ne p st I.ne
    have e := pop_last p st
    rw [I.last] at e
    cases hx : pop st p with
    | nil => exact absurd hx this
    | cons a b => rw [hx] at e; rw [List.getLast?_cons_cons]; exact e
  sub := by
    intro t ht
    rcases List.mem_cons.1 ht with rfl | ht
    · simp
    · exact List.mem_cons_of_mem _ (I.sub t ((pop_suffix p st).subset ht))
  min := by
    intro q hq
    rcases List.mem_cons.1 hq with rfl | hq
    · right; exact hlt p0 (I.sub p0 (List.mem_of_getLast? I.last))
    · exact I.min q hq
  max := by
    intro t ht q hq l
    obtain rfl : p = t := by simpa using ht
    rcases List.mem_cons.1 hq with rfl | hq
    · exact lt2_irr l
    · exact lt2_irr (lt2_trans l (hlt q hq))

theorem chain_inv {p0 : S67} : ∀ (l Q st : List S67), Inv p0 Q st → (∀ q ∈ Q, ∀ p ∈ l, lt2 q p) → l.Pairwise lt2 → Inv p0 (l.reverse ++ Q) (chainR l st)
  | [], Q, st, I, _, _ => by simpa [chainR] using I
  | p :: l, Q, st, I, h, s => by
    obtain ⟨s1, s2⟩ := List.pairwise_cons.1 s
    have := chain_inv l (p :: Q) (p :: pop st p) (inv_step I (fun q hq => h q hq p (by simp))) (by
      intro q hq x hx
      rcases List.mem_cons.1 hq with rfl | hq
      · exact s1 x hx
      · exact h q hq x (List.mem_cons_of_mem _ hx)) s2
    rw [List.reverse_cons, List.append_assoc]
    exact this
theorem chain_start (p0 : S67) : Inv p0 [p0] [p0] where
  ne := by simp
  good := trivial
  last := rfl
  sub := by simp
  min := by simp
  max := by
    intro t ht q hq l
    obtain rfl : p0 = t := by simpa using ht
    obtain rfl : q = p0 := by simpa using hq
    exact lt2_irr l
/-! the chains -/
theorem mulb {x y : Int} (hx : -20000000 ≤ x ∧ x ≤ 20000000) (hy : -20000000 ≤ y ∧ y ≤ 20000000) : -400000000000000 ≤ x * y ∧ x * y ≤ 400000000000000 := by
  have h1 := Int.mul_nonneg (show 0 ≤ 20000000 - x by omega) (show 0 ≤ 20000000 + y by omega)
  have h2 := Int.mul_nonneg (show 0 ≤ 20000000 + x by omega) (show 0 ≤ 20000000 - y by omega)
  have h3 := Int.mul_nonneg (show 0 ≤ 20000000 - x by omega) (show 0 ≤ 20000000 - y by omega)
  have h4 := Int.mul_nonneg (show 0 ≤ 20000000 + x by omega) (show 0 ≤ 20000000 + y by omega)
  have e1 : (20000000 - x) * (20000000 + y) = 400000000000000 + 20000000 * y - 20000000 * x - x * y := by grind
  have e2 : (20000000 + x) * (20000000 - y) = 400000000000000 - 20000000 * y + 20000000 * x - x * y := by grind
  have e3 : (20000000 - x) * (20000000 - y) = 400000000000000 - 20000000 * y - 20000000 * x + x * y := by grind
  have e4 : (20000000 + x) * (20000000 + y) = 400000000000000 + 20000000 * y + 20000000 * x + x * y := by grind
  omega
theorem cross_cr {a b c : S67} (ha : ptOk a.f0 a.f1 = true) (hb : ptOk b.f0 b.f1 = true) (hc : ptOk c.f0 c.f1 = true) : crossW a.f0 a.f1 b.f0 b.f1 c.f0 c.f1 = cr a b c := by
  rw [ptOk_iff] at ha hb hc
  unfold crossW cr xp
  rw [wrap_in (x := b.f0 - a.f0) (by omega) (by omega), wrap_in (x := c.f1 - a.f1) (by omega) (by omega), wrap_in (x := b.f1 - a.f1) (by omega) (by omega), wrap_in (x := c.f0 - a.f0) (by omega) (by omega)]
  have h1 := mulb (x := b.f0 - a.f0) (y := c.f1 - a.f1) (by omega) (by omega)
  have h2 := mulb (x := b.f1 - a.f1) (y := c.f0 - a.f0) (by omega) (by omega)
  rw [wrap_in (x := (b.f0 - a.f0) * (c.f1 - a.f1)) (by omega) (by omega), wrap_in (x := (b.f1 - a.f1) * (c.f0 - a.f0)) (by omega) (by omega), wrap_in (by omega) (by omega)]
theorem sgn_le (n : Int) : sgn n ≤ 0 ↔ n ≤ 0 := by unfold sgn; split <;> (try split) <;> omega
theorem pop_sub (p : S67) (st : List S67) : ∀ x ∈ pop st p, x ∈ st := fun x hx => (pop_suffix p st).subset hx
theorem pop_len (p : S67) (st : List S67) : (pop st p).length ≤ st.length := (pop_suffix p st).length_le
theorem iChain_loop (l : List S67) (hl : l.length ≤ 1000000) (hok : ∀ p ∈ l, ptOk p.f0 p.f1 = true) : ∀ k,
    (∀ (rest pre st : List S67), l = pre ++ rest → (∀ p ∈ st, ptOk p.f0 p.f1 = true) → st.length ≤ pre.length → 3 * rest.length + st.length + 2 ≤ k →
      impl_chainOf.l0 k st.reverse l (l.length : Int) (pre.length : Int) = some (chainR rest st).reverse) ∧
    (∀ (p : S67) (rest pre st : List S67), l = pre ++ p :: rest → (∀ p ∈ st, ptOk p.f0 p.f1 = true) → st.length ≤ pre.length → 3 * rest.length + 2 + st.length + 2 ≤ k →
      impl_chainOf.l1 k st.reverse l (l.length : Int) (pre.length : Int) p.f0 p.f1 = some (chainR rest (p :: pop st p)).reverse) := by
  intro k
  induction k with
  | zero => exact ⟨fun _ _ _ _ _ _ h => by omega, fun _ _ _ _ _ _ _ h => by omega⟩
  | succ k ih =>
    obtain ⟨ih0, ih1⟩ := ih
    refine ⟨?_, ?_⟩
    · intro rest pre st e hst hsl hk
      rw [impl_chainOf.l0]
      cases rest with
      | nil => rw [if_neg (by rw [e]; simp)]; rfl
      | cons p rest =>
        simp only [List.length_cons] at hk
        have hll : pre.length + (rest.length + 1) = l.length := by rw [e]; simp
        have hr : rd_T67 l (pre.length : Int) = p := by rw [e]; exact rd67_at pre p rest
        rw [if_pos (by omega), if_pos (by omega), if_pos (by omega), hr, ih1 p rest pre st e hst hsl (by omega)]
        rfl
    · intro p rest pre st e hst hsl hk
      have hll : pre.length + (rest.length + 1) = l.length := by rw [e]; simp
      have hp : ptOk p.f0 p.f1 = true := hok p (by rw [e]; simp)
      have e2 : wrap64 ((pre.length : Int) + 1) = ((pre ++ [p]).length : Int) := by rw [wrap_in (by omega) (by omega)]; simp
      have push : ∀ st' : List S67, (∀ p ∈ st', ptOk p.f0 p.f1 = true) → st'.length ≤ st.length → impl_chainOf.l0 k (st'.reverse ++ [(⟨p.f0, p.f1⟩ : S67)]) l (l.length : Int) (wrap64 ((pre.length : Int) + 1)) = some (chainR rest (p :: st')).reverse := by
        intro st' h1 h2
        have := ih0 rest (pre ++ [p]) (p :: st') (by rw [e]; simp) (by intro q hq; rcases List.mem_cons.1 hq with rfl | hq; exact hp; exact h1 q hq) (by simp; omega) (by simp only [List.length_cons]; omega)
        rw [e2, ← this, List.reverse_cons]
      rw [impl_chainOf.l1]
      match st, hst, hsl, hk, push with
      | [], hst, hsl, hk, push => rw [if_neg (by simp), if_pos (by simp), push [] (by simp) (by simp)]; rfl
      | [t], hst, hsl, hk, push => rw [if_neg (by simp), if_pos (by simp), push [t] hst (by simp)]; rfl
      | t :: s :: r, hst, hsl, hk, push =>
        have hL : (t :: s :: r).reverse.length = r.length + 2 := by simp
        have w2 : wrap64 (((t :: s :: r).reverse.length : Int) - 2) = (r.length : Int) := by simp only [List.length_cons] at hsl; rw [hL, wrap_in (by omega) (by omega)]; omega
        have w1 : wrap64 (((t :: s :: r).reverse.length : Int) - 1) = ((r.length + 1 : Nat) : Int) := by simp only [List.length_cons] at hsl; rw [hL, wrap_in (by omega) (by omega)]; omega
        have r2 : rd_T67 (t :: s :: r).reverse (r.length : Int) = s := by
          have := rd67_at r.reverse s [t]
          simp only [List.length_reverse] at this
          simpa using this
        have r1 : rd_T67 (t :: s :: r).reverse ((r.length + 1 : Nat) : Int) = t := by
          have := rd67_at (r.reverse ++ [s]) t []
          simp only [List.length_append, List.length_reverse, List.length_singleton] at this
          simpa using this
        rw [if_pos (by rw [hL]; omega), w2, if_pos (by omega), if_pos (by rw [hL]; omega), w1, if_pos (by omega), if_pos (by rw [hL]; omega), r1, r2, impl_turn_eq, Option.bind_some,
          cross_cr (hst s (by simp)) (hst t (by simp)) hp]
        simp only [List.length_cons] at hsl hk
        by_cases hc : cr s t p ≤ 0
        · have ht : (t :: s :: r).reverse.take (r.length + 1) = (s :: r).reverse := by
            rw [List.reverse_cons, List.take_append_of_le_length (by simp), List.take_of_length_le (by simp)]
          rw [if_pos ((sgn_le _).2 hc), if_pos (by rw [hL]; omega), Int.toNat_natCast, ht, ih1 p rest pre (s :: r) e (fun q hq => hst q (List.mem_cons_of_mem _ hq)) (by simp only [List.length_cons]; omega) (by simp only [List.length_cons]; omega)]
          rw [show pop (t :: s :: r) p = pop (s :: r) p by rw [pop, if_pos hc]]
        · rw [if_neg (fun q => hc ((sgn_le _).1 q)), if_pos (by rw [hL]; omega), push (t :: s :: r) hst (Nat.le_refl _)]
          rw [show pop (t :: s :: r) p = t :: s :: r by rw [pop, if_neg hc]]
def chainF (l : List S67) : List S67 := (chainR l []).reverse
theorem impl_chain_eq (l : List S67) (hl : l.length ≤ 1000000) (hok : ∀ p ∈ l, ptOk p.f0 p.f1 = true) {k : Nat} (hk : 3 * l.length + 2 ≤ k) : impl_chainOf.f k l = some (chainF l) := by
  unfold impl_chainOf.f
  exact (iChain_loop l hl hok k).1 l [] [] rfl (by simp) (Nat.le_refl _) (by simpa using hk)
theorem sChain_loop (l : List S67) (hl : l.length ≤ 1000000) (hok : ∀ p ∈ l, ptOk p.f0 p.f1 = true) : ∀ k,
    (∀ (rest pre st : List S67), l = pre ++ rest → (∀ p ∈ st, ptOk p.f0 p.f1 = true) → st.length ≤ pre.length → 3 * rest.length + st.length + 2 ≤ k →
      spec_l9Chain.l0 k l st.reverse (pre.length : Int) = some (chainR rest st).reverse) ∧
    (∀ (p : S67) (rest pre st : List S67), l = pre ++ p :: rest → (∀ p ∈ st, ptOk p.f0 p.f1 = true) → st.length ≤ pre.length → 3 * rest.length + 2 + st.length + 2 ≤ k →
      spec_l9Chain.l1 k l st.reverse (pre.length : Int) = some (chainR rest (p :: pop st p)).reverse) := by
  intro k
  induction k with
  | zero => exact ⟨fun _ _ _ _ _ _ h => by omega, fun _ _ _ _ _ _ _ h => by omega⟩
  | succ k ih =>
    obtain ⟨ih0, ih1⟩ := ih
    refine ⟨?_, ?_⟩
    · intro rest pre st e hst hsl hk
      rw [spec_l9Chain.l0]
      cases rest with
      | nil => rw [if_neg (by rw [e]; simp)]; rfl
      | cons p rest =>
        simp only [List.length_cons] at hk
        have hll : pre.length + (rest.length + 1) = l.length := by rw [e]; simp
        rw [if_pos (by omega), ih1 p rest pre st e hst hsl (by omega)]
        rfl
    · intro p rest pre st e hst hsl hk
      have hll : pre.length + (rest.length + 1) = l.length := by rw [e]; simp
      have hr : rd_T67 l (pre.length : Int) = p := by rw [e]; exact rd67_at pre p rest
      have hp : ptOk p.f0 p.f1 = true := hok p (by rw [e]; simp)
      have e2 : wrap64 ((pre.length : Int) + 1) = ((pre ++ [p]).length : Int) := by rw [wrap_in (by omega) (by omega)]; simp
      have push : ∀ st' : List S67, (∀ p ∈ st', ptOk p.f0 p.f1 = true) → st'.length ≤ st.length → spec_l9Chain.l0 k l (st'.reverse ++ [(⟨p.f0, p.f1⟩ : S67)]) (wrap64 ((pre.length : Int) + 1)) = some (chainR rest (p :: st')).reverse := by
        intro st' h1 h2
        have := ih0 rest (pre ++ [p]) (p :: st') (by rw [e]; simp) (by intro q hq; rcases List.mem_cons.1 hq with rfl | hq; exact hp; exact h1 q hq) (by simp; omega) (by simp only [List.length_cons]; omega)
        rw [e2, ← this, List.reverse_cons]
      rw [spec_l9Chain.l1]
      match st, hst, hsl, hk, push with
      | [], hst, hsl, hk, push => rw [if_neg (by simp), if_pos (by omega), if_pos (by omega), if_pos (by simp), hr, push [] (by simp) (by simp)]; rfl
      | [t], hst, hsl, hk, push => rw [if_neg (by simp), if_pos (by omega), if_pos (by omega), if_pos (by simp), hr, push [t] hst (by simp)]; rfl
      | t :: s :: r, hst, hsl, hk, push =>
        have hL : (t :: s :: r).reverse.length = r.length + 2 := by simp
        have w2 : wrap64 (((t :: s :: r).reverse.length : Int) - 2) = (r.length : Int) := by simp only [List.length_cons] at hsl; rw [hL, wrap_in (by omega) (by omega)]; omega
        have w1 : wrap64 (((t :: s :: r).reverse.length : Int) - 1) = ((r.length + 1 : Nat) : Int) := by simp only [List.length_cons] at hsl; rw [hL, wrap_in (by omega) (by omega)]; omega
        have r2 : rd_T67 (t :: s :: r).reverse (r.length : Int) = s := by
          have := rd67_at r.reverse s [t]
          simp only [List.length_reverse] at this
          simpa using this
        have r1 : rd_T67 (t :: s :: r).reverse ((r.length + 1 : Nat) : Int) = t := by
          have := rd67_at (r.reverse ++ [s]) t []
          simp only [List.length_append, List.length_reverse, List.length_singleton] at this
          simpa using this
        rw [if_pos (by rw [hL]; omega), w2, if_pos (by omega), if_pos (by rw [hL]; omega), w1, if_pos (by omega), if_pos (by rw [hL]; omega), if_pos (by omega), if_pos (by omega), r1, r2, hr, spec_l3Area_eq, Option.bind_some,
          cross_cr (hst s (by simp)) (hst t (by simp)) hp]
        simp only [List.length_cons] at hsl hk
        by_cases hc : cr s t p ≤ 0
        · have ht : (t :: s :: r).reverse.take (r.length + 1) = (s :: r).reverse := by
            rw [List.reverse_cons, List.take_append_of_le_length (by simp), List.take_of_length_le (by simp)]
          rw [if_pos hc, if_pos (by rw [hL]; omega), Int.toNat_natCast, ht, ih1 p rest pre (s :: r) e (fun q hq => hst q (List.mem_cons_of_mem _ hq)) (by simp only [List.length_cons]; omega) (by simp only [List.length_cons]; omega)]
          rw [show pop (t :: s :: r) p = pop (s :: r) p by rw [pop, if_pos hc]]
        · rw [if_neg hc, if_pos (by rw [hL]; omega), push (t :: s :: r) hst (Nat.le_refl _)]
          rw [show pop (t :: s :: r) p = t :: s :: r by rw [pop, if_neg hc]]
theorem spec_chain_eq (l : List S67) (hl : l.length ≤ 1000000) (hok : ∀ p ∈ l, ptOk p.f0 p.f1 = true) {k : Nat} (hk : 3 * l.length + 2 ≤ k) : spec_l9Chain.f k l = some (chainF l) := by
  unfold spec_l9Chain.f
  exact (sChain_loop l hl hok k).1 l [] [] rfl (by simp) (Nat.le_refl _) (by simpa using hk)
theorem chainR_len : ∀ (l st : List S67), (chainR l st).length ≤ l.length + st.length
  | [], st => by simp [chainR]
  | p :: l, st => by
    have h := chainR_len l (p :: pop st p)
    have h2 := pop_len p st
    show (chainR l (p :: pop st p)).length ≤ _
    simp only [List.length_cons] at *; omega
theorem chainR_ne : ∀ (l st : List S67), l ≠ [] ∨ st ≠ [] → chainR l st ≠ []
  | [], st, h => by simpa [chainR] using h
  | p :: l, st, _ => chainR_ne l (p :: pop st p) (.inr (by simp))
theorem chainF_len (l : List S67) : (chainF l).length ≤ l.length := by have := chainR_len l []; simpa [chainF] using this
theorem chainF_pos (l : List S67) (h : l ≠ []) : 0 < (chainF l).length := by
  have := chainR_ne l [] (.inl h)
  rw [chainF, List.length_reverse]
  exact List.length_pos_iff.2 this
/-! slices.Reverse, slices.Concat, slices.Clone -/
theorem rev_loop : ∀ (n : Nat) (M A B : List S67) (k : Nat), M.length ≤ n → A.length + M.length + B.length ≤ 1000000 → n + 1 ≤ k →
    impl_Pt_82.l0 k (A ++ M ++ B) (A.length : Int) ((A.length : Int) + M.length - 1) = some (A ++ M.reverse ++ B) := by
  intro n
  induction n using Nat.strongRecOn with
  | ind n ih =>
    intro M A B k hn hl hk
    obtain ⟨k, rfl⟩ : ∃ m, k = m + 1 := ⟨k - 1, by omega⟩
    rw [impl_Pt_82.l0]
    match M with
    | [] => rw [if_neg (by simp; omega)]; simp
    | [m] => rw [if_neg (by simp)]; simp
    | a :: b :: M =>
      obtain ⟨M', c, hM⟩ : ∃ M' c, b :: M = M' ++ [c] := ⟨(b :: M).dropLast, (b :: M).getLast (by simp), (List.dropLast_concat_getLast _).symm⟩
      rw [hM] at hn hl ⊢
      simp only [List.length_cons, List.length_append, List.length_nil] at hn hl
      have r1 : rd_T67 (A ++ a :: (M' ++ [c]) ++ B) ((A.length : Int) + ((a :: (M' ++ [c])).length : Nat) - 1) = c := by
        have := rd67_at (A ++ a :: M') c B
        rw [show ((A.length : Int) + ((a :: (M' ++ [c])).length : Nat) - 1) = ((A ++ a :: M').length : Int) by simp; omega]
        simpa [List.append_assoc] using this
      have r2 : rd_T67 (A ++ a :: (M' ++ [c]) ++ B) (A.length : Int) = a := by
        have := rd67_at A a (M' ++ [c] ++ B)
        simpa [List.append_assoc] using this
      have hlen : ((A ++ a :: (M' ++ [c]) ++ B).length : Int) = A.length + M'.length + 2 + B.length := by simp; omega
      have hlen2 : ((a :: (M' ++ [c])).length : Int) = M'.length + 2 := by simp; omega
      rw [if_pos (by omega), if_pos (by omega), if_pos (by omega), if_pos (by omega), if_pos (by omega), r1, r2]
      have e1 : wrap64 ((A.length : Int) + 1) = ((A ++ [c]).length : Int) := by rw [wrap_in (by omega) (by omega)]; simp
      have e2 : wrap64 ((A.length : Int) + ((a :: (M' ++ [c])).length : Nat) - 1 - 1) = (((A ++ [c]).length : Int) + (M'.length : Nat) - 1) := by rw [wrap_in (by omega) (by omega)]; simp; omega
      have hset : ((A ++ a :: (M' ++ [c]) ++ B).set ((A.length : Int)).toNat (⟨c.f0, c.f1⟩ : S67)).set ((A.length : Int) + ((a :: (M' ++ [c])).length : Nat) - 1).toNat (⟨a.f0, a.f1⟩ : S67) = (A ++ [c]) ++ M' ++ (a :: B) := by
        rw [show ((A.length : Int) + ((a :: (M' ++ [c])).length : Nat) - 1).toNat = (A ++ [c] ++ M').length by simp; omega, Int.toNat_natCast]
        rw [show A ++ a :: (M' ++ [c]) ++ B = A ++ a :: (M' ++ c :: B) by simp, List.set_append_right _ _ (Nat.le_refl _), Nat.sub_self]
        simp only [List.set_cons_zero]
        rw [show A ++ (⟨c.f0, c.f1⟩ : S67) :: (M' ++ c :: B) = (A ++ [c] ++ M') ++ c :: B by simp, List.set_append_right _ _ (Nat.le_refl _), Nat.sub_self]
        simp
      rw [hset, e1, e2, ih (n - 2) (by omega) M' (A ++ [c]) (a :: B) k (by omega) (by simp; omega) (by omega)]
      simp
theorem rev_eq (l : List S67) (hl : l.length ≤ 1000000) {k : Nat} (hk : l.length + 1 ≤ k) : impl_Pt_82.f k l = some l.reverse := by
  unfold impl_Pt_82.f
  have := rev_loop l.length l [] [] k (Nat.le_refl _) (by simp; omega) hk
  simp only [List.nil_append, List.append_nil, List.length_nil] at this
  rw [show wrap64 ((l.length : Int) - 1) = (((0 : Nat) : Int) + l.length - 1) by rw [wrap_in (by omega) (by omega)]; omega]
  exact this
theorem clone_eq67 (l : List S67) (hl : l.length ≤ 2000000) : impl_Pt_76.f l = some l := by
  unfold impl_Pt_76.f
  rw [Option.bind_some, if_pos (by simp; omega)]; rfl
theorem concat_eq (a b : List S67) (ha : a.length ≤ 1000000) (hb : b.length ≤ 1000000) {k : Nat} (hk : 6 ≤ k) : impl_Pt_83.f k [a, b] = some (a ++ b) := by
  obtain ⟨k, rfl⟩ : ∃ m, k = m + 3 + 3 := ⟨k - 6, by omega⟩
  have r0 : rd_L3 [a, b] 0 = a := rfl
  have r1 : rd_L3 [a, b] 1 = b := rfl
  have w1 : wrap64 (0 + 1) = 1 := by unfold wrap64; decide
  have w2 : wrap64 (1 + 1) = 2 := by unfold wrap64; decide
  have hl : (([a, b] : List (List S67)).length : Int) = 2 := rfl
  have s0 : wrap64 (0 + (a.length : Int)) = a.length := by rw [wrap_in (by omega) (by omega)]; omega
  have s1 : wrap64 ((a.length : Int) + b.length) = a.length + b.length := wrap_in (by omega) (by omega)
  unfold impl_Pt_83.f
  rw [hl, impl_Pt_83.l0, if_pos (by decide), if_pos (by decide), hl, if_pos (by decide), r0, s0, if_neg (by omega), w1]
  rw [impl_Pt_83.l0, if_pos (by decide), if_pos (by decide), hl, if_pos (by decide), r1, s1, if_neg (by omega), w2]
  rw [impl_Pt_83.l0, if_neg (by decide), impl_Pt_123.f, if_pos (by omega), Option.bind_some, hl]
  rw [impl_Pt_83.l1, if_pos (by decide), if_pos (by decide), hl, if_pos (by decide), r0, if_pos (by simp; omega), w1, List.nil_append]
  rw [impl_Pt_83.l1, if_pos (by decide), if_pos (by decide), hl, if_pos (by decide), r1, if_pos (by omega), w2]
  rw [impl_Pt_83.l1, if_neg (by decide)]
/-! both hulls -/
def hullF (S : List S67) : List S67 := if S.length < 2 then S else (chainF S).dropLast ++ (chainF S.reverse).dropLast
def hullOf (l : List S67) : List S67 := if rightP l = true then hullF (srt l) else []
theorem take_drop_last (L : List S67) (h : 0 < L.length) (hl : L.length ≤ 1000000) : 0 ≤ wrap64 ((L.length : Int) - 1) ∧ wrap64 ((L.length : Int) - 1) ≤ (L.length : Int) ∧ L.take (wrap64 ((L.length : Int) - 1)).toNat = L.dropLast := by
  have e : wrap64 ((L.length : Int) - 1) = (L.length : Int) - 1 := wrap_in (by omega) (by omega)
  rw [e]
  refine ⟨by omega, by omega, ?_⟩
  rw [List.dropLast_eq_take, show ((L.length : Int) - 1).toNat = L.length - 1 by omega]
theorem impl_hull_eq (l : List S67) (hl : l.length ≤ 2000000) {k : Nat} (hk : 2100000 < k) : impl_Hull.f k l = some (hullOf l) := by
  unfold impl_Hull.f hullOf
  rw [impl_right_eq l (by omega) (by omega), Option.bind_some]
  by_cases h : rightP l = true
  · rw [if_pos h, if_pos h, clone_eq67 l hl, Option.bind_some]
    have h5 := rightP_len h
    have hs := srt_len l
    have hok : ∀ p ∈ srt l, ptOk p.f0 p.f1 = true := fun p hp => rightP_ok h p ((srt_mem l p).1 hp)
    have hms : (l.mergeSort fun x y => !(lt67 y x)).length = l.length := List.length_mergeSort _
    rw [impl_Pt_77.f, if_pos (by omega), Option.bind_some, compact_eq _ (by omega) (by omega), ddAll_sorted, Option.bind_some]
    generalize srt l = S at hs hok
    unfold hullF
    by_cases h2 : S.length < 2
    · rw [if_pos (by omega), if_pos h2, impl_Pt_80.f, if_pos (by omega), if_pos (by omega), Option.bind_some]
      simp
    · have hne : S ≠ [] := by intro e; simp [e] at h2
      have c1 := chainF_len S
      have c2 := chainF_len S.reverse
      rw [List.length_reverse] at c2
      have p1 := chainF_pos S hne
      have p2 := chainF_pos S.reverse (by simpa using hne)
      obtain ⟨a1, a2, a3⟩ := take_drop_last (chainF S) p1 (by omega)
      obtain ⟨b1, b2, b3⟩ := take_drop_last (chainF S.reverse) p2 (by omega)
      rw [if_neg (by omega), if_neg h2, impl_chain_eq S (by omega) hok (by omega), Option.bind_some, rev_eq S (by omega) (by omega), Option.bind_some,
        impl_chain_eq S.reverse (by simp; omega) (fun p hp => hok p (by simpa using hp)) (by simp; omega), Option.bind_some, if_pos a1, if_pos a2, if_pos b1, if_pos b2, a3, b3,
        concat_eq _ _ (by simp; omega) (by simp; omega) (by omega), Option.bind_some]
  · rw [if_neg h, if_neg h]
theorem sHull_loop (S L : List S67) (hS : S.length ≤ 1000000) : ∀ (i k : Nat), i ≤ S.length →
    spec_Hull.l0 (k + i + 1) S L (S.drop i).reverse ((i : Int) - 1) = spec_Hull.l0 (k + 1) S L S.reverse (-1) := by
  intro i
  induction i with
  | zero => intro k _; simp
  | succ i ih =>
    intro k hi
    have hrd : rd_T67 S (i : Int) = S[i] := by simp [rd_T67, show i < S.length by omega]
    rw [show k + (i + 1) + 1 = (k + i + 1) + 1 by omega]
    conv => lhs; rw [spec_Hull.l0]
    have e1 : (((i + 1 : Nat) : Int) - 1) = (i : Int) := by omega
    rw [e1, if_pos (by omega), if_pos (by omega), if_pos (by omega), if_pos (by simp; omega), hrd, wrap_in (by omega) (by omega)]
    have e2 : (S.drop (i + 1)).reverse ++ [(⟨S[i].f0, S[i].f1⟩ : S67)] = (S.drop i).reverse := by
      rw [List.drop_eq_getElem_cons (show i < S.length by omega), List.reverse_cons]
    rw [e2]
    exact ih k (by omega)
theorem spec_hull_eq (l : List S67) (hl : l.length ≤ 2000000) {k : Nat} (hk : 2100000 < k) : spec_Hull.f k l = some (hullOf l) := by
  unfold spec_Hull.f hullOf
  rw [spec_right_eq l (by omega) (by omega), Option.bind_some]
  by_cases h : rightP l = true
  · rw [if_pos h, if_pos h]
    have h5 := rightP_len h
    have hs := srt_len l
    have hok : ∀ p ∈ srt l, ptOk p.f0 p.f1 = true := fun p hp => rightP_ok h p ((srt_mem l p).1 hp)
    have hpw := srt_sorted l
    rw [spec_sorted_eq l h5 (by omega), Option.bind_some]
    generalize srt l = S at hs hok hpw
    unfold hullF
    by_cases h3 : S.length < 3
    · rw [if_pos (by omega)]
      match S with
      | [] => rfl
      | [a] => rfl
      | [a, b] => simp [chainF, chainR, pop]
      | a :: b :: c :: S => simp at h3; omega
    · have hne : S ≠ [] := by intro e; simp [e] at h3
      have c1 := chainF_len S
      have c2 := chainF_len S.reverse
      rw [List.length_reverse] at c2
      have p1 := chainF_pos S hne
      have p2 := chainF_pos S.reverse (by simpa using hne)
      obtain ⟨a1, a2, a3⟩ := take_drop_last (chainF S) p1 (by omega)
      obtain ⟨b1, b2, b3⟩ := take_drop_last (chainF S.reverse) p2 (by omega)
      rw [if_neg (by omega), if_neg (by omega), spec_chain_eq S (by omega) hok (by omega), Option.bind_some]
      obtain ⟨m, rfl⟩ : ∃ m, k = m + S.length + 1 := ⟨k - S.length - 1, by omega⟩
      have := sHull_loop S (chainF S) (by omega) S.length m (Nat.le_refl _)
      rw [List.drop_length, List.reverse_nil] at this
      rw [show wrap64 ((S.length : Int) - 1) = (S.length : Int) - 1 from wrap_in (by omega) (by omega), this, spec_Hull.l0, if_neg (by decide)]
      rw [spec_chain_eq S.reverse (by simp; omega) (fun p hp => hok p (by simpa using hp)) (by simp; omega), Option.bind_some, if_pos a1, if_pos a2, Option.bind_some, if_pos b1, if_pos b2, Option.bind_some, a3, b3, if_pos (by simp; omega)]
  · rw [if_neg h, if_neg h]
/-! marks -/
def nx2 (m : Int) : Int := wrap64 ((wrap64 (m + 1)) + 1)
def tm2 (m : Int) : Nat → List S67
  | 0 => []
  | n + 1 => ⟨m, wrap64 (m + 1)⟩ :: tm2 (nx2 m) n
def te2 (m : Int) : Nat → Int
  | 0 => m
  | n + 1 => te2 (nx2 m) n
theorem getD_mid2 {α : Type} (z : α) (P : List α) (r : α) (R : List α) : (P ++ r :: R).getD P.length z = r := by simp
theorem set_mid2 {α : Type} (P : List α) (r v : α) (R : List α) : (P ++ r :: R).set P.length v = P ++ v :: R := by simp
theorem te2_eq : ∀ (n : Nat) (m : Int), 0 ≤ m → m + 2 * n ≤ 4611686018427387904 → te2 m n = m + 2 * n
  | 0, m, _, _ => by simp [te2]
  | n + 1, m, h0, h1 => by
    have e : nx2 m = m + 2 := by unfold nx2; rw [wrap_in (x := m + 1) (by omega) (by omega), wrap_in (by omega) (by omega)]; omega
    show te2 (nx2 m) n = _
    rw [te2_eq n (nx2 m) (by omega) (by omega), e]; omega
theorem markPtS_loop : ∀ (R P : List S67) (m : Int) (k : Nat), P.length + R.length ≤ 140737488351232 → R.length < k →
    laws_markPtS.l0 k (P ++ R) m (P.length : Int) = some (te2 m R.length, P ++ tm2 m R.length) := by
  intro R
  induction R with
  | nil =>
    intro P m k hl hk
    obtain ⟨k, rfl⟩ : ∃ m, k = m + 1 := ⟨k - 1, by omega⟩
    simp only [laws_markPtS.l0]; rw [if_neg (by simp)]; rfl
  | cons r R ih =>
    intro P m k hl hk
    simp only [List.length_cons] at hl hk
    obtain ⟨k, rfl⟩ : ∃ m, k = m + 1 := ⟨k - 1, by omega⟩
    simp only [laws_markPtS.l0]
    rw [if_pos (by simp; omega), if_pos (by omega)]
    simp only [Option.bind_some, rd_T67, Int.toNat_natCast, getD_mid2, set_mid2]
    rw [show wrap64 ((P.length : Int) + 1) = ((P ++ [(⟨m, wrap64 (m + 1)⟩ : S67)]).length : Int) by rw [wrap_in (by omega) (by omega)]; simp]
    have := ih (P ++ [(⟨m, wrap64 (m + 1)⟩ : S67)]) (nx2 m) k (by simp; omega) (by omega)
    rw [List.append_assoc] at this
    simp only [List.cons_append, List.nil_append] at this
    rw [show wrap64 (wrap64 (m + 1) + 1) = nx2 m from rfl, this]
    simp [te2, tm2]
theorem tm2_length : ∀ (n : Nat) (m : Int), (tm2 m n).length = n := by
  intro n; induction n with
  | zero => intro m; rfl
  | succ n ih => intro m; simp [tm2, ih]
theorem heldPtS_loop : ∀ (n : Nat) (P : List S67) (m : Int) (k : Nat), P.length + n ≤ 140737488351232 → n < k →
    laws_heldPtS.l0 k (P ++ tm2 m n) m (P.length : Int) = some (te2 m n) := by
  intro n
  induction n with
  | zero =>
    intro P m k hl hk
    obtain ⟨k, rfl⟩ : ∃ m, k = m + 1 := ⟨k - 1, by omega⟩
    simp only [laws_heldPtS.l0]; rw [if_neg (by simp [tm2])]; rfl
  | succ n ih =>
    intro P m k hl hk
    obtain ⟨k, rfl⟩ : ∃ m, k = m + 1 := ⟨k - 1, by omega⟩
    rw [show tm2 m (n + 1) = (⟨m, wrap64 (m + 1)⟩ : S67) :: tm2 (nx2 m) n from rfl]
    simp only [laws_heldPtS.l0]
    rw [if_pos (by rw [List.length_append, List.length_cons]; omega), if_pos (by omega)]
    simp only [rd_T67, Int.toNat_natCast, getD_mid2, if_true]
    rw [show wrap64 ((P.length : Int) + 1) = ((P ++ [(⟨m, wrap64 (m + 1)⟩ : S67)]).length : Int) by rw [wrap_in (by omega) (by omega)]; simp]
    have := ih (P ++ [(⟨m, wrap64 (m + 1)⟩ : S67)]) (nx2 m) k (by simp; omega) (by omega)
    rw [List.append_assoc] at this
    simp only [List.cons_append, List.nil_append] at this
    rw [show wrap64 (wrap64 (m + 1) + 1) = nx2 m from rfl, this]
    simp [te2]
theorem markPtS_eq (l : List S67) (m : Int) (hl : l.length ≤ 1000000000) {k : Nat} (hk : l.length < k) : laws_markPtS.f k l m = some (te2 m l.length, tm2 m l.length) := by
  unfold laws_markPtS.f; have := markPtS_loop l [] m k (by simp; omega) hk; simpa using this
theorem heldPtS_eq (n : Nat) (m : Int) (hl : n ≤ 1000000000) {k : Nat} (hk : n < k) : laws_heldPtS.f k (tm2 m n) m = some (te2 m n) := by
  unfold laws_heldPtS.f; have := heldPtS_loop n [] m k (by simp; omega) hk; simpa using this
theorem hullF_len (S : List S67) : (hullF S).length ≤ 2 * S.length := by
  unfold hullF
  split
  · omega
  · have c1 := chainF_len S
    have c2 := chainF_len S.reverse
    rw [List.length_reverse] at c2
    simp; omega
theorem hullOf_len (l : List S67) : (hullOf l).length ≤ 2 * l.length := by
  unfold hullOf
  split
  · have := hullF_len (srt l); have := srt_len l; omega
  · simp
theorem FnExactHull : ∀ (l0 : List (S103)), (l0.length * 16 ≤ 140737488351232 ∧ ∀ u ∈ l0, (fun x : S103 => ok103 x) u) → ∃ k, laws_FnExactHull.f k l0 = some true := by
  intro l ⟨hl, _⟩
  refine ⟨4000000, ?_⟩
  unfold laws_FnExactHull.f
  rw [szPtS_eq l hl 1048576 (by decide) (by decide)]
  simp only [Option.bind_some]
  by_cases hb : (l.length : Int) ≤ 1048576
  · rw [if_pos hb, if_neg (by omega), toPtS_eq l hl (by omega)]
    simp only [Option.bind_some]
    have hlen : (l.map cvPt).length = l.length := List.length_map _
    generalize hm : l.map cvPt = m at hlen ⊢
    have hR := hullOf_len m
    rw [spec_hull_eq m (by omega) (by omega), Option.bind_some, impl_hull_eq m (by omega) (by omega), Option.bind_some]
    have hRe : impl_Hull.f 3999999 m = some (hullOf m) := impl_hull_eq m (by omega) (by omega)
    generalize hullOf m = R at hR hRe
    have hR2 : R.length ≤ 2097152 := by omega
    rw [eqPtS_refl R (by omega) (by omega), Option.bind_some, if_pos rfl, eqPtS_refl m (by omega) (by omega), Option.bind_some, if_pos rfl, markPtS_eq m 1 (by omega) (by omega), Option.bind_some]
    simp only []
    have h1 : te2 1 m.length = 1 + 2 * m.length := te2_eq _ _ (by omega) (by omega)
    have h2 : te2 1 R.length = 1 + 2 * R.length := te2_eq _ _ (by omega) (by omega)
    rw [h1, if_neg (by omega), Option.bind_some, show (4000000 : Nat) = 3999999 + 1 from rfl, laws_FnExactHull.j0]
    simp only [Bool.not_true, Bool.false_eq_true, if_false]
    rw [markPtS_eq R 1 (by omega) (by omega), Option.bind_some]
    simp only []
    rw [heldPtS_eq R.length 1 (by omega) (by omega), Option.bind_some, h2, if_neg (by omega), if_pos rfl, toPtS_eq l hl (by omega), Option.bind_some, hm]
    rw [hRe, Option.bind_some, eqPtS_refl R (by omega) (by omega), Option.bind_some, if_pos rfl, Option.bind_some, if_neg (by omega), if_pos rfl]
  · rw [if_neg hb]; simp

end Go.Proofs.Ytgmnphckgicadaa.Pure
