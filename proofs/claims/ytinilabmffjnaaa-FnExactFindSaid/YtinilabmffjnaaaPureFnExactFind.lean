/- The pure statement of the law FnExactFind. No conditions beyond that each number is one of its kind and that slices are no greater than memory. -/
import Derived.Test.YtinilabmffjnaaaKinFnExactFind
namespace Go.Proofs.Ytinilabmffjnaaa.Pure
open Go.RowKit Go.Proofs.Ytinilabmffjnaaa.PFnExactFind Go.Proofs.YtinilabmffjnaaaW.PrintWords Go.Proofs.YtinilabmffjnaaaW.PrintLast Go.Proofs.YtinilabmffjnaaaW.PrintMore
set_option linter.unusedVariables false
set_option linter.unusedSimpArgs false

/-- The points that are right. -/
def ptOk (x y : Int) : Bool := decide (-10000000 ≤ x) && decide (x ≤ 10000000) && decide (-10000000 ≤ y) && decide (y ≤ 10000000)
/-- The boxes that are right. -/
def boxOk (a b c d : Int) : Bool := ptOk a b && ptOk c d && decide (a ≤ c) && decide (b ≤ d)
theorem ptOk_iff {x y : Int} : ptOk x y = true ↔ -10000000 ≤ x ∧ x ≤ 10000000 ∧ -10000000 ≤ y ∧ y ≤ 10000000 := by
  simp [ptOk, and_assoc]
theorem boxOk_iff {a b c d : Int} : boxOk a b c d = true ↔ (-10000000 ≤ a ∧ a ≤ 10000000 ∧ -10000000 ≤ b ∧ b ≤ 10000000) ∧ (-10000000 ≤ c ∧ c ≤ 10000000 ∧ -10000000 ≤ d ∧ d ≤ 10000000) ∧ a ≤ c ∧ b ≤ d := by
  simp [boxOk, ptOk_iff, and_assoc]
theorem wrap_in {x : Int} (h1 : -9223372036854775808 ≤ x) (h2 : x ≤ 9223372036854775807) : wrap64 x = x := by unfold wrap64; omega
theorem wrap_bounds (x : Int) : -9223372036854775808 ≤ wrap64 x ∧ wrap64 x ≤ 9223372036854775807 := by unfold wrap64; omega
theorem u64_in {x : Int} (h1 : 0 ≤ x) (h2 : x ≤ 18446744073709551615) : IntKind.u64.wrap x = x := by
  simp [IntKind.wrap, IntKind.bits, IntKind.signed]; omega
theorem u64_bounds (x : Int) : 0 ≤ IntKind.u64.wrap x ∧ IntKind.u64.wrap x ≤ 18446744073709551615 := by
  simp [IntKind.wrap, IntKind.bits, IntKind.signed]; omega
theorem u64_nonneg (x : Int) : 0 ≤ IntKind.u64.wrap x := (u64_bounds x).1
theorem mx_eq (a b : Int) : mx a b = max a b := by unfold mx; omega
theorem mn_eq (a b : Int) : mn a b = min a b := by unfold mn; omega
theorem laws_toPt_eq (x y : Int) : laws_toPt.f x y = some (x, y) := rfl
def inBox (a b c d x y : Int) : Bool := boxOk a b c d && ptOk x y && (decide (a ≤ x) && decide (x ≤ c)) && (decide (b ≤ y) && decide (y ≤ d))
def overlap (a b c d e f g h : Int) : Bool := boxOk a b c d && boxOk e f g h && decide (a ≤ g) && decide (e ≤ c) && decide (b ≤ h) && decide (f ≤ d)
def inside (a b c d e f g h : Int) : Bool := boxOk a b c d && inBox e f g h a b && inBox e f g h c d
def area (a b c d : Int) : Int := if boxOk a b c d = true then (c - a) * (d - b) else 0
theorem area_bounds (a b c d : Int) : 0 ≤ area a b c d ∧ area a b c d ≤ 400000000000000 := by
  unfold area; split
  · rename_i h
    rw [boxOk_iff] at h
    obtain ⟨⟨h1, h2, h3, h4⟩, ⟨h5, h6, h7, h8⟩, h9, h10⟩ := h
    have p1 : 0 ≤ c - a := by omega
    have p2 : 0 ≤ d - b := by omega
    refine ⟨Int.mul_nonneg p1 p2, ?_⟩
    calc (c - a) * (d - b) ≤ 20000000 * (d - b) := Int.mul_le_mul_of_nonneg_right (by omega) p2
      _ ≤ 20000000 * 20000000 := Int.mul_le_mul_of_nonneg_left (by omega) (by omega)
      _ = 400000000000000 := by decide
  · omega
theorem area_wrap {a b c d : Int} (h : boxOk a b c d = true) : wrap64 ((wrap64 (c - a)) * (wrap64 (d - b))) = area a b c d := by
  have hb := area_bounds a b c d
  have e : area a b c d = (c - a) * (d - b) := by unfold area; rw [if_pos h]
  rw [boxOk_iff] at h
  rw [wrap_in (x := c - a) (by omega) (by omega), wrap_in (x := d - b) (by omega) (by omega), ← e]
  exact wrap_in (by omega) (by omega)
/-- The tiles that are right. -/
def tileOk (z x y : Int) : Bool := decide (0 ≤ z) && decide (z ≤ 20) && (decide (0 ≤ x) && decide (x ≤ 2 ^ z.toNat - 1)) && (decide (0 ≤ y) && decide (y ≤ 2 ^ z.toNat - 1))
theorem shl1_fin : ∀ n : Fin 51, shl .i64 1 (IntKind.u64.wrap ((n.val : Nat) : Int)) = 2 ^ n.val := by decide +kernel
theorem shl1 {z : Int} (h0 : 0 ≤ z) (h1 : z ≤ 50) : shl .i64 1 (IntKind.u64.wrap z) = 2 ^ z.toNat := by
  obtain ⟨n, rfl⟩ := Int.eq_ofNat_of_zero_le h0
  exact shl1_fin ⟨n, by omega⟩
theorem pow2_le {n m : Nat} (h : n ≤ m) : (2 : Int) ^ n ≤ 2 ^ m := by
  have := Nat.pow_le_pow_right (n := 2) (by decide) h
  exact_mod_cast this
theorem pow2_pos (n : Nat) : (1 : Int) ≤ 2 ^ n := by
  have := pow2_le (Nat.zero_le n); simpa using this
theorem pow2_20 {z : Int} (h1 : z ≤ 20) : (1 : Int) ≤ 2 ^ z.toNat ∧ (2 : Int) ^ z.toNat ≤ 1048576 :=
  ⟨pow2_pos _, by have := pow2_le (n := z.toNat) (m := 20) (by omega); simpa using this⟩
theorem tile_most {z : Int} (h0 : 0 ≤ z) (h1 : z ≤ 20) : wrap64 ((shl .i64 1 (IntKind.u64.wrap z)) - 1) = 2 ^ z.toNat - 1 := by
  rw [shl1 h0 (by omega)]
  have := pow2_20 h1
  exact wrap_in (by omega) (by omega)
/-- The side of the tiles of a Z. -/
def side (z : Int) : Int := 33554432 / 2 ^ z.toNat
theorem shr_side_fin : ∀ n : Fin 21, shr .i64 33554432 (IntKind.u64.wrap ((n.val : Nat) : Int)) = 33554432 / 2 ^ n.val ∧ (32 : Int) ≤ 33554432 / 2 ^ n.val ∧ (33554432 : Int) / 2 ^ n.val ≤ 33554432 := by decide +kernel
theorem shr_side {z : Int} (h0 : 0 ≤ z) (h1 : z ≤ 20) : shr .i64 33554432 (IntKind.u64.wrap z) = side z ∧ 32 ≤ side z ∧ side z ≤ 33554432 := by
  obtain ⟨n, rfl⟩ := Int.eq_ofNat_of_zero_le h0
  exact shr_side_fin ⟨n, by omega⟩
/-- The tile of a point. -/
def tileX (x z : Int) : Int := Int.tdiv (x + 16777216) (side z)
/-- A point as it is taken. -/
def tk (x y : Int) : Int × Int := if ptOk x y = true then (x, y) else (0, 0)
theorem tk_ok (x y : Int) : ptOk (tk x y).1 (tk x y).2 = true := by
  unfold tk; split
  · assumption
  · decide
def sgn (n : Int) : Int := if n > 0 then 1 else if n < 0 then -1 else 0
theorem sgn_cmp (n : Int) : (if n < 0 then (-1 : Int) else if n > 0 then 1 else 0) = sgn n := by unfold sgn; split <;> split <;> omega
theorem sgn_0 : sgn 0 = 0 := rfl
theorem sgn_zero {n : Int} : sgn n = 0 ↔ n = 0 := by unfold sgn; split <;> (try split) <;> omega
def crossW (a b c d e f : Int) : Int := wrap64 ((wrap64 ((wrap64 (c - a)) * (wrap64 (f - b)))) - (wrap64 ((wrap64 (d - b)) * (wrap64 (e - a)))))
def betw (a b n : Int) : Bool := decide (min a b ≤ n) && decide (n ≤ max a b)
def onSegW (a b c d e f : Int) : Bool := decide (crossW a b c d e f = 0) && betw a c e && betw b d f
def onSegT (a b c d e f : Int) : Bool := onSegW (tk a b).1 (tk a b).2 (tk c d).1 (tk c d).2 (tk e f).1 (tk e f).2
def squareW (a b c d : Int) : Int := wrap64 ((wrap64 ((wrap64 (a - c)) * (wrap64 (a - c)))) + (wrap64 ((wrap64 (b - d)) * (wrap64 (b - d)))))
def gapW (a b c d x y : Int) : Int := if boxOk a b c d = true ∧ ptOk x y = true then squareW x y (max a (min x c)) (max b (min y d)) else -1
def l3MeetW (a b c d e f g h : Int) : Bool :=
  onSegW a b c d e f || onSegW a b c d g h || onSegW e f g h a b || onSegW e f g h c d ||
    (decide (wrap64 (sgn (crossW a b c d e f) * sgn (crossW a b c d g h)) < 0) && decide (wrap64 (sgn (crossW e f g h a b) * sgn (crossW e f g h c d)) < 0))
def meetW (a b c d e f g h : Int) : Bool := l3MeetW (tk a b).1 (tk a b).2 (tk c d).1 (tk c d).2 (tk e f).1 (tk e f).2 (tk g h).1 (tk g h).2
/-- What Join computes. -/
def joinW (a b c d e f g h : Int) : Int × Int × Int × Int :=
  if boxOk a b c d = true then (if boxOk e f g h = true then (min a e, min b f, max c g, max d h) else (a, b, c, d))
  else (if boxOk e f g h = true then (e, f, g, h) else (0, 0, 0, 0))
def grownW (a b c d e f g h : Int) : Int := area (joinW a b c d e f g h).1 (joinW a b c d e f g h).2.1 (joinW a b c d e f g h).2.2.1 (joinW a b c d e f g h).2.2.2 - area a b c d
theorem grown_wrap (a b c d e f g h : Int) : wrap64 (area (joinW a b c d e f g h).1 (joinW a b c d e f g h).2.1 (joinW a b c d e f g h).2.2.1 (joinW a b c d e f g h).2.2.2 - area a b c d) = grownW a b c d e f g h := by
  have a1 := area_bounds a b c d
  have a2 := area_bounds (joinW a b c d e f g h).1 (joinW a b c d e f g h).2.1 (joinW a b c d e f g h).2.2.1 (joinW a b c d e f g h).2.2.2
  exact wrap_in (by omega) (by omega)
theorem side_fin : ∀ n : Fin 21, (33554432 : Int) / 2 ^ n.val * 2 ^ n.val = 33554432 := by decide +kernel
theorem side_mul {z : Int} (h0 : 0 ≤ z) (h1 : z ≤ 20) : side z * 2 ^ z.toNat = 33554432 := by
  obtain ⟨n, rfl⟩ := Int.eq_ofNat_of_zero_le h0
  exact side_fin ⟨n, by omega⟩
theorem tile_span {z x : Int} (h0 : 0 ≤ z) (h1 : z ≤ 20) (x0 : 0 ≤ x) (x1 : x ≤ 2 ^ z.toNat - 1) : 0 ≤ x * side z ∧ (x + 1) * side z = x * side z + side z ∧ x * side z + side z ≤ 33554432 ∧ 32 ≤ side z := by
  have hs := (shr_side h0 h1).2
  have e : (x + 1) * side z = x * side z + side z := by rw [Int.add_mul, Int.one_mul]
  refine ⟨Int.mul_nonneg x0 (by omega), e, ?_, hs.1⟩
  rw [← e, ← side_mul h0 h1, Int.mul_comm (side z)]
  exact Int.mul_le_mul_of_nonneg_right (by omega) (by omega)
/-- What TileBox computes. -/
def tileBoxW (z x y : Int) : Int × Int × Int × Int × Bool :=
  if tileOk z x y = true ∧ boxOk (max (x * side z - 16777216) (-10000000)) (max (y * side z - 16777216) (-10000000)) (min (x * side z - 16777216 + side z - 1) 10000000) (min (y * side z - 16777216 + side z - 1) 10000000) = true then
    (max (x * side z - 16777216) (-10000000), max (y * side z - 16777216) (-10000000), min (x * side z - 16777216 + side z - 1) 10000000, min (y * side z - 16777216 + side z - 1) 10000000, true)
  else (0, 0, 0, 0, false)
theorem tileOk_iff {z x y : Int} : tileOk z x y = true ↔ (0 ≤ z ∧ z ≤ 20) ∧ (0 ≤ x ∧ x ≤ 2 ^ z.toNat - 1) ∧ (0 ≤ y ∧ y ≤ 2 ^ z.toNat - 1) := by
  simp [tileOk, and_assoc]
theorem laws_eqPt_refl (a b : Int) : laws_eqPt.f a b a b = some true := by simp [laws_eqPt.f]
theorem szPtS_eq (l : List S119) (hl : l.length * 16 ≤ 140737488351232) (a : Int) (ha : 0 ≤ a) (hb : a ≤ 1048576) : laws_szPtS.f l a = some (if (l.length : Int) ≤ a then a - l.length else -1) := by
  unfold laws_szPtS.f
  rw [wrap_in (by omega) (by omega)]
  by_cases h : (l.length : Int) ≤ a
  · rw [if_neg (by omega), if_pos h]
  · rw [if_pos (by omega), if_neg h]
def cvPt (p : S119) : S73 := ⟨p.f0, p.f1⟩
theorem set_rep {α β : Type} (f : α → β) (P : List α) (v z : β) (n : Nat) : (P.map f ++ List.replicate (n + 1) z).set P.length v = P.map f ++ v :: List.replicate n z := by
  rw [List.replicate_succ, ← List.length_map (f := f), List.set_append_right _ _ (Nat.le_refl _), Nat.sub_self]; rfl
theorem getD_at {α : Type} (z : α) (P : List α) (r : α) (R : List α) : (P ++ r :: R).getD P.length z = r := by simp
theorem toPtS_loop : ∀ (R P : List S119) (k : Nat), (P.length + R.length) * 16 ≤ 140737488351232 → R.length < k →
    laws_toPtS.l0 k (P ++ R) (P.map cvPt ++ List.replicate R.length z73) (P.length : Int) = some ((P ++ R).map cvPt) := by
  intro R
  induction R with
  | nil =>
    intro P k hl hk
    obtain ⟨k, rfl⟩ : ∃ m, k = m + 1 := ⟨k - 1, by omega⟩
    simp only [laws_toPtS.l0]; rw [if_neg (by simp)]; simp
  | cons r R ih =>
    intro P k hl hk
    simp only [List.length_cons] at hl hk
    obtain ⟨k, rfl⟩ : ∃ m, k = m + 1 := ⟨k - 1, by omega⟩
    simp only [laws_toPtS.l0]
    rw [if_pos (by rw [List.length_append, List.length_cons]; omega), if_pos (by omega)]
    simp only [laws_toPt_eq, Option.bind_some, rd_T119, Int.toNat_natCast, getD_at]
    rw [if_pos (by rw [List.length_append, List.length_map, List.length_replicate, List.length_cons]; omega), List.length_cons, set_rep]
    have := ih (P ++ [r]) k (by simp; omega) (by omega)
    rw [show wrap64 ((P.length : Int) + 1) = ((P ++ [r]).length : Int) by rw [wrap_in (by omega) (by omega)]; simp]
    simp only [List.map_append, List.append_assoc, List.map_cons, List.map_nil, List.cons_append, List.nil_append] at this ⊢
    exact this
theorem toPtS_eq (l : List S119) (hl : l.length * 16 ≤ 140737488351232) {k : Nat} (hk : l.length < k) : laws_toPtS.f k l = some (l.map cvPt) := by
  unfold laws_toPtS.f
  rw [if_pos (by omega), if_pos (by omega), Int.toNat_natCast]
  exact toPtS_loop l [] k (by simp; omega) hk
theorem eqPtS_loop (l : List S73) (hl : l.length ≤ 140737488351232) : ∀ (d i k : Nat), i + d = l.length → d < k → laws_eqPtS.l0 k l l (i : Int) = some true := by
  intro d
  induction d with
  | zero =>
    intro i k hi hk
    obtain ⟨k, rfl⟩ : ∃ m, k = m + 1 := ⟨k - 1, by omega⟩
    simp only [laws_eqPtS.l0]; rw [if_neg (by omega)]
  | succ d ih =>
    intro i k hi hk
    obtain ⟨k, rfl⟩ : ∃ m, k = m + 1 := ⟨k - 1, by omega⟩
    simp only [laws_eqPtS.l0]
    rw [if_pos (by omega), if_pos (by omega), if_pos (by omega), laws_eqPt_refl]
    simp only [Option.bind_some, if_true]
    rw [show wrap64 ((i : Int) + 1) = ((i + 1 : Nat) : Int) by rw [wrap_in (by omega) (by omega)]; omega]
    exact ih (i + 1) k (by omega) (by omega)
theorem eqPtS_refl (l : List S73) (hl : l.length ≤ 140737488351232) {k : Nat} (hk : l.length < k) : laws_eqPtS.f k l l = some true := by
  unfold laws_eqPtS.f; rw [if_pos rfl]; exact eqPtS_loop l hl l.length 0 k (by omega) hk
def nx2 (m : Int) : Int := wrap64 ((wrap64 (m + 1)) + 1)
def tm2 (m : Int) : Nat → List S73
  | 0 => []
  | n + 1 => ⟨m, wrap64 (m + 1)⟩ :: tm2 (nx2 m) n
def te2 (m : Int) : Nat → Int
  | 0 => m
  | n + 1 => te2 (nx2 m) n
theorem getD_mid2 {α : Type} (z : α) (P : List α) (r : α) (R : List α) : (P ++ r :: R).getD P.length z = r := by simp
theorem set_mid2 {α : Type} (P : List α) (r v : α) (R : List α) : (P ++ r :: R).set P.length v = P ++ v :: R := by simp
theorem te2_eq : ∀ (n : Nat) (m : Int), 0 ≤ m → m + 2 * n ≤ 4611686018427387904 → te2 m n = m + 2 * n
  | 0, m, _, _ => by simp [te2]
  | n + 1, m, h0, h1 => by
    have e : nx2 m = m + 2 := by unfold nx2; rw [wrap_in (x := m + 1) (by omega) (by omega), wrap_in (by omega) (by omega)]; omega
    show te2 (nx2 m) n = _
    rw [te2_eq n (nx2 m) (by omega) (by omega), e]; omega
theorem markPtS_loop : ∀ (R P : List S73) (m : Int) (k : Nat), P.length + R.length ≤ 140737488351232 → R.length < k →
    laws_markPtS.l0 k (P ++ R) m (P.length : Int) = some (te2 m R.length, P ++ tm2 m R.length) := by
  intro R
  induction R with
  | nil =>
    intro P m k hl hk
    obtain ⟨k, rfl⟩ : ∃ m, k = m + 1 := ⟨k - 1, by omega⟩
    simp only [laws_markPtS.l0]; rw [if_neg (by simp)]; rfl
  | cons r R ih =>
    intro P m k hl hk
    simp only [List.length_cons] at hl hk
    obtain ⟨k, rfl⟩ : ∃ m, k = m + 1 := ⟨k - 1, by omega⟩
    simp only [laws_markPtS.l0]
    rw [if_pos (by simp; omega), if_pos (by omega)]
    simp only [Option.bind_some, rd_T73, Int.toNat_natCast, getD_mid2, set_mid2]
    rw [show wrap64 ((P.length : Int) + 1) = ((P ++ [(⟨m, wrap64 (m + 1)⟩ : S73)]).length : Int) by rw [wrap_in (by omega) (by omega)]; simp]
    have := ih (P ++ [(⟨m, wrap64 (m + 1)⟩ : S73)]) (nx2 m) k (by simp; omega) (by omega)
    rw [List.append_assoc] at this
    simp only [List.cons_append, List.nil_append] at this
    rw [show wrap64 (wrap64 (m + 1) + 1) = nx2 m from rfl, this]
    simp [te2, tm2]
theorem tm2_length : ∀ (n : Nat) (m : Int), (tm2 m n).length = n := by
  intro n; induction n with
  | zero => intro m; rfl
  | succ n ih => intro m; simp [tm2, ih]
theorem heldPtS_loop : ∀ (n : Nat) (P : List S73) (m : Int) (k : Nat), P.length + n ≤ 140737488351232 → n < k →
    laws_heldPtS.l0 k (P ++ tm2 m n) m (P.length : Int) = some (te2 m n) := by
  intro n
  induction n with
  | zero =>
    intro P m k hl hk
    obtain ⟨k, rfl⟩ : ∃ m, k = m + 1 := ⟨k - 1, by omega⟩
    simp only [laws_heldPtS.l0]; rw [if_neg (by simp [tm2])]; rfl
  | succ n ih =>
    intro P m k hl hk
    obtain ⟨k, rfl⟩ : ∃ m, k = m + 1 := ⟨k - 1, by omega⟩
    rw [show tm2 m (n + 1) = (⟨m, wrap64 (m + 1)⟩ : S73) :: tm2 (nx2 m) n from rfl]
    simp only [laws_heldPtS.l0]
    rw [if_pos (by rw [List.length_append, List.length_cons]; omega), if_pos (by omega)]
    simp only [rd_T73, Int.toNat_natCast, getD_mid2, if_true]
    rw [show wrap64 ((P.length : Int) + 1) = ((P ++ [(⟨m, wrap64 (m + 1)⟩ : S73)]).length : Int) by rw [wrap_in (by omega) (by omega)]; simp]
    have := ih (P ++ [(⟨m, wrap64 (m + 1)⟩ : S73)]) (nx2 m) k (by simp; omega) (by omega)
    rw [List.append_assoc] at this
    simp only [List.cons_append, List.nil_append] at this
    rw [show wrap64 (wrap64 (m + 1) + 1) = nx2 m from rfl, this]
    simp [te2]
theorem markPtS_eq (l : List S73) (m : Int) (hl : l.length ≤ 1000000000) {k : Nat} (hk : l.length < k) : laws_markPtS.f k l m = some (te2 m l.length, tm2 m l.length) := by
  unfold laws_markPtS.f; have := markPtS_loop l [] m k (by simp; omega) hk; simpa using this
theorem heldPtS_eq (n : Nat) (m : Int) (hl : n ≤ 1000000000) {k : Nat} (hk : n < k) : laws_heldPtS.f k (tm2 m n) m = some (te2 m n) := by
  unfold laws_heldPtS.f; have := heldPtS_loop n [] m k (by simp; omega) hk; simpa using this
abbrev P2 := S73
def rowMax {α : Type} : List (List α) → Nat
  | [] => 0
  | r :: t => r.length + 3 + rowMax t
theorem row_le {α : Type} : ∀ (L : List (List α)) (i : Nat), (L.getD i []).length ≤ rowMax L
  | [], i => by simp
  | r :: t, 0 => by simp [rowMax]; omega
  | r :: t, i + 1 => by have := row_le t i; simp only [List.getD_cons_succ, rowMax]; omega
theorem rows_len {α : Type} : ∀ (L : List (List α)), L.length ≤ rowMax L
  | [] => by simp [rowMax]
  | r :: t => by have := rows_len t; simp only [List.length_cons, rowMax]; omega
theorem drop_at {α : Type} (z : α) : ∀ (l : List α) (i : Nat), i < l.length → l.drop i = l.getD i z :: l.drop (i + 1)
  | [], i, h => by simp at h
  | x :: r, 0, _ => rfl
  | x :: r, i + 1, h => by
    have := drop_at z r i (by simpa using h)
    simpa using this
theorem getD_in {α : Type} (z : α) {l : List α} {i : Nat} (h : i < l.length) : l.getD i z ∈ l := by
  rw [List.getD_eq_getElem?_getD, List.getElem?_eq_getElem h]; exact List.getElem_mem h
def cvRows (L : List (List S119)) : List (List P2) := L.map fun r => r.map cvPt
theorem toRows_loop : ∀ (R P : List (List S119)) (k : Nat), (P.length + R.length) * 24 ≤ 140737488351232 → (∀ r ∈ R, r.length * 16 ≤ 140737488351232) → rowMax R + R.length < k →
    laws_toPtSS.l0 k (P ++ R) (cvRows P ++ List.replicate R.length []) (P.length : Int) = some (cvRows (P ++ R)) := by
  intro R
  induction R with
  | nil =>
    intro P k hl hr hk
    obtain ⟨k, rfl⟩ : ∃ m, k = m + 1 := ⟨k - 1, by omega⟩
    simp only [laws_toPtSS.l0]; rw [if_neg (by simp)]; simp
  | cons r R ih =>
    intro P k hl hr hk
    simp only [List.length_cons, rowMax] at hl hk
    obtain ⟨k, rfl⟩ : ∃ m, k = m + 1 := ⟨k - 1, by omega⟩
    simp only [laws_toPtSS.l0]
    rw [if_pos (by rw [List.length_append, List.length_cons]; omega), if_pos (by omega)]
    simp only [rd_L2, Int.toNat_natCast, getD_at]
    rw [toPtS_eq r (hr r (by simp)) (by omega)]; simp only [Option.bind_some]
    rw [if_pos (by unfold cvRows; rw [List.length_append, List.length_map, List.length_replicate, List.length_cons]; omega), List.length_cons]
    have := ih (P ++ [r]) k (by simp; omega) (fun x hx => hr x (by simp [hx])) (by omega)
    rw [show wrap64 ((P.length : Int) + 1) = ((P ++ [r]).length : Int) by rw [wrap_in (by omega) (by omega)]; simp]
    have es : (cvRows P ++ List.replicate (R.length + 1) []).set P.length (r.map cvPt) = cvRows P ++ r.map cvPt :: List.replicate R.length [] := by
      unfold cvRows; exact set_rep (fun r : List S119 => r.map cvPt) P (r.map cvPt) [] R.length
    rw [es]
    simp only [cvRows, List.map_append, List.append_assoc, List.map_cons, List.map_nil, List.cons_append, List.nil_append] at this ⊢
    exact this
theorem toShape_eq (c : Int) (L : List (List S119)) (hL : L.length * 24 ≤ 140737488351232) (hr : ∀ r ∈ L, r.length * 16 ≤ 140737488351232) {k : Nat} (hk : rowMax L + L.length < k) :
    laws_toShape.f k c L = some (c, cvRows L) := by
  unfold laws_toShape.f laws_toPtSS.f
  rw [if_pos (by omega), if_pos (by omega), Int.toNat_natCast]
  have e := toRows_loop L [] k (by simpa using hL) hr hk
  simp only [List.nil_append, cvRows, List.map_nil, List.length_nil] at e
  rw [show ((0 : Nat) : Int) = 0 from rfl] at e
  rw [e]; rfl
theorem eqRows_loop (G : List (List P2)) (hm : G.length ≤ 140737488351232) (hr : ∀ r ∈ G, r.length ≤ 140737488351232) : ∀ (d i k : Nat), i + d = G.length → d + rowMax G < k → laws_eqPtSS.l0 k G G (i : Int) = some true := by
  intro d
  induction d with
  | zero =>
    intro i k hi hk
    obtain ⟨k, rfl⟩ : ∃ m, k = m + 1 := ⟨k - 1, by omega⟩
    simp only [laws_eqPtSS.l0]; rw [if_neg (by omega)]
  | succ d ih =>
    intro i k hi hk
    obtain ⟨k, rfl⟩ : ∃ m, k = m + 1 := ⟨k - 1, by omega⟩
    have hb := row_le G i
    simp only [laws_eqPtSS.l0, rd_L7, Int.toNat_natCast]
    rw [if_pos (by omega), if_pos (by omega), if_pos (by omega), eqPtS_refl _ (hr _ (getD_in (z := ([] : List P2)) (show i < G.length by omega))) (by omega)]
    simp only [Option.bind_some, if_true]
    rw [show wrap64 ((i : Int) + 1) = ((i + 1 : Nat) : Int) by rw [wrap_in (by omega) (by omega)]; omega]
    exact ih (i + 1) k (by omega) (by omega)
theorem eqShape_refl (a : Int) (G : List (List P2)) (hm : G.length ≤ 140737488351232) (hr : ∀ r ∈ G, r.length ≤ 140737488351232) {k : Nat} (hk : G.length + rowMax G < k) : laws_eqShape.f k a G a G = some true := by
  unfold laws_eqShape.f laws_eqPtSS.f
  rw [if_pos rfl, if_pos rfl]
  have e := eqRows_loop G hm hr G.length 0 k (by omega) hk
  rw [show ((0 : Nat) : Int) = 0 from rfl] at e
  rw [e]; rfl
theorem cvRows_max : ∀ (L : List (List S119)), rowMax (cvRows L) = rowMax L
  | [] => rfl
  | r :: t => by
    have := cvRows_max t
    show rowMax (r.map cvPt :: cvRows t) = _
    simp only [rowMax, List.length_map, this]

/-! sizes -/
def totR (L : List (List S119)) : Nat := L.length + (L.map List.length).sum
def totE (l : List S104) : Nat := l.length + (l.map fun x => totR x.f1.f1).sum
theorem szRows_eq (L : List (List S119)) (hL : L.length ≤ 140737488351232) (hr : ∀ r ∈ L, r.length * 16 ≤ 140737488351232) :
    ∀ (R P : List (List S119)) (k : Nat) (a : Int), L = P ++ R → R.length < k → 0 ≤ a → a ≤ 1048576 → laws_szPtSS.l0 k L a (P.length : Int) = some (if ((R.map List.length).sum : Int) ≤ a then a - ((R.map List.length).sum : Nat) else -1)
  | [], P, k, a, e, hk, a0, a1 => by
    obtain ⟨k, rfl⟩ : ∃ m, k = m + 1 := ⟨k - 1, by simp at hk; omega⟩
    subst e
    simp only [laws_szPtSS.l0]; rw [if_neg (by simp)]; simp [a0]
  | r :: R, P, k, a, e, hk, a0, a1 => by
    simp only [List.length_cons] at hk
    obtain ⟨k, rfl⟩ : ∃ m, k = m + 1 := ⟨k - 1, by omega⟩
    have hm := hr r (by rw [e]; simp)
    have hl : P.length < L.length := by rw [e]; simp
    have er : rd_L2 L (P.length : Int) = r := by unfold rd_L2; rw [Int.toNat_natCast, e]; simp
    simp only [laws_szPtSS.l0]
    rw [if_pos (by omega), if_pos (by omega), er, szPtS_eq _ hm a a0 a1, Option.bind_some]
    simp only [List.map_cons, List.sum_cons]
    by_cases h : (r.length : Int) ≤ a
    · rw [if_pos h, if_neg (by omega), show wrap64 ((P.length : Int) + 1) = ((P ++ [r]).length : Int) by rw [wrap_in (by omega) (by omega)]; simp]
      rw [szRows_eq L hL hr R (P ++ [r]) k (a - r.length) (by rw [e]; simp) (by omega) (by omega) (by omega)]
      split <;> split <;> first | omega | rfl | (congr 1; done) | (congr 1; omega)
    · rw [if_neg h, if_pos (by decide), if_neg (by omega)]
theorem szShape_eq (c : Int) (L : List (List S119)) (hL : L.length * 24 ≤ 140737488351232) (hr : ∀ r ∈ L, r.length * 16 ≤ 140737488351232) (a : Int) (a0 : 0 ≤ a) (a1 : a ≤ 1048576) {k : Nat} (hk : L.length < k) :
    laws_szShape.f k c L a = some (if (totR L : Int) ≤ a then a - totR L else -1) := by
  unfold laws_szShape.f laws_szPtSS.f totR
  rw [wrap_in (by omega) (by omega)]
  by_cases h : a - (L.length : Int) < 0
  · rw [if_pos h, Option.bind_some, if_pos (by decide), if_neg (by omega)]
  · rw [if_neg h]
    have e := szRows_eq L (by omega) hr L [] k (a - L.length) rfl hk (by omega) (by omega)
    rw [show ((([] : List (List S119)).length : Nat) : Int) = 0 from rfl] at e
    rw [e, Option.bind_some]
    split
    · rw [if_neg (by omega), if_pos (by omega)]; congr 1; omega
    · rw [if_pos (by decide), if_neg (by omega)]
theorem szEntryS_loop (l : List S104) (hl : l.length ≤ 140737488351232) (ho : ∀ x ∈ l, x.f1.f1.length * 24 ≤ 140737488351232 ∧ ∀ r ∈ x.f1.f1, r.length * 16 ≤ 140737488351232) (K : Nat) (hK : ∀ x ∈ l, x.f1.f1.length < K) :
    ∀ (R P : List S104) (k : Nat) (a : Int), l = P ++ R → R.length + K < k → 0 ≤ a → a ≤ 1048576 → laws_szEntryS.l0 k l a (P.length : Int) = some (if ((R.map fun x => totR x.f1.f1).sum : Int) ≤ a then a - ((R.map fun x => totR x.f1.f1).sum : Nat) else -1)
  | [], P, k, a, e, hk, a0, a1 => by
    obtain ⟨k, rfl⟩ : ∃ m, k = m + 1 := ⟨k - 1, by omega⟩
    subst e
    simp only [laws_szEntryS.l0]; rw [if_neg (by simp)]; simp [a0]
  | r :: R, P, k, a, e, hk, a0, a1 => by
    simp only [List.length_cons] at hk
    obtain ⟨k, rfl⟩ : ∃ m, k = m + 1 := ⟨k - 1, by omega⟩
    have hm := ho r (by rw [e]; simp)
    have hkr := hK r (by rw [e]; simp)
    have hll : P.length < l.length := by rw [e]; simp
    have er : rd_T104 l (P.length : Int) = r := by unfold rd_T104; rw [Int.toNat_natCast, e]; simp
    simp only [laws_szEntryS.l0]
    rw [if_pos (by omega), if_pos (by omega), er]
    unfold laws_szEntry.f
    rw [szShape_eq _ _ hm.1 hm.2 a a0 a1 (by omega), Option.bind_some]
    simp only [List.map_cons, List.sum_cons]
    by_cases h : (totR r.f1.f1 : Int) ≤ a
    · rw [if_pos h, if_neg (by omega), Option.bind_some, if_neg (by omega), show wrap64 ((P.length : Int) + 1) = ((P ++ [r]).length : Int) by rw [wrap_in (by omega) (by omega)]; simp]
      rw [szEntryS_loop l hl ho K hK R (P ++ [r]) k (a - totR r.f1.f1) (by rw [e]; simp) (by omega) (by omega) (by omega)]
      split <;> split <;> first | omega | rfl | (congr 1; done) | (congr 1; omega)
    · rw [if_neg h, if_pos (by decide), Option.bind_some, if_pos (by decide), if_neg (by omega)]
theorem szEntryS_eq (l : List S104) (hl : l.length * 40 ≤ 140737488351232) (ho : ∀ x ∈ l, x.f1.f1.length * 24 ≤ 140737488351232 ∧ ∀ r ∈ x.f1.f1, r.length * 16 ≤ 140737488351232) (K : Nat) (hK : ∀ x ∈ l, x.f1.f1.length < K) {k : Nat} (hk : l.length + K < k) :
    laws_szEntryS.f k l 1048576 = some (if (totE l : Int) ≤ 1048576 then 1048576 - (totE l : Int) else -1) := by
  unfold laws_szEntryS.f totE
  rw [wrap_in (by omega) (by omega)]
  by_cases h : (1048576 : Int) - (l.length : Int) < 0
  · rw [if_pos h, if_neg (by omega)]
  · rw [if_neg h]
    have e := szEntryS_loop l (by omega) ho K hK l [] k (1048576 - l.length) rfl hk (by omega) (by omega)
    rw [show ((([] : List S104).length : Nat) : Int) = 0 from rfl] at e
    rw [e]
    split <;> split <;> first | omega | rfl | (congr 1; done) | (congr 1; omega)

/-! entries -/
def okE (x : S104) : Prop := x.f1.f1.length * 24 ≤ 140737488351232 ∧ ∀ r ∈ x.f1.f1, r.length * 16 ≤ 140737488351232
def cvE (x : S104) : S106 := ⟨x.f0, ⟨x.f1.f0, cvRows x.f1.f1⟩⟩
def mxE : List S104 → Nat
  | [] => 0
  | x :: t => rowMax x.f1.f1 + x.f1.f1.length + 3 + mxE t
def mxF : List S106 → Nat
  | [] => 0
  | x :: t => rowMax x.f1.f1 + x.f1.f1.length + 3 + mxF t
theorem mxF_cv : ∀ (l : List S104), mxF (l.map cvE) = mxE l
  | [] => rfl
  | x :: t => by
    have := mxF_cv t
    simp only [List.map_cons, mxF, mxE, this]
    show rowMax (cvRows x.f1.f1) + (cvRows x.f1.f1).length + 3 + _ = _
    rw [cvRows_max]; unfold cvRows; rw [List.length_map]
theorem mxF_le : ∀ (l : List S106) (x : S106), x ∈ l → rowMax x.f1.f1 + x.f1.f1.length + 3 ≤ mxF l
  | [], x, h => by simp at h
  | y :: t, x, h => by
    rcases List.mem_cons.1 h with h | h
    · subst h; simp only [mxF]; omega
    · have := mxF_le t x h; simp only [mxF]; omega
theorem mxE_le : ∀ (l : List S104) (x : S104), x ∈ l → rowMax x.f1.f1 + x.f1.f1.length + 3 ≤ mxE l
  | [], x, h => by simp at h
  | y :: t, x, h => by
    rcases List.mem_cons.1 h with h | h
    · subst h; simp only [mxE]; omega
    · have := mxE_le t x h; simp only [mxE]; omega
theorem rd104_at (P : List S104) (r : S104) (R : List S104) : rd_T104 (P ++ r :: R) (P.length : Int) = r := by
  unfold rd_T104; rw [Int.toNat_natCast]; simp
theorem rd106_at (P : List S106) (r : S106) (R : List S106) : rd_T106 (P ++ r :: R) (P.length : Int) = r := by
  unfold rd_T106; rw [Int.toNat_natCast]; simp
theorem toEntryS_loop : ∀ (R P : List S104) (k : Nat), (P.length + R.length) * 40 ≤ 140737488351232 → (∀ x ∈ R, okE x) → mxE R + R.length < k →
    laws_toEntryS.l0 k (P ++ R) (P.map cvE ++ List.replicate R.length z106) (P.length : Int) = some ((P ++ R).map cvE) := by
  intro R
  induction R with
  | nil =>
    intro P k hl hr hk
    obtain ⟨k, rfl⟩ : ∃ m, k = m + 1 := ⟨k - 1, by omega⟩
    simp only [laws_toEntryS.l0]; rw [if_neg (by simp)]; simp
  | cons r R ih =>
    intro P k hl hr hk
    simp only [List.length_cons, mxE] at hl hk
    obtain ⟨k, rfl⟩ : ∃ m, k = m + 1 := ⟨k - 1, by omega⟩
    have h1 := hr r (by simp)
    simp only [laws_toEntryS.l0]
    rw [if_pos (by rw [List.length_append, List.length_cons]; omega), if_pos (by omega), rd104_at]
    unfold laws_toEntry.f
    rw [toShape_eq r.f1.f0 r.f1.f1 h1.1 h1.2 (by omega)]; simp only [Option.bind_some]
    rw [if_pos (by rw [List.length_append, List.length_map, List.length_replicate, List.length_cons]; omega), List.length_cons]
    have := ih (P ++ [r]) k (by simp; omega) (fun x hx => hr x (by simp [hx])) (by omega)
    rw [show wrap64 ((P.length : Int) + 1) = ((P ++ [r]).length : Int) by rw [wrap_in (by omega) (by omega)]; simp]
    have es : (P.map cvE ++ List.replicate (R.length + 1) z106).set P.length (cvE r) = P.map cvE ++ cvE r :: List.replicate R.length z106 := set_rep cvE P (cvE r) z106 R.length
    rw [Int.toNat_natCast, show (⟨r.f0, ⟨r.f1.f0, cvRows r.f1.f1⟩⟩ : S106) = cvE r from rfl, es]
    simp only [List.map_append, List.append_assoc, List.map_cons, List.map_nil, List.cons_append, List.nil_append] at this ⊢
    exact this
theorem toEntryS_eq (l : List S104) (hl : l.length * 40 ≤ 140737488351232) (hr : ∀ x ∈ l, okE x) {k : Nat} (hk : mxE l + l.length < k) : laws_toEntryS.f k l = some (l.map cvE) := by
  unfold laws_toEntryS.f
  rw [if_pos (by omega), if_pos (by omega), Int.toNat_natCast]
  have e := toEntryS_loop l [] k (by simpa using hl) hr hk
  simp only [List.nil_append, List.map_nil, List.length_nil] at e
  rw [show ((0 : Nat) : Int) = 0 from rfl] at e
  exact e
theorem eqEntryS_loop (l : List S106) (hl : l.length ≤ 140737488351232) (hr : ∀ x ∈ l, x.f1.f1.length ≤ 140737488351232 ∧ ∀ r ∈ x.f1.f1, r.length ≤ 140737488351232) : ∀ (R P : List S106) (k : Nat), l = P ++ R → R.length + mxF l < k → laws_eqEntryS.l0 k l l (P.length : Int) = some true := by
  intro R
  induction R with
  | nil =>
    intro P k e hk
    obtain ⟨k, rfl⟩ : ∃ m, k = m + 1 := ⟨k - 1, by omega⟩
    simp only [laws_eqEntryS.l0]; rw [if_neg (by rw [e]; simp)]
  | cons r R ih =>
    intro P k e hk
    simp only [List.length_cons] at hk
    obtain ⟨k, rfl⟩ : ∃ m, k = m + 1 := ⟨k - 1, by omega⟩
    have hm : r ∈ l := by rw [e]; simp
    have hb := mxF_le l r hm
    have hll : P.length < l.length := by rw [e]; simp
    have er : rd_T106 l (P.length : Int) = r := by rw [e]; exact rd106_at P r R
    simp only [laws_eqEntryS.l0]
    rw [if_pos (by omega), if_pos (by omega), if_pos (by omega), er]
    unfold laws_eqEntry.f
    rw [if_pos rfl, eqShape_refl _ _ (hr r hm).1 (hr r hm).2 (by omega)]
    simp only [Option.bind_some, if_true]
    rw [show wrap64 ((P.length : Int) + 1) = ((P ++ [r]).length : Int) by rw [wrap_in (by omega) (by omega)]; simp]
    exact ih (P ++ [r]) k (by rw [e]; simp) (by omega)
theorem eqEntryS_refl (l : List S106) (hl : l.length ≤ 140737488351232) (hr : ∀ x ∈ l, x.f1.f1.length ≤ 140737488351232 ∧ ∀ r ∈ x.f1.f1, r.length ≤ 140737488351232) {k : Nat} (hk : l.length + mxF l < k) : laws_eqEntryS.f k l l = some true := by
  unfold laws_eqEntryS.f
  rw [if_pos rfl]
  exact eqEntryS_loop l hl hr l [] k rfl hk

/-! the search -/
def fndE (a : Int) : List S106 → Option S106
  | [] => none
  | x :: r => if x.f0 = a then some x else fndE a r
def ansE : Option S106 → Int × List (List P2) × Bool
  | none => (0, [], false)
  | some e => (e.f1.f0, e.f1.f1, true)
theorem fndE_mem (a : Int) : ∀ (l : List S106) (x : S106), fndE a l = some x → x ∈ l
  | [], x, h => by simp [fndE] at h
  | y :: r, x, h => by
    unfold fndE at h
    split at h
    · cases h; simp
    · exact List.mem_cons_of_mem _ (fndE_mem a r x h)
def smallF (x : S106) : Prop := x.f1.f1.length ≤ 1048576 ∧ ∀ r ∈ x.f1.f1, r.length ≤ 1048576
theorem specCopy_loop (a c : Int) (L : List (List P2)) (hL : L.length ≤ 1048576) (hr : ∀ r ∈ L, r.length ≤ 1048576) : ∀ (R P : List (List P2)) (k : Nat), L = P ++ R → R.length < k → spec_l5Copy.l0 k (P.length : Int) c L a P = some (a, L)
  | [], P, k, e, hk => by
    obtain ⟨k, rfl⟩ : ∃ m, k = m + 1 := ⟨k - 1, by simp at hk; omega⟩
    simp only [spec_l5Copy.l0]; rw [if_neg (by rw [e]; simp), e, List.append_nil]
  | r :: R, P, k, e, hk => by
    simp only [List.length_cons] at hk
    obtain ⟨k, rfl⟩ : ∃ m, k = m + 1 := ⟨k - 1, by omega⟩
    have hm := hr r (by rw [e]; simp)
    have hll : P.length < L.length := by rw [e]; simp
    have er : rd_L7 L (P.length : Int) = r := by unfold rd_L7; rw [Int.toNat_natCast, e]; simp
    simp only [spec_l5Copy.l0]
    rw [if_pos (by omega), Option.bind_some, if_pos (by omega), er, if_pos (by simp only [List.length_nil]; omega), if_pos (by omega), List.nil_append]
    rw [show wrap64 ((P.length : Int) + 1) = ((P ++ [r]).length : Int) by rw [wrap_in (by omega) (by omega)]; simp]
    exact specCopy_loop a c L hL hr R (P ++ [r]) k (by rw [e]; simp) (by omega)
theorem specCopy_eq (a : Int) (L : List (List P2)) (hL : L.length ≤ 1048576) (hr : ∀ r ∈ L, r.length ≤ 1048576) {k : Nat} (hk : L.length < k) : spec_l5Copy.f k a L = some (a, L) := by
  unfold spec_l5Copy.f; exact specCopy_loop a a L hL hr L [] k rfl hk
theorem implCopy_loop (a : Int) (L : List (List P2)) (hL : L.length ≤ 1048576) (hr : ∀ r ∈ L, r.length ≤ 1048576) : ∀ (R P : List (List P2)) (k : Nat), L = P ++ R → R.length < k → impl_copyShape.l0 k L (L.length : Int) (P.length : Int) a P = some (a, L)
  | [], P, k, e, hk => by
    obtain ⟨k, rfl⟩ : ∃ m, k = m + 1 := ⟨k - 1, by simp at hk; omega⟩
    simp only [impl_copyShape.l0]; rw [if_neg (by rw [e]; simp), e, List.append_nil]
  | r :: R, P, k, e, hk => by
    simp only [List.length_cons] at hk
    obtain ⟨k, rfl⟩ : ∃ m, k = m + 1 := ⟨k - 1, by omega⟩
    have hm := hr r (by rw [e]; simp)
    have hll : P.length < L.length := by rw [e]; simp
    have er : rd_L7 L (P.length : Int) = r := by unfold rd_L7; rw [Int.toNat_natCast, e]; simp
    have ec : impl_Pt.f r = some r := by unfold impl_Pt.f; rw [Option.bind_some, if_pos (by simp only [List.length_nil]; omega), List.nil_append]
    simp only [impl_copyShape.l0]
    rw [if_pos (by omega), if_pos (by omega), if_pos (by omega), er, ec, Option.bind_some, if_pos (by omega)]
    rw [show wrap64 ((P.length : Int) + 1) = ((P ++ [r]).length : Int) by rw [wrap_in (by omega) (by omega)]; simp]
    exact implCopy_loop a L hL hr R (P ++ [r]) k (by rw [e]; simp) (by omega)
theorem implCopy_eq (a : Int) (L : List (List P2)) (hL : L.length ≤ 1048576) (hr : ∀ r ∈ L, r.length ≤ 1048576) {k : Nat} (hk : L.length < k) : impl_copyShape.f k a L = some (a, L) := by
  unfold impl_copyShape.f; exact implCopy_loop a L hL hr L [] k rfl hk
theorem specFind_loop (l : List S106) (a : Int) (hl : l.length ≤ 1048576) (ho : ∀ x ∈ l, smallF x) : ∀ (R P : List S106) (k : Nat), l = P ++ R → R.length + mxF l < k → spec_Find.l0 k l a (P.length : Int) = some (ansE (fndE a R))
  | [], P, k, e, hk => by
    obtain ⟨k, rfl⟩ : ∃ m, k = m + 1 := ⟨k - 1, by omega⟩
    simp only [spec_Find.l0]; rw [if_neg (by rw [e]; simp)]; rfl
  | r :: R, P, k, e, hk => by
    simp only [List.length_cons] at hk
    obtain ⟨k, rfl⟩ : ∃ m, k = m + 1 := ⟨k - 1, by omega⟩
    have hm : r ∈ l := by rw [e]; simp
    have hll : P.length < l.length := by rw [e]; simp
    have hb := mxF_le l r hm
    have er : rd_T106 l (P.length : Int) = r := by rw [e]; exact rd106_at P r R
    simp only [spec_Find.l0]
    rw [if_pos (by omega), if_pos (by omega), er]
    unfold fndE
    by_cases h : r.f0 = a
    · rw [if_pos h, if_pos h, specCopy_eq _ _ (ho r hm).1 (ho r hm).2 (by omega)]; rfl
    · rw [if_neg h, if_neg h, show wrap64 ((P.length : Int) + 1) = ((P ++ [r]).length : Int) by rw [wrap_in (by omega) (by omega)]; simp]
      exact specFind_loop l a hl ho R (P ++ [r]) k (by rw [e]; simp) (by omega)
theorem specFind_eq (l : List S106) (a : Int) (hl : l.length ≤ 1048576) (ho : ∀ x ∈ l, smallF x) {k : Nat} (hk : l.length + mxF l < k) : spec_Find.f k l a = some (ansE (fndE a l)) := by
  unfold spec_Find.f; exact specFind_loop l a hl ho l [] k rfl hk
theorem implIdx_loop (l : List S106) (a : Int) (hl : l.length ≤ 1048576) : ∀ (R P : List S106) (k : Nat), l = P ++ R → R.length < k →
    ∃ i : Int, impl_Entry.l0 k l a (l.length : Int) (P.length : Int) = some i ∧ ((i = -1 ∧ fndE a R = none) ∨ (0 ≤ i ∧ i < l.length ∧ fndE a R = some (rd_T106 l i)))
  | [], P, k, e, hk => by
    obtain ⟨k, rfl⟩ : ∃ m, k = m + 1 := ⟨k - 1, by simp at hk; omega⟩
    refine ⟨-1, ?_, .inl ⟨rfl, rfl⟩⟩
    simp only [impl_Entry.l0]; rw [if_neg (by rw [e]; simp)]
  | r :: R, P, k, e, hk => by
    simp only [List.length_cons] at hk
    obtain ⟨k, rfl⟩ : ∃ m, k = m + 1 := ⟨k - 1, by omega⟩
    have hll : P.length < l.length := by rw [e]; simp
    have er : rd_T106 l (P.length : Int) = r := by rw [e]; exact rd106_at P r R
    simp only [impl_Entry.l0]
    rw [if_pos (by omega), if_pos (by omega), if_pos (by omega), er]
    unfold impl_idAtOne.f fndE
    rw [Option.bind_some]
    by_cases h : r.f0 = a
    · rw [if_pos (by simp [h]), if_pos h]
      exact ⟨_, rfl, .inr ⟨by omega, by omega, by rw [er]⟩⟩
    · rw [if_neg (by simp [h]), if_neg h, show wrap64 ((P.length : Int) + 1) = ((P ++ [r]).length : Int) by rw [wrap_in (by omega) (by omega)]; simp]
      exact implIdx_loop l a hl R (P ++ [r]) k (by rw [e]; simp) (by omega)
theorem implFind_eq (l : List S106) (a : Int) (hl : l.length ≤ 1048576) (ho : ∀ x ∈ l, smallF x) {k : Nat} (hk : l.length + mxF l < k) : impl_Find.f k l a = some (ansE (fndE a l)) := by
  unfold impl_Find.f impl_idAt.f impl_Entry.f
  obtain ⟨i, e, h⟩ := implIdx_loop l a hl l [] k rfl (by omega)
  rw [show ((([] : List S106).length : Nat) : Int) = 0 from rfl] at e
  rw [e, Option.bind_some, Option.bind_some]
  rcases h with ⟨rfl, h⟩ | ⟨h0, h1, h⟩
  · rw [if_pos (by decide), h]; rfl
  · have hm : rd_T106 l i ∈ l := fndE_mem a l _ h
    have hb := mxF_le l _ hm
    rw [if_neg (by omega), if_pos h0, if_pos h1, implCopy_eq _ _ (ho _ hm).1 (ho _ hm).2 (by omega), h]; rfl

/-! marks of rings -/
def tR (m : Int) : List (List P2) → List (List P2)
  | [] => []
  | r :: R => tm2 m r.length :: tR (te2 m r.length) R
def tE (m : Int) : List (List P2) → Int
  | [] => m
  | r :: R => tE (te2 m r.length) R
def sumR (L : List (List P2)) : Nat := (L.map List.length).sum
theorem tR_length : ∀ (R : List (List P2)) (m : Int), (tR m R).length = R.length
  | [], m => rfl
  | r :: R, m => by simp only [tR, List.length_cons, tR_length R]
theorem tE_eq : ∀ (R : List (List P2)) (m : Int), 0 ≤ m → m + 2 * sumR R ≤ 461168601842738790 → tE m R = m + 2 * sumR R
  | [], m, h0, h1 => by simp [tE, sumR]
  | r :: R, m, h0, h1 => by
    have es : sumR (r :: R) = r.length + sumR R := by simp [sumR]
    have e := te2_eq r.length m h0 (by omega)
    simp only [tE]
    rw [tE_eq R (te2 m r.length) (by omega) (by omega), e, es]; omega
theorem markRows_loop : ∀ (R P : List (List P2)) (m : Int) (k : Nat), P.length + R.length ≤ 1048576 → (∀ r ∈ R, r.length ≤ 1048576) → R.length + rowMax R < k →
    laws_markPtSS.l0 k (P ++ R) m (P.length : Int) = some (tE m R, P ++ tR m R)
  | [], P, m, k, hl, hr, hk => by
    obtain ⟨k, rfl⟩ : ∃ m, k = m + 1 := ⟨k - 1, by omega⟩
    simp only [laws_markPtSS.l0]; rw [if_neg (by simp)]; simp [tE, tR]
  | r :: R, P, m, k, hl, hr, hk => by
    simp only [List.length_cons, rowMax] at hl hk
    obtain ⟨k, rfl⟩ : ∃ m, k = m + 1 := ⟨k - 1, by omega⟩
    simp only [laws_markPtSS.l0]
    rw [if_pos (by rw [List.length_append, List.length_cons]; omega), if_pos (by omega), Int.toNat_natCast, getD_at, markPtS_eq r m (by have := hr r (by simp); omega) (by omega)]
    simp only [Option.bind_some]
    have es : (P ++ r :: R).set P.length (tm2 m r.length) = (P ++ [tm2 m r.length]) ++ R := by simp
    rw [es, show wrap64 ((P.length : Int) + 1) = ((P ++ [tm2 m r.length]).length : Int) by rw [wrap_in (by omega) (by omega)]; simp]
    rw [markRows_loop R (P ++ [tm2 m r.length]) (te2 m r.length) k (by simp; omega) (fun x hx => hr x (by simp [hx])) (by omega)]
    simp [tE, tR]
theorem markShape_eq (L : List (List P2)) (m : Int) (hl : L.length ≤ 1048576) (hr : ∀ r ∈ L, r.length ≤ 1048576) {k : Nat} (hk : L.length + rowMax L < k) : laws_markShape.f k L m = some (tE m L, tR m L) := by
  unfold laws_markShape.f laws_markPtSS.f; exact markRows_loop L [] m k (by simpa using hl) hr hk
theorem heldRows_loop : ∀ (R : List (List P2)) (P : List (List P2)) (m : Int) (k : Nat), P.length + R.length ≤ 1048576 → (∀ r ∈ R, r.length ≤ 1048576) → R.length + rowMax R < k → 0 ≤ m → m + 2 * sumR R ≤ 461168601842738790 →
    laws_heldPtSS.l0 k (P ++ tR m R) m (P.length : Int) = some (tE m R)
  | [], P, m, k, hl, hr, hk, h0, h1 => by
    obtain ⟨k, rfl⟩ : ∃ m, k = m + 1 := ⟨k - 1, by omega⟩
    rw [show tR m [] = [] from rfl, List.append_nil]; simp only [laws_heldPtSS.l0]; rw [if_neg (show ¬ ((P.length : Int) < (P.length : Int)) by omega)]; rfl
  | r :: R, P, m, k, hl, hr, hk, h0, h1 => by
    simp only [List.length_cons, rowMax] at hl hk
    obtain ⟨k, rfl⟩ : ∃ m, k = m + 1 := ⟨k - 1, by omega⟩
    have es : sumR (r :: R) = r.length + sumR R := by simp [sumR]
    have e := te2_eq r.length m h0 (by omega)
    rw [show tR m (r :: R) = tm2 m r.length :: tR (te2 m r.length) R from rfl, show tE m (r :: R) = tE (te2 m r.length) R from rfl]
    simp only [laws_heldPtSS.l0, rd_L7, Int.toNat_natCast]
    rw [if_pos (show (P.length : Int) < ((P ++ tm2 m r.length :: tR (te2 m r.length) R).length : Int) by rw [List.length_append, List.length_cons]; omega), if_pos (show (0 : Int) ≤ (P.length : Int) by omega), getD_at, heldPtS_eq r.length m (by have := hr r (by simp); omega) (by omega)]
    simp only [Option.bind_some]
    rw [if_neg (by omega), show wrap64 ((P.length : Int) + 1) = ((P ++ [tm2 m r.length]).length : Int) by rw [wrap_in (by omega) (by omega)]; simp]
    have := heldRows_loop R (P ++ [tm2 m r.length]) (te2 m r.length) k (by simp; omega) (fun x hx => hr x (by simp [hx])) (by omega) (by omega) (by omega)
    rw [List.append_assoc] at this
    exact this
theorem heldShape_eq (c : Int) (L : List (List P2)) (hl : L.length ≤ 1048576) (hr : ∀ r ∈ L, r.length ≤ 1048576) (hs : sumR L ≤ 1048576) {k : Nat} (hk : L.length + rowMax L < k) : laws_heldShape.f k c (tR 1 L) 1 = some (tE 1 L) := by
  unfold laws_heldShape.f laws_heldPtSS.f
  have e := heldRows_loop L [] 1 k (by simpa using hl) hr hk (by omega) (by omega)
  rw [show ((([] : List (List P2)).length : Nat) : Int) = 0 from rfl] at e
  simp only [List.nil_append] at e
  have h := tE_eq L 1 (by omega) (by omega)
  rw [e, Option.bind_some, if_neg (by omega)]

/-! the weak marks' count -/
theorem cntP_eq (a : Int) (h0 : 0 ≤ a) : ∀ (n : Nat), a + 2 * n ≤ 461168601842738790 → cntP a n = a + 2 * n
  | 0, _ => by simp [cntP]
  | n + 1, h => by
    have e := cntP_eq a h0 n (by omega)
    simp only [cntP]
    rw [e, wrap_in (x := a + 2 * n + 1) (by omega) (by omega), wrap_in (by omega) (by omega)]; omega
theorem cntR_eq : ∀ (l : List Nat) (a : Int), 0 ≤ a → a + 2 * l.sum ≤ 461168601842738790 → cntR a l = a + 2 * l.sum
  | [], a, h0, h => by simp [cntR]
  | n :: l, a, h0, h => by
    simp only [List.sum_cons] at h ⊢
    have e := cntP_eq a h0 n (by omega)
    simp only [cntR]
    rw [cntR_eq l (cntP a n) (by omega) (by omega), e]; omega
theorem cntE_nn : ∀ (l : List (List Nat)) (a : Int), 0 ≤ a → a + 2 * (l.length + (l.map List.sum).sum : Nat) ≤ 461168601842738790 → 0 ≤ cntE a l
  | [], a, h0, h => h0
  | n :: l, a, h0, h => by
    simp only [List.length_cons, List.map_cons, List.sum_cons] at h
    have w : wrap64 (wrap64 (a + 1) + 1) = a + 2 := by rw [wrap_in (x := a + 1) (by omega) (by omega), wrap_in (by omega) (by omega)]; omega
    have e := cntR_eq n (a + 2) (by omega) (by omega)
    simp only [cntE]
    rw [w]
    exact cntE_nn l _ (by omega) (by omega)
theorem mem_le_sum : ∀ (l : List Nat) (n : Nat), n ∈ l → n ≤ l.sum
  | [], n, h => by simp at h
  | m :: l, n, h => by
    rw [List.sum_cons]
    rcases List.mem_cons.1 h with h | h
    · omega
    · have := mem_le_sum l n h; omega
theorem cvRows_lens (L : List (List S119)) : (cvRows L).map List.length = L.map List.length := by
  unfold cvRows; rw [List.map_map]; apply List.map_congr_left; intro r _; simp
theorem lens_cv (l : List S104) : lensOf (l.map cvE) = l.map fun x => x.f1.f1.map List.length := by
  unfold lensOf; rw [List.map_map]; apply List.map_congr_left; intro x _; exact cvRows_lens x.f1.f1
theorem sums_le : ∀ (l : List S104), (((l.map fun x => x.f1.f1.map List.length)).map List.sum).sum ≤ (l.map fun x => totR x.f1.f1).sum
  | [] => by simp
  | x :: l => by
    have := sums_le l
    have e : totR x.f1.f1 = x.f1.f1.length + (x.f1.f1.map List.length).sum := rfl
    simp only [List.map_cons, List.sum_cons]; omega
theorem totE_mem (l : List S104) (h : totE l ≤ 1048576) : l.length ≤ 1048576 ∧ ∀ x ∈ l, x.f1.f1.length ≤ 1048576 ∧ (x.f1.f1.map List.length).sum ≤ 1048576 ∧ ∀ r ∈ x.f1.f1, r.length ≤ 1048576 := by
  unfold totE at h
  refine ⟨by omega, fun x hx => ?_⟩
  have h1 := mem_le_sum (l.map fun x => totR x.f1.f1) (totR x.f1.f1) (List.mem_map.2 ⟨x, hx, rfl⟩)
  have e : totR x.f1.f1 = x.f1.f1.length + (x.f1.f1.map List.length).sum := rfl
  refine ⟨by omega, by omega, fun r hr => ?_⟩
  have h2 := mem_le_sum (x.f1.f1.map List.length) r.length (List.mem_map.2 ⟨r, hr, rfl⟩)
  omega
theorem markEntryS_eq (l : List S104) (h : totE l ≤ 1048576) (k : Nat) : ∃ c, laws_markEntryS.f k (l.map cvE) 1 = some c ∧ 0 ≤ c := by
  obtain ⟨h1, h2⟩ := totE_mem l h
  have hs : smallE (lensOf (l.map cvE)) = true := by
    rw [lens_cv]; unfold smallE
    rw [Bool.and_eq_true, decide_eq_true_eq, List.all_eq_true]
    refine ⟨by rw [List.length_map]; omega, fun ns hn => ?_⟩
    obtain ⟨x, hx, rfl⟩ := List.mem_map.1 hn
    obtain ⟨a1, a2, a3⟩ := h2 x hx
    rw [Bool.and_eq_true, decide_eq_true_eq, List.all_eq_true]
    refine ⟨by rw [List.length_map]; omega, fun n hn => ?_⟩
    obtain ⟨r, hr, rfl⟩ := List.mem_map.1 hn
    have := a3 r hr
    exact decide_eq_true (by omega)
  refine ⟨_, by unfold laws_markEntryS.f; rw [if_pos hs], ?_⟩
  refine cntE_nn _ 1 (by omega) ?_
  have := sums_le l
  rw [lens_cv, List.length_map]
  unfold totE at h
  omega
theorem smallF_cv (l : List S104) (h : totE l ≤ 1048576) : ∀ x ∈ l.map cvE, smallF x ∧ sumR x.f1.f1 ≤ 1048576 := by
  intro y hy
  obtain ⟨x, hx, rfl⟩ := List.mem_map.1 hy
  obtain ⟨a1, a2, a3⟩ := (totE_mem l h).2 x hx
  refine ⟨⟨by show (cvRows x.f1.f1).length ≤ _; unfold cvRows; rw [List.length_map]; exact a1, fun r hr => ?_⟩, ?_⟩
  · change r ∈ cvRows x.f1.f1 at hr
    unfold cvRows at hr
    obtain ⟨q, hq, rfl⟩ := List.mem_map.1 hr
    rw [List.length_map]; exact a3 q hq
  · show (List.map List.length (cvRows x.f1.f1)).sum ≤ _
    rw [cvRows_lens]; exact a2
theorem FnExactFind : ∀ (l0 : List (S104)) (a1 : Int), (l0.length * 40 ≤ 140737488351232 ∧ ∀ u ∈ l0, (fun x : S104 => ok104 x) u) → (Lit.int .i64 a1).wf = true → ∃ k, laws_FnExactFind.f k l0 a1 = some true := by
  intro l a ⟨hl, ho0⟩ _
  have hl : l.length * 40 ≤ 140737488351232 := hl
  have ho : ∀ x ∈ l, okE x := fun x hx => ⟨(ho0 x hx).2.2.1, fun r hr => ((ho0 x hx).2.2.2 r hr).1⟩
  have cl : (l.map cvE).length = l.length := List.length_map ..
  have mf := mxF_cv l
  obtain ⟨K, hK⟩ : ∃ K, K = 4 * mxE l + 4 * l.length + 2000 := ⟨_, rfl⟩
  refine ⟨K + 4, ?_⟩
  unfold laws_FnExactFind.f
  rw [szEntryS_eq l hl ho (mxE l + 1) (fun x hx => by have := mxE_le l x hx; omega) (by omega), Option.bind_some]
  by_cases hb : (totE l : Int) ≤ 1048576
  · rw [if_pos hb, if_neg (by omega), toEntryS_eq l hl ho (by omega)]
    simp only [Option.bind_some]
    have sF := smallF_cv l (by omega)
    obtain ⟨b1, _⟩ := totE_mem l (by omega)
    obtain ⟨c, hc, hc0⟩ := markEntryS_eq l (by omega) (K + 3)
    have sL : ∀ x ∈ l.map cvE, smallF x := fun x hx => (sF x hx).1
    have eS : ∀ k, (l.map cvE).length + mxF (l.map cvE) < k → spec_Find.f k (l.map cvE) a = some (ansE (fndE a (l.map cvE))) := fun k hk => specFind_eq _ a (by omega) sL hk
    have eI : ∀ k, (l.map cvE).length + mxF (l.map cvE) < k → impl_Find.f k (l.map cvE) a = some (ansE (fndE a (l.map cvE))) := fun k hk => implFind_eq _ a (by omega) sL hk
    have hG : (ansE (fndE a (l.map cvE))).2.1.length ≤ 1048576 ∧ (∀ r ∈ (ansE (fndE a (l.map cvE))).2.1, r.length ≤ 1048576) ∧ sumR (ansE (fndE a (l.map cvE))).2.1 ≤ 1048576 ∧ (ansE (fndE a (l.map cvE))).2.1.length + rowMax (ansE (fndE a (l.map cvE))).2.1 ≤ mxE l := by
      cases h : fndE a (l.map cvE) with
      | none => exact ⟨by simp [ansE], fun r hr => by simp [ansE] at hr, by simp [ansE, sumR], by simp [ansE, rowMax]⟩
      | some e =>
        have hm := fndE_mem a _ e h
        have hx := mxF_le _ e hm
        obtain ⟨s1, s2⟩ := sF e hm
        exact ⟨s1.1, s1.2, s2, by show e.f1.f1.length + rowMax e.f1.f1 ≤ _; omega⟩
    rw [eS _ (by omega), Option.bind_some, eI _ (by omega), Option.bind_some]
    generalize ansE (fndE a (l.map cvE)) = Z at hG eI ⊢
    obtain ⟨c0, L, ok⟩ := Z
    obtain ⟨g1, g2, g3, g4⟩ := hG
    simp only at g1 g2 g3 g4 eI ⊢
    have hL7 : ∀ r ∈ L, r.length ≤ 140737488351232 := fun r hr => by have := g2 r hr; omega
    have eE : ∀ k, mxE l < k → laws_eqShape.f k c0 L c0 L = some true := fun k hk => eqShape_refl c0 L (by omega) hL7 (by omega)
    rw [eE _ (by omega), Option.bind_some, if_pos rfl, bne_self_eq_false]
    rw [laws_FnExactFind.j0, if_neg (by decide), toEntryS_eq l hl ho (by omega), Option.bind_some]
    rw [eqEntryS_refl _ (by omega) (fun x hx => ⟨by have := (sL x hx).1; omega, fun r hr => by have := (sL x hx).2 r hr; omega⟩) (by omega), Option.bind_some, if_pos rfl, hc, Option.bind_some, if_neg (by omega)]
    rw [eE _ (by omega), Option.bind_some, if_pos rfl, bne_self_eq_false]
    have hT := tE_eq L 1 (by omega) (by omega)
    rw [laws_FnExactFind.j1, if_neg (by decide), markShape_eq L 1 g1 g2 (by omega), Option.bind_some]
    simp only []
    rw [heldShape_eq c0 L g1 g2 g3 (by omega), Option.bind_some, if_neg (by omega), if_pos rfl, toEntryS_eq l hl ho (by omega), Option.bind_some, eI _ (by omega), Option.bind_some]
    simp only []
    rw [eE _ (by omega), Option.bind_some, if_pos rfl, bne_self_eq_false]
    rw [laws_FnExactFind.j2, if_neg (by decide), heldShape_eq c0 L g1 g2 g3 (by omega), Option.bind_some, if_neg (by omega), if_pos rfl]
  · rw [if_neg hb]; simp

end Go.Proofs.Ytinilabmffjnaaa.Pure
