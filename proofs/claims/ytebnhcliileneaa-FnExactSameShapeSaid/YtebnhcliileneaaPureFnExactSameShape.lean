/- The pure statement of the law FnExactSameShape. No conditions beyond that each number is one of its kind and that slices are no greater than memory. -/
import Derived.Test.YtebnhcliileneaaKinFnExactSameShape
namespace Go.Proofs.Ytebnhcliileneaa.Pure
open Go.RowKit Go.Proofs.Ytebnhcliileneaa.PFnExactSameShape Go.Proofs.YtebnhcliileneaaW.PrintWords Go.Proofs.YtebnhcliileneaaW.PrintLast Go.Proofs.YtebnhcliileneaaW.PrintMore
set_option linter.unusedVariables false
set_option linter.unusedSimpArgs false

/-- The points that are right. -/
def ptOk (x y : Int) : Bool := decide (-10000000 ≤ x) && decide (x ≤ 10000000) && decide (-10000000 ≤ y) && decide (y ≤ 10000000)
/-- The boxes that are right. -/
def boxOk (a b c d : Int) : Bool := ptOk a b && ptOk c d && decide (a ≤ c) && decide (b ≤ d)
theorem ptOk_iff {x y : Int} : ptOk x y = true ↔ -10000000 ≤ x ∧ x ≤ 10000000 ∧ -10000000 ≤ y ∧ y ≤ 10000000 := by
  simp [ptOk, and_assoc]
theorem boxOk_iff {a b c d : Int} : boxOk a b c d = true ↔ (-10000000 ≤ a ∧ a ≤ 10000000 ∧ -10000000 ≤ b ∧ b ≤ 10000000) ∧ (-10000000 ≤ c ∧ c ≤ 10000000 ∧ -10000000 ≤ d ∧ d ≤ 10000000) ∧ a ≤ c ∧ b ≤ d := by
  simp [boxOk, ptOk_iff, and_assoc]
theorem wrap_in {x : Int} (h1 : -9223372036854775808 ≤ x) (h2 : x ≤ 9223372036854775807) : wrap64 x = x := by unfold wrap64; omega
theorem wrap_bounds (x : Int) : -9223372036854775808 ≤ wrap64 x ∧ wrap64 x ≤ 9223372036854775807 := by unfold wrap64; omega
theorem u64_in {x : Int} (h1 : 0 ≤ x) (h2 : x ≤ 18446744073709551615) : IntKind.u64.wrap x = x := by
  simp [IntKind.wrap, IntKind.bits, IntKind.signed]; omega
theorem u64_bounds (x : Int) : 0 ≤ IntKind.u64.wrap x ∧ IntKind.u64.wrap x ≤ 18446744073709551615 := by
  simp [IntKind.wrap, IntKind.bits, IntKind.signed]; omega
theorem u64_nonneg (x : Int) : 0 ≤ IntKind.u64.wrap x := (u64_bounds x).1
theorem mx_eq (a b : Int) : mx a b = max a b := by unfold mx; omega
theorem mn_eq (a b : Int) : mn a b = min a b := by unfold mn; omega
theorem laws_toPt_eq (x y : Int) : laws_toPt.f x y = some (x, y) := rfl
def inBox (a b c d x y : Int) : Bool := boxOk a b c d && ptOk x y && (decide (a ≤ x) && decide (x ≤ c)) && (decide (b ≤ y) && decide (y ≤ d))
def overlap (a b c d e f g h : Int) : Bool := boxOk a b c d && boxOk e f g h && decide (a ≤ g) && decide (e ≤ c) && decide (b ≤ h) && decide (f ≤ d)
def inside (a b c d e f g h : Int) : Bool := boxOk a b c d && inBox e f g h a b && inBox e f g h c d
def area (a b c d : Int) : Int := if boxOk a b c d = true then (c - a) * (d - b) else 0
theorem area_bounds (a b c d : Int) : 0 ≤ area a b c d ∧ area a b c d ≤ 400000000000000 := by
  unfold area; split
  · rename_i h
    rw [boxOk_iff] at h
    obtain ⟨⟨h1, h2, h3, h4⟩, ⟨h5, h6, h7, h8⟩, h9, h10⟩ := h
    have p1 : 0 ≤ c - a := by omega
    have p2 : 0 ≤ d - b := by omega
    refine ⟨Int.mul_nonneg p1 p2, ?_⟩
    calc (c - a) * (d - b) ≤ 20000000 * (d - b) := Int.mul_le_mul_of_nonneg_right (by omega) p2
      _ ≤ 20000000 * 20000000 := Int.mul_le_mul_of_nonneg_left (by omega) (by omega)
      _ = 400000000000000 := by decide
  · omega
theorem area_wrap {a b c d : Int} (h : boxOk a b c d = true) : wrap64 ((wrap64 (c - a)) * (wrap64 (d - b))) = area a b c d := by
  have hb := area_bounds a b c d
  have e : area a b c d = (c - a) * (d - b) := by unfold area; rw [if_pos h]
  rw [boxOk_iff] at h
  rw [wrap_in (x := c - a) (by omega) (by omega), wrap_in (x := d - b) (by omega) (by omega), ← e]
  exact wrap_in (by omega) (by omega)
/-- The tiles that are right. -/
def tileOk (z x y : Int) : Bool := decide (0 ≤ z) && decide (z ≤ 20) && (decide (0 ≤ x) && decide (x ≤ 2 ^ z.toNat - 1)) && (decide (0 ≤ y) && decide (y ≤ 2 ^ z.toNat - 1))
theorem shl1_fin : ∀ n : Fin 51, shl .i64 1 (IntKind.u64.wrap ((n.val : Nat) : Int)) = 2 ^ n.val := by decide +kernel
theorem shl1 {z : Int} (h0 : 0 ≤ z) (h1 : z ≤ 50) : shl .i64 1 (IntKind.u64.wrap z) = 2 ^ z.toNat := by
  obtain ⟨n, rfl⟩ := Int.eq_ofNat_of_zero_le h0
  exact shl1_fin ⟨n, by omega⟩
theorem pow2_le {n m : Nat} (h : n ≤ m) : (2 : Int) ^ n ≤ 2 ^ m := by
  have := Nat.pow_le_pow_right (n := 2) (by decide) h
  exact_mod_cast this
theorem pow2_pos (n : Nat) : (1 : Int) ≤ 2 ^ n := by
  have := pow2_le (Nat.zero_le n); simpa using this
theorem pow2_20 {z : Int} (h1 : z ≤ 20) : (1 : Int) ≤ 2 ^ z.toNat ∧ (2 : Int) ^ z.toNat ≤ 1048576 :=
  ⟨pow2_pos _, by have := pow2_le (n := z.toNat) (m := 20) (by omega); simpa using this⟩
theorem tile_most {z : Int} (h0 : 0 ≤ z) (h1 : z ≤ 20) : wrap64 ((shl .i64 1 (IntKind.u64.wrap z)) - 1) = 2 ^ z.toNat - 1 := by
  rw [shl1 h0 (by omega)]
  have := pow2_20 h1
  exact wrap_in (by omega) (by omega)
/-- The side of the tiles of a Z. -/
def side (z : Int) : Int := 33554432 / 2 ^ z.toNat
theorem shr_side_fin : ∀ n : Fin 21, shr .i64 33554432 (IntKind.u64.wrap ((n.val : Nat) : Int)) = 33554432 / 2 ^ n.val ∧ (32 : Int) ≤ 33554432 / 2 ^ n.val ∧ (33554432 : Int) / 2 ^ n.val ≤ 33554432 := by decide +kernel
theorem shr_side {z : Int} (h0 : 0 ≤ z) (h1 : z ≤ 20) : shr .i64 33554432 (IntKind.u64.wrap z) = side z ∧ 32 ≤ side z ∧ side z ≤ 33554432 := by
  obtain ⟨n, rfl⟩ := Int.eq_ofNat_of_zero_le h0
  exact shr_side_fin ⟨n, by omega⟩
/-- The tile of a point. -/
def tileX (x z : Int) : Int := Int.tdiv (x + 16777216) (side z)
/-- A point as it is taken. -/
def tk (x y : Int) : Int × Int := if ptOk x y = true then (x, y) else (0, 0)
theorem tk_ok (x y : Int) : ptOk (tk x y).1 (tk x y).2 = true := by
  unfold tk; split
  · assumption
  · decide
def sgn (n : Int) : Int := if n > 0 then 1 else if n < 0 then -1 else 0
theorem sgn_cmp (n : Int) : (if n < 0 then (-1 : Int) else if n > 0 then 1 else 0) = sgn n := by unfold sgn; split <;> split <;> omega
theorem sgn_0 : sgn 0 = 0 := rfl
theorem sgn_zero {n : Int} : sgn n = 0 ↔ n = 0 := by unfold sgn; split <;> (try split) <;> omega
def crossW (a b c d e f : Int) : Int := wrap64 ((wrap64 ((wrap64 (c - a)) * (wrap64 (f - b)))) - (wrap64 ((wrap64 (d - b)) * (wrap64 (e - a)))))
def betw (a b n : Int) : Bool := decide (min a b ≤ n) && decide (n ≤ max a b)
def onSegW (a b c d e f : Int) : Bool := decide (crossW a b c d e f = 0) && betw a c e && betw b d f
def onSegT (a b c d e f : Int) : Bool := onSegW (tk a b).1 (tk a b).2 (tk c d).1 (tk c d).2 (tk e f).1 (tk e f).2
def squareW (a b c d : Int) : Int := wrap64 ((wrap64 ((wrap64 (a - c)) * (wrap64 (a - c)))) + (wrap64 ((wrap64 (b - d)) * (wrap64 (b - d)))))
def gapW (a b c d x y : Int) : Int := if boxOk a b c d = true ∧ ptOk x y = true then squareW x y (max a (min x c)) (max b (min y d)) else -1
def l3MeetW (a b c d e f g h : Int) : Bool :=
  onSegW a b c d e f || onSegW a b c d g h || onSegW e f g h a b || onSegW e f g h c d ||
    (decide (wrap64 (sgn (crossW a b c d e f) * sgn (crossW a b c d g h)) < 0) && decide (wrap64 (sgn (crossW e f g h a b) * sgn (crossW e f g h c d)) < 0))
def meetW (a b c d e f g h : Int) : Bool := l3MeetW (tk a b).1 (tk a b).2 (tk c d).1 (tk c d).2 (tk e f).1 (tk e f).2 (tk g h).1 (tk g h).2
/-- What Join computes. -/
def joinW (a b c d e f g h : Int) : Int × Int × Int × Int :=
  if boxOk a b c d = true then (if boxOk e f g h = true then (min a e, min b f, max c g, max d h) else (a, b, c, d))
  else (if boxOk e f g h = true then (e, f, g, h) else (0, 0, 0, 0))
def grownW (a b c d e f g h : Int) : Int := area (joinW a b c d e f g h).1 (joinW a b c d e f g h).2.1 (joinW a b c d e f g h).2.2.1 (joinW a b c d e f g h).2.2.2 - area a b c d
theorem grown_wrap (a b c d e f g h : Int) : wrap64 (area (joinW a b c d e f g h).1 (joinW a b c d e f g h).2.1 (joinW a b c d e f g h).2.2.1 (joinW a b c d e f g h).2.2.2 - area a b c d) = grownW a b c d e f g h := by
  have a1 := area_bounds a b c d
  have a2 := area_bounds (joinW a b c d e f g h).1 (joinW a b c d e f g h).2.1 (joinW a b c d e f g h).2.2.1 (joinW a b c d e f g h).2.2.2
  exact wrap_in (by omega) (by omega)
theorem side_fin : ∀ n : Fin 21, (33554432 : Int) / 2 ^ n.val * 2 ^ n.val = 33554432 := by decide +kernel
theorem side_mul {z : Int} (h0 : 0 ≤ z) (h1 : z ≤ 20) : side z * 2 ^ z.toNat = 33554432 := by
  obtain ⟨n, rfl⟩ := Int.eq_ofNat_of_zero_le h0
  exact side_fin ⟨n, by omega⟩
theorem tile_span {z x : Int} (h0 : 0 ≤ z) (h1 : z ≤ 20) (x0 : 0 ≤ x) (x1 : x ≤ 2 ^ z.toNat - 1) : 0 ≤ x * side z ∧ (x + 1) * side z = x * side z + side z ∧ x * side z + side z ≤ 33554432 ∧ 32 ≤ side z := by
  have hs := (shr_side h0 h1).2
  have e : (x + 1) * side z = x * side z + side z := by rw [Int.add_mul, Int.one_mul]
  refine ⟨Int.mul_nonneg x0 (by omega), e, ?_, hs.1⟩
  rw [← e, ← side_mul h0 h1, Int.mul_comm (side z)]
  exact Int.mul_le_mul_of_nonneg_right (by omega) (by omega)
/-- What TileBox computes. -/
def tileBoxW (z x y : Int) : Int × Int × Int × Int × Bool :=
  if tileOk z x y = true ∧ boxOk (max (x * side z - 16777216) (-10000000)) (max (y * side z - 16777216) (-10000000)) (min (x * side z - 16777216 + side z - 1) 10000000) (min (y * side z - 16777216 + side z - 1) 10000000) = true then
    (max (x * side z - 16777216) (-10000000), max (y * side z - 16777216) (-10000000), min (x * side z - 16777216 + side z - 1) 10000000, min (y * side z - 16777216 + side z - 1) 10000000, true)
  else (0, 0, 0, 0, false)
theorem tileOk_iff {z x y : Int} : tileOk z x y = true ↔ (0 ≤ z ∧ z ≤ 20) ∧ (0 ≤ x ∧ x ≤ 2 ^ z.toNat - 1) ∧ (0 ≤ y ∧ y ≤ 2 ^ z.toNat - 1) := by
  simp [tileOk, and_assoc]
theorem laws_eqPt_refl (a b : Int) : laws_eqPt.f a b a b = some true := by simp [laws_eqPt.f]
theorem szPtS_eq (l : List S30) (hl : l.length * 16 ≤ 140737488351232) (a : Int) (ha : 0 ≤ a) (hb : a ≤ 1048576) : laws_szPtS.f l a = some (if (l.length : Int) ≤ a then a - l.length else -1) := by
  unfold laws_szPtS.f
  rw [wrap_in (by omega) (by omega)]
  by_cases h : (l.length : Int) ≤ a
  · rw [if_neg (by omega), if_pos h]
  · rw [if_pos (by omega), if_neg h]
def cvPt (p : S30) : S32 := ⟨p.f0, p.f1⟩
theorem set_rep {α β : Type} (f : α → β) (P : List α) (v z : β) (n : Nat) : (P.map f ++ List.replicate (n + 1) z).set P.length v = P.map f ++ v :: List.replicate n z := by
  rw [List.replicate_succ, ← List.length_map (f := f), List.set_append_right _ _ (Nat.le_refl _), Nat.sub_self]; rfl
theorem getD_at {α : Type} (z : α) (P : List α) (r : α) (R : List α) : (P ++ r :: R).getD P.length z = r := by simp
theorem toPtS_loop : ∀ (R P : List S30) (k : Nat), (P.length + R.length) * 16 ≤ 140737488351232 → R.length < k →
    laws_toPtS.l0 k (P ++ R) (P.map cvPt ++ List.replicate R.length z32) (P.length : Int) = some ((P ++ R).map cvPt) := by
  intro R
  induction R with
  | nil =>
    intro P k hl hk
    obtain ⟨k, rfl⟩ : ∃ m, k = m + 1 := ⟨k - 1, by omega⟩
    simp only [laws_toPtS.l0]; rw [if_neg (by simp)]; simp
  | cons r R ih =>
    intro P k hl hk
    simp only [List.length_cons] at hl hk
    obtain ⟨k, rfl⟩ : ∃ m, k = m + 1 := ⟨k - 1, by omega⟩
    simp only [laws_toPtS.l0]
    rw [if_pos (by rw [List.length_append, List.length_cons]; omega), if_pos (by omega)]
    simp only [laws_toPt_eq, Option.bind_some, rd_T30, Int.toNat_natCast, getD_at]
    rw [if_pos (by rw [List.length_append, List.length_map, List.length_replicate, List.length_cons]; omega), List.length_cons, set_rep]
    have := ih (P ++ [r]) k (by simp; omega) (by omega)
    rw [show wrap64 ((P.length : Int) + 1) = ((P ++ [r]).length : Int) by rw [wrap_in (by omega) (by omega)]; simp]
    simp only [List.map_append, List.append_assoc, List.map_cons, List.map_nil, List.cons_append, List.nil_append] at this ⊢
    exact this
theorem toPtS_eq (l : List S30) (hl : l.length * 16 ≤ 140737488351232) {k : Nat} (hk : l.length < k) : laws_toPtS.f k l = some (l.map cvPt) := by
  unfold laws_toPtS.f
  rw [if_pos (by omega), if_pos (by omega), Int.toNat_natCast]
  exact toPtS_loop l [] k (by simp; omega) hk
theorem eqPtS_loop (l : List S32) (hl : l.length ≤ 140737488351232) : ∀ (d i k : Nat), i + d = l.length → d < k → laws_eqPtS.l0 k l l (i : Int) = some true := by
  intro d
  induction d with
  | zero =>
    intro i k hi hk
    obtain ⟨k, rfl⟩ : ∃ m, k = m + 1 := ⟨k - 1, by omega⟩
    simp only [laws_eqPtS.l0]; rw [if_neg (by omega)]
  | succ d ih =>
    intro i k hi hk
    obtain ⟨k, rfl⟩ : ∃ m, k = m + 1 := ⟨k - 1, by omega⟩
    simp only [laws_eqPtS.l0]
    rw [if_pos (by omega), if_pos (by omega), if_pos (by omega), laws_eqPt_refl]
    simp only [Option.bind_some, if_true]
    rw [show wrap64 ((i : Int) + 1) = ((i + 1 : Nat) : Int) by rw [wrap_in (by omega) (by omega)]; omega]
    exact ih (i + 1) k (by omega) (by omega)
theorem eqPtS_refl (l : List S32) (hl : l.length ≤ 140737488351232) {k : Nat} (hk : l.length < k) : laws_eqPtS.f k l l = some true := by
  unfold laws_eqPtS.f; rw [if_pos rfl]; exact eqPtS_loop l hl l.length 0 k (by omega) hk
abbrev P2 := S32
instance ptDec : DecidableEq S32 := fun p q =>
  if h : p.f0 = q.f0 ∧ p.f1 = q.f1 then isTrue (by cases p; cases q; obtain ⟨h1, h2⟩ := h; simp only at h1 h2; rw [h1, h2]) else isFalse (fun e => h ⟨by rw [e], by rw [e]⟩)
def rowMax {α : Type} : List (List α) → Nat
  | [] => 0
  | r :: t => r.length + 3 + rowMax t
theorem row_le {α : Type} : ∀ (L : List (List α)) (i : Nat), (L.getD i []).length ≤ rowMax L
  | [], i => by simp
  | r :: t, 0 => by simp [rowMax]; omega
  | r :: t, i + 1 => by have := row_le t i; simp only [List.getD_cons_succ, rowMax]; omega
theorem rows_len {α : Type} : ∀ (L : List (List α)), L.length ≤ rowMax L
  | [] => by simp [rowMax]
  | r :: t => by have := rows_len t; simp only [List.length_cons, rowMax]; omega
theorem drop_at {α : Type} (z : α) : ∀ (l : List α) (i : Nat), i < l.length → l.drop i = l.getD i z :: l.drop (i + 1)
  | [], i, h => by simp at h
  | x :: r, 0, _ => rfl
  | x :: r, i + 1, h => by
    have := drop_at z r i (by simpa using h)
    simpa using this
theorem getD_in {α : Type} (z : α) {l : List α} {i : Nat} (h : i < l.length) : l.getD i z ∈ l := by
  rw [List.getD_eq_getElem?_getD, List.getElem?_eq_getElem h]; exact List.getElem_mem h
def cvRows (L : List (List S30)) : List (List P2) := L.map fun r => r.map cvPt
theorem szRows (L : List (List S30)) (hL : L.length ≤ 140737488351232) (hr : ∀ r ∈ L, r.length * 16 ≤ 140737488351232) :
    ∀ (d i k : Nat) (a : Int), i + d = L.length → d < k → 0 ≤ a → a ≤ 1048576 → ∃ t, laws_szPtSS.l0 k L a (i : Int) = some t ∧ -1 ≤ t ∧ t ≤ 1048576 := by
  intro d
  induction d with
  | zero =>
    intro i k a hi hk a0 a1
    obtain ⟨k, rfl⟩ : ∃ m, k = m + 1 := ⟨k - 1, by omega⟩
    simp only [laws_szPtSS.l0]; rw [if_neg (by omega)]; exact ⟨_, rfl, by omega, a1⟩
  | succ d ih =>
    intro i k a hi hk a0 a1
    obtain ⟨k, rfl⟩ : ∃ m, k = m + 1 := ⟨k - 1, by omega⟩
    simp only [laws_szPtSS.l0]
    have hm := hr _ (getD_in (z := ([] : List S30)) (show i < L.length by omega))
    rw [if_pos (by omega), if_pos (by omega)]
    simp only [rd_L2, Int.toNat_natCast]
    rw [szPtS_eq _ hm a a0 a1]; simp only [Option.bind_some]
    split
    · rw [if_neg (by omega), show wrap64 ((i : Int) + 1) = ((i + 1 : Nat) : Int) by rw [wrap_in (by omega) (by omega)]; omega]
      exact ih (i + 1) k _ (by omega) (by omega) (by omega) (by omega)
    · rw [if_pos (by decide)]; exact ⟨_, rfl, by omega, by omega⟩
theorem szShape_some (c : Int) (L : List (List S30)) (hL : L.length * 24 ≤ 140737488351232) (hr : ∀ r ∈ L, r.length * 16 ≤ 140737488351232) (a : Int) (a0 : 0 ≤ a) (a1 : a ≤ 1048576) {k : Nat} (hk : L.length < k) :
    ∃ t, laws_szShape.f k c L a = some t ∧ -1 ≤ t ∧ t ≤ 1048576 := by
  unfold laws_szShape.f laws_szPtSS.f
  rw [wrap_in (by omega) (by omega)]
  by_cases h : a - (L.length : Int) < 0
  · rw [if_pos h]; exact ⟨-1, rfl, by omega, by omega⟩
  · rw [if_neg h]
    obtain ⟨t, e, t0, t1⟩ := szRows L (by omega) hr L.length 0 k (a - L.length) (by omega) hk (by omega) (by omega)
    rw [show ((0 : Nat) : Int) = 0 from rfl] at e
    rw [e]; simp only [Option.bind_some]
    split
    · exact ⟨-1, rfl, by omega, by omega⟩
    · exact ⟨t, rfl, t0, t1⟩
theorem toRows_loop : ∀ (R P : List (List S30)) (k : Nat), (P.length + R.length) * 24 ≤ 140737488351232 → (∀ r ∈ R, r.length * 16 ≤ 140737488351232) → rowMax R + R.length < k →
    laws_toPtSS.l0 k (P ++ R) (cvRows P ++ List.replicate R.length []) (P.length : Int) = some (cvRows (P ++ R)) := by
  intro R
  induction R with
  | nil =>
    intro P k hl hr hk
    obtain ⟨k, rfl⟩ : ∃ m, k = m + 1 := ⟨k - 1, by omega⟩
    simp only [laws_toPtSS.l0]; rw [if_neg (by simp)]; simp
  | cons r R ih =>
    intro P k hl hr hk
    simp only [List.length_cons, rowMax] at hl hk
    obtain ⟨k, rfl⟩ : ∃ m, k = m + 1 := ⟨k - 1, by omega⟩
    simp only [laws_toPtSS.l0]
    rw [if_pos (by rw [List.length_append, List.length_cons]; omega), if_pos (by omega)]
    simp only [rd_L2, Int.toNat_natCast, getD_at]
    rw [toPtS_eq r (hr r (by simp)) (by omega)]; simp only [Option.bind_some]
    rw [if_pos (by unfold cvRows; rw [List.length_append, List.length_map, List.length_replicate, List.length_cons]; omega), List.length_cons]
    have := ih (P ++ [r]) k (by simp; omega) (fun x hx => hr x (by simp [hx])) (by omega)
    rw [show wrap64 ((P.length : Int) + 1) = ((P ++ [r]).length : Int) by rw [wrap_in (by omega) (by omega)]; simp]
    have es : (cvRows P ++ List.replicate (R.length + 1) []).set P.length (r.map cvPt) = cvRows P ++ r.map cvPt :: List.replicate R.length [] := by
      unfold cvRows; exact set_rep (fun r : List S30 => r.map cvPt) P (r.map cvPt) [] R.length
    rw [es]
    simp only [cvRows, List.map_append, List.append_assoc, List.map_cons, List.map_nil, List.cons_append, List.nil_append] at this ⊢
    exact this
theorem toShape_eq (c : Int) (L : List (List S30)) (hL : L.length * 24 ≤ 140737488351232) (hr : ∀ r ∈ L, r.length * 16 ≤ 140737488351232) {k : Nat} (hk : rowMax L + L.length < k) :
    laws_toShape.f k c L = some (c, cvRows L) := by
  unfold laws_toShape.f laws_toPtSS.f
  rw [if_pos (by omega), if_pos (by omega), Int.toNat_natCast]
  have e := toRows_loop L [] k (by simpa using hL) hr hk
  simp only [List.nil_append, cvRows, List.map_nil, List.length_nil] at e
  rw [show ((0 : Nat) : Int) = 0 from rfl] at e
  rw [e]; rfl
theorem pt_ne (p q : P2) : (!(p.f0 == q.f0) || !(p.f1 == q.f1)) = !decide (p = q) := by
  obtain ⟨a, b⟩ := p
  obtain ⟨c, d⟩ := q
  by_cases h1 : a = c <;> by_cases h2 : b = d <;> simp [h1, h2]
theorem equal_loop (p q : List P2) (hl : p.length = q.length) (hm : p.length ≤ 140737488351232) : ∀ (d i k : Nat), i + d = p.length → d < k →
    impl_Pt_94.l0 k p q (p.length : Int) (i : Int) = some (decide (p.drop i = q.drop i)) := by
  intro d
  induction d with
  | zero =>
    intro i k hi hk
    obtain ⟨k, rfl⟩ : ∃ m, k = m + 1 := ⟨k - 1, by omega⟩
    simp only [impl_Pt_94.l0]; rw [if_neg (by omega), List.drop_eq_nil_of_le (by omega), List.drop_eq_nil_of_le (by omega)]; simp
  | succ d ih =>
    intro i k hi hk
    obtain ⟨k, rfl⟩ : ∃ m, k = m + 1 := ⟨k - 1, by omega⟩
    simp only [impl_Pt_94.l0]
    rw [if_pos (by omega), if_pos (by omega), if_pos (by omega), if_pos (by omega)]
    simp only [rd_T32, Int.toNat_natCast, pt_ne]
    rw [drop_at z32 p i (by omega), drop_at z32 q i (by omega)]
    by_cases h : p.getD i z32 = q.getD i z32
    · rw [decide_eq_true h, if_neg (by decide), show wrap64 ((i : Int) + 1) = ((i + 1 : Nat) : Int) by rw [wrap_in (by omega) (by omega)]; omega, ih (i + 1) k (by omega) (by omega), h]
      simp
    · rw [decide_eq_false h, if_pos (by decide), decide_eq_false (fun q => h (List.cons.inj q).1)]
theorem equal_eq (p q : List P2) (hm : p.length ≤ 140737488351232) {k : Nat} (hk : p.length < k) : impl_Pt_94.f k p q = some (decide (p = q)) := by
  unfold impl_Pt_94.f
  by_cases h : p.length = q.length
  · rw [if_pos (by omega)]
    have e := equal_loop p q h hm p.length 0 k (by omega) hk
    simpa using e
  · rw [if_neg (by omega), decide_eq_false (fun q => h (by rw [q]))]
theorem equalF_loop (G H : List (List P2)) (hl : G.length = H.length) (hm : G.length ≤ 140737488351232) (hr : ∀ r ∈ G, r.length ≤ 140737488351232) : ∀ (d i k : Nat), i + d = G.length → d + rowMax G < k →
    impl_Pt_93.l0 k H G (G.length : Int) (i : Int) = some (decide (G.drop i = H.drop i)) := by
  intro d
  induction d with
  | zero =>
    intro i k hi hk
    obtain ⟨k, rfl⟩ : ∃ m, k = m + 1 := ⟨k - 1, by omega⟩
    simp only [impl_Pt_93.l0]; rw [if_neg (by omega), List.drop_eq_nil_of_le (by omega), List.drop_eq_nil_of_le (by omega)]; simp
  | succ d ih =>
    intro i k hi hk
    obtain ⟨k, rfl⟩ : ∃ m, k = m + 1 := ⟨k - 1, by omega⟩
    simp only [impl_Pt_93.l0]
    have hb := row_le G i
    rw [if_pos (by omega), if_pos (by omega), if_pos (by omega), if_pos (by omega)]
    simp only [rd_L4, Int.toNat_natCast]
    rw [equal_eq _ _ (hr _ (getD_in (z := ([] : List P2)) (show i < G.length by omega))) (by omega)]
    simp only [Option.bind_some]
    rw [drop_at [] G i (by omega), drop_at [] H i (by omega)]
    by_cases h : G.getD i [] = H.getD i []
    · rw [decide_eq_true h, if_pos rfl, show wrap64 ((i : Int) + 1) = ((i + 1 : Nat) : Int) by rw [wrap_in (by omega) (by omega)]; omega, ih (i + 1) k (by omega) (by omega), h]
      simp
    · rw [decide_eq_false h, if_neg (by decide), decide_eq_false (fun q => h (List.cons.inj q).1)]
theorem implSame_eq (a b : Int) (G H : List (List P2)) (hm : G.length ≤ 140737488351232) (hr : ∀ r ∈ G, r.length ≤ 140737488351232) {k : Nat} (hk : G.length + rowMax G < k) :
    impl_SameShape.f k a G b H = some (decide (a = b ∧ G = H)) := by
  unfold impl_SameShape.f impl_Pt_93.f
  by_cases h : a = b
  · rw [if_pos h]
    by_cases hl : G.length = H.length
    · rw [if_pos (by omega)]
      have e := equalF_loop G H hl hm hr G.length 0 k (by omega) hk
      rw [show ((0 : Nat) : Int) = 0 from rfl] at e
      rw [e]; simp [h]
    · rw [if_neg (by omega), decide_eq_false (fun q => hl (by rw [q.2]))]; rfl
  · rw [if_neg h, decide_eq_false (fun q => h q.1)]
theorem same_inner (a b : Int) (G H : List (List P2)) (hm : G.length ≤ 140737488351232) (r : Nat) (hr : r < G.length) (hH : r < H.length) (hl : (G.getD r []).length = (H.getD r []).length) (hrow : (G.getD r []).length ≤ 140737488351232) (v : Bool) (c : Nat)
    (ih : ∀ k, c ≤ k → spec_SameShape.l0 k ((r + 1 : Nat) : Int) a G b H = some v) : ∀ (d j k : Nat), j + d = (G.getD r []).length → d + 1 + c ≤ k →
    spec_SameShape.l1 k (r : Int) (j : Int) a G b H = some (decide ((G.getD r []).drop j = (H.getD r []).drop j) && v) := by
  have eG : rd_L4 G (r : Int) = G.getD r [] := by unfold rd_L4; rw [Int.toNat_natCast]
  have eH : rd_L4 H (r : Int) = H.getD r [] := by unfold rd_L4; rw [Int.toNat_natCast]
  intro d
  induction d with
  | zero =>
    intro j k hj hk
    obtain ⟨k, rfl⟩ : ∃ m, k = m + 1 := ⟨k - 1, by omega⟩
    simp only [spec_SameShape.l1]
    rw [if_pos (show (0 : Int) ≤ (r : Int) by omega), if_pos (show (r : Int) < (G.length : Int) by omega), if_neg (show ¬ (j : Int) < ((rd_L4 G (r : Int)).length : Int) by rw [eG]; omega), show wrap64 ((r : Int) + 1) = ((r + 1 : Nat) : Int) by rw [wrap_in (by omega) (by omega)]; omega, ih k (by omega),
      List.drop_eq_nil_of_le (show (G.getD r []).length ≤ j by omega), List.drop_eq_nil_of_le (show (H.getD r []).length ≤ j by omega)]
    simp
  | succ d ih2 =>
    intro j k hj hk
    obtain ⟨k, rfl⟩ : ∃ m, k = m + 1 := ⟨k - 1, by omega⟩
    simp only [spec_SameShape.l1]
    rw [if_pos (show (0 : Int) ≤ (r : Int) by omega), if_pos (show (r : Int) < (G.length : Int) by omega), if_pos (show (j : Int) < ((rd_L4 G (r : Int)).length : Int) by rw [eG]; omega), if_pos (show (0 : Int) ≤ (j : Int) by omega), if_pos (show (r : Int) < (H.length : Int) by omega), if_pos (show (j : Int) < ((rd_L4 H (r : Int)).length : Int) by rw [eH]; omega), eG, eH]
    simp only [rd_T32, Int.toNat_natCast, pt_ne]
    rw [drop_at z32 (G.getD r []) j (by omega), drop_at z32 (H.getD r []) j (by omega)]
    by_cases h : (G.getD r []).getD j z32 = (H.getD r []).getD j z32
    · rw [decide_eq_true h, if_neg (by decide), show wrap64 ((j : Int) + 1) = ((j + 1 : Nat) : Int) by rw [wrap_in (by omega) (by omega)]; omega, ih2 (j + 1) k (by omega) (by omega), h]
      simp
    · rw [decide_eq_false h, if_pos (by decide), decide_eq_false (fun q => h (List.cons.inj q).1)]; rfl
theorem same_loop (a b : Int) (G H : List (List P2)) (hl : G.length = H.length) (hm : G.length ≤ 140737488351232) (hr : ∀ r ∈ G, r.length ≤ 140737488351232) : ∀ (d i k : Nat), i + d = G.length → rowMax (G.drop i) + 1 ≤ k →
    spec_SameShape.l0 k (i : Int) a G b H = some (decide (G.drop i = H.drop i)) := by
  intro d
  induction d with
  | zero =>
    intro i k hi hk
    obtain ⟨k, rfl⟩ : ∃ m, k = m + 1 := ⟨k - 1, by omega⟩
    simp only [spec_SameShape.l0]; rw [if_neg (by omega), List.drop_eq_nil_of_le (by omega), List.drop_eq_nil_of_le (by omega)]; simp
  | succ d ih =>
    intro i k hi hk
    obtain ⟨k, rfl⟩ : ∃ m, k = m + 1 := ⟨k - 1, by omega⟩
    rw [drop_at [] G i (by omega), rowMax] at hk
    have eG : rd_L4 G (i : Int) = G.getD i [] := by unfold rd_L4; rw [Int.toNat_natCast]
    have eH : rd_L4 H (i : Int) = H.getD i [] := by unfold rd_L4; rw [Int.toNat_natCast]
    simp only [spec_SameShape.l0]
    rw [if_pos (show (i : Int) < (G.length : Int) by omega), if_pos (show (0 : Int) ≤ (i : Int) by omega), if_pos (show (i : Int) < (H.length : Int) by omega), drop_at [] G i (by omega), drop_at [] H i (by omega)]
    by_cases h : (G.getD i []).length = (H.getD i []).length
    · rw [if_pos (show ((rd_L4 G (i : Int)).length : Int) = ((rd_L4 H (i : Int)).length : Int) by rw [eG, eH]; omega)]
      have e := same_inner a b G H hm i (by omega) (by omega) h (hr _ (getD_in (z := ([] : List P2)) (show i < G.length by omega))) (decide (G.drop (i + 1) = H.drop (i + 1))) (rowMax (G.drop (i + 1)) + 1)
        (fun k hk => ih (i + 1) k (by omega) hk) (G.getD i []).length 0 k (by omega) (by omega)
      rw [show ((0 : Nat) : Int) = 0 from rfl] at e
      rw [e]
      simp only [List.drop_zero, List.cons.injEq, Bool.decide_and]
    · rw [if_neg (show ¬ ((rd_L4 G (i : Int)).length : Int) = ((rd_L4 H (i : Int)).length : Int) by rw [eG, eH]; omega), decide_eq_false (fun q => h (by rw [(List.cons.inj q).1]))]
theorem specSame_eq (a b : Int) (G H : List (List P2)) (hm : G.length ≤ 140737488351232) (hr : ∀ r ∈ G, r.length ≤ 140737488351232) {k : Nat} (hk : rowMax G + 2 ≤ k) :
    spec_SameShape.f k a G b H = some (decide (a = b ∧ G = H)) := by
  obtain ⟨k, rfl⟩ : ∃ m, k = m + 1 := ⟨k - 1, by omega⟩
  unfold spec_SameShape.f
  by_cases h : a = b
  · rw [if_pos h]
    by_cases hl : G.length = H.length
    · have e0 : ((G.length : Int) != (H.length : Int)) = false := by rw [hl]; exact bne_self_eq_false _
      rw [e0]
      simp only [spec_SameShape.j0, Bool.false_eq_true, if_false]
      have e := same_loop a b G H hl hm hr G.length 0 k (by omega) (by rw [List.drop_zero]; omega)
      rw [show ((0 : Nat) : Int) = 0 from rfl] at e
      rw [e]; simp [h]
    · have e0 : ((G.length : Int) != (H.length : Int)) = true := by rw [bne_iff_ne]; omega
      rw [e0]
      simp only [spec_SameShape.j0, if_true]
      rw [decide_eq_false (fun q => hl (by rw [q.2]))]
  · rw [if_neg h]
    simp only [spec_SameShape.j0, if_true]
    rw [decide_eq_false (fun q => h q.1)]
theorem eqRows_loop (G : List (List P2)) (hm : G.length ≤ 140737488351232) (hr : ∀ r ∈ G, r.length ≤ 140737488351232) : ∀ (d i k : Nat), i + d = G.length → d + rowMax G < k → laws_eqPtSS.l0 k G G (i : Int) = some true := by
  intro d
  induction d with
  | zero =>
    intro i k hi hk
    obtain ⟨k, rfl⟩ : ∃ m, k = m + 1 := ⟨k - 1, by omega⟩
    simp only [laws_eqPtSS.l0]; rw [if_neg (by omega)]
  | succ d ih =>
    intro i k hi hk
    obtain ⟨k, rfl⟩ : ∃ m, k = m + 1 := ⟨k - 1, by omega⟩
    have hb := row_le G i
    simp only [laws_eqPtSS.l0, rd_L4, Int.toNat_natCast]
    rw [if_pos (by omega), if_pos (by omega), if_pos (by omega), eqPtS_refl _ (hr _ (getD_in (z := ([] : List P2)) (show i < G.length by omega))) (by omega)]
    simp only [Option.bind_some, if_true]
    rw [show wrap64 ((i : Int) + 1) = ((i + 1 : Nat) : Int) by rw [wrap_in (by omega) (by omega)]; omega]
    exact ih (i + 1) k (by omega) (by omega)
theorem eqShape_refl (a : Int) (G : List (List P2)) (hm : G.length ≤ 140737488351232) (hr : ∀ r ∈ G, r.length ≤ 140737488351232) {k : Nat} (hk : G.length + rowMax G < k) : laws_eqShape.f k a G a G = some true := by
  unfold laws_eqShape.f laws_eqPtSS.f
  rw [if_pos rfl, if_pos rfl]
  have e := eqRows_loop G hm hr G.length 0 k (by omega) hk
  rw [show ((0 : Nat) : Int) = 0 from rfl] at e
  rw [e]; rfl
theorem cvRows_max : ∀ (L : List (List S30)), rowMax (cvRows L) = rowMax L
  | [] => rfl
  | r :: t => by
    have := cvRows_max t
    show rowMax (r.map cvPt :: cvRows t) = _
    simp only [rowMax, List.length_map, this]
theorem FnExactSameShape : ∀ (a0_0 : Int) (l0_1 : List (List (S30))) (a1_0 : Int) (l1_1 : List (List (S30))), ok65 (a0_0, l0_1) → ok65 (a1_0, l1_1) → ∃ k, laws_FnExactSameShape.f k a0_0 l0_1 a1_0 l1_1 = some true := by
  intro a L b M h1 h2
  obtain ⟨_, hL, hr⟩ := h1
  obtain ⟨_, hM, hs⟩ := h2
  have hL : L.length * 24 ≤ 140737488351232 := hL
  have hM : M.length * 24 ≤ 140737488351232 := hM
  have hr1 : ∀ r ∈ L, r.length * 16 ≤ 140737488351232 := fun r q => (hr r q).1
  have hs1 : ∀ r ∈ M, r.length * 16 ≤ 140737488351232 := fun r q => (hs r q).1
  have cl : (cvRows L).length = L.length := by unfold cvRows; rw [List.length_map]
  have cm : (cvRows M).length = M.length := by unfold cvRows; rw [List.length_map]
  have cr : ∀ r ∈ cvRows L, r.length ≤ 140737488351232 := by
    intro r q; unfold cvRows at q
    obtain ⟨x, hx, rfl⟩ := List.mem_map.1 q
    have := hr1 x hx; rw [List.length_map]; omega
  have cs : ∀ r ∈ cvRows M, r.length ≤ 140737488351232 := by
    intro r q; unfold cvRows at q
    obtain ⟨x, hx, rfl⟩ := List.mem_map.1 q
    have := hs1 x hx; rw [List.length_map]; omega
  have xl := cvRows_max L
  have xm := cvRows_max M
  refine ⟨L.length + M.length + rowMax L + rowMax M + 10, ?_⟩
  unfold laws_FnExactSameShape.f
  obtain ⟨t, e1, t0, t1⟩ := szShape_some a L hL hr1 1048576 (by decide) (by decide) (k := L.length + M.length + rowMax L + rowMax M + 10) (by omega)
  rw [e1]; simp only [Option.bind_some]
  by_cases h : t < 0
  · rw [if_pos h]
  · rw [if_neg h]
    obtain ⟨t', e2, _, _⟩ := szShape_some b M hM hs1 t (by omega) t1 (k := L.length + M.length + rowMax L + rowMax M + 10) (by omega)
    rw [e2]; simp only [Option.bind_some]
    by_cases h' : t' < 0
    · rw [if_pos h']
    · rw [if_neg h', toShape_eq a L hL hr1 (by omega), toShape_eq b M hM hs1 (by omega)]
      simp only [Option.bind_some]
      rw [specSame_eq a b _ _ (by omega) cr (by omega), implSame_eq a b _ _ (by omega) cr (by omega)]
      simp only [Option.bind_some, bne_self_eq_false, Bool.false_eq_true, if_false]
      rw [eqShape_refl a _ (by omega) cr (by omega)]; simp only [Option.bind_some, if_true]
      rw [eqShape_refl b _ (by omega) cs (by omega)]; simp only [Option.bind_some, if_true]

end Go.Proofs.Ytebnhcliileneaa.Pure
