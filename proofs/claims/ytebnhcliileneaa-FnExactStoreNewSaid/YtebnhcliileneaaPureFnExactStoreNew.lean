/- The pure statement of the law FnExactStoreNew: what the printed functions compute answers true at every input. No conditions beyond the printed bounds. -/
import Derived.Test.YtebnhcliileneaaQFnExactStoreNewx9
namespace Go.Proofs.Ytebnhcliileneaa.Pure
open Go.RowKit Go.Proofs.Ytebnhcliileneaa.PFnExactStoreNew Go.Proofs.YtebnhcliileneaaW.PrintWords Go.Proofs.YtebnhcliileneaaW.PrintLast Go.Proofs.YtebnhcliileneaaW.PrintMore
set_option linter.unusedVariables false
set_option linter.unusedSimpArgs false

/-- The points that are right. -/
def ptOk (x y : Int) : Bool := decide (-10000000 ≤ x) && decide (x ≤ 10000000) && decide (-10000000 ≤ y) && decide (y ≤ 10000000)
/-- The boxes that are right. -/
def boxOk (a b c d : Int) : Bool := ptOk a b && ptOk c d && decide (a ≤ c) && decide (b ≤ d)
theorem ptOk_iff {x y : Int} : ptOk x y = true ↔ -10000000 ≤ x ∧ x ≤ 10000000 ∧ -10000000 ≤ y ∧ y ≤ 10000000 := by
  simp [ptOk, and_assoc]
theorem boxOk_iff {a b c d : Int} : boxOk a b c d = true ↔ (-10000000 ≤ a ∧ a ≤ 10000000 ∧ -10000000 ≤ b ∧ b ≤ 10000000) ∧ (-10000000 ≤ c ∧ c ≤ 10000000 ∧ -10000000 ≤ d ∧ d ≤ 10000000) ∧ a ≤ c ∧ b ≤ d := by
  simp [boxOk, ptOk_iff, and_assoc]
theorem wrap_in {x : Int} (h1 : -9223372036854775808 ≤ x) (h2 : x ≤ 9223372036854775807) : wrap64 x = x := by unfold wrap64; omega
theorem wrap_bounds (x : Int) : -9223372036854775808 ≤ wrap64 x ∧ wrap64 x ≤ 9223372036854775807 := by unfold wrap64; omega
theorem u64_in {x : Int} (h1 : 0 ≤ x) (h2 : x ≤ 18446744073709551615) : IntKind.u64.wrap x = x := by
  simp [IntKind.wrap, IntKind.bits, IntKind.signed]; omega
theorem u64_bounds (x : Int) : 0 ≤ IntKind.u64.wrap x ∧ IntKind.u64.wrap x ≤ 18446744073709551615 := by
  simp [IntKind.wrap, IntKind.bits, IntKind.signed]; omega
theorem u64_nonneg (x : Int) : 0 ≤ IntKind.u64.wrap x := (u64_bounds x).1
theorem mx_eq (a b : Int) : mx a b = max a b := by unfold mx; omega
theorem mn_eq (a b : Int) : mn a b = min a b := by unfold mn; omega
theorem spec_l1In_eq (a b c : Int) : spec_l1In.f a b c = some (decide (b ≤ a) && decide (a ≤ c)) := by
  unfold spec_l1In.f; by_cases h : b ≤ a <;> simp [h]
theorem impl_inRange_eq (a b c : Int) : impl_inRange.f a b c = some (decide (b ≤ a) && decide (a ≤ c)) := by
  unfold impl_inRange.f; by_cases h : b ≤ a <;> simp [h]
def inBox (a b c d x y : Int) : Bool := boxOk a b c d && ptOk x y && (decide (a ≤ x) && decide (x ≤ c)) && (decide (b ≤ y) && decide (y ≤ d))
def overlap (a b c d e f g h : Int) : Bool := boxOk a b c d && boxOk e f g h && decide (a ≤ g) && decide (e ≤ c) && decide (b ≤ h) && decide (f ≤ d)
def inside (a b c d e f g h : Int) : Bool := boxOk a b c d && inBox e f g h a b && inBox e f g h c d
def area (a b c d : Int) : Int := if boxOk a b c d = true then (c - a) * (d - b) else 0
theorem area_bounds (a b c d : Int) : 0 ≤ area a b c d ∧ area a b c d ≤ 400000000000000 := by
  unfold area; split
  · rename_i h
    rw [boxOk_iff] at h
    obtain ⟨⟨h1, h2, h3, h4⟩, ⟨h5, h6, h7, h8⟩, h9, h10⟩ := h
    have p1 : 0 ≤ c - a := by omega
    have p2 : 0 ≤ d - b := by omega
    refine ⟨Int.mul_nonneg p1 p2, ?_⟩
    calc (c - a) * (d - b) ≤ 20000000 * (d - b) := Int.mul_le_mul_of_nonneg_right (by omega) p2
      _ ≤ 20000000 * 20000000 := Int.mul_le_mul_of_nonneg_left (by omega) (by omega)
      _ = 400000000000000 := by decide
  · omega
theorem area_wrap {a b c d : Int} (h : boxOk a b c d = true) : wrap64 ((wrap64 (c - a)) * (wrap64 (d - b))) = area a b c d := by
  have hb := area_bounds a b c d
  have e : area a b c d = (c - a) * (d - b) := by unfold area; rw [if_pos h]
  rw [boxOk_iff] at h
  rw [wrap_in (x := c - a) (by omega) (by omega), wrap_in (x := d - b) (by omega) (by omega), ← e]
  exact wrap_in (by omega) (by omega)
/-- The tiles that are right. -/
def tileOk (z x y : Int) : Bool := decide (0 ≤ z) && decide (z ≤ 20) && (decide (0 ≤ x) && decide (x ≤ 2 ^ z.toNat - 1)) && (decide (0 ≤ y) && decide (y ≤ 2 ^ z.toNat - 1))
theorem shl1_fin : ∀ n : Fin 51, shl .i64 1 (IntKind.u64.wrap ((n.val : Nat) : Int)) = 2 ^ n.val := by decide +kernel
theorem shl1 {z : Int} (h0 : 0 ≤ z) (h1 : z ≤ 50) : shl .i64 1 (IntKind.u64.wrap z) = 2 ^ z.toNat := by
  obtain ⟨n, rfl⟩ := Int.eq_ofNat_of_zero_le h0
  exact shl1_fin ⟨n, by omega⟩
theorem pow2_le {n m : Nat} (h : n ≤ m) : (2 : Int) ^ n ≤ 2 ^ m := by
  have := Nat.pow_le_pow_right (n := 2) (by decide) h
  exact_mod_cast this
theorem pow2_pos (n : Nat) : (1 : Int) ≤ 2 ^ n := by
  have := pow2_le (Nat.zero_le n); simpa using this
theorem pow2_20 {z : Int} (h1 : z ≤ 20) : (1 : Int) ≤ 2 ^ z.toNat ∧ (2 : Int) ^ z.toNat ≤ 1048576 :=
  ⟨pow2_pos _, by have := pow2_le (n := z.toNat) (m := 20) (by omega); simpa using this⟩
theorem tile_most {z : Int} (h0 : 0 ≤ z) (h1 : z ≤ 20) : wrap64 ((shl .i64 1 (IntKind.u64.wrap z)) - 1) = 2 ^ z.toNat - 1 := by
  rw [shl1 h0 (by omega)]
  have := pow2_20 h1
  exact wrap_in (by omega) (by omega)
/-- The side of the tiles of a Z. -/
def side (z : Int) : Int := 33554432 / 2 ^ z.toNat
theorem shr_side_fin : ∀ n : Fin 21, shr .i64 33554432 (IntKind.u64.wrap ((n.val : Nat) : Int)) = 33554432 / 2 ^ n.val ∧ (32 : Int) ≤ 33554432 / 2 ^ n.val ∧ (33554432 : Int) / 2 ^ n.val ≤ 33554432 := by decide +kernel
theorem shr_side {z : Int} (h0 : 0 ≤ z) (h1 : z ≤ 20) : shr .i64 33554432 (IntKind.u64.wrap z) = side z ∧ 32 ≤ side z ∧ side z ≤ 33554432 := by
  obtain ⟨n, rfl⟩ := Int.eq_ofNat_of_zero_le h0
  exact shr_side_fin ⟨n, by omega⟩
/-- The tile of a point. -/
def tileX (x z : Int) : Int := Int.tdiv (x + 16777216) (side z)
/-- A point as it is taken. -/
def tk (x y : Int) : Int × Int := if ptOk x y = true then (x, y) else (0, 0)
theorem tk_ok (x y : Int) : ptOk (tk x y).1 (tk x y).2 = true := by
  unfold tk; split
  · assumption
  · decide
def sgn (n : Int) : Int := if n > 0 then 1 else if n < 0 then -1 else 0
theorem sgn_cmp (n : Int) : (if n < 0 then (-1 : Int) else if n > 0 then 1 else 0) = sgn n := by unfold sgn; split <;> split <;> omega
theorem sgn_0 : sgn 0 = 0 := rfl
theorem sgn_zero {n : Int} : sgn n = 0 ↔ n = 0 := by unfold sgn; split <;> (try split) <;> omega
def crossW (a b c d e f : Int) : Int := wrap64 ((wrap64 ((wrap64 (c - a)) * (wrap64 (f - b)))) - (wrap64 ((wrap64 (d - b)) * (wrap64 (e - a)))))
def betw (a b n : Int) : Bool := decide (min a b ≤ n) && decide (n ≤ max a b)
def onSegW (a b c d e f : Int) : Bool := decide (crossW a b c d e f = 0) && betw a c e && betw b d f
def onSegT (a b c d e f : Int) : Bool := onSegW (tk a b).1 (tk a b).2 (tk c d).1 (tk c d).2 (tk e f).1 (tk e f).2
def squareW (a b c d : Int) : Int := wrap64 ((wrap64 ((wrap64 (a - c)) * (wrap64 (a - c)))) + (wrap64 ((wrap64 (b - d)) * (wrap64 (b - d)))))
def gapW (a b c d x y : Int) : Int := if boxOk a b c d = true ∧ ptOk x y = true then squareW x y (max a (min x c)) (max b (min y d)) else -1
def l3MeetW (a b c d e f g h : Int) : Bool :=
  onSegW a b c d e f || onSegW a b c d g h || onSegW e f g h a b || onSegW e f g h c d ||
    (decide (wrap64 (sgn (crossW a b c d e f) * sgn (crossW a b c d g h)) < 0) && decide (wrap64 (sgn (crossW e f g h a b) * sgn (crossW e f g h c d)) < 0))
def meetW (a b c d e f g h : Int) : Bool := l3MeetW (tk a b).1 (tk a b).2 (tk c d).1 (tk c d).2 (tk e f).1 (tk e f).2 (tk g h).1 (tk g h).2
/-- What Join computes. -/
def joinW (a b c d e f g h : Int) : Int × Int × Int × Int :=
  if boxOk a b c d = true then (if boxOk e f g h = true then (min a e, min b f, max c g, max d h) else (a, b, c, d))
  else (if boxOk e f g h = true then (e, f, g, h) else (0, 0, 0, 0))
def grownW (a b c d e f g h : Int) : Int := area (joinW a b c d e f g h).1 (joinW a b c d e f g h).2.1 (joinW a b c d e f g h).2.2.1 (joinW a b c d e f g h).2.2.2 - area a b c d
theorem grown_wrap (a b c d e f g h : Int) : wrap64 (area (joinW a b c d e f g h).1 (joinW a b c d e f g h).2.1 (joinW a b c d e f g h).2.2.1 (joinW a b c d e f g h).2.2.2 - area a b c d) = grownW a b c d e f g h := by
  have a1 := area_bounds a b c d
  have a2 := area_bounds (joinW a b c d e f g h).1 (joinW a b c d e f g h).2.1 (joinW a b c d e f g h).2.2.1 (joinW a b c d e f g h).2.2.2
  exact wrap_in (by omega) (by omega)
theorem side_fin : ∀ n : Fin 21, (33554432 : Int) / 2 ^ n.val * 2 ^ n.val = 33554432 := by decide +kernel
theorem side_mul {z : Int} (h0 : 0 ≤ z) (h1 : z ≤ 20) : side z * 2 ^ z.toNat = 33554432 := by
  obtain ⟨n, rfl⟩ := Int.eq_ofNat_of_zero_le h0
  exact side_fin ⟨n, by omega⟩
theorem tile_span {z x : Int} (h0 : 0 ≤ z) (h1 : z ≤ 20) (x0 : 0 ≤ x) (x1 : x ≤ 2 ^ z.toNat - 1) : 0 ≤ x * side z ∧ (x + 1) * side z = x * side z + side z ∧ x * side z + side z ≤ 33554432 ∧ 32 ≤ side z := by
  have hs := (shr_side h0 h1).2
  have e : (x + 1) * side z = x * side z + side z := by rw [Int.add_mul, Int.one_mul]
  refine ⟨Int.mul_nonneg x0 (by omega), e, ?_, hs.1⟩
  rw [← e, ← side_mul h0 h1, Int.mul_comm (side z)]
  exact Int.mul_le_mul_of_nonneg_right (by omega) (by omega)
/-- What TileBox computes. -/
def tileBoxW (z x y : Int) : Int × Int × Int × Int × Bool :=
  if tileOk z x y = true ∧ boxOk (max (x * side z - 16777216) (-10000000)) (max (y * side z - 16777216) (-10000000)) (min (x * side z - 16777216 + side z - 1) 10000000) (min (y * side z - 16777216 + side z - 1) 10000000) = true then
    (max (x * side z - 16777216) (-10000000), max (y * side z - 16777216) (-10000000), min (x * side z - 16777216 + side z - 1) 10000000, min (y * side z - 16777216 + side z - 1) 10000000, true)
  else (0, 0, 0, 0, false)
theorem tileOk_iff {z x y : Int} : tileOk z x y = true ↔ (0 ≤ z ∧ z ≤ 20) ∧ (0 ≤ x ∧ x ≤ 2 ^ z.toNat - 1) ∧ (0 ≤ y ∧ y ≤ 2 ^ z.toNat - 1) := by
  simp [tileOk, and_assoc]
/-! Rows of bytes: marked, held, compared. -/
def mkB : Int → Nat → List Int
  | _, 0 => []
  | k, n + 1 => k % 256 :: mkB (k + 1) n
theorem mkB_len : ∀ (n : Nat) (k : Int), (mkB k n).length = n
  | 0, _ => rfl
  | n + 1, k => by simp [mkB, mkB_len n]
theorem set_mid (P : List Int) (v x : Int) (r : List Int) : (P ++ x :: r).set P.length v = (P ++ [v]) ++ r := by
  rw [List.set_append_right _ _ (Nat.le_refl _), Nat.sub_self, List.append_assoc]; rfl
theorem markB_loop : ∀ (r P : List Int) (k : Int) (f : Nat), P.length + r.length ≤ 140737488351232 → 0 ≤ k → k + (r.length : Int) ≤ 4611686018427387904 → r.length < f →
    laws_markByteS.l0 f (P ++ r) k (P.length : Int) = some (k + (r.length : Int), P ++ mkB k r.length)
  | [], P, k, f, _, _, _, hf => by
    obtain ⟨f, rfl⟩ : ∃ m, f = m + 1 := ⟨f - 1, by omega⟩
    simp only [laws_markByteS.l0, List.append_nil]
    rw [if_neg (by omega)]
    simp [mkB]
  | x :: r, P, k, f, hl, h0, h1, hf => by
    rw [List.length_cons] at hf hl h1
    obtain ⟨f, rfl⟩ : ∃ m, f = m + 1 := ⟨f - 1, by omega⟩
    simp only [laws_markByteS.l0]
    rw [if_pos (by rw [List.length_append, List.length_cons]; omega), if_pos (by omega), Int.toNat_natCast, set_mid,
      show wrap64 ((P.length : Int) + 1) = ((P ++ [k % 256]).length : Int) by rw [wrap_in (by omega) (by omega), List.length_append, List.length_singleton]; omega,
      show wrap64 (k + 1) = k + 1 from wrap_in (by omega) (by omega)]
    rw [markB_loop r (P ++ [k % 256]) (k + 1) f (by rw [List.length_append, List.length_singleton]; omega) (by omega) (by omega) (by omega)]
    simp only [mkB, List.length_cons, List.append_assoc, List.singleton_append, Option.some.injEq, Prod.mk.injEq, and_true]; omega
theorem markByteS_eq (l : List Int) (k : Int) (hl : l.length ≤ 140737488351232) (h0 : 0 ≤ k) (h1 : k ≤ 1152921504606846976) {f : Nat} (hf : l.length < f) :
    laws_markByteS.f f l k = some (k + (l.length : Int), mkB k l.length) := by
  unfold laws_markByteS.f
  have e := markB_loop l [] k f (by simpa using hl) h0 (by omega) hf
  simpa using e
theorem rd_mid (P : List Int) (v : Int) (r : List Int) : rd (P ++ v :: r) (P.length : Int) = v := by
  unfold rd; rw [Int.toNat_natCast, List.getD_eq_getElem?_getD, List.getElem?_append_right (Nat.le_refl _), Nat.sub_self]; rfl
theorem heldB_loop : ∀ (n : Nat) (P : List Int) (k : Int) (f : Nat), P.length + n ≤ 140737488351232 → 0 ≤ k → k + (n : Int) ≤ 4611686018427387904 → n < f →
    laws_heldByteS.l0 f (P ++ mkB k n) k (P.length : Int) = some (k + (n : Int))
  | 0, P, k, f, _, _, _, hf => by
    obtain ⟨f, rfl⟩ : ∃ m, f = m + 1 := ⟨f - 1, by omega⟩
    simp only [laws_heldByteS.l0, mkB, List.append_nil]
    rw [if_neg (by omega)]; simp
  | n + 1, P, k, f, hl, h0, h1, hf => by
    obtain ⟨f, rfl⟩ : ∃ m, f = m + 1 := ⟨f - 1, by omega⟩
    rw [show mkB k (n + 1) = k % 256 :: mkB (k + 1) n from rfl]
    simp only [laws_heldByteS.l0]
    rw [if_pos (show (P.length : Int) < ((P ++ k % 256 :: mkB (k + 1) n).length : Int) by rw [List.length_append, List.length_cons]; omega), if_pos (show (0 : Int) ≤ (P.length : Int) by omega), rd_mid, if_pos rfl,
      show wrap64 ((P.length : Int) + 1) = ((P ++ [k % 256]).length : Int) by rw [wrap_in (by omega) (by omega), List.length_append, List.length_singleton]; omega,
      show wrap64 (k + 1) = k + 1 from wrap_in (by omega) (by omega),
      show P ++ k % 256 :: mkB (k + 1) n = (P ++ [k % 256]) ++ mkB (k + 1) n by rw [List.append_assoc]; rfl]
    rw [heldB_loop n (P ++ [k % 256]) (k + 1) f (by rw [List.length_append, List.length_singleton]; omega) (by omega) (by omega) (by omega)]
    congr 1; omega
theorem heldByteS_eq (n : Nat) (k : Int) (hl : n ≤ 140737488351232) (h0 : 0 ≤ k) (h1 : k ≤ 1152921504606846976) {f : Nat} (hf : n < f) :
    laws_heldByteS.f f (mkB k n) k = some (k + (n : Int)) := by
  unfold laws_heldByteS.f
  have e := heldB_loop n [] k f (by simpa using hl) h0 (by omega) hf
  simpa using e
theorem eqB_loop (l : List Int) (hl : l.length ≤ 140737488351232) : ∀ (d i f : Nat), i + d = l.length → d < f → laws_eqByteS.l0 f l l (i : Int) = some true := by
  intro d
  induction d with
  | zero =>
    intro i f hi hf
    obtain ⟨f, rfl⟩ : ∃ m, f = m + 1 := ⟨f - 1, by omega⟩
    simp only [laws_eqByteS.l0]; rw [if_neg (by omega)]
  | succ d ih =>
    intro i f hi hf
    obtain ⟨f, rfl⟩ : ∃ m, f = m + 1 := ⟨f - 1, by omega⟩
    simp only [laws_eqByteS.l0]
    rw [if_pos (by omega), if_pos (by omega), if_pos (by omega), if_pos trivial, show wrap64 ((i : Int) + 1) = ((i + 1 : Nat) : Int) by rw [wrap_in (by omega) (by omega)]; omega]
    exact ih (i + 1) f (by omega) (by omega)
theorem eqByteS_self (l : List Int) (hl : l.length ≤ 140737488351232) {f : Nat} (hf : l.length < f) : laws_eqByteS.f f l l = some true := by
  unfold laws_eqByteS.f; rw [if_pos rfl]; exact eqB_loop l hl l.length 0 f (by omega) hf
theorem eqDisk_nil (l : List Int) (hl : l.length ≤ 25600) {k : Nat} (hk : 29000 ≤ k) : laws_eqDisk.f k l ([] : List (S117)) l [] = some true := by
  obtain ⟨k, rfl⟩ : ∃ m, k = m + 1 := ⟨k - 1, by omega⟩
  unfold laws_eqDisk.f laws_eqWriteS.f
  rw [eqByteS_self l (by omega) (by omega)]
  simp only [Option.bind_some, if_true, laws_eqWriteS.l0]
  rw [if_neg (by simp)]; rfl
theorem markDisk_nil (l : List Int) (hl : l.length ≤ 25600) {k : Nat} (hk : 29000 ≤ k) : laws_markDisk.f k l ([] : List (S117)) 1 = some (1 + (l.length : Int), mkB 1 l.length) := by
  unfold laws_markDisk.f laws_markWriteS.f
  rw [markByteS_eq l 1 (by omega) (by omega) (by omega) (by omega)]; rfl
theorem heldDisk_nil (l : List Int) (hl : l.length ≤ 25600) {k : Nat} (hk : 29000 ≤ k) : laws_heldDisk.f k (mkB 1 l.length) ([] : List (S117)) 1 = some (1 + (l.length : Int)) := by
  obtain ⟨k, rfl⟩ : ∃ m, k = m + 1 := ⟨k - 1, by omega⟩
  unfold laws_heldDisk.f laws_heldWriteS.f
  rw [heldByteS_eq l.length 1 (by omega) (by omega) (by omega) (by omega)]; simp only [Option.bind_some]
  rw [if_neg (by omega)]; simp only [laws_heldWriteS.l0]
  rw [if_neg (by simp)]; simp only [Option.bind_some]; rw [if_neg (by omega)]
theorem diskNew_ok (n : Int) : ∃ l : List Int, l.length ≤ 25600 ∧ spec_DiskNew.f n = some (l, []) ∧ impl_DiskNew.f n = some (l, []) := by
  have r : spec_DiskNew.f n = impl_DiskNew.f n := rfl
  rw [r]
  by_cases h : n ≥ 1 ∧ n ≤ 400
  · have e : impl_DiskNew.f n = some (List.replicate (n * 64).toNat 0, []) := by
      unfold impl_DiskNew.f impl_inRange.f
      rw [if_pos h.1, decide_eq_true h.2]; simp only [Option.bind_some, if_true]
      rw [wrap_in (x := n * 64) (by omega) (by omega), if_pos (by omega), if_pos (by omega)]
    exact ⟨_, by rw [List.length_replicate]; omega, e, e⟩
  · have e : impl_DiskNew.f n = some ([], []) := by
      unfold impl_DiskNew.f impl_inRange.f
      by_cases h1 : n ≥ 1
      · rw [if_pos h1, decide_eq_false (fun q => h ⟨h1, q⟩)]; rfl
      · rw [if_neg h1]; rfl
    exact ⟨_, by simp, e, e⟩
theorem storeNew_ok (n : Int) : ∃ (l : List Int) (b : Bool), l.length ≤ 25600 ∧ spec_StoreNew.f n = some (l, [], b) ∧ impl_StoreNew.f n = some (l, [], b) := by
  unfold spec_StoreNew.f impl_StoreNew.f
  simp only [spec_l1In_eq, impl_inRange_eq, Option.bind_some]
  by_cases h : 4 ≤ n ∧ n ≤ 199
  · obtain ⟨l, hl, e1, e2⟩ := diskNew_ok (wrap64 (wrap64 (2 * n) + 2))
    refine ⟨l, true, hl, ?_, ?_⟩
    · rw [decide_eq_true h.1, decide_eq_true (show n ≤ 400 by omega)]
      simp only [Bool.and_self, if_true]
      unfold spec_l14Size.f
      rw [if_pos (show n ≥ 4 from h.1), decide_eq_true (by rw [wrap_in (x := 2 * n) (by omega) (by omega), wrap_in (by omega) (by omega)]; omega)]
      simp only [Option.bind_some, if_true, e1]
    · rw [decide_eq_true h.1, decide_eq_true h.2]
      simp only [Bool.and_self, if_true, e2, Option.bind_some]
  · refine ⟨[], false, by simp, ?_, ?_⟩
    · by_cases h2 : 4 ≤ n ∧ n ≤ 400
      · rw [decide_eq_true h2.1, decide_eq_true h2.2]
        simp only [Bool.and_self, if_true]
        unfold spec_l14Size.f
        rw [if_pos (show n ≥ 4 from h2.1), decide_eq_false (by rw [wrap_in (x := 2 * n) (by omega) (by omega), wrap_in (by omega) (by omega)]; omega)]
        rfl
      · have : (decide (4 ≤ n) && decide (n ≤ 400)) = false := by rw [Bool.and_eq_false_iff, decide_eq_false_iff_not, decide_eq_false_iff_not]; omega
        rw [this]; rfl
    · have : (decide (4 ≤ n) && decide (n ≤ 199)) = false := by rw [Bool.and_eq_false_iff, decide_eq_false_iff_not, decide_eq_false_iff_not]; omega
      rw [this]; rfl
theorem FnExactStoreNew : laws_FnExactStoreNew.Pure := by
  intro n hw
  obtain ⟨l, b, hl, e1, e2⟩ := storeNew_ok n
  refine ⟨29998 + 1 + 1, ?_⟩
  unfold laws_FnExactStoreNew.f
  rw [e1]; simp only [Option.bind_some, e2]
  rw [eqDisk_nil l hl (by omega)]; simp only [Option.bind_some, if_true, bne_self_eq_false, laws_FnExactStoreNew.j0, Bool.false_eq_true, if_false]
  rw [markDisk_nil l hl (by omega)]; simp only [Option.bind_some]
  rw [heldDisk_nil l hl (by omega)]; simp only [Option.bind_some]
  rw [if_neg (by omega)]; simp only [if_true, e2, Option.bind_some]
  rw [eqDisk_nil l hl (by omega)]; simp only [Option.bind_some, if_true, bne_self_eq_false, laws_FnExactStoreNew.j1, Bool.false_eq_true, if_false]
  rw [heldDisk_nil l hl (by omega)]; simp only [Option.bind_some, if_true]
  rw [if_neg (by omega)]

end Go.Proofs.Ytebnhcliileneaa.Pure
